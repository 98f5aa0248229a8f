import Derived.Test.YtedfbemifigoeaaX
import Derived.Test.YtedfbemifigoeaaAq
import Derived.Test.YtedfbemifigoeaaAd
import Derived.Test.YtedfbemifigoeaaLWord
import Derived.Test.YtedfbemifigoeaaLBits
import Derived.Test.YtedfbemifigoeaaPx1
import Derived.Test.YtedfbemifigoeaaPx2
import Derived.Test.YtedfbemifigoeaaPx3
import Derived.Test.YtedfbemifigoeaaPx4
import Derived.Test.YtedfbemifigoeaaPx5
import Derived.Test.YtedfbemifigoeaaPx6
namespace Go.Proofs.Ytedfbemifigoeaa.P
open Go.RowKit Go.Proofs.YtedfbemifigoeaaW.PrintWords Go.Proofs.YtedfbemifigoeaaW.PrintLast Go.Proofs.YtedfbemifigoeaaW.PrintMore
attribute [local go_sem] max2_int min2_int max_two min_two max_three min_three max_four min_four   -- for this text's walks alone
set_option linter.unusedVariables false
set_option linter.unusedSimpArgs false

open Go.Proofs.Ytedfbemifigoeaa.L

theorem As.groups {f : Int} (qk : As.known f = true) : ((f == 1 || f == 2 || f == 3 || f == 4) = true ∧ As.take f = .func (.func 68) #[] #[]) ∨ ((f == 1 || f == 2 || f == 3 || f == 4) = false ∧ (f == 5 || f == 6) = true ∧ As.take f = .func (.func 69) #[] #[]) ∨ ((f == 1 || f == 2 || f == 3 || f == 4) = false ∧ (f == 5 || f == 6) = false ∧ (f == 15) = true ∧ As.take f = .func (.func 70) #[] #[]) ∨ ((f == 1 || f == 2 || f == 3 || f == 4) = false ∧ (f == 5 || f == 6) = false ∧ (f == 15) = false ∧ (f == 16) = true ∧ As.take f = .func (.func 71) #[] #[]) ∨ ((f == 1 || f == 2 || f == 3 || f == 4) = false ∧ (f == 5 || f == 6) = false ∧ (f == 15) = false ∧ (f == 16) = false ∧ (f == 22) = true ∧ As.take f = .func (.func 72) #[] #[]) ∨ ((f == 1 || f == 2 || f == 3 || f == 4) = false ∧ (f == 5 || f == 6) = false ∧ (f == 15) = false ∧ (f == 16) = false ∧ (f == 22) = false ∧ As.take f = .func (.func 73) #[] #[]) := by
  cases g0 : (f == 1 || f == 2 || f == 3 || f == 4) with
  | true => exact .inl ⟨rfl, by unfold As.take; rw [if_pos g0]⟩
  | false =>
  cases g1 : (f == 5 || f == 6) with
  | true => exact .inr (.inl ⟨rfl, rfl, by unfold As.take; rw [if_neg (by rw [g0]; decide), if_pos g1]⟩)
  | false =>
  cases g2_ : (f == 15) with
  | true => exact .inr (.inr (.inl ⟨rfl, rfl, rfl, by unfold As.take; rw [if_neg (by rw [g0]; decide), if_neg (by rw [g1]; decide), if_pos g2_]⟩))
  | false =>
  cases g3 : (f == 16) with
  | true => exact .inr (.inr (.inr (.inl ⟨rfl, rfl, rfl, rfl, by unfold As.take; rw [if_neg (by rw [g0]; decide), if_neg (by rw [g1]; decide), if_neg (by rw [g2_]; decide), if_pos g3]⟩)))
  | false =>
  cases g4 : (f == 22) with
  | true => exact .inr (.inr (.inr (.inr (.inl ⟨rfl, rfl, rfl, rfl, rfl, by unfold As.take; rw [if_neg (by rw [g0]; decide), if_neg (by rw [g1]; decide), if_neg (by rw [g2_]; decide), if_neg (by rw [g3]; decide), if_pos g4]⟩))))
  | false =>
  exact .inr (.inr (.inr (.inr (.inr ⟨rfl, rfl, rfl, rfl, rfl, by unfold As.take; rw [if_neg (by rw [g0]; decide), if_neg (by rw [g1]; decide), if_neg (by rw [g2_]; decide), if_neg (by rw [g3]; decide), if_neg (by rw [g4]; decide), if_pos (by simp only [As.known, Bool.or_eq_true, Bool.or_eq_false_iff] at qk g0 g1; simp_all)]⟩))))
theorem As.ways {kx : Bool} {lx : List Int} {y0 y : S25} {E : Int} (he : (if kx = true ∧ lx.length = 0 ∧ As.right y0 = true then (y0, (0 : Int)) else (z25, 3)) = (y, E)) : (kx = false ∧ y = z25 ∧ E = 3) ∨ (kx = true ∧ ¬ lx.length = 0 ∧ decide ((0 : Int) < (lx.length : Int)) = true ∧ y = z25 ∧ E = 3) ∨ (kx = true ∧ lx.length = 0 ∧ decide ((0 : Int) < (lx.length : Int)) = false ∧ As.right y0 = false ∧ y = z25 ∧ E = 3) ∨ (kx = true ∧ lx.length = 0 ∧ decide ((0 : Int) < (lx.length : Int)) = false ∧ As.right y0 = true ∧ y = y0 ∧ E = 0) := by
  by_cases h : kx = true ∧ lx.length = 0 ∧ As.right y0 = true
  · rw [if_pos h] at he
    injection he with h1 h2
    exact .inr (.inr (.inr ⟨h.1, h.2.1, decide_eq_false (by omega), h.2.2, h1.symm, h2.symm⟩))
  · rw [if_neg h] at he
    injection he with h1 h2
    cases kx with
    | false => exact .inl ⟨rfl, h1.symm, h2.symm⟩
    | true =>
      by_cases hl : lx.length = 0
      · cases hr : As.right y0 with
        | true => exact absurd ⟨rfl, hl, hr⟩ h
        | false => exact .inr (.inr (.inl ⟨rfl, hl, decide_eq_false (by omega), rfl, h1.symm, h2.symm⟩))
      · exact .inr (.inl ⟨rfl, hl, decide_eq_true (by omega), h1.symm, h2.symm⟩)
set_option maxHeartbeats 16000000 in
set_option maxRecDepth 100000 in
theorem As.parses {A : Option Addr} {c : Nat} {l : List Int} {w : World} (hr : (Kd.int .u8).C w A l.length l) (hc : l.length ≤ c) (h8 : ∀ x ∈ l, U8 x) (hl : l.length ≤ 1000000) {y : S25} {E : Int} (he : As.parse l = (y, E)) : Calls Try.prog 21 #[.slice A l.length c] w fun e w' => ∃ cs', e = .returned (.tuple #[.agg cs', .int .i64 E]) ∧ As.V w' cs' y ∧ Below w.heap.size w w' := by
  have HR := Aside0.mk hr
  have HC := Aside0.mk hc
  have H8 := Aside0.mk h8
  have HL := Aside0.mk hl
  have hu := Try.underlying25
  have hui := Try.underlying74
  have hu8 := Try.underlying28
  have hur := Try.underlying77
  have hz := As.zero
  have hzi := As.zeroI
  have hn1 := As.eq_func
  have hn2 := As.eq_nil
  have HB := Aside0.mk (Below.refl w.heap.size w)
  clear hr h8 hl
  unfold As.parse at he
  by_cases q0 : l.length = 0
  · rw [if_pos q0] at he
    obtain ⟨rfl, rfl⟩ := Prod.mk.inj he
    have d0 : decide ((l.length : Int) = 0) = true := decide_eq_true (by omega)
    have d0b : ((l.length : Int) == 0) = true := by simpa using q0
    go_enter Try.func21, Try.ntmps21
    go_wp2_with (first
      | ((with_reducible refine gate_dst (N := 2) rfl ?_); refine box_event ?hg (N := 2) ?hd (cs := As.Z) (t := 25) ?hr ?_; (case hd => rfl); (case hg => rfl); (case hr => first | (go_simp; done) | (go_simp; rfl)); intro g2 hg w1 hbox hb; have GE2 := Aside0.mk ((by rw [hg]; exact HB.out.size) : w.heap.size ≤ g2); have BKg2 := Aside0.mk hbox; clear hbox hg HB; have HB := Aside0.mk (show Below w.heap.size w w1 from hb); clear hb)
      | ((with_reducible refine gate_store rfl ?_); refine As.store_row rfl 25 _ _ rfl g2 _ rfl rfl 25 _ BKg2.out (by kernel_rfl) rfl (by first | kernel_rfl | simp [Value.oneCell']) ?_; intro w9 hgb hgr; have n0_ := Aside0.mk (HB.out.grown hgr HB.out.size (fun k hk => by cases hk; exact GE2.out)); clear HB; have HB := n0_; clear n0_; clear BKg2 hgr; have BKg2 := Aside0.mk hgb; clear hgb; skip))
    all_goals
      refine bodyPost_ret (results_ct rfl _ _ g2 25 _ (0, 0) _ rfl BKg2.out hu rfl (by kernel_rfl)) rfl ?_
      exact ⟨_, rfl, As.V_zero _, HB.out⟩
  rw [if_neg q0] at he
  have d0b : ((l.length : Int) == 0) = false := by simpa using q0
  obtain ⟨ad, ea, hx⟩ := Kd.at_int HR.out 0 (by omega) (by omega)
  have HX := Aside0.mk (show w.cell? ad = some (.int .u8 (rd l 0)) from hx)
  clear hx
  have hpos : (0 : Int) < (l.length : Int) := by omega
  have hub := rd_all H8.out (i := 0) (by omega) (by omega)
  have hw0 : IntKind.i64.wrap (rd l 0) = rd l 0 := by rw [i64_w]; exact w64 (by unfold U8 at hub; omega)
  have hd1 := Aside0.mk (Kd.C_drop (m := 1) HR.out (by omega) HC.out)
  clear hub
  subst ea
  cases qk : As.known (rd l 0) with
  | false =>
    rw [if_pos qk] at he
    obtain ⟨rfl, rfl⟩ := Prod.mk.inj he
    have hv : As.take (rd l 0) = .nilFunc := by
      simp only [As.known, Bool.or_eq_false_iff] at qk
      simp only [As.take, qk, Bool.false_or, Bool.or_false, Bool.true_or, Bool.or_true, Bool.false_eq_true, if_true, if_false]
    go_enter Try.func21, Try.ntmps21
    go_wp2_with (first
      | ((with_reducible refine gate_dst (N := 2) rfl ?_); refine box_event ?hg (N := 2) ?hd (cs := As.Z) (t := 25) ?hr ?_; (case hd => rfl); (case hg => rfl); (case hr => first | (go_simp; done) | (go_simp; rfl)); intro g2 hg w1 hbox hb; have GE2 := Aside0.mk ((by rw [hg]; exact HB.out.size) : w.heap.size ≤ g2); have BKg2 := Aside0.mk hbox; clear hbox hg HB; have HB := Aside0.mk (show Below w.heap.size w w1 from hb); clear hb; have hx1 := pw_cell_below HB.out HX.out)
      | ((with_reducible refine gate_dst (N := 4) rfl ?_); refine box_event ?hg (N := 4) ?hd (cs := As.Z) (t := 74) ?hr ?_; (case hd => rfl); (case hg => rfl); (case hr => first | (go_simp; done) | (go_simp; rfl)); intro gi hg w2 hbox hb; have GEi := Aside0.mk ((by rw [hg]; exact HB.out.size) : w.heap.size ≤ gi); have LT2i := Aside0.mk (show g2 < gi by rw [hg]; exact blk_lt BKg2.out); have BKgi := Aside0.mk hbox; clear hbox hg; have n0_ := Aside0.mk (below_step HB.out hb); have n1_ := Aside0.mk (blk_below BKg2.out hb); clear HB BKg2; have HB := n0_; have BKg2 := n1_; clear n0_ n1_; clear hb hx1)
      | ((with_reducible refine gate_store rfl ?_); refine As.store_row rfl 74 _ _ rfl gi _ rfl rfl 74 _ BKgi.out (by kernel_rfl) rfl (by first | kernel_rfl | simp [Value.oneCell']) ?_; intro w3 hgb hgr; have n0_ := Aside0.mk (HB.out.grown hgr HB.out.size (fun k hk => by cases hk; exact GEi.out)); have n1_ := Aside0.mk (blk_grown BKg2.out hgr (fun he => (Nat.ne_of_lt LT2i.out) (Option.some.inj he))); clear HB BKg2; have HB := n0_; have BKg2 := n1_; clear n0_ n1_; clear BKgi hgr; have BKgi := Aside0.mk hgb; clear hgb; have cgi := fun i => blk_cell BKgi.out i)
      | (go_at_call 47; (with_reducible refine (As.taker hv).mono ?_); rintro r w4 ⟨rfl, hb⟩; have n0_ := Aside0.mk (below_step HB.out hb); have n1_ := Aside0.mk (blk_below BKg2.out hb); have n2_ := Aside0.mk (blk_below BKgi.out hb); clear HB BKg2 BKgi; have HB := n0_; have BKg2 := n1_; have BKgi := n2_; clear n0_ n1_ n2_; clear hb cgi)
      | ((with_reducible refine gate_store rfl ?_); refine As.store_row rfl 25 _ _ rfl g2 _ rfl rfl 25 _ BKg2.out (by kernel_rfl) rfl (by first | kernel_rfl | simp [Value.oneCell']) ?_; intro w9 hgb hgr; have n0_ := Aside0.mk (HB.out.grown hgr HB.out.size (fun k hk => by cases hk; exact GE2.out)); clear HB; have HB := n0_; clear n0_; clear BKg2 hgr; have BKg2 := Aside0.mk hgb; clear hgb; skip))
    all_goals
      refine bodyPost_ret (results_ct rfl _ _ g2 25 _ (0, 0) _ rfl BKg2.out hu rfl (by kernel_rfl)) rfl ?_
      exact ⟨_, rfl, As.V_zero _, HB.out⟩
  | true =>
  rw [if_neg (by rw [qk]; decide)] at he
  obtain ⟨y0, lx, kx, hm⟩ : ∃ y0 lx kx, As.read (rd l 0) (l.drop 1) = (y0, lx, kx) := ⟨_, _, _, rfl⟩
  have hfit := As.read_fit (f := rd l 0) (fun x hx => H8.out x (List.mem_of_mem_drop hx)) (Nat.le_trans (by simp) HL.out : (l.drop 1).length ≤ 1000000)
  rw [hm] at he hfit
  simp only [] at he hfit
  have HM := Aside0.mk hm
  have HF := Aside0.mk hfit
  clear hm hfit
  rcases As.groups qk with ⟨g0, hv⟩ | ⟨g0, g1, hv⟩ | ⟨g0, g1, g2_, hv⟩ | ⟨g0, g1, g2_, g3, hv⟩ | ⟨g0, g1, g2_, g3, g4, hv⟩ | ⟨g0, g1, g2_, g3, g4, hv⟩
  all_goals
    rcases As.ways he with ⟨rfl, rfl, rfl⟩ | ⟨rfl, q2, q2b, rfl, rfl⟩ | ⟨rfl, q2, q2b, qr, rfl, rfl⟩ | ⟨rfl, q2, q2b, qr, rfl, rfl⟩
    all_goals
      clear he
      go_enter Try.func21, Try.ntmps21
      go_wp2_with (first
        | ((with_reducible refine gate_dst (N := 2) rfl ?_); refine box_event ?hg (N := 2) ?hd (cs := As.Z) (t := 25) ?hr ?_; (case hd => rfl); (case hg => rfl); (case hr => first | (go_simp; done) | (go_simp; rfl)); intro g2 hg w1 hbox hb; have GE2 := Aside0.mk ((by rw [hg]; exact HB.out.size) : w.heap.size ≤ g2); have BKg2 := Aside0.mk hbox; clear hbox hg HB; have HB := Aside0.mk (show Below w.heap.size w w1 from hb); clear hb; have hx1 := pw_cell_below HB.out HX.out)
        | ((with_reducible refine gate_dst (N := 4) rfl ?_); refine box_event ?hg (N := 4) ?hd (cs := As.Z) (t := 74) ?hr ?_; (case hd => rfl); (case hg => rfl); (case hr => first | (go_simp; done) | (go_simp; rfl)); intro gi hg w2 hbox hb; have GEi := Aside0.mk ((by rw [hg]; exact HB.out.size) : w.heap.size ≤ gi); have LT2i := Aside0.mk (show g2 < gi by rw [hg]; exact blk_lt BKg2.out); have BKgi := Aside0.mk hbox; clear hbox hg; have n0_ := Aside0.mk (below_step HB.out hb); have n1_ := Aside0.mk (blk_below BKg2.out hb); clear HB BKg2; have HB := n0_; have BKg2 := n1_; clear n0_ n1_; clear hb hx1)
        | ((with_reducible refine gate_store rfl ?_); refine As.store_row rfl 74 _ _ rfl gi _ rfl rfl 74 _ BKgi.out (by kernel_rfl) rfl (by first | kernel_rfl | simp [Value.oneCell']) ?_; intro w3 hgb hgr; have n0_ := Aside0.mk (HB.out.grown hgr HB.out.size (fun k hk => by cases hk; exact GEi.out)); have n1_ := Aside0.mk (blk_grown BKg2.out hgr (fun he => (Nat.ne_of_lt LT2i.out) (Option.some.inj he))); clear HB BKg2; have HB := n0_; have BKg2 := n1_; clear n0_ n1_; clear BKgi hgr; have BKgi := Aside0.mk hgb; clear hgb; have cgi := fun i => blk_cell BKgi.out i)
        | (go_at_call 47; (with_reducible refine (As.taker hv).mono ?_); rintro r w4 ⟨rfl, hb⟩; have n0_ := Aside0.mk (below_step HB.out hb); have n1_ := Aside0.mk (blk_below BKg2.out hb); have n2_ := Aside0.mk (blk_below BKgi.out hb); clear HB BKg2 BKgi; have HB := n0_; have BKg2 := n1_; have BKgi := n2_; clear n0_ n1_ n2_; clear hb cgi)
        | ((with_reducible refine gate_dst (N := 25) rfl ?_); refine box_event ?hg (N := 25) ?hd (cs := ?_) (t := 77) ?hr ?_; (case hd => rfl); (case hg => rfl); (case hr => first | (go_simp; done) | (go_simp; rfl)); intro gr hg w5 hbox hb; have GEr := Aside0.mk ((by rw [hg]; exact HB.out.size) : w.heap.size ≤ gr); have LT2r := Aside0.mk (show g2 < gr by rw [hg]; exact blk_lt BKg2.out); have LTir := Aside0.mk (show gi < gr by rw [hg]; exact blk_lt BKgi.out); have HG := Aside0.mk (show As.Rd w w5 gr (l.drop 1) true from ⟨_, _, by rw [List.length_drop]; exact hbox, by rw [List.length_drop]; omega, hd1.out⟩); clear hbox hg; have n0_ := Aside0.mk (below_step HB.out hb); have n1_ := Aside0.mk (blk_below BKg2.out hb); have n2_ := Aside0.mk (blk_below BKgi.out hb); clear HB BKg2 BKgi; have HB := n0_; have BKg2 := n1_; have BKgi := n2_; clear n0_ n1_ n2_; clear hb)
        | (go_at_call 68; refine (As.tk_places (f := rd l 0) HG.out BKgi.out HB.out GEr.out GEi.out (Nat.ne_of_lt LTir.out) (fun x hx => H8.out x (List.mem_of_mem_drop hx)) (Nat.le_trans (by simp) HL.out) HM.out g0).mono ?_; rintro r w6 ⟨rfl, ⟨Ar, cr, hrd, hcr, -⟩, ⟨cs, hi, hVV⟩, hb, hk, hs⟩; obtain ⟨A8, c8, A9, c9, rfl, -, -, -, -⟩ := As.open hVV.1; have n0_ := Aside0.mk ((hk g2 (blk_lt BKg2.out) (Nat.ne_of_lt LT2r.out) (Nat.ne_of_lt LT2i.out)).trans BKg2.out); clear HB BKg2 BKgi HG; have HB := Aside0.mk hb; have BKg2 := n0_; have BKgi := Aside0.mk hi; have BKgr := Aside0.mk hrd; have HVV := Aside0.mk hVV; clear n0_ hb hi hrd hk hs hVV; have cgr := fun i => blk_cell BKgr.out i)
        | (go_at_call 69; refine (As.tk_value (f := rd l 0) HG.out BKgi.out HB.out GEr.out GEi.out (Nat.ne_of_lt LTir.out) (fun x hx => H8.out x (List.mem_of_mem_drop hx)) (Nat.le_trans (by simp) HL.out) HM.out g0 g1).mono ?_; rintro r w6 ⟨rfl, ⟨Ar, cr, hrd, hcr, -⟩, ⟨cs, hi, hVV⟩, hb, hk, hs⟩; obtain ⟨A8, c8, A9, c9, rfl, -, -, -, -⟩ := As.open hVV.1; have n0_ := Aside0.mk ((hk g2 (blk_lt BKg2.out) (Nat.ne_of_lt LT2r.out) (Nat.ne_of_lt LT2i.out)).trans BKg2.out); clear HB BKg2 BKgi HG; have HB := Aside0.mk hb; have BKg2 := n0_; have BKgi := Aside0.mk hi; have BKgr := Aside0.mk hrd; have HVV := Aside0.mk hVV; clear n0_ hb hi hrd hk hs hVV; have cgr := fun i => blk_cell BKgr.out i)
        | (go_at_call 70; refine (As.tk_coils (f := rd l 0) HG.out BKgi.out HB.out GEr.out GEi.out (Nat.ne_of_lt LTir.out) (fun x hx => H8.out x (List.mem_of_mem_drop hx)) (Nat.le_trans (by simp) HL.out) HM.out g0 g1 g2_).mono ?_; rintro r w6 ⟨rfl, ⟨Ar, cr, hrd, hcr, -⟩, ⟨cs, hi, hVV⟩, hb, hk, hs⟩; obtain ⟨A8, c8, A9, c9, rfl, -, -, -, -⟩ := As.open hVV.1; have n0_ := Aside0.mk ((hk g2 (blk_lt BKg2.out) (Nat.ne_of_lt LT2r.out) (Nat.ne_of_lt LT2i.out)).trans BKg2.out); clear HB BKg2 BKgi HG; have HB := Aside0.mk hb; have BKg2 := n0_; have BKgi := Aside0.mk hi; have BKgr := Aside0.mk hrd; have HVV := Aside0.mk hVV; clear n0_ hb hi hrd hk hs hVV; have cgr := fun i => blk_cell BKgr.out i)
        | (go_at_call 71; refine (As.tk_words (f := rd l 0) HG.out BKgi.out HB.out GEr.out GEi.out (Nat.ne_of_lt LTir.out) (fun x hx => H8.out x (List.mem_of_mem_drop hx)) (Nat.le_trans (by simp) HL.out) HM.out g0 g1 g2_ g3).mono ?_; rintro r w6 ⟨rfl, ⟨Ar, cr, hrd, hcr, -⟩, ⟨cs, hi, hVV⟩, hb, hk, hs⟩; obtain ⟨A8, c8, A9, c9, rfl, -, -, -, -⟩ := As.open hVV.1; have n0_ := Aside0.mk ((hk g2 (blk_lt BKg2.out) (Nat.ne_of_lt LT2r.out) (Nat.ne_of_lt LT2i.out)).trans BKg2.out); clear HB BKg2 BKgi HG; have HB := Aside0.mk hb; have BKg2 := n0_; have BKgi := Aside0.mk hi; have BKgr := Aside0.mk hrd; have HVV := Aside0.mk hVV; clear n0_ hb hi hrd hk hs hVV; have cgr := fun i => blk_cell BKgr.out i)
        | (go_at_call 72; refine (As.tk_mask (f := rd l 0) HG.out BKgi.out HB.out GEr.out GEi.out (Nat.ne_of_lt LTir.out) (fun x hx => H8.out x (List.mem_of_mem_drop hx)) (Nat.le_trans (by simp) HL.out) HM.out g0 g1 g2_ g3 g4).mono ?_; rintro r w6 ⟨rfl, ⟨Ar, cr, hrd, hcr, -⟩, ⟨cs, hi, hVV⟩, hb, hk, hs⟩; obtain ⟨A8, c8, A9, c9, rfl, -, -, -, -⟩ := As.open hVV.1; have n0_ := Aside0.mk ((hk g2 (blk_lt BKg2.out) (Nat.ne_of_lt LT2r.out) (Nat.ne_of_lt LT2i.out)).trans BKg2.out); clear HB BKg2 BKgi HG; have HB := Aside0.mk hb; have BKg2 := n0_; have BKgi := Aside0.mk hi; have BKgr := Aside0.mk hrd; have HVV := Aside0.mk hVV; clear n0_ hb hi hrd hk hs hVV; have cgr := fun i => blk_cell BKgr.out i)
        | (go_at_call 73; refine (As.tk_both (f := rd l 0) HG.out BKgi.out HB.out GEr.out GEi.out (Nat.ne_of_lt LTir.out) (fun x hx => H8.out x (List.mem_of_mem_drop hx)) (Nat.le_trans (by simp) HL.out) HM.out g0 g1 g2_ g3 g4).mono ?_; rintro r w6 ⟨rfl, ⟨Ar, cr, hrd, hcr, -⟩, ⟨cs, hi, hVV⟩, hb, hk, hs⟩; obtain ⟨A8, c8, A9, c9, rfl, -, -, -, -⟩ := As.open hVV.1; have n0_ := Aside0.mk ((hk g2 (blk_lt BKg2.out) (Nat.ne_of_lt LT2r.out) (Nat.ne_of_lt LT2i.out)).trans BKg2.out); clear HB BKg2 BKgi HG; have HB := Aside0.mk hb; have BKg2 := n0_; have BKgi := Aside0.mk hi; have BKgr := Aside0.mk hrd; have HVV := Aside0.mk hVV; clear n0_ hb hi hrd hk hs hVV; have cgr := fun i => blk_cell BKgr.out i)
        | ((with_reducible refine gate_dst (N := 45) rfl ?_); refine gate_guard (by rfl) ?_; dsimp only; refine wpList_load_row rfl 74 _ rfl gi rfl 74 _ (0, 0) _ BKgi.out hui rfl (by kernel_rfl) ?_)
        | (go_at_call 14; (with_reducible refine (As.rights HVV.out.1 HF.out qr).mono ?_); rintro r w7 ⟨rfl, hb⟩; have n0_ := Aside0.mk (below_step HB.out hb); have n1_ := Aside0.mk (blk_below BKg2.out hb); have n2_ := Aside0.mk (blk_below BKgi.out hb); clear HB BKg2 BKgi; have HB := n0_; have BKg2 := n1_; have BKgi := n2_; clear n0_ n1_ n2_; have HB6 := Aside0.mk hb; clear hb cgr)
        | ((with_reducible refine gate_dst (N := 50) rfl ?_); refine wpList_load_row rfl 74 _ rfl gi rfl 74 _ (0, 0) _ BKgi.out hui rfl (by kernel_rfl) ?_)
        | ((with_reducible refine gate_store rfl ?_); refine As.store_row rfl 25 _ _ rfl g2 _ rfl rfl 25 _ BKg2.out (by kernel_rfl) rfl (by first | kernel_rfl | simp [Value.oneCell']) ?_; intro w9 hgb hgr; have n0_ := Aside0.mk (HB.out.grown hgr HB.out.size (fun k hk => by cases hk; exact GE2.out)); clear HB; have HB := n0_; clear n0_; have HVn := Aside0.mk (HVV.out.2 _ _ _ _ HB6.out BKg2.out hgr); clear BKg2 hgr; have BKg2 := Aside0.mk hgb; clear hgb; skip)
        | ((with_reducible refine gate_store rfl ?_); refine As.store_row rfl 25 _ _ rfl g2 _ rfl rfl 25 _ BKg2.out (by kernel_rfl) rfl (by first | kernel_rfl | simp [Value.oneCell']) ?_; intro w9 hgb hgr; have n0_ := Aside0.mk (HB.out.grown hgr HB.out.size (fun k hk => by cases hk; exact GE2.out)); clear HB; have HB := n0_; clear n0_; clear BKg2 hgr; have BKg2 := Aside0.mk hgb; clear hgb; skip))
      all_goals
        refine bodyPost_ret (results_ct rfl _ _ g2 25 _ (0, 0) _ rfl BKg2.out hu rfl (by kernel_rfl)) rfl ?_
        first | exact ⟨_, rfl, HVn.out, HB.out⟩ | exact ⟨_, rfl, As.V_zero _, HB.out⟩

end Go.Proofs.Ytedfbemifigoeaa.P
