import Derived.Test.YtedfbemifigoeaaX
import Derived.Test.YtedfbemifigoeaaAa
import Derived.Test.YtedfbemifigoeaaPx1
import Derived.Test.YtedfbemifigoeaaPx2
import Derived.Test.YtedfbemifigoeaaPx3
import Derived.Test.YtedfbemifigoeaaPx4
import Derived.Test.YtedfbemifigoeaaLSameW
import Derived.Test.YtedfbemifigoeaaLSameB
namespace Go.Proofs.Ytedfbemifigoeaa.P
open Go.RowKit Go.Proofs.YtedfbemifigoeaaW.PrintWords Go.Proofs.YtedfbemifigoeaaW.PrintLast Go.Proofs.YtedfbemifigoeaaW.PrintMore
attribute [local go_sem] max2_int min2_int max_two min_two max_three min_three max_four min_four   -- for this text's walks alone
set_option linter.unusedVariables false
set_option linter.unusedSimpArgs false

open Go.Proofs.Ytedfbemifigoeaa.L

theorem As.eqB_loop {a b : List Bool} (hl : a.length = b.length) (hb : a.length ≤ 4611686018427387904) : ∀ (d k : Nat) (i : Int), 0 ≤ i → (a.length : Int) - i = d → d < k → slices_Equal_bool_bool.l0 k a b (a.length : Int) i = some (decide (a.drop i.toNat = b.drop i.toNat)) := by
  intro d
  induction d with
  | zero =>
    intro k i h0 h1 hk
    obtain ⟨k, rfl⟩ : ∃ m, k = m + 1 := ⟨k - 1, by omega⟩
    simp only [slices_Equal_bool_bool.l0]
    rw [if_neg (by omega), List.drop_eq_nil_of_le (by omega), List.drop_eq_nil_of_le (by omega)]
    simp
  | succ d ih =>
    intro k i h0 h1 hk
    obtain ⟨k, rfl⟩ : ∃ m, k = m + 1 := ⟨k - 1, by omega⟩
    simp only [slices_Equal_bool_bool.l0]
    rw [if_pos (by omega), if_pos h0, if_pos (by omega), if_pos (by omega), w64 (by omega), rdOf_drop (d := false) h0 (by omega), rdOf_drop (d := false) (l := b) h0 (by omega)]
    by_cases h : rdOf false a i = rdOf false b i
    · rw [if_neg (by simp [h]), ih k (i + 1) (by omega) (by omega) (by omega), h, show (i + 1).toNat = i.toNat + 1 by omega]
      congr 1
      simp
    · rw [if_pos (by simpa using h)]
      simp [h]
theorem As.eqB {a b : List Bool} (hb : a.length ≤ 4611686018427387904) {k : Nat} (hk : a.length < k) : slices_Equal_bool_bool.f k a b = some (decide (a = b)) := by
  unfold slices_Equal_bool_bool.f
  by_cases h : (a.length : Int) = (b.length : Int)
  · rw [if_pos h, As.eqB_loop (by omega) hb a.length k 0 (by omega) (by omega) hk]
    simp
  · rw [if_neg h]
    have : a ≠ b := fun e => h (by rw [e])
    simp [this]
theorem As.eqW_loop {a b : List Int} (hl : a.length = b.length) (hb : a.length ≤ 4611686018427387904) : ∀ (d k : Nat) (i : Int), 0 ≤ i → (a.length : Int) - i = d → d < k → slices_Equal_uint16_uint16.l0 k a b (a.length : Int) i = some (decide (a.drop i.toNat = b.drop i.toNat)) := by
  intro d
  induction d with
  | zero =>
    intro k i h0 h1 hk
    obtain ⟨k, rfl⟩ : ∃ m, k = m + 1 := ⟨k - 1, by omega⟩
    simp only [slices_Equal_uint16_uint16.l0]
    rw [if_neg (by omega), List.drop_eq_nil_of_le (by omega), List.drop_eq_nil_of_le (by omega)]
    simp
  | succ d ih =>
    intro k i h0 h1 hk
    obtain ⟨k, rfl⟩ : ∃ m, k = m + 1 := ⟨k - 1, by omega⟩
    simp only [slices_Equal_uint16_uint16.l0]
    rw [if_pos (by omega), if_pos h0, if_pos (by omega), if_pos (by omega), w64 (by omega), rd_drop h0 (by omega), rd_drop (l := b) h0 (by omega)]
    by_cases h : rd a i = rd b i
    · rw [if_pos h, ih k (i + 1) (by omega) (by omega) (by omega), h, show (i + 1).toNat = i.toNat + 1 by omega]
      congr 1
      simp
    · rw [if_neg h]
      simp [h]
theorem As.eqW {a b : List Int} (hb : a.length ≤ 4611686018427387904) {k : Nat} (hk : a.length < k) : slices_Equal_uint16_uint16.f k a b = some (decide (a = b)) := by
  unfold slices_Equal_uint16_uint16.f
  by_cases h : (a.length : Int) = (b.length : Int)
  · rw [if_pos h, As.eqW_loop (by omega) hb a.length k 0 (by omega) (by omega) hk]
    simp
  · rw [if_neg h]
    have : a ≠ b := fun e => h (by rw [e])
    simp [this]
abbrev As.Fit (x : S25) : Prop := x.f8.length ≤ 1000000 ∧ x.f9.length ≤ 1000000
theorem As.eqBc {w : World} {A B : Option Addr} {c d : Nat} {l m : List Bool} (h1 : Kd.bool.C w A l.length l) (k1 : l.length ≤ c) (h2 : Kd.bool.C w B m.length m) (k2 : m.length ≤ d) (hs : l.length ≤ 1000000) {y : Bool} (he : decide (l = m) = y) : Calls Try.prog 48 #[.slice A l.length c, .slice B m.length d] w fun e w' => e = .returned (.bool y) ∧ Below w.heap.size w w' :=
  (slices_Equal_bool_bool.calls (l.length + 1) A c l B d m y w h1 k1 h2 k2 ((As.eqB (by omega) (by omega)).trans (congrArg some he))).mono (fun e w' hh => ⟨hh.1, hh.2.below⟩)
theorem As.eqWc {w : World} {A B : Option Addr} {c d : Nat} {l m : List Int} (h1 : (Kd.int .u16).C w A l.length l) (k1 : l.length ≤ c) (h2 : (Kd.int .u16).C w B m.length m) (k2 : m.length ≤ d) (hs : l.length ≤ 1000000) {y : Bool} (he : decide (l = m) = y) : Calls Try.prog 49 #[.slice A l.length c, .slice B m.length d] w fun e w' => e = .returned (.bool y) ∧ Below w.heap.size w w' :=
  (slices_Equal_uint16_uint16.calls (l.length + 1) A c l B d m y w h1 k1 h2 k2 ((As.eqW (by omega) (by omega)).trans (congrArg some he))).mono (fun e w' hh => ⟨hh.1, hh.2.below⟩)
theorem As.reqBc {w : World} {A B : Option Addr} {c d : Nat} {l m : List Bool} (h1 : Kd.bool.C w A l.length l) (k1 : l.length ≤ c) (h2 : Kd.bool.C w B m.length m) (k2 : m.length ≤ d) (hs : l.length ≤ 1000000) {y : Bool} (he : decide (l = m) = y) : Calls Try.prog 50 #[.slice A l.length c, .slice B m.length d] w fun e w' => e = .returned (.bool y) ∧ Below w.heap.size w w' :=
  (bilgeref02_Same.calls (l.length + 1) A c l B d m y w h1 k1 h2 k2 ((same_eq (by omega) (by omega)).trans (congrArg some he))).mono (fun e w' hh => ⟨hh.1, hh.2.below⟩)
theorem As.reqWc {w : World} {A B : Option Addr} {c d : Nat} {l m : List Int} (h1 : (Kd.int .u16).C w A l.length l) (k1 : l.length ≤ c) (h2 : (Kd.int .u16).C w B m.length m) (k2 : m.length ≤ d) (hs : l.length ≤ 1000000) {y : Bool} (he : decide (l = m) = y) : Calls Try.prog 51 #[.slice A l.length c, .slice B m.length d] w fun e w' => e = .returned (.bool y) ∧ Below w.heap.size w w' :=
  (bilgeref01_Words.calls (l.length + 1) A c l B d m y w h1 k1 h2 k2 ((words_eq (by omega) (by omega)).trans (congrArg some he))).mono (fun e w' hh => ⟨hh.1, hh.2.below⟩)
theorem As.eq_same (x y : S25) : (As.eqb x y = false ∧ decide (x.f8 = y.f8) = false) ∨ (As.eqb x y = false ∧ decide (x.f8 = y.f8) = true ∧ decide (x.f9 = y.f9) = false) ∨ (As.eqb x y = false ∧ decide (x.f8 = y.f8) = true ∧ decide (x.f9 = y.f9) = true ∧ (x.f0 == y.f0) = false) ∨ (As.eqb x y = false ∧ decide (x.f8 = y.f8) = true ∧ decide (x.f9 = y.f9) = true ∧ (x.f0 == y.f0) = true ∧ (x.f1 == y.f1) = false) ∨ (As.eqb x y = false ∧ decide (x.f8 = y.f8) = true ∧ decide (x.f9 = y.f9) = true ∧ (x.f0 == y.f0) = true ∧ (x.f1 == y.f1) = true ∧ (x.f2 == y.f2) = false) ∨ (As.eqb x y = false ∧ decide (x.f8 = y.f8) = true ∧ decide (x.f9 = y.f9) = true ∧ (x.f0 == y.f0) = true ∧ (x.f1 == y.f1) = true ∧ (x.f2 == y.f2) = true ∧ (x.f3 == y.f3) = false) ∨ (As.eqb x y = false ∧ decide (x.f8 = y.f8) = true ∧ decide (x.f9 = y.f9) = true ∧ (x.f0 == y.f0) = true ∧ (x.f1 == y.f1) = true ∧ (x.f2 == y.f2) = true ∧ (x.f3 == y.f3) = true ∧ (x.f4 == y.f4) = false) ∨ (As.eqb x y = false ∧ decide (x.f8 = y.f8) = true ∧ decide (x.f9 = y.f9) = true ∧ (x.f0 == y.f0) = true ∧ (x.f1 == y.f1) = true ∧ (x.f2 == y.f2) = true ∧ (x.f3 == y.f3) = true ∧ (x.f4 == y.f4) = true ∧ (x.f5 == y.f5) = false) ∨ (As.eqb x y = false ∧ decide (x.f8 = y.f8) = true ∧ decide (x.f9 = y.f9) = true ∧ (x.f0 == y.f0) = true ∧ (x.f1 == y.f1) = true ∧ (x.f2 == y.f2) = true ∧ (x.f3 == y.f3) = true ∧ (x.f4 == y.f4) = true ∧ (x.f5 == y.f5) = true ∧ (x.f6 == y.f6) = false) ∨ (As.eqb x y = false ∧ decide (x.f8 = y.f8) = true ∧ decide (x.f9 = y.f9) = true ∧ (x.f0 == y.f0) = true ∧ (x.f1 == y.f1) = true ∧ (x.f2 == y.f2) = true ∧ (x.f3 == y.f3) = true ∧ (x.f4 == y.f4) = true ∧ (x.f5 == y.f5) = true ∧ (x.f6 == y.f6) = true ∧ (x.f7 == y.f7) = false) ∨ (As.eqb x y = true ∧ decide (x.f8 = y.f8) = true ∧ decide (x.f9 = y.f9) = true ∧ (x.f0 == y.f0) = true ∧ (x.f1 == y.f1) = true ∧ (x.f2 == y.f2) = true ∧ (x.f3 == y.f3) = true ∧ (x.f4 == y.f4) = true ∧ (x.f5 == y.f5) = true ∧ (x.f6 == y.f6) = true ∧ (x.f7 == y.f7) = true) := by
  unfold As.eqb
  cases q8 : decide (x.f8 = y.f8) with
  | false => exact .inl ⟨by simp, rfl⟩
  | true =>
  cases q9 : decide (x.f9 = y.f9) with
  | false => exact .inr (.inl ⟨by simp, rfl, rfl⟩)
  | true =>
  cases q0 : (x.f0 == y.f0) with
  | false => exact .inr (.inr (.inl ⟨by simp, rfl, rfl, rfl⟩))
  | true =>
  cases q1 : (x.f1 == y.f1) with
  | false => exact .inr (.inr (.inr (.inl ⟨by simp, rfl, rfl, rfl, rfl⟩)))
  | true =>
  cases q2 : (x.f2 == y.f2) with
  | false => exact .inr (.inr (.inr (.inr (.inl ⟨by simp, rfl, rfl, rfl, rfl, rfl⟩))))
  | true =>
  cases q3 : (x.f3 == y.f3) with
  | false => exact .inr (.inr (.inr (.inr (.inr (.inl ⟨by simp, rfl, rfl, rfl, rfl, rfl, rfl⟩)))))
  | true =>
  cases q4 : (x.f4 == y.f4) with
  | false => exact .inr (.inr (.inr (.inr (.inr (.inr (.inl ⟨by simp, rfl, rfl, rfl, rfl, rfl, rfl, rfl⟩))))))
  | true =>
  cases q5 : (x.f5 == y.f5) with
  | false => exact .inr (.inr (.inr (.inr (.inr (.inr (.inr (.inl ⟨by simp, rfl, rfl, rfl, rfl, rfl, rfl, rfl, rfl⟩)))))))
  | true =>
  cases q6 : (x.f6 == y.f6) with
  | false => exact .inr (.inr (.inr (.inr (.inr (.inr (.inr (.inr (.inl ⟨by simp, rfl, rfl, rfl, rfl, rfl, rfl, rfl, rfl, rfl⟩))))))))
  | true =>
  cases q7 : (x.f7 == y.f7) with
  | false => exact .inr (.inr (.inr (.inr (.inr (.inr (.inr (.inr (.inr (.inl ⟨by simp, rfl, rfl, rfl, rfl, rfl, rfl, rfl, rfl, rfl, rfl⟩)))))))))
  | true =>
  exact .inr (.inr (.inr (.inr (.inr (.inr (.inr (.inr (.inr (.inr ⟨by simp, rfl, rfl, rfl, rfl, rfl, rfl, rfl, rfl, rfl, rfl⟩)))))))))
set_option maxHeartbeats 4000000 in
set_option maxRecDepth 100000 in
theorem As.same {w : World} {cs ds : Array Value} {x y : S25} (h : As.V w cs x) (h2 : As.V w ds y) (hf : As.Fit x) {b : Bool} (he : As.eqb x y = b) : Calls Try.prog 19 #[.agg cs, .agg ds] w fun e w' => e = .returned (.bool b) ∧ Below w.heap.size w w' := by
  obtain ⟨A8, c8, A9, c9, rfl, k8, g8, k9, g9⟩ := As.open h
  obtain ⟨B8, d8, B9, d9, rfl, l8, f8, l9, f9⟩ := As.open h2
  have K8 := Aside0.mk k8
  have G8 := Aside0.mk g8
  have K9 := Aside0.mk k9
  have G9 := Aside0.mk g9
  have L8 := Aside0.mk l8
  have F8 := Aside0.mk f8
  have L9 := Aside0.mk l9
  have F9 := Aside0.mk f9
  have HF := Aside0.mk hf
  clear h h2 hf k8 g8 k9 g9 l8 f8 l9 f9
  have hu := Try.underlying25
  have HB := Aside0.mk (Below.refl w.heap.size w)
  rcases As.eq_same x y with ⟨hq, e8⟩ | ⟨hq, e8, e9⟩ | ⟨hq, e8, e9, e0⟩ | ⟨hq, e8, e9, e0, e1⟩ | ⟨hq, e8, e9, e0, e1, e2⟩ | ⟨hq, e8, e9, e0, e1, e2, e3⟩ | ⟨hq, e8, e9, e0, e1, e2, e3, e4⟩ | ⟨hq, e8, e9, e0, e1, e2, e3, e4, e5⟩ | ⟨hq, e8, e9, e0, e1, e2, e3, e4, e5, e6⟩ | ⟨hq, e8, e9, e0, e1, e2, e3, e4, e5, e6, e7⟩ | ⟨hq, e8, e9, e0, e1, e2, e3, e4, e5, e6, e7⟩
  all_goals
    obtain rfl := hq.symm.trans he
    clear hq he
    go_enter Try.func19, Try.ntmps19
    go_wp2_with (first
      | ((with_reducible refine gate_dst (N := 2) rfl ?_); refine box_event ?hg (N := 2) ?hd (cs := #[.int .i64 x.f0, .int .i64 x.f1, .int .i64 x.f2, .int .i64 x.f3, .int .i64 x.f4, .int .i64 x.f5, .int .i64 x.f6, .int .i64 x.f7, .slice A8 x.f8.length c8, .slice A9 x.f9.length c9]) (t := 25) ?hr ?_; (case hd => rfl); (case hg => rfl); (case hr => first | (go_simp; done) | (go_simp; rfl)); intro g1 hg w1 hbox hb; have GEg1 := Aside0.mk ((by rw [hg]; exact HB.out.size) : w.heap.size ≤ g1); have BKg1 := Aside0.mk hbox; clear hbox hg; have n0_ := Aside0.mk (below_step HB.out hb); clear HB; have HB := n0_; clear n0_; skip; clear hb)
      | ((with_reducible refine gate_dst (N := 3) rfl ?_); refine box_event ?hg (N := 3) ?hd (cs := #[.int .i64 y.f0, .int .i64 y.f1, .int .i64 y.f2, .int .i64 y.f3, .int .i64 y.f4, .int .i64 y.f5, .int .i64 y.f6, .int .i64 y.f7, .slice B8 y.f8.length d8, .slice B9 y.f9.length d9]) (t := 25) ?hr ?_; (case hd => rfl); (case hg => rfl); (case hr => first | (go_simp; done) | (go_simp; rfl)); intro g2 hg w2 hbox hb; have LTg1g2 := Aside0.mk (show g1 < g2 by rw [hg]; exact blk_lt BKg1.out); have GEg2 := Aside0.mk ((by rw [hg]; exact HB.out.size) : w.heap.size ≤ g2); have BKg2 := Aside0.mk hbox; clear hbox hg; have n0_ := Aside0.mk (below_step HB.out hb); have n1_ := Aside0.mk (blk_below BKg1.out hb); clear HB BKg1; have HB := n0_; have BKg1 := n1_; clear n0_ n1_; (try clear cg1); have cg1 := fun i => blk_cell BKg1.out i; (try clear cg2); have cg2 := fun i => blk_cell BKg2.out i; clear hb)
      | (go_at_call 48; (with_reducible refine (As.eqBc (Kd.C_below G8.out HB.out) K8.out (Kd.C_below F8.out HB.out) L8.out HF.out.1 e8).mono ?_); rintro r w3 ⟨rfl, hb⟩; have n0_ := Aside0.mk (below_step HB.out hb); have n1_ := Aside0.mk (blk_below BKg1.out hb); have n2_ := Aside0.mk (blk_below BKg2.out hb); clear HB BKg1 BKg2; have HB := n0_; have BKg1 := n1_; have BKg2 := n2_; clear n0_ n1_ n2_; (try clear cg1); have cg1 := fun i => blk_cell BKg1.out i; (try clear cg2); have cg2 := fun i => blk_cell BKg2.out i; clear hb)
      | (go_at_call 49; (with_reducible refine (As.eqWc (Kd.C_below G9.out HB.out) K9.out (Kd.C_below F9.out HB.out) L9.out HF.out.2 e9).mono ?_); rintro r w4 ⟨rfl, hb⟩; have n0_ := Aside0.mk (below_step HB.out hb); have n1_ := Aside0.mk (blk_below BKg1.out hb); have n2_ := Aside0.mk (blk_below BKg2.out hb); clear HB BKg1 BKg2; have HB := n0_; have BKg1 := n1_; have BKg2 := n2_; clear n0_ n1_ n2_; (try clear cg1); have cg1 := fun i => blk_cell BKg1.out i; (try clear cg2); have cg2 := fun i => blk_cell BKg2.out i; clear hb))
    go_ret
    exact ⟨rfl, HB.out⟩
theorem As.eq_rsame (x y : S25) : (As.eqb x y = false ∧ (x.f0 == y.f0) = false) ∨ (As.eqb x y = false ∧ (x.f0 == y.f0) = true ∧ (x.f1 == y.f1) = false) ∨ (As.eqb x y = false ∧ (x.f0 == y.f0) = true ∧ (x.f1 == y.f1) = true ∧ (x.f2 == y.f2) = false) ∨ (As.eqb x y = false ∧ (x.f0 == y.f0) = true ∧ (x.f1 == y.f1) = true ∧ (x.f2 == y.f2) = true ∧ (x.f3 == y.f3) = false) ∨ (As.eqb x y = false ∧ (x.f0 == y.f0) = true ∧ (x.f1 == y.f1) = true ∧ (x.f2 == y.f2) = true ∧ (x.f3 == y.f3) = true ∧ (x.f4 == y.f4) = false) ∨ (As.eqb x y = false ∧ (x.f0 == y.f0) = true ∧ (x.f1 == y.f1) = true ∧ (x.f2 == y.f2) = true ∧ (x.f3 == y.f3) = true ∧ (x.f4 == y.f4) = true ∧ (x.f5 == y.f5) = false) ∨ (As.eqb x y = false ∧ (x.f0 == y.f0) = true ∧ (x.f1 == y.f1) = true ∧ (x.f2 == y.f2) = true ∧ (x.f3 == y.f3) = true ∧ (x.f4 == y.f4) = true ∧ (x.f5 == y.f5) = true ∧ (x.f6 == y.f6) = false) ∨ (As.eqb x y = false ∧ (x.f0 == y.f0) = true ∧ (x.f1 == y.f1) = true ∧ (x.f2 == y.f2) = true ∧ (x.f3 == y.f3) = true ∧ (x.f4 == y.f4) = true ∧ (x.f5 == y.f5) = true ∧ (x.f6 == y.f6) = true ∧ (x.f7 == y.f7) = false) ∨ (As.eqb x y = false ∧ (x.f0 == y.f0) = true ∧ (x.f1 == y.f1) = true ∧ (x.f2 == y.f2) = true ∧ (x.f3 == y.f3) = true ∧ (x.f4 == y.f4) = true ∧ (x.f5 == y.f5) = true ∧ (x.f6 == y.f6) = true ∧ (x.f7 == y.f7) = true ∧ decide (x.f8 = y.f8) = false) ∨ (As.eqb x y = false ∧ (x.f0 == y.f0) = true ∧ (x.f1 == y.f1) = true ∧ (x.f2 == y.f2) = true ∧ (x.f3 == y.f3) = true ∧ (x.f4 == y.f4) = true ∧ (x.f5 == y.f5) = true ∧ (x.f6 == y.f6) = true ∧ (x.f7 == y.f7) = true ∧ decide (x.f8 = y.f8) = true ∧ decide (x.f9 = y.f9) = false) ∨ (As.eqb x y = true ∧ (x.f0 == y.f0) = true ∧ (x.f1 == y.f1) = true ∧ (x.f2 == y.f2) = true ∧ (x.f3 == y.f3) = true ∧ (x.f4 == y.f4) = true ∧ (x.f5 == y.f5) = true ∧ (x.f6 == y.f6) = true ∧ (x.f7 == y.f7) = true ∧ decide (x.f8 = y.f8) = true ∧ decide (x.f9 = y.f9) = true) := by
  unfold As.eqb
  cases q0 : (x.f0 == y.f0) with
  | false => exact .inl ⟨by simp, rfl⟩
  | true =>
  cases q1 : (x.f1 == y.f1) with
  | false => exact .inr (.inl ⟨by simp, rfl, rfl⟩)
  | true =>
  cases q2 : (x.f2 == y.f2) with
  | false => exact .inr (.inr (.inl ⟨by simp, rfl, rfl, rfl⟩))
  | true =>
  cases q3 : (x.f3 == y.f3) with
  | false => exact .inr (.inr (.inr (.inl ⟨by simp, rfl, rfl, rfl, rfl⟩)))
  | true =>
  cases q4 : (x.f4 == y.f4) with
  | false => exact .inr (.inr (.inr (.inr (.inl ⟨by simp, rfl, rfl, rfl, rfl, rfl⟩))))
  | true =>
  cases q5 : (x.f5 == y.f5) with
  | false => exact .inr (.inr (.inr (.inr (.inr (.inl ⟨by simp, rfl, rfl, rfl, rfl, rfl, rfl⟩)))))
  | true =>
  cases q6 : (x.f6 == y.f6) with
  | false => exact .inr (.inr (.inr (.inr (.inr (.inr (.inl ⟨by simp, rfl, rfl, rfl, rfl, rfl, rfl, rfl⟩))))))
  | true =>
  cases q7 : (x.f7 == y.f7) with
  | false => exact .inr (.inr (.inr (.inr (.inr (.inr (.inr (.inl ⟨by simp, rfl, rfl, rfl, rfl, rfl, rfl, rfl, rfl⟩)))))))
  | true =>
  cases q8 : decide (x.f8 = y.f8) with
  | false => exact .inr (.inr (.inr (.inr (.inr (.inr (.inr (.inr (.inl ⟨by simp, rfl, rfl, rfl, rfl, rfl, rfl, rfl, rfl, rfl⟩))))))))
  | true =>
  cases q9 : decide (x.f9 = y.f9) with
  | false => exact .inr (.inr (.inr (.inr (.inr (.inr (.inr (.inr (.inr (.inl ⟨by simp, rfl, rfl, rfl, rfl, rfl, rfl, rfl, rfl, rfl, rfl⟩)))))))))
  | true =>
  exact .inr (.inr (.inr (.inr (.inr (.inr (.inr (.inr (.inr (.inr ⟨by simp, rfl, rfl, rfl, rfl, rfl, rfl, rfl, rfl, rfl, rfl⟩)))))))))
set_option maxHeartbeats 4000000 in
set_option maxRecDepth 100000 in
theorem As.rsame {w : World} {cs ds : Array Value} {x y : S25} (h : As.V w cs x) (h2 : As.V w ds y) (hf : As.Fit x) {b : Bool} (he : As.eqb x y = b) : Calls Try.prog 20 #[.agg cs, .agg ds] w fun e w' => e = .returned (.bool b) ∧ Below w.heap.size w w' := by
  obtain ⟨A8, c8, A9, c9, rfl, k8, g8, k9, g9⟩ := As.open h
  obtain ⟨B8, d8, B9, d9, rfl, l8, f8, l9, f9⟩ := As.open h2
  have K8 := Aside0.mk k8
  have G8 := Aside0.mk g8
  have K9 := Aside0.mk k9
  have G9 := Aside0.mk g9
  have L8 := Aside0.mk l8
  have F8 := Aside0.mk f8
  have L9 := Aside0.mk l9
  have F9 := Aside0.mk f9
  have HF := Aside0.mk hf
  clear h h2 hf k8 g8 k9 g9 l8 f8 l9 f9
  have hu := Try.underlying25
  have HB := Aside0.mk (Below.refl w.heap.size w)
  rcases As.eq_rsame x y with ⟨hq, e0⟩ | ⟨hq, e0, e1⟩ | ⟨hq, e0, e1, e2⟩ | ⟨hq, e0, e1, e2, e3⟩ | ⟨hq, e0, e1, e2, e3, e4⟩ | ⟨hq, e0, e1, e2, e3, e4, e5⟩ | ⟨hq, e0, e1, e2, e3, e4, e5, e6⟩ | ⟨hq, e0, e1, e2, e3, e4, e5, e6, e7⟩ | ⟨hq, e0, e1, e2, e3, e4, e5, e6, e7, e8⟩ | ⟨hq, e0, e1, e2, e3, e4, e5, e6, e7, e8, e9⟩ | ⟨hq, e0, e1, e2, e3, e4, e5, e6, e7, e8, e9⟩
  all_goals
    obtain rfl := hq.symm.trans he
    clear hq he
    go_enter Try.func20, Try.ntmps20
    go_wp2_with (first
      | ((with_reducible refine gate_dst (N := 2) rfl ?_); refine box_event ?hg (N := 2) ?hd (cs := #[.int .i64 x.f0, .int .i64 x.f1, .int .i64 x.f2, .int .i64 x.f3, .int .i64 x.f4, .int .i64 x.f5, .int .i64 x.f6, .int .i64 x.f7, .slice A8 x.f8.length c8, .slice A9 x.f9.length c9]) (t := 25) ?hr ?_; (case hd => rfl); (case hg => rfl); (case hr => first | (go_simp; done) | (go_simp; rfl)); intro g1 hg w1 hbox hb; have GEg1 := Aside0.mk ((by rw [hg]; exact HB.out.size) : w.heap.size ≤ g1); have BKg1 := Aside0.mk hbox; clear hbox hg; have n0_ := Aside0.mk (below_step HB.out hb); clear HB; have HB := n0_; clear n0_; skip; clear hb)
      | ((with_reducible refine gate_dst (N := 3) rfl ?_); refine box_event ?hg (N := 3) ?hd (cs := #[.int .i64 y.f0, .int .i64 y.f1, .int .i64 y.f2, .int .i64 y.f3, .int .i64 y.f4, .int .i64 y.f5, .int .i64 y.f6, .int .i64 y.f7, .slice B8 y.f8.length d8, .slice B9 y.f9.length d9]) (t := 25) ?hr ?_; (case hd => rfl); (case hg => rfl); (case hr => first | (go_simp; done) | (go_simp; rfl)); intro g2 hg w2 hbox hb; have LTg1g2 := Aside0.mk (show g1 < g2 by rw [hg]; exact blk_lt BKg1.out); have GEg2 := Aside0.mk ((by rw [hg]; exact HB.out.size) : w.heap.size ≤ g2); have BKg2 := Aside0.mk hbox; clear hbox hg; have n0_ := Aside0.mk (below_step HB.out hb); have n1_ := Aside0.mk (blk_below BKg1.out hb); clear HB BKg1; have HB := n0_; have BKg1 := n1_; clear n0_ n1_; (try clear cg1); have cg1 := fun i => blk_cell BKg1.out i; (try clear cg2); have cg2 := fun i => blk_cell BKg2.out i; clear hb)
      | (go_at_call 50; (with_reducible refine (As.reqBc (Kd.C_below G8.out HB.out) K8.out (Kd.C_below F8.out HB.out) L8.out HF.out.1 e8).mono ?_); rintro r w3 ⟨rfl, hb⟩; have n0_ := Aside0.mk (below_step HB.out hb); have n1_ := Aside0.mk (blk_below BKg1.out hb); have n2_ := Aside0.mk (blk_below BKg2.out hb); clear HB BKg1 BKg2; have HB := n0_; have BKg1 := n1_; have BKg2 := n2_; clear n0_ n1_ n2_; (try clear cg1); have cg1 := fun i => blk_cell BKg1.out i; (try clear cg2); have cg2 := fun i => blk_cell BKg2.out i; clear hb)
      | (go_at_call 51; (with_reducible refine (As.reqWc (Kd.C_below G9.out HB.out) K9.out (Kd.C_below F9.out HB.out) L9.out HF.out.2 e9).mono ?_); rintro r w4 ⟨rfl, hb⟩; have n0_ := Aside0.mk (below_step HB.out hb); have n1_ := Aside0.mk (blk_below BKg1.out hb); have n2_ := Aside0.mk (blk_below BKg2.out hb); clear HB BKg1 BKg2; have HB := n0_; have BKg1 := n1_; have BKg2 := n2_; clear n0_ n1_ n2_; (try clear cg1); have cg1 := fun i => blk_cell BKg1.out i; (try clear cg2); have cg2 := fun i => blk_cell BKg2.out i; clear hb))
    go_ret
    exact ⟨rfl, HB.out⟩

end Go.Proofs.Ytedfbemifigoeaa.P
