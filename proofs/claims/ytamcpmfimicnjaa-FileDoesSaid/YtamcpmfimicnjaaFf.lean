import Derived.Test.YtamcpmfimicnjaaX
import Derived.Test.YtamcpmfimicnjaaFd
import Derived.Test.YtamcpmfimicnjaaFe
import Derived.Test.YtamcpmfimicnjaaLFile
namespace Go.Proofs.Ytamcpmfimicnjaa.P
open Go.RowKit Go.Proofs.YtamcpmfimicnjaaW.PrintWords Go.Proofs.YtamcpmfimicnjaaW.PrintLast Go.Proofs.YtamcpmfimicnjaaW.PrintMore
attribute [local go_sem] max2_int min2_int max_two min_two max_three min_three max_four min_four   -- for this text's walks alone
set_option linter.unusedVariables false
set_option linter.unusedSimpArgs false
open Go.Proofs.Ytamcpmfimicnjaa.L

theorem Fi.eqB_loop {a b : List Bool} (hl : a.length = b.length) (hb : a.length ≤ 4611686018427387904) : ∀ (d k : Nat) (i : Int), 0 ≤ i → (a.length : Int) - i = d → d < k → slices_Equal_bool_bool.l0 k a b (a.length : Int) i = some (decide (a.drop i.toNat = b.drop i.toNat)) := by
  intro d
  induction d with
  | zero =>
    intro k i h0 h1 hk
    obtain ⟨k, rfl⟩ : ∃ m, k = m + 1 := ⟨k - 1, by omega⟩
    simp only [slices_Equal_bool_bool.l0]
    rw [if_neg (by omega), List.drop_eq_nil_of_le (by omega), List.drop_eq_nil_of_le (by omega)]
    simp
  | succ d ih =>
    intro k i h0 h1 hk
    obtain ⟨k, rfl⟩ : ∃ m, k = m + 1 := ⟨k - 1, by omega⟩
    simp only [slices_Equal_bool_bool.l0]
    rw [if_pos (by omega), if_pos h0, if_pos (by omega), if_pos (by omega), w64 (by omega), rdOf_drop (d := false) h0 (by omega), rdOf_drop (d := false) (l := b) h0 (by omega)]
    by_cases h : rdOf false a i = rdOf false b i
    · rw [if_neg (by simp [h]), ih k (i + 1) (by omega) (by omega) (by omega), h, show (i + 1).toNat = i.toNat + 1 by omega]
      congr 1
      simp
    · rw [if_pos (by simpa using h)]
      simp [h]
theorem Fi.eqB {a b : List Bool} (hb : a.length ≤ 4611686018427387904) {k : Nat} (hk : a.length < k) : file_Same_1.f k a b = some (decide (a = b)) := by
  unfold file_Same_1.f slices_Equal_bool_bool.f
  by_cases h : (a.length : Int) = (b.length : Int)
  · rw [if_pos h, Fi.eqB_loop (by omega) hb a.length k 0 (by omega) (by omega) hk]
    simp
  · rw [if_neg h]
    have : a ≠ b := fun e => h (by rw [e])
    simp [this]
theorem Fi.eqW_loop {a b : List Int} (hl : a.length = b.length) (hb : a.length ≤ 4611686018427387904) : ∀ (d k : Nat) (i : Int), 0 ≤ i → (a.length : Int) - i = d → d < k → slices_Equal_uint16_uint16.l0 k a b (a.length : Int) i = some (decide (a.drop i.toNat = b.drop i.toNat)) := by
  intro d
  induction d with
  | zero =>
    intro k i h0 h1 hk
    obtain ⟨k, rfl⟩ : ∃ m, k = m + 1 := ⟨k - 1, by omega⟩
    simp only [slices_Equal_uint16_uint16.l0]
    rw [if_neg (by omega), List.drop_eq_nil_of_le (by omega), List.drop_eq_nil_of_le (by omega)]
    simp
  | succ d ih =>
    intro k i h0 h1 hk
    obtain ⟨k, rfl⟩ : ∃ m, k = m + 1 := ⟨k - 1, by omega⟩
    simp only [slices_Equal_uint16_uint16.l0]
    rw [if_pos (by omega), if_pos h0, if_pos (by omega), if_pos (by omega), w64 (by omega), rd_drop h0 (by omega), rd_drop (l := b) h0 (by omega)]
    by_cases h : rd a i = rd b i
    · rw [if_pos h, ih k (i + 1) (by omega) (by omega) (by omega), h, show (i + 1).toNat = i.toNat + 1 by omega]
      congr 1
      simp
    · rw [if_neg h]
      simp [h]
theorem Fi.eqW {a b : List Int} (hb : a.length ≤ 4611686018427387904) {k : Nat} (hk : a.length < k) : file_Same_2.f k a b = some (decide (a = b)) := by
  unfold file_Same_2.f slices_Equal_uint16_uint16.f
  by_cases h : (a.length : Int) = (b.length : Int)
  · rw [if_pos h, Fi.eqW_loop (by omega) hb a.length k 0 (by omega) (by omega) hk]
    simp
  · rw [if_neg h]
    have : a ≠ b := fun e => h (by rw [e])
    simp [this]
def Fi.eqb (x y : S31) : Bool := ((x.f0.f0.f0 == y.f0.f0.f0 && (x.f0.f0.f1 == y.f0.f0.f1)) && ((x.f0.f1.f0 == y.f0.f1.f0 && (x.f0.f1.f1 == y.f0.f1.f1)) && ((x.f0.f2.f0 == y.f0.f2.f0 && (x.f0.f2.f1 == y.f0.f2.f1)) && ((x.f0.f3.f0 == y.f0.f3.f0 && (x.f0.f3.f1 == y.f0.f3.f1)) && ((x.f0.f4.f0 == y.f0.f4.f0 && (x.f0.f4.f1 == y.f0.f4.f1))))))) && (decide (x.f1 = y.f1) && (decide (x.f2 = y.f2) && (decide (x.f3 = y.f3) && decide (x.f4 = y.f4))))
theorem Fi.eqb_self (x : S31) : Fi.eqb x x = true := by simp [Fi.eqb]
theorem Fi.eqBc {w : World} {A B : Option Addr} {c d : Nat} {l m : List Bool} (h1 : Kd.bool.C w A l.length l) (k1 : l.length ≤ c) (h2 : Kd.bool.C w B m.length m) (k2 : m.length ≤ d) (he : l = m) (hs : l.length ≤ 1000000) : Calls Try.prog 35 #[.slice A l.length c, .slice B m.length d] w fun e w' => e = .returned (.bool true) ∧ Below w.heap.size w w' :=
  (file_Same_1.calls 1000001 A c l B d m true w h1 k1 h2 k2 ((Fi.eqB (by omega) (by omega)).trans (congrArg some (decide_eq_true he)))).mono (fun e w' hh => ⟨hh.1, hh.2.below⟩)
theorem Fi.eqWc {w : World} {A B : Option Addr} {c d : Nat} {l m : List Int} (h1 : (Kd.int .u16).C w A l.length l) (k1 : l.length ≤ c) (h2 : (Kd.int .u16).C w B m.length m) (k2 : m.length ≤ d) {y : Bool} (he : decide (l = m) = y) (hs : l.length ≤ 1000000) : Calls Try.prog 37 #[.slice A l.length c, .slice B m.length d] w fun e w' => e = .returned (.bool y) ∧ Below w.heap.size w w' :=
  (file_Same_2.calls 1000001 A c l B d m y w h1 k1 h2 k2 ((Fi.eqW (by omega) (by omega)).trans (congrArg some he))).mono (fun e w' hh => ⟨hh.1, hh.2.below⟩)
theorem Fi.sameB {w : World} {A B : Option Addr} {c d : Nat} {l m : List Bool} (h1 : Kd.bool.C w A l.length l) (k1 : l.length ≤ c) (h2 : Kd.bool.C w B m.length m) (k2 : m.length ≤ d) (he : l = m) (hs : l.length ≤ 1000000) : Calls Try.prog 13 #[.slice A l.length c, .slice B m.length d] w fun e w' => e = .returned (.bool true) ∧ Below w.heap.size w w' :=
  (bilgeref02_Same.calls 1000001 A c l B d m true w h1 k1 h2 k2 ((same_eq (by omega) (by omega)).trans (congrArg some (decide_eq_true he)))).mono (fun e w' hh => ⟨hh.1, hh.2.below⟩)
theorem Fi.sameW {w : World} {A B : Option Addr} {c d : Nat} {l m : List Int} (h1 : (Kd.int .u16).C w A l.length l) (k1 : l.length ≤ c) (h2 : (Kd.int .u16).C w B m.length m) (k2 : m.length ≤ d) (he : l = m) (hs : l.length ≤ 1000000) : Calls Try.prog 14 #[.slice A l.length c, .slice B m.length d] w fun e w' => e = .returned (.bool true) ∧ Below w.heap.size w w' :=
  (bilgeref01_Words.calls 1000001 A c l B d m true w h1 k1 h2 k2 ((words_eq (by omega) (by omega)).trans (congrArg some (decide_eq_true he)))).mono (fun e w' hh => ⟨hh.1, hh.2.below⟩)
set_option maxHeartbeats 8000000 in
set_option maxRecDepth 100000 in
theorem Fi.rsame {w : World} {cs ds : Array Value} {x : S31} (h : Fi.V w cs x) (h2 : Fi.V w ds x) (hf : Fi.Fit x) {e0 : Bool} (he : Fi.eqb x x = e0) : Calls Try.prog 15 #[.agg cs, .agg ds] w fun e w' => e = .returned (.bool e0) ∧ Below w.heap.size w w' := by
  obtain rfl : true = e0 := (Fi.eqb_self x).symm.trans he
  obtain ⟨A10, c10, A11, c11, A12, c12, A13, c13, rfl, k10, g10, k11, g11, k12, g12, k13, g13⟩ := Fi.open h
  obtain ⟨B10, d10, B11, d11, B12, d12, B13, d13, rfl, l10, f10, l11, f11, l12, f12, l13, f13⟩ := Fi.open h2
  have K10 := Aside0.mk k10
  have G10 := Aside0.mk g10
  have L10 := Aside0.mk l10
  have F10 := Aside0.mk f10
  have K11 := Aside0.mk k11
  have G11 := Aside0.mk g11
  have L11 := Aside0.mk l11
  have F11 := Aside0.mk f11
  have K12 := Aside0.mk k12
  have G12 := Aside0.mk g12
  have L12 := Aside0.mk l12
  have F12 := Aside0.mk f12
  have K13 := Aside0.mk k13
  have G13 := Aside0.mk g13
  have L13 := Aside0.mk l13
  have F13 := Aside0.mk f13
  obtain ⟨q1, q2, q3, q4⟩ := hf
  have Q1 := Aside0.mk (show x.f1.length ≤ 1000000 by omega)
  have Q2 := Aside0.mk (show x.f2.length ≤ 1000000 by omega)
  have Q3 := Aside0.mk (show x.f3.length ≤ 1000000 by omega)
  have Q4 := Aside0.mk (show x.f4.length ≤ 1000000 by omega)
  clear h h2 q1 q2 q3 q4 k10 g10 l10 f10 k11 g11 l11 f11 k12 g12 l12 f12 k13 g13 l13 f13
  have hu := Try.underlying31
  have hu25 := Try.underlying25
  have hu23 := Try.underlying23
  have HB := Aside0.mk (Below.refl w.heap.size w)
  go_enter Try.func15, Try.ntmps15
  go_wp2_with (first
    | ((with_reducible refine gate_dst (N := 2) rfl ?_); refine box_event ?hg (N := 2) ?hd (cs := #[.int .i64 x.f0.f0.f0, .int .i64 x.f0.f0.f1, .int .i64 x.f0.f1.f0, .int .i64 x.f0.f1.f1, .int .i64 x.f0.f2.f0, .int .i64 x.f0.f2.f1, .int .i64 x.f0.f3.f0, .int .i64 x.f0.f3.f1, .int .i64 x.f0.f4.f0, .int .i64 x.f0.f4.f1, .slice A10 x.f1.length c10, .slice A11 x.f2.length c11, .slice A12 x.f3.length c12, .slice A13 x.f4.length c13]) (t := 31) ?hr ?_; (case hd => rfl); (case hg => rfl); (case hr => first | (go_simp; done) | (go_simp; rfl)); intro ga hg w1 hbox hb; have GEga := Aside0.mk ((by rw [hg]; exact HB.out.size) : w.heap.size ≤ ga); have BKga := Aside0.mk hbox; clear hbox hg; have n0_ := Aside0.mk (below_step HB.out hb); clear HB; have HB := n0_; clear n0_; skip; clear hb)
    | ((with_reducible refine gate_dst (N := 3) rfl ?_); refine box_event ?hg (N := 3) ?hd (cs := #[.int .i64 x.f0.f0.f0, .int .i64 x.f0.f0.f1, .int .i64 x.f0.f1.f0, .int .i64 x.f0.f1.f1, .int .i64 x.f0.f2.f0, .int .i64 x.f0.f2.f1, .int .i64 x.f0.f3.f0, .int .i64 x.f0.f3.f1, .int .i64 x.f0.f4.f0, .int .i64 x.f0.f4.f1, .slice B10 x.f1.length d10, .slice B11 x.f2.length d11, .slice B12 x.f3.length d12, .slice B13 x.f4.length d13]) (t := 31) ?hr ?_; (case hd => rfl); (case hg => rfl); (case hr => first | (go_simp; done) | (go_simp; rfl)); intro gb hg w2 hbox hb; have GEgb := Aside0.mk ((by rw [hg]; exact HB.out.size) : w.heap.size ≤ gb); have BKgb := Aside0.mk hbox; clear hbox hg; have n0_ := Aside0.mk (below_step HB.out hb); have n1_ := Aside0.mk (blk_below BKga.out hb); clear HB BKga; have HB := n0_; have BKga := n1_; clear n0_ n1_; have cga_0 : w2.cell? ⟨ga, 0, none⟩ = some (.int .i64 x.f0.f0.f0) := (blk_cell BKga.out 0).trans rfl; have cga_1 : w2.cell? ⟨ga, 1, none⟩ = some (.int .i64 x.f0.f0.f1) := (blk_cell BKga.out 1).trans rfl; have cga_2 : w2.cell? ⟨ga, 2, none⟩ = some (.int .i64 x.f0.f1.f0) := (blk_cell BKga.out 2).trans rfl; have cga_3 : w2.cell? ⟨ga, 3, none⟩ = some (.int .i64 x.f0.f1.f1) := (blk_cell BKga.out 3).trans rfl; have cga_4 : w2.cell? ⟨ga, 4, none⟩ = some (.int .i64 x.f0.f2.f0) := (blk_cell BKga.out 4).trans rfl; have cga_5 : w2.cell? ⟨ga, 5, none⟩ = some (.int .i64 x.f0.f2.f1) := (blk_cell BKga.out 5).trans rfl; have cga_6 : w2.cell? ⟨ga, 6, none⟩ = some (.int .i64 x.f0.f3.f0) := (blk_cell BKga.out 6).trans rfl; have cga_7 : w2.cell? ⟨ga, 7, none⟩ = some (.int .i64 x.f0.f3.f1) := (blk_cell BKga.out 7).trans rfl; have cga_8 : w2.cell? ⟨ga, 8, none⟩ = some (.int .i64 x.f0.f4.f0) := (blk_cell BKga.out 8).trans rfl; have cga_9 : w2.cell? ⟨ga, 9, none⟩ = some (.int .i64 x.f0.f4.f1) := (blk_cell BKga.out 9).trans rfl; have cga_10 : w2.cell? ⟨ga, 10, none⟩ = some (.slice A10 x.f1.length c10) := (blk_cell BKga.out 10).trans rfl; have cgb_0 : w2.cell? ⟨gb, 0, none⟩ = some (.int .i64 x.f0.f0.f0) := (blk_cell BKgb.out 0).trans rfl; have cgb_1 : w2.cell? ⟨gb, 1, none⟩ = some (.int .i64 x.f0.f0.f1) := (blk_cell BKgb.out 1).trans rfl; have cgb_2 : w2.cell? ⟨gb, 2, none⟩ = some (.int .i64 x.f0.f1.f0) := (blk_cell BKgb.out 2).trans rfl; have cgb_3 : w2.cell? ⟨gb, 3, none⟩ = some (.int .i64 x.f0.f1.f1) := (blk_cell BKgb.out 3).trans rfl; have cgb_4 : w2.cell? ⟨gb, 4, none⟩ = some (.int .i64 x.f0.f2.f0) := (blk_cell BKgb.out 4).trans rfl; have cgb_5 : w2.cell? ⟨gb, 5, none⟩ = some (.int .i64 x.f0.f2.f1) := (blk_cell BKgb.out 5).trans rfl; have cgb_6 : w2.cell? ⟨gb, 6, none⟩ = some (.int .i64 x.f0.f3.f0) := (blk_cell BKgb.out 6).trans rfl; have cgb_7 : w2.cell? ⟨gb, 7, none⟩ = some (.int .i64 x.f0.f3.f1) := (blk_cell BKgb.out 7).trans rfl; have cgb_8 : w2.cell? ⟨gb, 8, none⟩ = some (.int .i64 x.f0.f4.f0) := (blk_cell BKgb.out 8).trans rfl; have cgb_9 : w2.cell? ⟨gb, 9, none⟩ = some (.int .i64 x.f0.f4.f1) := (blk_cell BKgb.out 9).trans rfl; have cgb_10 : w2.cell? ⟨gb, 10, none⟩ = some (.slice B10 x.f1.length d10) := (blk_cell BKgb.out 10).trans rfl; clear hb)
    | (go_at_call 13; (with_reducible refine (Fi.sameB (Kd.C_below G10.out HB.out) K10.out (Kd.C_below F10.out HB.out) L10.out rfl Q1.out).mono ?_); rintro r w3 ⟨rfl, hb⟩; have n0_ := Aside0.mk (below_step HB.out hb); have n1_ := Aside0.mk (blk_below BKga.out hb); have n2_ := Aside0.mk (blk_below BKgb.out hb); clear HB BKga BKgb; have HB := n0_; have BKga := n1_; have BKgb := n2_; clear n0_ n1_ n2_; have cga_11 : w3.cell? ⟨ga, 11, none⟩ = some (.slice A11 x.f2.length c11) := (blk_cell BKga.out 11).trans rfl; have cgb_11 : w3.cell? ⟨gb, 11, none⟩ = some (.slice B11 x.f2.length d11) := (blk_cell BKgb.out 11).trans rfl; clear hb)
    | (go_at_call 13; (with_reducible refine (Fi.sameB (Kd.C_below G11.out HB.out) K11.out (Kd.C_below F11.out HB.out) L11.out rfl Q2.out).mono ?_); rintro r w4 ⟨rfl, hb⟩; have n0_ := Aside0.mk (below_step HB.out hb); have n1_ := Aside0.mk (blk_below BKga.out hb); have n2_ := Aside0.mk (blk_below BKgb.out hb); clear HB BKga BKgb; have HB := n0_; have BKga := n1_; have BKgb := n2_; clear n0_ n1_ n2_; have cga_12 : w4.cell? ⟨ga, 12, none⟩ = some (.slice A12 x.f3.length c12) := (blk_cell BKga.out 12).trans rfl; have cgb_12 : w4.cell? ⟨gb, 12, none⟩ = some (.slice B12 x.f3.length d12) := (blk_cell BKgb.out 12).trans rfl; clear hb)
    | (go_at_call 14; (with_reducible refine (Fi.sameW (Kd.C_below G12.out HB.out) K12.out (Kd.C_below F12.out HB.out) L12.out rfl Q3.out).mono ?_); rintro r w5 ⟨rfl, hb⟩; have n0_ := Aside0.mk (below_step HB.out hb); have n1_ := Aside0.mk (blk_below BKga.out hb); have n2_ := Aside0.mk (blk_below BKgb.out hb); clear HB BKga BKgb; have HB := n0_; have BKga := n1_; have BKgb := n2_; clear n0_ n1_ n2_; have cga_13 : w5.cell? ⟨ga, 13, none⟩ = some (.slice A13 x.f4.length c13) := (blk_cell BKga.out 13).trans rfl; have cgb_13 : w5.cell? ⟨gb, 13, none⟩ = some (.slice B13 x.f4.length d13) := (blk_cell BKgb.out 13).trans rfl; clear hb)
    | (go_at_call 14; (with_reducible refine (Fi.sameW (Kd.C_below G13.out HB.out) K13.out (Kd.C_below F13.out HB.out) L13.out rfl Q4.out).mono ?_); rintro r w6 ⟨rfl, hb⟩; have n0_ := Aside0.mk (below_step HB.out hb); have n1_ := Aside0.mk (blk_below BKga.out hb); have n2_ := Aside0.mk (blk_below BKgb.out hb); clear HB BKga BKgb; have HB := n0_; have BKga := n1_; have BKgb := n2_; clear n0_ n1_ n2_; skip; clear hb))
  go_ret
  exact ⟨rfl, HB.out⟩
set_option maxHeartbeats 8000000 in
set_option maxRecDepth 100000 in
theorem Fi.same {w : World} {cs ds : Array Value} {x : S31} (h : Fi.V w cs x) (h2 : Fi.V w ds x) (hf : Fi.Fit x) {e0 : Bool} (he : Fi.eqb x x = e0) : Calls Try.prog 17 #[.agg cs, .agg ds] w fun e w' => e = .returned (.bool e0) ∧ Below w.heap.size w w' := by
  obtain rfl : true = e0 := (Fi.eqb_self x).symm.trans he
  obtain ⟨A10, c10, A11, c11, A12, c12, A13, c13, rfl, k10, g10, k11, g11, k12, g12, k13, g13⟩ := Fi.open h
  obtain ⟨B10, d10, B11, d11, B12, d12, B13, d13, rfl, l10, f10, l11, f11, l12, f12, l13, f13⟩ := Fi.open h2
  have K10 := Aside0.mk k10
  have G10 := Aside0.mk g10
  have L10 := Aside0.mk l10
  have F10 := Aside0.mk f10
  have K11 := Aside0.mk k11
  have G11 := Aside0.mk g11
  have L11 := Aside0.mk l11
  have F11 := Aside0.mk f11
  have K12 := Aside0.mk k12
  have G12 := Aside0.mk g12
  have L12 := Aside0.mk l12
  have F12 := Aside0.mk f12
  have K13 := Aside0.mk k13
  have G13 := Aside0.mk g13
  have L13 := Aside0.mk l13
  have F13 := Aside0.mk f13
  obtain ⟨q1, q2, q3, q4⟩ := hf
  have Q1 := Aside0.mk (show x.f1.length ≤ 1000000 by omega)
  have Q2 := Aside0.mk (show x.f2.length ≤ 1000000 by omega)
  have Q3 := Aside0.mk (show x.f3.length ≤ 1000000 by omega)
  have Q4 := Aside0.mk (show x.f4.length ≤ 1000000 by omega)
  clear h h2 q1 q2 q3 q4 k10 g10 l10 f10 k11 g11 l11 f11 k12 g12 l12 f12 k13 g13 l13 f13
  have hu := Try.underlying31
  have hu25 := Try.underlying25
  have hu23 := Try.underlying23
  have HB := Aside0.mk (Below.refl w.heap.size w)
  go_enter Try.func17, Try.ntmps17
  go_wp2_with (first
    | ((with_reducible refine gate_dst (N := 2) rfl ?_); refine box_event ?hg (N := 2) ?hd (cs := #[.int .i64 x.f0.f0.f0, .int .i64 x.f0.f0.f1, .int .i64 x.f0.f1.f0, .int .i64 x.f0.f1.f1, .int .i64 x.f0.f2.f0, .int .i64 x.f0.f2.f1, .int .i64 x.f0.f3.f0, .int .i64 x.f0.f3.f1, .int .i64 x.f0.f4.f0, .int .i64 x.f0.f4.f1, .slice A10 x.f1.length c10, .slice A11 x.f2.length c11, .slice A12 x.f3.length c12, .slice A13 x.f4.length c13]) (t := 31) ?hr ?_; (case hd => rfl); (case hg => rfl); (case hr => first | (go_simp; done) | (go_simp; rfl)); intro ga hg w1 hbox hb; have GEga := Aside0.mk ((by rw [hg]; exact HB.out.size) : w.heap.size ≤ ga); have BKga := Aside0.mk hbox; clear hbox hg; have n0_ := Aside0.mk (below_step HB.out hb); clear HB; have HB := n0_; clear n0_; skip; clear hb)
    | ((with_reducible refine gate_dst (N := 3) rfl ?_); refine box_event ?hg (N := 3) ?hd (cs := #[.int .i64 x.f0.f0.f0, .int .i64 x.f0.f0.f1, .int .i64 x.f0.f1.f0, .int .i64 x.f0.f1.f1, .int .i64 x.f0.f2.f0, .int .i64 x.f0.f2.f1, .int .i64 x.f0.f3.f0, .int .i64 x.f0.f3.f1, .int .i64 x.f0.f4.f0, .int .i64 x.f0.f4.f1, .slice B10 x.f1.length d10, .slice B11 x.f2.length d11, .slice B12 x.f3.length d12, .slice B13 x.f4.length d13]) (t := 31) ?hr ?_; (case hd => rfl); (case hg => rfl); (case hr => first | (go_simp; done) | (go_simp; rfl)); intro gb hg w2 hbox hb; have GEgb := Aside0.mk ((by rw [hg]; exact HB.out.size) : w.heap.size ≤ gb); have BKgb := Aside0.mk hbox; clear hbox hg; have n0_ := Aside0.mk (below_step HB.out hb); have n1_ := Aside0.mk (blk_below BKga.out hb); clear HB BKga; have HB := n0_; have BKga := n1_; clear n0_ n1_; have cga_0 : w2.cell? ⟨ga, 0, none⟩ = some (.int .i64 x.f0.f0.f0) := (blk_cell BKga.out 0).trans rfl; have cga_1 : w2.cell? ⟨ga, 1, none⟩ = some (.int .i64 x.f0.f0.f1) := (blk_cell BKga.out 1).trans rfl; have cga_2 : w2.cell? ⟨ga, 2, none⟩ = some (.int .i64 x.f0.f1.f0) := (blk_cell BKga.out 2).trans rfl; have cga_3 : w2.cell? ⟨ga, 3, none⟩ = some (.int .i64 x.f0.f1.f1) := (blk_cell BKga.out 3).trans rfl; have cga_4 : w2.cell? ⟨ga, 4, none⟩ = some (.int .i64 x.f0.f2.f0) := (blk_cell BKga.out 4).trans rfl; have cga_5 : w2.cell? ⟨ga, 5, none⟩ = some (.int .i64 x.f0.f2.f1) := (blk_cell BKga.out 5).trans rfl; have cga_6 : w2.cell? ⟨ga, 6, none⟩ = some (.int .i64 x.f0.f3.f0) := (blk_cell BKga.out 6).trans rfl; have cga_7 : w2.cell? ⟨ga, 7, none⟩ = some (.int .i64 x.f0.f3.f1) := (blk_cell BKga.out 7).trans rfl; have cga_8 : w2.cell? ⟨ga, 8, none⟩ = some (.int .i64 x.f0.f4.f0) := (blk_cell BKga.out 8).trans rfl; have cga_9 : w2.cell? ⟨ga, 9, none⟩ = some (.int .i64 x.f0.f4.f1) := (blk_cell BKga.out 9).trans rfl; have cga_10 : w2.cell? ⟨ga, 10, none⟩ = some (.slice A10 x.f1.length c10) := (blk_cell BKga.out 10).trans rfl; have cgb_0 : w2.cell? ⟨gb, 0, none⟩ = some (.int .i64 x.f0.f0.f0) := (blk_cell BKgb.out 0).trans rfl; have cgb_1 : w2.cell? ⟨gb, 1, none⟩ = some (.int .i64 x.f0.f0.f1) := (blk_cell BKgb.out 1).trans rfl; have cgb_2 : w2.cell? ⟨gb, 2, none⟩ = some (.int .i64 x.f0.f1.f0) := (blk_cell BKgb.out 2).trans rfl; have cgb_3 : w2.cell? ⟨gb, 3, none⟩ = some (.int .i64 x.f0.f1.f1) := (blk_cell BKgb.out 3).trans rfl; have cgb_4 : w2.cell? ⟨gb, 4, none⟩ = some (.int .i64 x.f0.f2.f0) := (blk_cell BKgb.out 4).trans rfl; have cgb_5 : w2.cell? ⟨gb, 5, none⟩ = some (.int .i64 x.f0.f2.f1) := (blk_cell BKgb.out 5).trans rfl; have cgb_6 : w2.cell? ⟨gb, 6, none⟩ = some (.int .i64 x.f0.f3.f0) := (blk_cell BKgb.out 6).trans rfl; have cgb_7 : w2.cell? ⟨gb, 7, none⟩ = some (.int .i64 x.f0.f3.f1) := (blk_cell BKgb.out 7).trans rfl; have cgb_8 : w2.cell? ⟨gb, 8, none⟩ = some (.int .i64 x.f0.f4.f0) := (blk_cell BKgb.out 8).trans rfl; have cgb_9 : w2.cell? ⟨gb, 9, none⟩ = some (.int .i64 x.f0.f4.f1) := (blk_cell BKgb.out 9).trans rfl; have cgb_10 : w2.cell? ⟨gb, 10, none⟩ = some (.slice B10 x.f1.length d10) := (blk_cell BKgb.out 10).trans rfl; clear hb)
    | (go_at_call 35; (with_reducible refine (Fi.eqBc (Kd.C_below G10.out HB.out) K10.out (Kd.C_below F10.out HB.out) L10.out rfl Q1.out).mono ?_); rintro r w3 ⟨rfl, hb⟩; have n0_ := Aside0.mk (below_step HB.out hb); have n1_ := Aside0.mk (blk_below BKga.out hb); have n2_ := Aside0.mk (blk_below BKgb.out hb); clear HB BKga BKgb; have HB := n0_; have BKga := n1_; have BKgb := n2_; clear n0_ n1_ n2_; have cga_11 : w3.cell? ⟨ga, 11, none⟩ = some (.slice A11 x.f2.length c11) := (blk_cell BKga.out 11).trans rfl; have cgb_11 : w3.cell? ⟨gb, 11, none⟩ = some (.slice B11 x.f2.length d11) := (blk_cell BKgb.out 11).trans rfl; clear hb)
    | (go_at_call 35; (with_reducible refine (Fi.eqBc (Kd.C_below G11.out HB.out) K11.out (Kd.C_below F11.out HB.out) L11.out rfl Q2.out).mono ?_); rintro r w4 ⟨rfl, hb⟩; have n0_ := Aside0.mk (below_step HB.out hb); have n1_ := Aside0.mk (blk_below BKga.out hb); have n2_ := Aside0.mk (blk_below BKgb.out hb); clear HB BKga BKgb; have HB := n0_; have BKga := n1_; have BKgb := n2_; clear n0_ n1_ n2_; have cga_12 : w4.cell? ⟨ga, 12, none⟩ = some (.slice A12 x.f3.length c12) := (blk_cell BKga.out 12).trans rfl; have cgb_12 : w4.cell? ⟨gb, 12, none⟩ = some (.slice B12 x.f3.length d12) := (blk_cell BKgb.out 12).trans rfl; clear hb)
    | (go_at_call 37; (with_reducible refine (Fi.eqWc (Kd.C_below G12.out HB.out) K12.out (Kd.C_below F12.out HB.out) L12.out (decide_eq_true rfl) Q3.out).mono ?_); rintro r w5 ⟨rfl, hb⟩; have n0_ := Aside0.mk (below_step HB.out hb); have n1_ := Aside0.mk (blk_below BKga.out hb); have n2_ := Aside0.mk (blk_below BKgb.out hb); clear HB BKga BKgb; have HB := n0_; have BKga := n1_; have BKgb := n2_; clear n0_ n1_ n2_; have cga_13 : w5.cell? ⟨ga, 13, none⟩ = some (.slice A13 x.f4.length c13) := (blk_cell BKga.out 13).trans rfl; have cgb_13 : w5.cell? ⟨gb, 13, none⟩ = some (.slice B13 x.f4.length d13) := (blk_cell BKgb.out 13).trans rfl; clear hb)
    | (go_at_call 37; (with_reducible refine (Fi.eqWc (Kd.C_below G13.out HB.out) K13.out (Kd.C_below F13.out HB.out) L13.out (decide_eq_true rfl) Q4.out).mono ?_); rintro r w6 ⟨rfl, hb⟩; have n0_ := Aside0.mk (below_step HB.out hb); have n1_ := Aside0.mk (blk_below BKga.out hb); have n2_ := Aside0.mk (blk_below BKgb.out hb); clear HB BKga BKgb; have HB := n0_; have BKga := n1_; have BKgb := n2_; clear n0_ n1_ n2_; skip; clear hb))
  go_ret
  exact ⟨rfl, HB.out⟩
set_option maxHeartbeats 8000000 in
set_option maxRecDepth 100000 in
theorem Fi.same_no {w : World} {cs ds : Array Value} {x y : S31} (h : Fi.V w cs x) (h2 : Fi.V w ds y) (hf : Fi.Fit x) (e0 : y.f0 = x.f0) (e1 : y.f1 = x.f1) (e2 : y.f2 = x.f2) (e3 : x.f3 ≠ y.f3) : Calls Try.prog 17 #[.agg cs, .agg ds] w fun e w' => e = .returned (.bool false) ∧ Below w.heap.size w w' := by
  obtain ⟨y0, y1, y2, y3, y4⟩ := y
  simp only at e0 e1 e2 e3
  subst e0 e1 e2
  obtain ⟨A10, c10, A11, c11, A12, c12, A13, c13, rfl, k10, g10, k11, g11, k12, g12, k13, g13⟩ := Fi.open h
  obtain ⟨B10, d10, B11, d11, B12, d12, B13, d13, rfl, l10, f10, l11, f11, l12, f12, l13, f13⟩ := Fi.open h2
  have K10 := Aside0.mk k10
  have G10 := Aside0.mk g10
  have L10 := Aside0.mk l10
  have F10 := Aside0.mk f10
  have K11 := Aside0.mk k11
  have G11 := Aside0.mk g11
  have L11 := Aside0.mk l11
  have F11 := Aside0.mk f11
  have K12 := Aside0.mk k12
  have G12 := Aside0.mk g12
  have L12 := Aside0.mk l12
  have F12 := Aside0.mk f12
  have K13 := Aside0.mk k13
  have G13 := Aside0.mk g13
  have L13 := Aside0.mk l13
  have F13 := Aside0.mk f13
  obtain ⟨q1, q2, q3, q4⟩ := hf
  have Q1 := Aside0.mk (show x.f1.length ≤ 1000000 by omega)
  have Q2 := Aside0.mk (show x.f2.length ≤ 1000000 by omega)
  have Q3 := Aside0.mk (show x.f3.length ≤ 1000000 by omega)
  have Q4 := Aside0.mk (show x.f4.length ≤ 1000000 by omega)
  have E3 := Aside0.mk e3
  clear e3
  clear h h2 q1 q2 q3 q4 k10 g10 l10 f10 k11 g11 l11 f11 k12 g12 l12 f12 k13 g13 l13 f13
  have hu := Try.underlying31
  have hu25 := Try.underlying25
  have hu23 := Try.underlying23
  have HB := Aside0.mk (Below.refl w.heap.size w)
  go_enter Try.func17, Try.ntmps17
  go_wp2_with (first
    | ((with_reducible refine gate_dst (N := 2) rfl ?_); refine box_event ?hg (N := 2) ?hd (cs := #[.int .i64 x.f0.f0.f0, .int .i64 x.f0.f0.f1, .int .i64 x.f0.f1.f0, .int .i64 x.f0.f1.f1, .int .i64 x.f0.f2.f0, .int .i64 x.f0.f2.f1, .int .i64 x.f0.f3.f0, .int .i64 x.f0.f3.f1, .int .i64 x.f0.f4.f0, .int .i64 x.f0.f4.f1, .slice A10 x.f1.length c10, .slice A11 x.f2.length c11, .slice A12 x.f3.length c12, .slice A13 x.f4.length c13]) (t := 31) ?hr ?_; (case hd => rfl); (case hg => rfl); (case hr => first | (go_simp; done) | (go_simp; rfl)); intro ga hg w1 hbox hb; have GEga := Aside0.mk ((by rw [hg]; exact HB.out.size) : w.heap.size ≤ ga); have BKga := Aside0.mk hbox; clear hbox hg; have n0_ := Aside0.mk (below_step HB.out hb); clear HB; have HB := n0_; clear n0_; skip; clear hb)
    | ((with_reducible refine gate_dst (N := 3) rfl ?_); refine box_event ?hg (N := 3) ?hd (cs := #[.int .i64 x.f0.f0.f0, .int .i64 x.f0.f0.f1, .int .i64 x.f0.f1.f0, .int .i64 x.f0.f1.f1, .int .i64 x.f0.f2.f0, .int .i64 x.f0.f2.f1, .int .i64 x.f0.f3.f0, .int .i64 x.f0.f3.f1, .int .i64 x.f0.f4.f0, .int .i64 x.f0.f4.f1, .slice B10 x.f1.length d10, .slice B11 x.f2.length d11, .slice B12 y3.length d12, .slice B13 y4.length d13]) (t := 31) ?hr ?_; (case hd => rfl); (case hg => rfl); (case hr => first | (go_simp; done) | (go_simp; rfl)); intro gb hg w2 hbox hb; have GEgb := Aside0.mk ((by rw [hg]; exact HB.out.size) : w.heap.size ≤ gb); have BKgb := Aside0.mk hbox; clear hbox hg; have n0_ := Aside0.mk (below_step HB.out hb); have n1_ := Aside0.mk (blk_below BKga.out hb); clear HB BKga; have HB := n0_; have BKga := n1_; clear n0_ n1_; have cga_0 : w2.cell? ⟨ga, 0, none⟩ = some (.int .i64 x.f0.f0.f0) := (blk_cell BKga.out 0).trans rfl; have cga_1 : w2.cell? ⟨ga, 1, none⟩ = some (.int .i64 x.f0.f0.f1) := (blk_cell BKga.out 1).trans rfl; have cga_2 : w2.cell? ⟨ga, 2, none⟩ = some (.int .i64 x.f0.f1.f0) := (blk_cell BKga.out 2).trans rfl; have cga_3 : w2.cell? ⟨ga, 3, none⟩ = some (.int .i64 x.f0.f1.f1) := (blk_cell BKga.out 3).trans rfl; have cga_4 : w2.cell? ⟨ga, 4, none⟩ = some (.int .i64 x.f0.f2.f0) := (blk_cell BKga.out 4).trans rfl; have cga_5 : w2.cell? ⟨ga, 5, none⟩ = some (.int .i64 x.f0.f2.f1) := (blk_cell BKga.out 5).trans rfl; have cga_6 : w2.cell? ⟨ga, 6, none⟩ = some (.int .i64 x.f0.f3.f0) := (blk_cell BKga.out 6).trans rfl; have cga_7 : w2.cell? ⟨ga, 7, none⟩ = some (.int .i64 x.f0.f3.f1) := (blk_cell BKga.out 7).trans rfl; have cga_8 : w2.cell? ⟨ga, 8, none⟩ = some (.int .i64 x.f0.f4.f0) := (blk_cell BKga.out 8).trans rfl; have cga_9 : w2.cell? ⟨ga, 9, none⟩ = some (.int .i64 x.f0.f4.f1) := (blk_cell BKga.out 9).trans rfl; have cga_10 : w2.cell? ⟨ga, 10, none⟩ = some (.slice A10 x.f1.length c10) := (blk_cell BKga.out 10).trans rfl; have cgb_0 : w2.cell? ⟨gb, 0, none⟩ = some (.int .i64 x.f0.f0.f0) := (blk_cell BKgb.out 0).trans rfl; have cgb_1 : w2.cell? ⟨gb, 1, none⟩ = some (.int .i64 x.f0.f0.f1) := (blk_cell BKgb.out 1).trans rfl; have cgb_2 : w2.cell? ⟨gb, 2, none⟩ = some (.int .i64 x.f0.f1.f0) := (blk_cell BKgb.out 2).trans rfl; have cgb_3 : w2.cell? ⟨gb, 3, none⟩ = some (.int .i64 x.f0.f1.f1) := (blk_cell BKgb.out 3).trans rfl; have cgb_4 : w2.cell? ⟨gb, 4, none⟩ = some (.int .i64 x.f0.f2.f0) := (blk_cell BKgb.out 4).trans rfl; have cgb_5 : w2.cell? ⟨gb, 5, none⟩ = some (.int .i64 x.f0.f2.f1) := (blk_cell BKgb.out 5).trans rfl; have cgb_6 : w2.cell? ⟨gb, 6, none⟩ = some (.int .i64 x.f0.f3.f0) := (blk_cell BKgb.out 6).trans rfl; have cgb_7 : w2.cell? ⟨gb, 7, none⟩ = some (.int .i64 x.f0.f3.f1) := (blk_cell BKgb.out 7).trans rfl; have cgb_8 : w2.cell? ⟨gb, 8, none⟩ = some (.int .i64 x.f0.f4.f0) := (blk_cell BKgb.out 8).trans rfl; have cgb_9 : w2.cell? ⟨gb, 9, none⟩ = some (.int .i64 x.f0.f4.f1) := (blk_cell BKgb.out 9).trans rfl; have cgb_10 : w2.cell? ⟨gb, 10, none⟩ = some (.slice B10 x.f1.length d10) := (blk_cell BKgb.out 10).trans rfl; clear hb)
    | (go_at_call 35; (with_reducible refine (Fi.eqBc (Kd.C_below G10.out HB.out) K10.out (Kd.C_below F10.out HB.out) L10.out rfl Q1.out).mono ?_); rintro r w3 ⟨rfl, hb⟩; have n0_ := Aside0.mk (below_step HB.out hb); have n1_ := Aside0.mk (blk_below BKga.out hb); have n2_ := Aside0.mk (blk_below BKgb.out hb); clear HB BKga BKgb; have HB := n0_; have BKga := n1_; have BKgb := n2_; clear n0_ n1_ n2_; have cga_11 : w3.cell? ⟨ga, 11, none⟩ = some (.slice A11 x.f2.length c11) := (blk_cell BKga.out 11).trans rfl; have cgb_11 : w3.cell? ⟨gb, 11, none⟩ = some (.slice B11 x.f2.length d11) := (blk_cell BKgb.out 11).trans rfl; clear hb)
    | (go_at_call 35; (with_reducible refine (Fi.eqBc (Kd.C_below G11.out HB.out) K11.out (Kd.C_below F11.out HB.out) L11.out rfl Q2.out).mono ?_); rintro r w4 ⟨rfl, hb⟩; have n0_ := Aside0.mk (below_step HB.out hb); have n1_ := Aside0.mk (blk_below BKga.out hb); have n2_ := Aside0.mk (blk_below BKgb.out hb); clear HB BKga BKgb; have HB := n0_; have BKga := n1_; have BKgb := n2_; clear n0_ n1_ n2_; have cga_12 : w4.cell? ⟨ga, 12, none⟩ = some (.slice A12 x.f3.length c12) := (blk_cell BKga.out 12).trans rfl; have cgb_12 : w4.cell? ⟨gb, 12, none⟩ = some (.slice B12 y3.length d12) := (blk_cell BKgb.out 12).trans rfl; clear hb)
    | (go_at_call 37; (with_reducible refine (Fi.eqWc (Kd.C_below G12.out HB.out) K12.out (Kd.C_below F12.out HB.out) L12.out (decide_eq_false E3.out) Q3.out).mono ?_); rintro r w5 ⟨rfl, hb⟩; have n0_ := Aside0.mk (below_step HB.out hb); have n1_ := Aside0.mk (blk_below BKga.out hb); have n2_ := Aside0.mk (blk_below BKgb.out hb); clear HB BKga BKgb; have HB := n0_; have BKga := n1_; have BKgb := n2_; clear n0_ n1_ n2_; skip; clear hb))
  go_ret
  exact ⟨rfl, HB.out⟩
theorem Fi.few {w : World} {cs : Array Value} {x : S31} (h : Fi.V w cs x) (hf : x.f1.length ≤ 140737488351232 ∧ x.f2.length ≤ 140737488351232 ∧ x.f3.length ≤ 140737488351232 ∧ x.f4.length ≤ 140737488351232) {y : Bool} (hy : decide (x.f1.length + x.f2.length + x.f3.length + x.f4.length ≤ 4000) = y) : Calls Try.prog 9 #[.agg cs] w fun e w' => e = .returned (.bool y) ∧ Below w.heap.size w w' := by
  obtain ⟨A10, c10, A11, c11, A12, c12, A13, c13, rfl, l10, g10, l11, g11, l12, g12, l13, g13⟩ := Fi.open h
  exact bilgeref14_Few.calls _ _ _ _ _ _ _ _ _ _ _ _ x.f1 _ _ x.f2 _ _ x.f3 _ _ x.f4 y w g10 l10 g11 l11 g12 l12 g13 l13 (hy ▸ few_eq _ _ _ _ _ _ _ _ _ _ hf.1 hf.2.1 hf.2.2.1 hf.2.2.2)
theorem Fi.cwordsE {w : World} {cs : Array Value} {x : S31} (h : Fi.V w cs x) (i : Bool) {p n : Int} (hp : I64 p) (hn : I64 n) {L : List Int} {E : Int} (he : Fi.words x i p n = (L, E)) : Calls Try.prog 18 #[.agg cs, .bool i, .int .i64 p, .int .i64 n] w fun e w' => ∃ v, e = .returned (.tuple #[v, .int .i64 E]) ∧ (Kd.int .u16).R 53 w' w.heap.size (fun _ => True) v L ∧ Below w.heap.size w w' := by
  have hh := Fi.cwords h i hp hn
  rw [he] at hh
  exact hh
theorem Fi.cbitsE {w : World} {cs : Array Value} {x : S31} (h : Fi.V w cs x) (i : Bool) {p n : Int} (hp : I64 p) (hn : I64 n) {L : List Bool} {E : Int} (he : Fi.bits x i p n = (L, E)) : Calls Try.prog 12 #[.agg cs, .bool i, .int .i64 p, .int .i64 n] w fun e w' => ∃ v, e = .returned (.tuple #[v, .int .i64 E]) ∧ Kd.bool.R 4 w' w.heap.size (fun _ => True) v L ∧ Below w.heap.size w w' := by
  have hh := Fi.cbits h i hp hn
  rw [he] at hh
  exact hh
theorem Fi.csetWordsE {w : World} {cs : Array Value} {x y : S31} (h : Fi.V w cs x) {A : Option Addr} {c : Nat} {m : List Int} (hr : (Kd.int .u16).C w A m.length m) (hc : m.length ≤ c) {p E : Int} (hp0 : I64 p) (he : Fi.setWords x p m = (y, E)) : Calls Try.prog 16 #[.agg cs, .int .i64 p, .slice A m.length c] w fun e w' => ∃ cs', e = .returned (.tuple #[.agg cs', .int .i64 E]) ∧ Fi.N w' w.heap.size cs' y ∧ Below w.heap.size w w' := by
  have hh := Fi.csetWords h hr hc hp0
  rw [he] at hh
  exact hh.mono (fun e w' ⟨cs', h1, h2, h3⟩ => ⟨cs', h1, h2, h3⟩)
theorem Fi.csetBitsE {w : World} {cs : Array Value} {x y : S31} (h : Fi.V w cs x) {A : Option Addr} {c : Nat} {m : List Bool} (hr : Kd.bool.C w A m.length m) (hc : m.length ≤ c) {p E : Int} (hp0 : I64 p) (he : Fi.setBits x p m = (y, E)) : Calls Try.prog 11 #[.agg cs, .int .i64 p, .slice A m.length c] w fun e w' => ∃ cs', e = .returned (.tuple #[.agg cs', .int .i64 E]) ∧ Fi.N w' w.heap.size cs' y ∧ Below w.heap.size w w' := by
  have hh := Fi.csetBits h hr hc hp0
  rw [he] at hh
  exact hh.mono (fun e w' ⟨cs', h1, h2, h3⟩ => ⟨cs', h1, h2, h3⟩)
theorem Fi.csenseE {w : World} {cs : Array Value} {x y : S31} (h : Fi.V w cs x) (ws : Bool) {p v E : Int} (hp0 : I64 p) (hv0 : I64 v) (he : Fi.sense x ws p v = (y, E)) : Calls Try.prog 20 #[.agg cs, .bool ws, .int .i64 p, .int .i64 v] w fun e w' => ∃ cs', e = .returned (.tuple #[.agg cs', .int .i64 E]) ∧ Fi.N w' w.heap.size cs' y ∧ Below w.heap.size w w' := by
  have hh := Fi.csense h ws hp0 hv0
  rw [he] at hh
  exact hh.mono (fun e w' ⟨cs', h1, h2, h3⟩ => ⟨cs', h1, h2, h3⟩)
theorem Fi.cnewE {a0 a1 a2 a3 a4 a5 a6 a7 a8 a9 : Int} {w : World} {y : S31} {E : Int} (he : Fi.new a0 a1 a2 a3 a4 a5 a6 a7 a8 a9 = y) (hE : (if BankP a0 a1 a2 a3 a4 a5 a6 a7 a8 a9 then (0 : Int) else 11) = E) : Calls Try.prog 8 #[.agg #[.int .i64 a0, .int .i64 a1, .int .i64 a2, .int .i64 a3, .int .i64 a4, .int .i64 a5, .int .i64 a6, .int .i64 a7, .int .i64 a8, .int .i64 a9]] w fun e w' => ∃ cs', e = .returned (.tuple #[.agg cs', .int .i64 E]) ∧ Fi.N w' w.heap.size cs' y ∧ Below w.heap.size w w' := by
  subst he
  subst hE
  exact Fi.cnew.mono (fun e w' ⟨cs', h1, h2, h3⟩ => ⟨cs', h1, h2, h3⟩)
theorem Fi.copyE {w : World} {cs : Array Value} {x : S31} (h : Fi.V w cs x) (hf : Fi.Fit x) : Calls Try.prog 10 #[.agg cs] w fun e w' => ∃ cs', e = .returned (.agg cs') ∧ Fi.N w' w.heap.size cs' x ∧ Below w.heap.size w w' := (Fi.copy h hf).mono (fun e w' ⟨cs', h1, h2, h3⟩ => ⟨cs', h1, h2, h3⟩)
theorem Fi.openN {w : World} {b : Nat} {cs : Array Value} {x : S31} (h : Fi.N w b cs x) : ∃ v10 v11 v12 v13, cs = #[.int .i64 x.f0.f0.f0, .int .i64 x.f0.f0.f1, .int .i64 x.f0.f1.f0, .int .i64 x.f0.f1.f1, .int .i64 x.f0.f2.f0, .int .i64 x.f0.f2.f1, .int .i64 x.f0.f3.f0, .int .i64 x.f0.f3.f1, .int .i64 x.f0.f4.f0, .int .i64 x.f0.f4.f1, v10, v11, v12, v13] ∧ Kd.bool.R 4 w b (fun _ => True) v10 x.f1 ∧ Kd.bool.R 4 w b (fun _ => True) v11 x.f2 ∧ (Kd.int .u16).R 53 w b (fun _ => True) v12 x.f3 ∧ (Kd.int .u16).R 53 w b (fun _ => True) v13 x.f4 := by
  obtain ⟨v10, v11, v12, v13, e, r⟩ := k31_openM h
  exact ⟨v10, v11, v12, v13, by rw [← Array.toArray_toList (xs := cs), e], r⟩

end Go.Proofs.Ytamcpmfimicnjaa.P
