import Derived.Test.YtedfbemifigoeaaX
import Derived.Test.YtedfbemifigoeaaAa
import Derived.Test.YtedfbemifigoeaaAc
import Derived.Test.YtedfbemifigoeaaAd
import Derived.Test.YtedfbemifigoeaaLWord
import Derived.Test.YtedfbemifigoeaaLBits
import Derived.Test.YtedfbemifigoeaaPx1
namespace Go.Proofs.Ytedfbemifigoeaa.P
open Go.RowKit Go.Proofs.YtedfbemifigoeaaW.PrintWords Go.Proofs.YtedfbemifigoeaaW.PrintLast Go.Proofs.YtedfbemifigoeaaW.PrintMore
attribute [local go_sem] max2_int min2_int max_two min_two max_three min_three max_four min_four   -- for this text's walks alone
set_option linter.unusedVariables false
set_option linter.unusedSimpArgs false

open Go.Proofs.Ytedfbemifigoeaa.L

def As.rn (l : List Int) (ok : Bool) : Int × List Int × Bool := if 2 ≤ l.length then (rd l 0 * 256 + rd l 1, l.drop 2, ok) else (0, [], false)
theorem As.ats {A : Option Addr} {c : Nat} {l : List Int} {w : World} (hr : (Kd.int .u8).C w A l.length l) (hc : l.length ≤ c) (h8 : ∀ x ∈ l, U8 x) (hl : l.length ≤ 1000000) {n : Int} {b : Bool} (he : atS l 0 = (n, b)) : Calls Try.prog 74 #[.slice A l.length c, .int .i64 0] w fun e w' => e = .returned (.tuple #[.int .u16 n, .bool b]) ∧ Below w.heap.size w w' :=
  (word_At.calls A c l 0 n b w hr hc ((at_eq h8 (by omega) (by decide)).trans (congrArg some he))).mono (fun e w' hh => ⟨hh.1, hh.2.below⟩)
def As.Rd (w0 w : World) (g : Nat) (l : List Int) (ok : Bool) : Prop := ∃ A c, w.heap[g]? = some (.cells #[.slice A l.length c, .bool ok] 77 (0, 0)) ∧ l.length ≤ c ∧ (Kd.int .u8).C w0 A l.length l
set_option maxHeartbeats 4000000 in
set_option maxRecDepth 100000 in
theorem As.num1 {w0 w : World} {g : Nat} {l : List Int} {ok : Bool} (hg : As.Rd w0 w g l ok) (hb : Below w0.heap.size w0 w) (hbg : w0.heap.size ≤ g) (h8 : ∀ x ∈ l, U8 x) (hl : l.length ≤ 1000000) : Calls Try.prog 52 #[.pointer (some ⟨g, 0, none⟩)] w fun e w' => e = .returned (.int .i64 (As.rn l ok).1) ∧ As.Rd w0 w' g (As.rn l ok).2.1 (As.rn l ok).2.2 ∧ Below w0.heap.size w0 w' ∧ (∀ q, q < w.heap.size → q ≠ g → w'.heap[q]? = w.heap[q]?) ∧ w.heap.size ≤ w'.heap.size := by
  obtain ⟨A, c, hg, hc, hr⟩ := hg
  have BKg := Aside0.mk hg
  have HR := Aside0.mk hr
  have HC := Aside0.mk hc
  have HB := Aside0.mk hb
  have HBG := Aside0.mk hbg
  have H8 := Aside0.mk h8
  have HL := Aside0.mk hl
  have HK := Aside0.mk (show ∀ q, q < w.heap.size → q ≠ g → w.heap[q]? = w.heap[q]? from fun _ _ _ => rfl)
  have HS := Aside0.mk (Nat.le_refl w.heap.size)
  have hu := Try.underlying77
  have hu8 := Try.underlying28
  clear hg hr hb hbg h8 hl
  have cg := fun i => blk_cell BKg.out i
  by_cases h2 : 2 ≤ l.length
  · have he : atS l 0 = (rd l 0 * 256 + rd l 1, true) := if_pos ⟨by decide, by omega⟩
    rw [show As.rn l ok = (rd l 0 * 256 + rd l 1, l.drop 2, ok) from if_pos h2]
    have hw9 : IntKind.i64.wrap (rd l 0 * 256 + rd l 1) = rd l 0 * 256 + rd l 1 := by have a1 := rd_all H8.out (i := 0) (by omega) (by omega); have a2 := rd_all H8.out (i := 1) (by omega) (by omega); rw [i64_w]; exact w64 (by unfold U8 at a1 a2; omega)
    have hC := Aside0.mk (Kd.C_drop (m := 2) HR.out h2 HC.out)
    go_enter Try.func52, Try.ntmps52
    go_wp2_with (first
      | (go_at_call 74; (with_reducible refine (As.ats (Kd.C_below HR.out HB.out) HC.out H8.out HL.out he).mono ?_); rintro r w2 ⟨rfl, hb⟩; have n0_ := Aside0.mk (below_step HB.out hb); have n1_ := Aside0.mk (fun q h1 h2 => (hb.block q (Nat.lt_of_lt_of_le h1 HS.out)).trans (HK.out q h1 h2)); have n2_ := Aside0.mk (Nat.le_trans HS.out hb.size); have n3_ := Aside0.mk (blk_below BKg.out hb); clear HB HK HS BKg hb cg; have HB := n0_; have HK := n1_; have HS := n2_; have BKg := n3_; clear n0_ n1_ n2_ n3_; have cg := fun i => blk_cell BKg.out i)
      | ((with_reducible refine gate_store rfl ?_); refine As.store_cell rfl rfl g ?_ ?_ 77 _ BKg.out ?hr ?_; (case hr => (have hs_ := fun i => blk_cell BKg.out i); (have hf_ := fun i => blk_frozen BKg.out i); first | (go_simp; done) | (go_simp; rfl)); intro w3 hgb hgr; simp only [List.setIfInBounds_toArray, List.set_cons_zero, List.set_cons_succ] at hgb; have n0_ := Aside0.mk (HB.out.grown hgr HB.out.size (fun k hk => by cases hk; exact HBG.out)); have n1_ := Aside0.mk (fun q h1 h2 => (hgr.block q (Nat.lt_of_lt_of_le h1 HS.out) (fun he => h2 (Option.some.inj he))).trans (HK.out q h1 h2)); have n2_ := Aside0.mk (Nat.le_trans HS.out hgr.size); clear HB HK HS; have HB := n0_; have HK := n1_; have HS := n2_; clear n0_ n1_ n2_; clear BKg hgr; have BKg := Aside0.mk hgb; clear hgb; (try clear cg); have cg := fun i => blk_cell BKg.out i))
    all_goals
      go_ret
      exact ⟨rfl, ⟨_, _, by rw [List.length_drop]; exact BKg.out, by rw [List.length_drop]; omega, hC.out⟩, HB.out, HK.out, HS.out⟩
  · have he : atS l 0 = (0, false) := if_neg (by omega)
    rw [show As.rn l ok = (0, [], false) from if_neg h2]
    go_enter Try.func52, Try.ntmps52
    go_wp2_with (first
      | (go_at_call 74; (with_reducible refine (As.ats (Kd.C_below HR.out HB.out) HC.out H8.out HL.out he).mono ?_); rintro r w2 ⟨rfl, hb⟩; have n0_ := Aside0.mk (below_step HB.out hb); have n1_ := Aside0.mk (fun q h1 h2 => (hb.block q (Nat.lt_of_lt_of_le h1 HS.out)).trans (HK.out q h1 h2)); have n2_ := Aside0.mk (Nat.le_trans HS.out hb.size); have n3_ := Aside0.mk (blk_below BKg.out hb); clear HB HK HS BKg hb cg; have HB := n0_; have HK := n1_; have HS := n2_; have BKg := n3_; clear n0_ n1_ n2_ n3_; have cg := fun i => blk_cell BKg.out i)
      | ((with_reducible refine gate_store rfl ?_); refine As.store_cell rfl rfl g ?_ ?_ 77 _ BKg.out ?hr ?_; (case hr => (have hs_ := fun i => blk_cell BKg.out i); (have hf_ := fun i => blk_frozen BKg.out i); first | (go_simp; done) | (go_simp; rfl)); intro w3 hgb hgr; simp only [List.setIfInBounds_toArray, List.set_cons_zero, List.set_cons_succ] at hgb; have n0_ := Aside0.mk (HB.out.grown hgr HB.out.size (fun k hk => by cases hk; exact HBG.out)); have n1_ := Aside0.mk (fun q h1 h2 => (hgr.block q (Nat.lt_of_lt_of_le h1 HS.out) (fun he => h2 (Option.some.inj he))).trans (HK.out q h1 h2)); have n2_ := Aside0.mk (Nat.le_trans HS.out hgr.size); clear HB HK HS; have HB := n0_; have HK := n1_; have HS := n2_; clear n0_ n1_ n2_; clear BKg hgr; have BKg := Aside0.mk hgb; clear hgb; (try clear cg); have cg := fun i => blk_cell BKg.out i))
    go_ret
    exact ⟨rfl, ⟨none, 0, BKg.out, Nat.le_refl _, Kd.C_nil _ _⟩, HB.out, HK.out, HS.out⟩

theorem As.Rd_grown {w0 w w1 : World} {g gi : Nat} {l : List Int} {ok : Bool} (h : As.Rd w0 w g l ok) (hgr : w.grownBy w1 (some gi)) (hne : gi ≠ g) : As.Rd w0 w1 g l ok := by
  obtain ⟨A, c, h1, h2, h3⟩ := h
  exact ⟨A, c, blk_grown h1 hgr (fun he => hne (Option.some.inj he).symm), h2, h3⟩
theorem As.rn_u8 {l : List Int} {ok : Bool} (h : ∀ x ∈ l, U8 x) : ∀ x ∈ (As.rn l ok).2.1, U8 x := by
  unfold As.rn
  split
  · exact fun x hx => h x (List.mem_of_mem_drop hx)
  · intro x hx; cases hx
theorem As.rn_len {l : List Int} {ok : Bool} : (As.rn l ok).2.1.length ≤ l.length := by
  unfold As.rn
  split
  · simp
  · simp
set_option maxHeartbeats 4000000 in
set_option maxRecDepth 100000 in
theorem As.place {w0 w : World} {g gi : Nat} {l : List Int} {f : Int} (hg : As.Rd w0 w g l true) (hi : w.heap[gi]? = some (.cells #[.int .i64 f, .int .i64 0, .int .i64 0, .int .i64 0, .int .i64 0, .int .i64 0, .int .i64 0, .int .i64 0, .slice none 0 0, .slice none 0 0] 74 (0, 0))) (hb : Below w0.heap.size w0 w) (hbg : w0.heap.size ≤ g) (hbi : w0.heap.size ≤ gi) (hne : gi ≠ g) (h8 : ∀ x ∈ l, U8 x) (hl : l.length ≤ 1000000) :
    Calls Try.prog 68 #[.pointer (some ⟨gi, 0, none⟩), .func (.func 52) #[.pointer (some ⟨g, 0, none⟩)] #[], .pointer (some ⟨g, 0, none⟩)] w fun e w' => e = .returned (.tuple #[]) ∧ As.Rd w0 w' g (As.rn (As.rn l true).2.1 (As.rn l true).2.2).2.1 (As.rn (As.rn l true).2.1 (As.rn l true).2.2).2.2 ∧ w'.heap[gi]? = some (.cells #[.int .i64 f, .int .i64 (As.rn l true).1, .int .i64 (As.rn (As.rn l true).2.1 (As.rn l true).2.2).1, .int .i64 0, .int .i64 0, .int .i64 0, .int .i64 0, .int .i64 0, .slice none 0 0, .slice none 0 0] 74 (0, 0)) ∧ Below w0.heap.size w0 w' ∧ (∀ q, q < w.heap.size → q ≠ g → q ≠ gi → w'.heap[q]? = w.heap[q]?) ∧ w.heap.size ≤ w'.heap.size := by
  have HG := Aside0.mk hg
  have BKgi := Aside0.mk hi
  have HB := Aside0.mk hb
  have HBG := Aside0.mk hbg
  have HBI := Aside0.mk hbi
  have HNE := Aside0.mk hne
  have H8 := Aside0.mk h8
  have HL := Aside0.mk hl
  have HK := Aside0.mk (show ∀ q, q < w.heap.size → q ≠ g → q ≠ gi → w.heap[q]? = w.heap[q]? from fun _ _ _ _ => rfl)
  have HS := Aside0.mk (Nat.le_refl w.heap.size)
  have HIL := Aside0.mk (blk_lt hi)
  have hu := Try.underlying74
  clear hg hi hb hbg hbi hne h8 hl
  go_enter Try.func68, Try.ntmps68
  go_wp2_with (first
    | (go_at_call 52; (with_reducible refine (As.num1 HG.out HB.out HBG.out H8.out HL.out).mono ?_); rintro r w2 ⟨rfl, hg, hb, hk, hs⟩; have n0_ := Aside0.mk ((hk gi (blk_lt BKgi.out) HNE.out).trans BKgi.out); have n1_ := Aside0.mk (fun q h1 h2 h3 => (hk q (Nat.lt_of_lt_of_le h1 HS.out) h2).trans (HK.out q h1 h2 h3)); have n2_ := Aside0.mk (Nat.le_trans HS.out hs); clear HG HB HK HS BKgi hs hk; have HG := Aside0.mk hg; have HB := Aside0.mk hb; have BKgi := n0_; have HK := n1_; have HS := n2_; clear n0_ n1_ n2_ hg hb)
    | (go_at_call 52; (with_reducible refine (As.num1 HG.out HB.out HBG.out (As.rn_u8 H8.out) (Nat.le_trans As.rn_len HL.out)).mono ?_); rintro r w2 ⟨rfl, hg, hb, hk, hs⟩; have n0_ := Aside0.mk ((hk gi (blk_lt BKgi.out) HNE.out).trans BKgi.out); have n1_ := Aside0.mk (fun q h1 h2 h3 => (hk q (Nat.lt_of_lt_of_le h1 HS.out) h2).trans (HK.out q h1 h2 h3)); have n2_ := Aside0.mk (Nat.le_trans HS.out hs); clear HG HB HK HS BKgi hs hk; have HG := Aside0.mk hg; have HB := Aside0.mk hb; have BKgi := n0_; have HK := n1_; have HS := n2_; clear n0_ n1_ n2_ hg hb)
    | ((with_reducible refine gate_store rfl ?_); refine As.store_cell rfl rfl gi ?_ ?_ 74 _ BKgi.out ?hr ?_; (case hr => (have hs_ := fun i => blk_cell BKgi.out i); (have hf_ := fun i => blk_frozen BKgi.out i); first | (go_simp; done) | (go_simp; rfl)); intro w3 hgb hgr; simp only [List.setIfInBounds_toArray, List.set_cons_zero, List.set_cons_succ] at hgb; have n0_ := Aside0.mk (HB.out.grown hgr HB.out.size (fun k hk => by cases hk; exact HBI.out)); have n1_ := Aside0.mk (fun q h1 h2 h3 => (hgr.block q (Nat.lt_of_lt_of_le h1 HS.out) (fun he => h3 (Option.some.inj he))).trans (HK.out q h1 h2 h3)); have n2_ := Aside0.mk (Nat.le_trans HS.out hgr.size); have n3_ := Aside0.mk (As.Rd_grown HG.out hgr HNE.out); clear HB HK HS HG; have HB := n0_; have HK := n1_; have HS := n2_; have HG := n3_; clear n0_ n1_ n2_ n3_; clear BKgi hgr; have BKgi := Aside0.mk hgb; clear hgb; skip))
  go_end0
  exact ⟨rfl, HG.out, BKgi.out, HB.out, HK.out, HS.out⟩

theorem As.zeroI (w : World) : (zeroValue 74).run Try.prog w = .ok (.agg #[.int .i64 0, .int .i64 0, .int .i64 0, .int .i64 0, .int .i64 0, .int .i64 0, .int .i64 0, .int .i64 0, .slice none 0 0, .slice none 0 0]) w := by kernel_rfl
def As.got4 (l : List Int) : S25 := ⟨rd l 0, (As.rn (l.drop 1) true).1, (As.rn (As.rn (l.drop 1) true).2.1 (As.rn (l.drop 1) true).2.2).1, 0, 0, 0, 0, 0, [], []⟩
def As.parse4 (l : List Int) : S25 × Int := if l.length = 0 then (z25, 12) else if As.known (rd l 0) = false then (z25, 1) else if (As.rn (As.rn (l.drop 1) true).2.1 (As.rn (l.drop 1) true).2.2).2.2 = true ∧ (As.rn (As.rn (l.drop 1) true).2.1 (As.rn (l.drop 1) true).2.2).2.1.length = 0 ∧ As.right (As.got4 l) = true then (As.got4 l, 0) else (z25, 3)
set_option maxHeartbeats 16000000 in
set_option maxRecDepth 100000 in
theorem As.parses4 {A : Option Addr} {c : Nat} {l : List Int} {w : World} (hr : (Kd.int .u8).C w A l.length l) (hc : l.length ≤ c) (h8 : ∀ x ∈ l, U8 x) (hl : l.length ≤ 1000000) (h4 : As.known (rd l 0) = true → (rd l 0 == 1 || rd l 0 == 2 || rd l 0 == 3 || rd l 0 == 4) = true) {y : S25} {E : Int} (he : As.parse4 l = (y, E)) : Calls Try.prog 21 #[.slice A l.length c] w fun e w' => ∃ cs', e = .returned (.tuple #[.agg cs', .int .i64 E]) ∧ As.V w' cs' y ∧ Below w.heap.size w w' := by
  have HR := Aside0.mk hr
  have HC := Aside0.mk hc
  have H8 := Aside0.mk h8
  have HL := Aside0.mk hl
  have hu := Try.underlying25
  have hui := Try.underlying74
  have hu8 := Try.underlying28
  have hur := Try.underlying77
  have hz := As.zero
  have hzi := As.zeroI
  have hn1 := As.eq_func
  have hn2 := As.eq_nil
  have HB := Aside0.mk (Below.refl w.heap.size w)
  clear hr h8 hl
  unfold As.parse4 at he
  by_cases q0 : l.length = 0
  · rw [if_pos q0] at he
    obtain ⟨rfl, rfl⟩ := Prod.mk.inj he
    have d0 : decide ((l.length : Int) = 0) = true := decide_eq_true (by omega)
    have d0b : ((l.length : Int) == 0) = true := by simpa using q0
    go_enter Try.func21, Try.ntmps21
    go_wp2_with (first
      | ((with_reducible refine gate_dst (N := 2) rfl ?_); refine box_event ?hg (N := 2) ?hd (cs := As.Z) (t := 25) ?hr ?_; (case hd => rfl); (case hg => rfl); (case hr => first | (go_simp; done) | (go_simp; rfl)); intro g2 hg w1 hbox hb; have GE2 := Aside0.mk ((by rw [hg]; exact HB.out.size) : w.heap.size ≤ g2); have BKg2 := Aside0.mk hbox; clear hbox hg HB; have HB := Aside0.mk (show Below w.heap.size w w1 from hb); clear hb)
      | ((with_reducible refine gate_store rfl ?_); refine As.store_row rfl 25 _ _ rfl g2 _ rfl rfl 25 _ BKg2.out (by kernel_rfl) rfl (by first | kernel_rfl | simp [Value.oneCell']) ?_; intro w9 hgb hgr; have n0_ := Aside0.mk (HB.out.grown hgr HB.out.size (fun k hk => by cases hk; exact GE2.out)); clear HB; have HB := n0_; clear n0_; clear BKg2 hgr; have BKg2 := Aside0.mk hgb; clear hgb; skip))
    all_goals
      refine bodyPost_ret (results_ct rfl _ _ g2 25 _ (0, 0) _ rfl BKg2.out hu rfl (by kernel_rfl)) rfl ?_
      exact ⟨_, rfl, As.V_zero _, HB.out⟩
  rw [if_neg q0] at he
  have d0b : ((l.length : Int) == 0) = false := by simpa using q0
  obtain ⟨ad, ea, hx⟩ := Kd.at_int HR.out 0 (by omega) (by omega)
  have HX := Aside0.mk (show w.cell? ad = some (.int .u8 (rd l 0)) from hx)
  clear hx
  have hpos : (0 : Int) < (l.length : Int) := by omega
  have hub := rd_all H8.out (i := 0) (by omega) (by omega)
  have hw0 : IntKind.i64.wrap (rd l 0) = rd l 0 := by rw [i64_w]; exact w64 (by unfold U8 at hub; omega)
  have hd1 := Aside0.mk (Kd.C_drop (m := 1) HR.out (by omega) HC.out)
  clear hub
  subst ea
  cases qk : As.known (rd l 0) with
  | false =>
    rw [if_pos qk] at he
    obtain ⟨rfl, rfl⟩ := Prod.mk.inj he
    have hv : As.take (rd l 0) = .nilFunc := by
      simp only [As.known, Bool.or_eq_false_iff] at qk
      simp only [As.take, qk, Bool.false_or, Bool.or_false, Bool.true_or, Bool.or_true, Bool.false_eq_true, if_true, if_false]
    go_enter Try.func21, Try.ntmps21
    go_wp2_with (first
      | ((with_reducible refine gate_dst (N := 2) rfl ?_); refine box_event ?hg (N := 2) ?hd (cs := As.Z) (t := 25) ?hr ?_; (case hd => rfl); (case hg => rfl); (case hr => first | (go_simp; done) | (go_simp; rfl)); intro g2 hg w1 hbox hb; have GE2 := Aside0.mk ((by rw [hg]; exact HB.out.size) : w.heap.size ≤ g2); have BKg2 := Aside0.mk hbox; clear hbox hg HB; have HB := Aside0.mk (show Below w.heap.size w w1 from hb); clear hb; have hx1 := pw_cell_below HB.out HX.out)
      | ((with_reducible refine gate_dst (N := 4) rfl ?_); refine box_event ?hg (N := 4) ?hd (cs := As.Z) (t := 74) ?hr ?_; (case hd => rfl); (case hg => rfl); (case hr => first | (go_simp; done) | (go_simp; rfl)); intro gi hg w2 hbox hb; have GEi := Aside0.mk ((by rw [hg]; exact HB.out.size) : w.heap.size ≤ gi); have LT2i := Aside0.mk (show g2 < gi by rw [hg]; exact blk_lt BKg2.out); have BKgi := Aside0.mk hbox; clear hbox hg; have n0_ := Aside0.mk (below_step HB.out hb); have n1_ := Aside0.mk (blk_below BKg2.out hb); clear HB BKg2; have HB := n0_; have BKg2 := n1_; clear n0_ n1_; clear hb hx1)
      | ((with_reducible refine gate_store rfl ?_); refine As.store_row rfl 74 _ _ rfl gi _ rfl rfl 74 _ BKgi.out (by kernel_rfl) rfl (by first | kernel_rfl | simp [Value.oneCell']) ?_; intro w3 hgb hgr; have n0_ := Aside0.mk (HB.out.grown hgr HB.out.size (fun k hk => by cases hk; exact GEi.out)); have n1_ := Aside0.mk (blk_grown BKg2.out hgr (fun he => (Nat.ne_of_lt LT2i.out) (Option.some.inj he))); clear HB BKg2; have HB := n0_; have BKg2 := n1_; clear n0_ n1_; clear BKgi hgr; have BKgi := Aside0.mk hgb; clear hgb; have cgi := fun i => blk_cell BKgi.out i)
      | (go_at_call 47; (with_reducible refine (As.taker hv).mono ?_); rintro r w4 ⟨rfl, hb⟩; have n0_ := Aside0.mk (below_step HB.out hb); have n1_ := Aside0.mk (blk_below BKg2.out hb); have n2_ := Aside0.mk (blk_below BKgi.out hb); clear HB BKg2 BKgi; have HB := n0_; have BKg2 := n1_; have BKgi := n2_; clear n0_ n1_ n2_; clear hb cgi)
      | ((with_reducible refine gate_store rfl ?_); refine As.store_row rfl 25 _ _ rfl g2 _ rfl rfl 25 _ BKg2.out (by kernel_rfl) rfl (by first | kernel_rfl | simp [Value.oneCell']) ?_; intro w9 hgb hgr; have n0_ := Aside0.mk (HB.out.grown hgr HB.out.size (fun k hk => by cases hk; exact GE2.out)); clear HB; have HB := n0_; clear n0_; clear BKg2 hgr; have BKg2 := Aside0.mk hgb; clear hgb; skip))
    all_goals
      refine bodyPost_ret (results_ct rfl _ _ g2 25 _ (0, 0) _ rfl BKg2.out hu rfl (by kernel_rfl)) rfl ?_
      exact ⟨_, rfl, As.V_zero _, HB.out⟩
  | true =>
  rw [if_neg (by rw [qk]; decide)] at he
  have hv : As.take (rd l 0) = .func (.func 68) #[] #[] := by unfold As.take; rw [if_pos (h4 qk)]
  obtain ⟨p1, l1, k1, hm1⟩ : ∃ p1 l1 k1, As.rn (l.drop 1) true = (p1, l1, k1) := ⟨_, _, _, rfl⟩
  obtain ⟨p2, l2, k2, hm2⟩ : ∃ p2 l2 k2, As.rn l1 k1 = (p2, l2, k2) := ⟨_, _, _, rfl⟩
  have hgot : As.got4 l = ⟨rd l 0, p1, p2, 0, 0, 0, 0, 0, [], []⟩ := by unfold As.got4; rw [hm1]; simp only []; rw [hm2]
  rw [hgot, hm1] at he
  simp only [] at he
  rw [hm2] at he
  simp only [] at he
  cases k2 with
  | false =>
    rw [if_neg (by simp)] at he
    obtain ⟨rfl, rfl⟩ := Prod.mk.inj he
    go_enter Try.func21, Try.ntmps21
    go_wp2_with (first
      | ((with_reducible refine gate_dst (N := 2) rfl ?_); refine box_event ?hg (N := 2) ?hd (cs := As.Z) (t := 25) ?hr ?_; (case hd => rfl); (case hg => rfl); (case hr => first | (go_simp; done) | (go_simp; rfl)); intro g2 hg w1 hbox hb; have GE2 := Aside0.mk ((by rw [hg]; exact HB.out.size) : w.heap.size ≤ g2); have BKg2 := Aside0.mk hbox; clear hbox hg HB; have HB := Aside0.mk (show Below w.heap.size w w1 from hb); clear hb; have hx1 := pw_cell_below HB.out HX.out)
      | ((with_reducible refine gate_dst (N := 4) rfl ?_); refine box_event ?hg (N := 4) ?hd (cs := As.Z) (t := 74) ?hr ?_; (case hd => rfl); (case hg => rfl); (case hr => first | (go_simp; done) | (go_simp; rfl)); intro gi hg w2 hbox hb; have GEi := Aside0.mk ((by rw [hg]; exact HB.out.size) : w.heap.size ≤ gi); have LT2i := Aside0.mk (show g2 < gi by rw [hg]; exact blk_lt BKg2.out); have BKgi := Aside0.mk hbox; clear hbox hg; have n0_ := Aside0.mk (below_step HB.out hb); have n1_ := Aside0.mk (blk_below BKg2.out hb); clear HB BKg2; have HB := n0_; have BKg2 := n1_; clear n0_ n1_; clear hb hx1)
      | ((with_reducible refine gate_store rfl ?_); refine As.store_row rfl 74 _ _ rfl gi _ rfl rfl 74 _ BKgi.out (by kernel_rfl) rfl (by first | kernel_rfl | simp [Value.oneCell']) ?_; intro w3 hgb hgr; have n0_ := Aside0.mk (HB.out.grown hgr HB.out.size (fun k hk => by cases hk; exact GEi.out)); have n1_ := Aside0.mk (blk_grown BKg2.out hgr (fun he => (Nat.ne_of_lt LT2i.out) (Option.some.inj he))); clear HB BKg2; have HB := n0_; have BKg2 := n1_; clear n0_ n1_; clear BKgi hgr; have BKgi := Aside0.mk hgb; clear hgb; have cgi := fun i => blk_cell BKgi.out i)
      | (go_at_call 47; (with_reducible refine (As.taker hv).mono ?_); rintro r w4 ⟨rfl, hb⟩; have n0_ := Aside0.mk (below_step HB.out hb); have n1_ := Aside0.mk (blk_below BKg2.out hb); have n2_ := Aside0.mk (blk_below BKgi.out hb); clear HB BKg2 BKgi; have HB := n0_; have BKg2 := n1_; have BKgi := n2_; clear n0_ n1_ n2_; clear hb cgi)
      | ((with_reducible refine gate_dst (N := 25) rfl ?_); refine box_event ?hg (N := 25) ?hd (cs := ?_) (t := 77) ?hr ?_; (case hd => rfl); (case hg => rfl); (case hr => first | (go_simp; done) | (go_simp; rfl)); intro gr hg w5 hbox hb; have GEr := Aside0.mk ((by rw [hg]; exact HB.out.size) : w.heap.size ≤ gr); have LT2r := Aside0.mk (show g2 < gr by rw [hg]; exact blk_lt BKg2.out); have LTir := Aside0.mk (show gi < gr by rw [hg]; exact blk_lt BKgi.out); have HG := Aside0.mk (show As.Rd w w5 gr (l.drop 1) true from ⟨_, _, by rw [List.length_drop]; exact hbox, by rw [List.length_drop]; omega, hd1.out⟩); clear hbox hg; have n0_ := Aside0.mk (below_step HB.out hb); have n1_ := Aside0.mk (blk_below BKg2.out hb); have n2_ := Aside0.mk (blk_below BKgi.out hb); clear HB BKg2 BKgi; have HB := n0_; have BKg2 := n1_; have BKgi := n2_; clear n0_ n1_ n2_; clear hb)
      | (go_at_call 68; refine (As.place (f := rd l 0) HG.out BKgi.out HB.out GEr.out GEi.out (Nat.ne_of_lt LTir.out) (fun x hx => H8.out x (List.mem_of_mem_drop hx)) (Nat.le_trans (by simp) HL.out)).mono ?_; rintro r w6 ⟨rfl, ⟨Ar, cr, hrd, hcr, -⟩, hi, hb, hk, hs⟩; rw [hm1] at hrd hi; simp only [] at hrd hi; rw [hm2] at hrd hi; simp only [] at hrd hi; have n0_ := Aside0.mk ((hk g2 (blk_lt BKg2.out) (Nat.ne_of_lt LT2r.out) (Nat.ne_of_lt LT2i.out)).trans BKg2.out); clear HB BKg2 BKgi HG; have HB := Aside0.mk hb; have BKg2 := n0_; have BKgi := Aside0.mk hi; have BKgr := Aside0.mk hrd; clear n0_ hb hi hrd hk hs; have cgr := fun i => blk_cell BKgr.out i)
      | ((with_reducible refine gate_store rfl ?_); refine As.store_row rfl 25 _ _ rfl g2 _ rfl rfl 25 _ BKg2.out (by kernel_rfl) rfl (by first | kernel_rfl | simp [Value.oneCell']) ?_; intro w9 hgb hgr; have n0_ := Aside0.mk (HB.out.grown hgr HB.out.size (fun k hk => by cases hk; exact GE2.out)); clear HB; have HB := n0_; clear n0_; clear BKg2 hgr; have BKg2 := Aside0.mk hgb; clear hgb; skip))
    all_goals
      refine bodyPost_ret (results_ct rfl _ _ g2 25 _ (0, 0) _ rfl BKg2.out hu rfl (by kernel_rfl)) rfl ?_
      exact ⟨_, rfl, As.V_zero _, HB.out⟩
  | true =>
  by_cases q2 : l2.length = 0
  rotate_left
  · rw [if_neg (fun h => q2 h.2.1)] at he
    have q2b : decide ((0 : Int) < (l2.length : Int)) = true := decide_eq_true (by omega)
    obtain ⟨rfl, rfl⟩ := Prod.mk.inj he
    go_enter Try.func21, Try.ntmps21
    go_wp2_with (first
      | ((with_reducible refine gate_dst (N := 2) rfl ?_); refine box_event ?hg (N := 2) ?hd (cs := As.Z) (t := 25) ?hr ?_; (case hd => rfl); (case hg => rfl); (case hr => first | (go_simp; done) | (go_simp; rfl)); intro g2 hg w1 hbox hb; have GE2 := Aside0.mk ((by rw [hg]; exact HB.out.size) : w.heap.size ≤ g2); have BKg2 := Aside0.mk hbox; clear hbox hg HB; have HB := Aside0.mk (show Below w.heap.size w w1 from hb); clear hb; have hx1 := pw_cell_below HB.out HX.out)
      | ((with_reducible refine gate_dst (N := 4) rfl ?_); refine box_event ?hg (N := 4) ?hd (cs := As.Z) (t := 74) ?hr ?_; (case hd => rfl); (case hg => rfl); (case hr => first | (go_simp; done) | (go_simp; rfl)); intro gi hg w2 hbox hb; have GEi := Aside0.mk ((by rw [hg]; exact HB.out.size) : w.heap.size ≤ gi); have LT2i := Aside0.mk (show g2 < gi by rw [hg]; exact blk_lt BKg2.out); have BKgi := Aside0.mk hbox; clear hbox hg; have n0_ := Aside0.mk (below_step HB.out hb); have n1_ := Aside0.mk (blk_below BKg2.out hb); clear HB BKg2; have HB := n0_; have BKg2 := n1_; clear n0_ n1_; clear hb hx1)
      | ((with_reducible refine gate_store rfl ?_); refine As.store_row rfl 74 _ _ rfl gi _ rfl rfl 74 _ BKgi.out (by kernel_rfl) rfl (by first | kernel_rfl | simp [Value.oneCell']) ?_; intro w3 hgb hgr; have n0_ := Aside0.mk (HB.out.grown hgr HB.out.size (fun k hk => by cases hk; exact GEi.out)); have n1_ := Aside0.mk (blk_grown BKg2.out hgr (fun he => (Nat.ne_of_lt LT2i.out) (Option.some.inj he))); clear HB BKg2; have HB := n0_; have BKg2 := n1_; clear n0_ n1_; clear BKgi hgr; have BKgi := Aside0.mk hgb; clear hgb; have cgi := fun i => blk_cell BKgi.out i)
      | (go_at_call 47; (with_reducible refine (As.taker hv).mono ?_); rintro r w4 ⟨rfl, hb⟩; have n0_ := Aside0.mk (below_step HB.out hb); have n1_ := Aside0.mk (blk_below BKg2.out hb); have n2_ := Aside0.mk (blk_below BKgi.out hb); clear HB BKg2 BKgi; have HB := n0_; have BKg2 := n1_; have BKgi := n2_; clear n0_ n1_ n2_; clear hb cgi)
      | ((with_reducible refine gate_dst (N := 25) rfl ?_); refine box_event ?hg (N := 25) ?hd (cs := ?_) (t := 77) ?hr ?_; (case hd => rfl); (case hg => rfl); (case hr => first | (go_simp; done) | (go_simp; rfl)); intro gr hg w5 hbox hb; have GEr := Aside0.mk ((by rw [hg]; exact HB.out.size) : w.heap.size ≤ gr); have LT2r := Aside0.mk (show g2 < gr by rw [hg]; exact blk_lt BKg2.out); have LTir := Aside0.mk (show gi < gr by rw [hg]; exact blk_lt BKgi.out); have HG := Aside0.mk (show As.Rd w w5 gr (l.drop 1) true from ⟨_, _, by rw [List.length_drop]; exact hbox, by rw [List.length_drop]; omega, hd1.out⟩); clear hbox hg; have n0_ := Aside0.mk (below_step HB.out hb); have n1_ := Aside0.mk (blk_below BKg2.out hb); have n2_ := Aside0.mk (blk_below BKgi.out hb); clear HB BKg2 BKgi; have HB := n0_; have BKg2 := n1_; have BKgi := n2_; clear n0_ n1_ n2_; clear hb)
      | (go_at_call 68; refine (As.place (f := rd l 0) HG.out BKgi.out HB.out GEr.out GEi.out (Nat.ne_of_lt LTir.out) (fun x hx => H8.out x (List.mem_of_mem_drop hx)) (Nat.le_trans (by simp) HL.out)).mono ?_; rintro r w6 ⟨rfl, ⟨Ar, cr, hrd, hcr, -⟩, hi, hb, hk, hs⟩; rw [hm1] at hrd hi; simp only [] at hrd hi; rw [hm2] at hrd hi; simp only [] at hrd hi; have n0_ := Aside0.mk ((hk g2 (blk_lt BKg2.out) (Nat.ne_of_lt LT2r.out) (Nat.ne_of_lt LT2i.out)).trans BKg2.out); clear HB BKg2 BKgi HG; have HB := Aside0.mk hb; have BKg2 := n0_; have BKgi := Aside0.mk hi; have BKgr := Aside0.mk hrd; clear n0_ hb hi hrd hk hs; have cgr := fun i => blk_cell BKgr.out i)
      | ((with_reducible refine gate_store rfl ?_); refine As.store_row rfl 25 _ _ rfl g2 _ rfl rfl 25 _ BKg2.out (by kernel_rfl) rfl (by first | kernel_rfl | simp [Value.oneCell']) ?_; intro w9 hgb hgr; have n0_ := Aside0.mk (HB.out.grown hgr HB.out.size (fun k hk => by cases hk; exact GE2.out)); clear HB; have HB := n0_; clear n0_; clear BKg2 hgr; have BKg2 := Aside0.mk hgb; clear hgb; skip))
    all_goals
      refine bodyPost_ret (results_ct rfl _ _ g2 25 _ (0, 0) _ rfl BKg2.out hu rfl (by kernel_rfl)) rfl ?_
      exact ⟨_, rfl, As.V_zero _, HB.out⟩
  have q2b : decide ((0 : Int) < (l2.length : Int)) = false := decide_eq_false (by omega)
  cases qr : As.right (⟨rd l 0, p1, p2, 0, 0, 0, 0, 0, [], []⟩ : S25) with
  | false =>
    rw [if_neg (by rw [qr]; simp)] at he
    obtain ⟨rfl, rfl⟩ := Prod.mk.inj he
    go_enter Try.func21, Try.ntmps21
    go_wp2_with (first
      | ((with_reducible refine gate_dst (N := 2) rfl ?_); refine box_event ?hg (N := 2) ?hd (cs := As.Z) (t := 25) ?hr ?_; (case hd => rfl); (case hg => rfl); (case hr => first | (go_simp; done) | (go_simp; rfl)); intro g2 hg w1 hbox hb; have GE2 := Aside0.mk ((by rw [hg]; exact HB.out.size) : w.heap.size ≤ g2); have BKg2 := Aside0.mk hbox; clear hbox hg HB; have HB := Aside0.mk (show Below w.heap.size w w1 from hb); clear hb; have hx1 := pw_cell_below HB.out HX.out)
      | ((with_reducible refine gate_dst (N := 4) rfl ?_); refine box_event ?hg (N := 4) ?hd (cs := As.Z) (t := 74) ?hr ?_; (case hd => rfl); (case hg => rfl); (case hr => first | (go_simp; done) | (go_simp; rfl)); intro gi hg w2 hbox hb; have GEi := Aside0.mk ((by rw [hg]; exact HB.out.size) : w.heap.size ≤ gi); have LT2i := Aside0.mk (show g2 < gi by rw [hg]; exact blk_lt BKg2.out); have BKgi := Aside0.mk hbox; clear hbox hg; have n0_ := Aside0.mk (below_step HB.out hb); have n1_ := Aside0.mk (blk_below BKg2.out hb); clear HB BKg2; have HB := n0_; have BKg2 := n1_; clear n0_ n1_; clear hb hx1)
      | ((with_reducible refine gate_store rfl ?_); refine As.store_row rfl 74 _ _ rfl gi _ rfl rfl 74 _ BKgi.out (by kernel_rfl) rfl (by first | kernel_rfl | simp [Value.oneCell']) ?_; intro w3 hgb hgr; have n0_ := Aside0.mk (HB.out.grown hgr HB.out.size (fun k hk => by cases hk; exact GEi.out)); have n1_ := Aside0.mk (blk_grown BKg2.out hgr (fun he => (Nat.ne_of_lt LT2i.out) (Option.some.inj he))); clear HB BKg2; have HB := n0_; have BKg2 := n1_; clear n0_ n1_; clear BKgi hgr; have BKgi := Aside0.mk hgb; clear hgb; have cgi := fun i => blk_cell BKgi.out i)
      | (go_at_call 47; (with_reducible refine (As.taker hv).mono ?_); rintro r w4 ⟨rfl, hb⟩; have n0_ := Aside0.mk (below_step HB.out hb); have n1_ := Aside0.mk (blk_below BKg2.out hb); have n2_ := Aside0.mk (blk_below BKgi.out hb); clear HB BKg2 BKgi; have HB := n0_; have BKg2 := n1_; have BKgi := n2_; clear n0_ n1_ n2_; clear hb cgi)
      | ((with_reducible refine gate_dst (N := 25) rfl ?_); refine box_event ?hg (N := 25) ?hd (cs := ?_) (t := 77) ?hr ?_; (case hd => rfl); (case hg => rfl); (case hr => first | (go_simp; done) | (go_simp; rfl)); intro gr hg w5 hbox hb; have GEr := Aside0.mk ((by rw [hg]; exact HB.out.size) : w.heap.size ≤ gr); have LT2r := Aside0.mk (show g2 < gr by rw [hg]; exact blk_lt BKg2.out); have LTir := Aside0.mk (show gi < gr by rw [hg]; exact blk_lt BKgi.out); have HG := Aside0.mk (show As.Rd w w5 gr (l.drop 1) true from ⟨_, _, by rw [List.length_drop]; exact hbox, by rw [List.length_drop]; omega, hd1.out⟩); clear hbox hg; have n0_ := Aside0.mk (below_step HB.out hb); have n1_ := Aside0.mk (blk_below BKg2.out hb); have n2_ := Aside0.mk (blk_below BKgi.out hb); clear HB BKg2 BKgi; have HB := n0_; have BKg2 := n1_; have BKgi := n2_; clear n0_ n1_ n2_; clear hb)
      | (go_at_call 68; refine (As.place (f := rd l 0) HG.out BKgi.out HB.out GEr.out GEi.out (Nat.ne_of_lt LTir.out) (fun x hx => H8.out x (List.mem_of_mem_drop hx)) (Nat.le_trans (by simp) HL.out)).mono ?_; rintro r w6 ⟨rfl, ⟨Ar, cr, hrd, hcr, -⟩, hi, hb, hk, hs⟩; rw [hm1] at hrd hi; simp only [] at hrd hi; rw [hm2] at hrd hi; simp only [] at hrd hi; have n0_ := Aside0.mk ((hk g2 (blk_lt BKg2.out) (Nat.ne_of_lt LT2r.out) (Nat.ne_of_lt LT2i.out)).trans BKg2.out); clear HB BKg2 BKgi HG; have HB := Aside0.mk hb; have BKg2 := n0_; have BKgi := Aside0.mk hi; have BKgr := Aside0.mk hrd; clear n0_ hb hi hrd hk hs; have cgr := fun i => blk_cell BKgr.out i)
      | ((with_reducible refine gate_dst (N := 45) rfl ?_); refine gate_guard (by rfl) ?_; dsimp only; refine wpList_load_row rfl 74 _ rfl gi rfl 74 _ (0, 0) _ BKgi.out hui rfl (by kernel_rfl) ?_)
      | (go_at_call 14; (have hVa := (show As.V w6 #[.int .i64 (rd l 0), .int .i64 p1, .int .i64 p2, .int .i64 0, .int .i64 0, .int .i64 0, .int .i64 0, .int .i64 0, .slice none 0 0, .slice none 0 0] (⟨rd l 0, p1, p2, 0, 0, 0, 0, 0, [], []⟩ : S25) from As.mk (Nat.le_refl _) (As.n8 _) (Nat.le_refl _) (As.n9 _))); (with_reducible refine (As.rights hVa ⟨by simp, by simp⟩ qr).mono ?_); rintro r w7 ⟨rfl, hb⟩; have n0_ := Aside0.mk (below_step HB.out hb); have n1_ := Aside0.mk (blk_below BKg2.out hb); have n2_ := Aside0.mk (blk_below BKgi.out hb); clear HB BKg2 BKgi; have HB := n0_; have BKg2 := n1_; have BKgi := n2_; clear n0_ n1_ n2_; clear hb cgr hVa)
      | ((with_reducible refine gate_store rfl ?_); refine As.store_row rfl 25 _ _ rfl g2 _ rfl rfl 25 _ BKg2.out (by kernel_rfl) rfl (by first | kernel_rfl | simp [Value.oneCell']) ?_; intro w9 hgb hgr; have n0_ := Aside0.mk (HB.out.grown hgr HB.out.size (fun k hk => by cases hk; exact GE2.out)); clear HB; have HB := n0_; clear n0_; clear BKg2 hgr; have BKg2 := Aside0.mk hgb; clear hgb; skip))
    all_goals
      refine bodyPost_ret (results_ct rfl _ _ g2 25 _ (0, 0) _ rfl BKg2.out hu rfl (by kernel_rfl)) rfl ?_
      exact ⟨_, rfl, As.V_zero _, HB.out⟩
  | true =>
    rw [if_pos ⟨rfl, q2, qr⟩] at he
    obtain ⟨rfl, rfl⟩ := Prod.mk.inj he
    go_enter Try.func21, Try.ntmps21
    go_wp2_with (first
      | ((with_reducible refine gate_dst (N := 2) rfl ?_); refine box_event ?hg (N := 2) ?hd (cs := As.Z) (t := 25) ?hr ?_; (case hd => rfl); (case hg => rfl); (case hr => first | (go_simp; done) | (go_simp; rfl)); intro g2 hg w1 hbox hb; have GE2 := Aside0.mk ((by rw [hg]; exact HB.out.size) : w.heap.size ≤ g2); have BKg2 := Aside0.mk hbox; clear hbox hg HB; have HB := Aside0.mk (show Below w.heap.size w w1 from hb); clear hb; have hx1 := pw_cell_below HB.out HX.out)
      | ((with_reducible refine gate_dst (N := 4) rfl ?_); refine box_event ?hg (N := 4) ?hd (cs := As.Z) (t := 74) ?hr ?_; (case hd => rfl); (case hg => rfl); (case hr => first | (go_simp; done) | (go_simp; rfl)); intro gi hg w2 hbox hb; have GEi := Aside0.mk ((by rw [hg]; exact HB.out.size) : w.heap.size ≤ gi); have LT2i := Aside0.mk (show g2 < gi by rw [hg]; exact blk_lt BKg2.out); have BKgi := Aside0.mk hbox; clear hbox hg; have n0_ := Aside0.mk (below_step HB.out hb); have n1_ := Aside0.mk (blk_below BKg2.out hb); clear HB BKg2; have HB := n0_; have BKg2 := n1_; clear n0_ n1_; clear hb hx1)
      | ((with_reducible refine gate_store rfl ?_); refine As.store_row rfl 74 _ _ rfl gi _ rfl rfl 74 _ BKgi.out (by kernel_rfl) rfl (by first | kernel_rfl | simp [Value.oneCell']) ?_; intro w3 hgb hgr; have n0_ := Aside0.mk (HB.out.grown hgr HB.out.size (fun k hk => by cases hk; exact GEi.out)); have n1_ := Aside0.mk (blk_grown BKg2.out hgr (fun he => (Nat.ne_of_lt LT2i.out) (Option.some.inj he))); clear HB BKg2; have HB := n0_; have BKg2 := n1_; clear n0_ n1_; clear BKgi hgr; have BKgi := Aside0.mk hgb; clear hgb; have cgi := fun i => blk_cell BKgi.out i)
      | (go_at_call 47; (with_reducible refine (As.taker hv).mono ?_); rintro r w4 ⟨rfl, hb⟩; have n0_ := Aside0.mk (below_step HB.out hb); have n1_ := Aside0.mk (blk_below BKg2.out hb); have n2_ := Aside0.mk (blk_below BKgi.out hb); clear HB BKg2 BKgi; have HB := n0_; have BKg2 := n1_; have BKgi := n2_; clear n0_ n1_ n2_; clear hb cgi)
      | ((with_reducible refine gate_dst (N := 25) rfl ?_); refine box_event ?hg (N := 25) ?hd (cs := ?_) (t := 77) ?hr ?_; (case hd => rfl); (case hg => rfl); (case hr => first | (go_simp; done) | (go_simp; rfl)); intro gr hg w5 hbox hb; have GEr := Aside0.mk ((by rw [hg]; exact HB.out.size) : w.heap.size ≤ gr); have LT2r := Aside0.mk (show g2 < gr by rw [hg]; exact blk_lt BKg2.out); have LTir := Aside0.mk (show gi < gr by rw [hg]; exact blk_lt BKgi.out); have HG := Aside0.mk (show As.Rd w w5 gr (l.drop 1) true from ⟨_, _, by rw [List.length_drop]; exact hbox, by rw [List.length_drop]; omega, hd1.out⟩); clear hbox hg; have n0_ := Aside0.mk (below_step HB.out hb); have n1_ := Aside0.mk (blk_below BKg2.out hb); have n2_ := Aside0.mk (blk_below BKgi.out hb); clear HB BKg2 BKgi; have HB := n0_; have BKg2 := n1_; have BKgi := n2_; clear n0_ n1_ n2_; clear hb)
      | (go_at_call 68; refine (As.place (f := rd l 0) HG.out BKgi.out HB.out GEr.out GEi.out (Nat.ne_of_lt LTir.out) (fun x hx => H8.out x (List.mem_of_mem_drop hx)) (Nat.le_trans (by simp) HL.out)).mono ?_; rintro r w6 ⟨rfl, ⟨Ar, cr, hrd, hcr, -⟩, hi, hb, hk, hs⟩; rw [hm1] at hrd hi; simp only [] at hrd hi; rw [hm2] at hrd hi; simp only [] at hrd hi; have n0_ := Aside0.mk ((hk g2 (blk_lt BKg2.out) (Nat.ne_of_lt LT2r.out) (Nat.ne_of_lt LT2i.out)).trans BKg2.out); clear HB BKg2 BKgi HG; have HB := Aside0.mk hb; have BKg2 := n0_; have BKgi := Aside0.mk hi; have BKgr := Aside0.mk hrd; clear n0_ hb hi hrd hk hs; have cgr := fun i => blk_cell BKgr.out i)
      | ((with_reducible refine gate_dst (N := 45) rfl ?_); refine gate_guard (by rfl) ?_; dsimp only; refine wpList_load_row rfl 74 _ rfl gi rfl 74 _ (0, 0) _ BKgi.out hui rfl (by kernel_rfl) ?_)
      | (go_at_call 14; (have hVa := (show As.V w6 #[.int .i64 (rd l 0), .int .i64 p1, .int .i64 p2, .int .i64 0, .int .i64 0, .int .i64 0, .int .i64 0, .int .i64 0, .slice none 0 0, .slice none 0 0] (⟨rd l 0, p1, p2, 0, 0, 0, 0, 0, [], []⟩ : S25) from As.mk (Nat.le_refl _) (As.n8 _) (Nat.le_refl _) (As.n9 _))); (with_reducible refine (As.rights hVa ⟨by simp, by simp⟩ qr).mono ?_); rintro r w7 ⟨rfl, hb⟩; have n0_ := Aside0.mk (below_step HB.out hb); have n1_ := Aside0.mk (blk_below BKg2.out hb); have n2_ := Aside0.mk (blk_below BKgi.out hb); clear HB BKg2 BKgi; have HB := n0_; have BKg2 := n1_; have BKgi := n2_; clear n0_ n1_ n2_; clear hb cgr hVa)
      | ((with_reducible refine gate_dst (N := 50) rfl ?_); refine wpList_load_row rfl 74 _ rfl gi rfl 74 _ (0, 0) _ BKgi.out hui rfl (by kernel_rfl) ?_)
      | ((with_reducible refine gate_store rfl ?_); refine As.store_row rfl 25 _ _ rfl g2 _ rfl rfl 25 _ BKg2.out (by kernel_rfl) rfl (by first | kernel_rfl | simp [Value.oneCell']) ?_; intro w9 hgb hgr; have n0_ := Aside0.mk (HB.out.grown hgr HB.out.size (fun k hk => by cases hk; exact GE2.out)); clear HB; have HB := n0_; clear n0_; clear BKg2 hgr; have BKg2 := Aside0.mk hgb; clear hgb; skip))
    all_goals
      refine bodyPost_ret (results_ct rfl _ _ g2 25 _ (0, 0) _ rfl BKg2.out hu rfl (by kernel_rfl)) rfl ?_
      exact ⟨_, rfl, As.mk (Nat.le_refl _) (As.n8 _) (Nat.le_refl _) (As.n9 _), HB.out⟩

end Go.Proofs.Ytedfbemifigoeaa.P
