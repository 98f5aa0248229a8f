import Derived.Test.YtedfbemifigoeaaX
import Derived.Test.YtedfbemifigoeaaAa
import Derived.Test.YtedfbemifigoeaaAc
import Derived.Test.YtedfbemifigoeaaLWord
import Derived.Test.YtedfbemifigoeaaLBits
import Derived.Test.YtedfbemifigoeaaPx1
import Derived.Test.YtedfbemifigoeaaPx2
import Derived.Test.YtedfbemifigoeaaPx3
import Derived.Test.YtedfbemifigoeaaPx4
import Derived.Test.YtedfbemifigoeaaPx5
import Derived.Test.YtedfbemifigoeaaPx6
namespace Go.Proofs.Ytedfbemifigoeaa.P
open Go.RowKit Go.Proofs.YtedfbemifigoeaaW.PrintWords Go.Proofs.YtedfbemifigoeaaW.PrintLast Go.Proofs.YtedfbemifigoeaaW.PrintMore
attribute [local go_sem] max2_int min2_int max_two min_two max_three min_three max_four min_four   -- for this text's walks alone
set_option linter.unusedVariables false
set_option linter.unusedSimpArgs false

open Go.Proofs.Ytedfbemifigoeaa.L

def As.rn (l : List Int) (ok : Bool) : Int × List Int × Bool := if 2 ≤ l.length then (rd l 0 * 256 + rd l 1, l.drop 2, ok) else (0, [], false)
theorem As.ats {A : Option Addr} {c : Nat} {l : List Int} {w : World} (hr : (Kd.int .u8).C w A l.length l) (hc : l.length ≤ c) (h8 : ∀ x ∈ l, U8 x) (hl : l.length ≤ 1000000) {n : Int} {b : Bool} (he : atS l 0 = (n, b)) : Calls Try.prog 74 #[.slice A l.length c, .int .i64 0] w fun e w' => e = .returned (.tuple #[.int .u16 n, .bool b]) ∧ Below w.heap.size w w' :=
  (word_At.calls A c l 0 n b w hr hc ((at_eq h8 (by omega) (by decide)).trans (congrArg some he))).mono (fun e w' hh => ⟨hh.1, hh.2.below⟩)
def As.Rd (w0 w : World) (g : Nat) (l : List Int) (ok : Bool) : Prop := ∃ A c, w.heap[g]? = some (.cells #[.slice A l.length c, .bool ok] 77 (0, 0)) ∧ l.length ≤ c ∧ (Kd.int .u8).C w0 A l.length l
set_option maxHeartbeats 4000000 in
set_option maxRecDepth 100000 in
theorem As.num1 {w0 w : World} {g : Nat} {l : List Int} {ok : Bool} (hg : As.Rd w0 w g l ok) (hb : Below w0.heap.size w0 w) (hbg : w0.heap.size ≤ g) (h8 : ∀ x ∈ l, U8 x) (hl : l.length ≤ 1000000) : Calls Try.prog 52 #[.pointer (some ⟨g, 0, none⟩)] w fun e w' => e = .returned (.int .i64 (As.rn l ok).1) ∧ As.Rd w0 w' g (As.rn l ok).2.1 (As.rn l ok).2.2 ∧ Below w0.heap.size w0 w' ∧ (∀ q, q < w.heap.size → q ≠ g → w'.heap[q]? = w.heap[q]?) ∧ w.heap.size ≤ w'.heap.size := by
  obtain ⟨A, c, hg, hc, hr⟩ := hg
  have BKg := Aside0.mk hg
  have HR := Aside0.mk hr
  have HC := Aside0.mk hc
  have HB := Aside0.mk hb
  have HBG := Aside0.mk hbg
  have H8 := Aside0.mk h8
  have HL := Aside0.mk hl
  have HK := Aside0.mk (show ∀ q, q < w.heap.size → q ≠ g → w.heap[q]? = w.heap[q]? from fun _ _ _ => rfl)
  have HS := Aside0.mk (Nat.le_refl w.heap.size)
  have hu := Try.underlying77
  have hu8 := Try.underlying28
  clear hg hr hb hbg h8 hl
  have cg := fun i => blk_cell BKg.out i
  by_cases h2 : 2 ≤ l.length
  · have he : atS l 0 = (rd l 0 * 256 + rd l 1, true) := if_pos ⟨by decide, by omega⟩
    rw [show As.rn l ok = (rd l 0 * 256 + rd l 1, l.drop 2, ok) from if_pos h2]
    have hw9 : IntKind.i64.wrap (rd l 0 * 256 + rd l 1) = rd l 0 * 256 + rd l 1 := by have a1 := rd_all H8.out (i := 0) (by omega) (by omega); have a2 := rd_all H8.out (i := 1) (by omega) (by omega); rw [i64_w]; exact w64 (by unfold U8 at a1 a2; omega)
    have hC := Aside0.mk (Kd.C_drop (m := 2) HR.out h2 HC.out)
    go_enter Try.func52, Try.ntmps52
    go_wp2_with (first
      | (go_at_call 74; (with_reducible refine (As.ats (Kd.C_below HR.out HB.out) HC.out H8.out HL.out he).mono ?_); rintro r w2 ⟨rfl, hb⟩; have n0_ := Aside0.mk (below_step HB.out hb); have n1_ := Aside0.mk (fun q h1 h2 => (hb.block q (Nat.lt_of_lt_of_le h1 HS.out)).trans (HK.out q h1 h2)); have n2_ := Aside0.mk (Nat.le_trans HS.out hb.size); have n3_ := Aside0.mk (blk_below BKg.out hb); clear HB HK HS BKg hb cg; have HB := n0_; have HK := n1_; have HS := n2_; have BKg := n3_; clear n0_ n1_ n2_ n3_; have cg := fun i => blk_cell BKg.out i)
      | ((with_reducible refine gate_store rfl ?_); refine As.store_cell rfl rfl g ?_ ?_ 77 _ BKg.out ?hr ?_; (case hr => (have hs_ := fun i => blk_cell BKg.out i); (have hf_ := fun i => blk_frozen BKg.out i); first | (go_simp; done) | (go_simp; rfl)); intro w3 hgb hgr; simp only [List.setIfInBounds_toArray, List.set_cons_zero, List.set_cons_succ] at hgb; have n0_ := Aside0.mk (HB.out.grown hgr HB.out.size (fun k hk => by cases hk; exact HBG.out)); have n1_ := Aside0.mk (fun q h1 h2 => (hgr.block q (Nat.lt_of_lt_of_le h1 HS.out) (fun he => h2 (Option.some.inj he))).trans (HK.out q h1 h2)); have n2_ := Aside0.mk (Nat.le_trans HS.out hgr.size); clear HB HK HS; have HB := n0_; have HK := n1_; have HS := n2_; clear n0_ n1_ n2_; clear BKg hgr; have BKg := Aside0.mk hgb; clear hgb; (try clear cg); have cg := fun i => blk_cell BKg.out i))
    all_goals
      go_ret
      exact ⟨rfl, ⟨_, _, by rw [List.length_drop]; exact BKg.out, by rw [List.length_drop]; omega, hC.out⟩, HB.out, HK.out, HS.out⟩
  · have he : atS l 0 = (0, false) := if_neg (by omega)
    rw [show As.rn l ok = (0, [], false) from if_neg h2]
    go_enter Try.func52, Try.ntmps52
    go_wp2_with (first
      | (go_at_call 74; (with_reducible refine (As.ats (Kd.C_below HR.out HB.out) HC.out H8.out HL.out he).mono ?_); rintro r w2 ⟨rfl, hb⟩; have n0_ := Aside0.mk (below_step HB.out hb); have n1_ := Aside0.mk (fun q h1 h2 => (hb.block q (Nat.lt_of_lt_of_le h1 HS.out)).trans (HK.out q h1 h2)); have n2_ := Aside0.mk (Nat.le_trans HS.out hb.size); have n3_ := Aside0.mk (blk_below BKg.out hb); clear HB HK HS BKg hb cg; have HB := n0_; have HK := n1_; have HS := n2_; have BKg := n3_; clear n0_ n1_ n2_ n3_; have cg := fun i => blk_cell BKg.out i)
      | ((with_reducible refine gate_store rfl ?_); refine As.store_cell rfl rfl g ?_ ?_ 77 _ BKg.out ?hr ?_; (case hr => (have hs_ := fun i => blk_cell BKg.out i); (have hf_ := fun i => blk_frozen BKg.out i); first | (go_simp; done) | (go_simp; rfl)); intro w3 hgb hgr; simp only [List.setIfInBounds_toArray, List.set_cons_zero, List.set_cons_succ] at hgb; have n0_ := Aside0.mk (HB.out.grown hgr HB.out.size (fun k hk => by cases hk; exact HBG.out)); have n1_ := Aside0.mk (fun q h1 h2 => (hgr.block q (Nat.lt_of_lt_of_le h1 HS.out) (fun he => h2 (Option.some.inj he))).trans (HK.out q h1 h2)); have n2_ := Aside0.mk (Nat.le_trans HS.out hgr.size); clear HB HK HS; have HB := n0_; have HK := n1_; have HS := n2_; clear n0_ n1_ n2_; clear BKg hgr; have BKg := Aside0.mk hgb; clear hgb; (try clear cg); have cg := fun i => blk_cell BKg.out i))
    go_ret
    exact ⟨rfl, ⟨none, 0, BKg.out, Nat.le_refl _, Kd.C_nil _ _⟩, HB.out, HK.out, HS.out⟩

theorem As.Rd_grown {w0 w w1 : World} {g gi : Nat} {l : List Int} {ok : Bool} (h : As.Rd w0 w g l ok) (hgr : w.grownBy w1 (some gi)) (hne : gi ≠ g) : As.Rd w0 w1 g l ok := by
  obtain ⟨A, c, h1, h2, h3⟩ := h
  exact ⟨A, c, blk_grown h1 hgr (fun he => hne (Option.some.inj he).symm), h2, h3⟩
theorem As.rn_u8 {l : List Int} {ok : Bool} (h : ∀ x ∈ l, U8 x) : ∀ x ∈ (As.rn l ok).2.1, U8 x := by
  unfold As.rn
  split
  · exact fun x hx => h x (List.mem_of_mem_drop hx)
  · intro x hx; cases hx
theorem As.rn_len {l : List Int} {ok : Bool} : (As.rn l ok).2.1.length ≤ l.length := by
  unfold As.rn
  split
  · simp
  · simp
theorem As.zeroI (w : World) : (zeroValue 74).run Try.prog w = .ok (.agg #[.int .i64 0, .int .i64 0, .int .i64 0, .int .i64 0, .int .i64 0, .int .i64 0, .int .i64 0, .int .i64 0, .slice none 0 0, .slice none 0 0]) w := by kernel_rfl

set_option maxHeartbeats 4000000 in
set_option maxRecDepth 100000 in
theorem As.placeG {w0 w : World} {g gi : Nat} {l : List Int} {ok : Bool} {a0 a1 a2 a3 a4 a5 a6 a7 : Int} {v8 v9 : Value} (hg : As.Rd w0 w g l ok) (hi : w.heap[gi]? = some (.cells #[.int .i64 a0, .int .i64 a1, .int .i64 a2, .int .i64 a3, .int .i64 a4, .int .i64 a5, .int .i64 a6, .int .i64 a7, v8, v9] 74 (0, 0))) (hb : Below w0.heap.size w0 w) (hbg : w0.heap.size ≤ g) (hbi : w0.heap.size ≤ gi) (hne : gi ≠ g) (h8 : ∀ x ∈ l, U8 x) (hl : l.length ≤ 1000000) : Calls Try.prog 68 #[.pointer (some ⟨gi, 0, none⟩), .func (.func 52) #[.pointer (some ⟨g, 0, none⟩)] #[], .pointer (some ⟨g, 0, none⟩)] w fun e w' => e = .returned (.tuple #[]) ∧ As.Rd w0 w' g ((As.rn (As.rn l ok).2.1 (As.rn l ok).2.2).2.1) ((As.rn (As.rn l ok).2.1 (As.rn l ok).2.2).2.2) ∧ w'.heap[gi]? = some (.cells #[.int .i64 a0, .int .i64 ((As.rn l ok).1), .int .i64 ((As.rn (As.rn l ok).2.1 (As.rn l ok).2.2).1), .int .i64 a3, .int .i64 a4, .int .i64 a5, .int .i64 a6, .int .i64 a7, v8, v9] 74 (0, 0)) ∧ Below w0.heap.size w0 w' ∧ (∀ q, q < w.heap.size → q ≠ g → q ≠ gi → w'.heap[q]? = w.heap[q]?) ∧ w.heap.size ≤ w'.heap.size := by
  have HG := Aside0.mk hg
  have BKgi := Aside0.mk hi
  have HB := Aside0.mk hb
  have HBG := Aside0.mk hbg
  have HBI := Aside0.mk hbi
  have HNE := Aside0.mk hne
  have H8 := Aside0.mk h8
  have HL := Aside0.mk hl
  have HK := Aside0.mk (show ∀ q, q < w.heap.size → q ≠ g → q ≠ gi → w.heap[q]? = w.heap[q]? from fun _ _ _ _ => rfl)
  have HS := Aside0.mk (Nat.le_refl w.heap.size)
  have hu := Try.underlying74
  clear hg hi hb hbg hbi hne h8 hl
  go_enter Try.func68, Try.ntmps68
  go_wp2_with (first
    | (go_at_call 52; (with_reducible refine (As.num1 HG.out HB.out HBG.out H8.out HL.out).mono ?_); rintro r w2 ⟨rfl, hg, hb, hk, hs⟩; have n0_ := Aside0.mk ((hk gi (blk_lt BKgi.out) HNE.out).trans BKgi.out); have n1_ := Aside0.mk (fun q h1 h2 h3 => (hk q (Nat.lt_of_lt_of_le h1 HS.out) h2).trans (HK.out q h1 h2 h3)); have n2_ := Aside0.mk (Nat.le_trans HS.out hs); clear HG HB HK HS BKgi hs hk; have HG := Aside0.mk hg; have HB := Aside0.mk hb; have BKgi := n0_; have HK := n1_; have HS := n2_; clear n0_ n1_ n2_ hg hb)
    | (go_at_call 52; (with_reducible refine (As.num1 HG.out HB.out HBG.out (As.rn_u8 H8.out) (Nat.le_trans As.rn_len HL.out)).mono ?_); rintro r w2 ⟨rfl, hg, hb, hk, hs⟩; have n0_ := Aside0.mk ((hk gi (blk_lt BKgi.out) HNE.out).trans BKgi.out); have n1_ := Aside0.mk (fun q h1 h2 h3 => (hk q (Nat.lt_of_lt_of_le h1 HS.out) h2).trans (HK.out q h1 h2 h3)); have n2_ := Aside0.mk (Nat.le_trans HS.out hs); clear HG HB HK HS BKgi hs hk; have HG := Aside0.mk hg; have HB := Aside0.mk hb; have BKgi := n0_; have HK := n1_; have HS := n2_; clear n0_ n1_ n2_ hg hb)
    | ((with_reducible refine gate_store rfl ?_); refine As.store_cell rfl rfl gi ?_ ?_ 74 _ BKgi.out ?hr ?_; (case hr => (have hs_ := fun i => blk_cell BKgi.out i); (have hf_ := fun i => blk_frozen BKgi.out i); first | (go_simp; done) | (go_simp; rfl)); intro w3 hgb hgr; simp only [List.setIfInBounds_toArray, List.set_cons_zero, List.set_cons_succ] at hgb; have n0_ := Aside0.mk (HB.out.grown hgr HB.out.size (fun k hk => by cases hk; exact HBI.out)); have n1_ := Aside0.mk (fun q h1 h2 h3 => (hgr.block q (Nat.lt_of_lt_of_le h1 HS.out) (fun he => h3 (Option.some.inj he))).trans (HK.out q h1 h2 h3)); have n2_ := Aside0.mk (Nat.le_trans HS.out hgr.size); have n3_ := Aside0.mk (As.Rd_grown HG.out hgr HNE.out); clear HB HK HS HG; have HB := n0_; have HK := n1_; have HS := n2_; have HG := n3_; clear n0_ n1_ n2_ n3_; clear BKgi hgr; have BKgi := Aside0.mk hgb; clear hgb; skip))
  go_end0
  exact ⟨rfl, HG.out, BKgi.out, HB.out, HK.out, HS.out⟩
set_option maxHeartbeats 4000000 in
set_option maxRecDepth 100000 in
theorem As.valueG {w0 w : World} {g gi : Nat} {l : List Int} {ok : Bool} {a0 a1 a2 a3 a4 a5 a6 a7 : Int} {v8 v9 : Value} (hg : As.Rd w0 w g l ok) (hi : w.heap[gi]? = some (.cells #[.int .i64 a0, .int .i64 a1, .int .i64 a2, .int .i64 a3, .int .i64 a4, .int .i64 a5, .int .i64 a6, .int .i64 a7, v8, v9] 74 (0, 0))) (hb : Below w0.heap.size w0 w) (hbg : w0.heap.size ≤ g) (hbi : w0.heap.size ≤ gi) (hne : gi ≠ g) (h8 : ∀ x ∈ l, U8 x) (hl : l.length ≤ 1000000) : Calls Try.prog 69 #[.pointer (some ⟨gi, 0, none⟩), .func (.func 52) #[.pointer (some ⟨g, 0, none⟩)] #[], .pointer (some ⟨g, 0, none⟩)] w fun e w' => e = .returned (.tuple #[]) ∧ As.Rd w0 w' g ((As.rn (As.rn l ok).2.1 (As.rn l ok).2.2).2.1) ((As.rn (As.rn l ok).2.1 (As.rn l ok).2.2).2.2) ∧ w'.heap[gi]? = some (.cells #[.int .i64 a0, .int .i64 ((As.rn l ok).1), .int .i64 a2, .int .i64 ((As.rn (As.rn l ok).2.1 (As.rn l ok).2.2).1), .int .i64 a4, .int .i64 a5, .int .i64 a6, .int .i64 a7, v8, v9] 74 (0, 0)) ∧ Below w0.heap.size w0 w' ∧ (∀ q, q < w.heap.size → q ≠ g → q ≠ gi → w'.heap[q]? = w.heap[q]?) ∧ w.heap.size ≤ w'.heap.size := by
  have HG := Aside0.mk hg
  have BKgi := Aside0.mk hi
  have HB := Aside0.mk hb
  have HBG := Aside0.mk hbg
  have HBI := Aside0.mk hbi
  have HNE := Aside0.mk hne
  have H8 := Aside0.mk h8
  have HL := Aside0.mk hl
  have HK := Aside0.mk (show ∀ q, q < w.heap.size → q ≠ g → q ≠ gi → w.heap[q]? = w.heap[q]? from fun _ _ _ _ => rfl)
  have HS := Aside0.mk (Nat.le_refl w.heap.size)
  have hu := Try.underlying74
  clear hg hi hb hbg hbi hne h8 hl
  go_enter Try.func69, Try.ntmps69
  go_wp2_with (first
    | (go_at_call 52; (with_reducible refine (As.num1 HG.out HB.out HBG.out H8.out HL.out).mono ?_); rintro r w2 ⟨rfl, hg, hb, hk, hs⟩; have n0_ := Aside0.mk ((hk gi (blk_lt BKgi.out) HNE.out).trans BKgi.out); have n1_ := Aside0.mk (fun q h1 h2 h3 => (hk q (Nat.lt_of_lt_of_le h1 HS.out) h2).trans (HK.out q h1 h2 h3)); have n2_ := Aside0.mk (Nat.le_trans HS.out hs); clear HG HB HK HS BKgi hs hk; have HG := Aside0.mk hg; have HB := Aside0.mk hb; have BKgi := n0_; have HK := n1_; have HS := n2_; clear n0_ n1_ n2_ hg hb)
    | (go_at_call 52; (with_reducible refine (As.num1 HG.out HB.out HBG.out (As.rn_u8 H8.out) (Nat.le_trans As.rn_len HL.out)).mono ?_); rintro r w2 ⟨rfl, hg, hb, hk, hs⟩; have n0_ := Aside0.mk ((hk gi (blk_lt BKgi.out) HNE.out).trans BKgi.out); have n1_ := Aside0.mk (fun q h1 h2 h3 => (hk q (Nat.lt_of_lt_of_le h1 HS.out) h2).trans (HK.out q h1 h2 h3)); have n2_ := Aside0.mk (Nat.le_trans HS.out hs); clear HG HB HK HS BKgi hs hk; have HG := Aside0.mk hg; have HB := Aside0.mk hb; have BKgi := n0_; have HK := n1_; have HS := n2_; clear n0_ n1_ n2_ hg hb)
    | ((with_reducible refine gate_store rfl ?_); refine As.store_cell rfl rfl gi ?_ ?_ 74 _ BKgi.out ?hr ?_; (case hr => (have hs_ := fun i => blk_cell BKgi.out i); (have hf_ := fun i => blk_frozen BKgi.out i); first | (go_simp; done) | (go_simp; rfl)); intro w3 hgb hgr; simp only [List.setIfInBounds_toArray, List.set_cons_zero, List.set_cons_succ] at hgb; have n0_ := Aside0.mk (HB.out.grown hgr HB.out.size (fun k hk => by cases hk; exact HBI.out)); have n1_ := Aside0.mk (fun q h1 h2 h3 => (hgr.block q (Nat.lt_of_lt_of_le h1 HS.out) (fun he => h3 (Option.some.inj he))).trans (HK.out q h1 h2 h3)); have n2_ := Aside0.mk (Nat.le_trans HS.out hgr.size); have n3_ := Aside0.mk (As.Rd_grown HG.out hgr HNE.out); clear HB HK HS HG; have HB := n0_; have HK := n1_; have HS := n2_; have HG := n3_; clear n0_ n1_ n2_ n3_; clear BKgi hgr; have BKgi := Aside0.mk hgb; clear hgb; skip))
  go_end0
  exact ⟨rfl, HG.out, BKgi.out, HB.out, HK.out, HS.out⟩
set_option maxHeartbeats 4000000 in
set_option maxRecDepth 100000 in
theorem As.maskG {w0 w : World} {g gi : Nat} {l : List Int} {ok : Bool} {a0 a1 a2 a3 a4 a5 a6 a7 : Int} {v8 v9 : Value} (hg : As.Rd w0 w g l ok) (hi : w.heap[gi]? = some (.cells #[.int .i64 a0, .int .i64 a1, .int .i64 a2, .int .i64 a3, .int .i64 a4, .int .i64 a5, .int .i64 a6, .int .i64 a7, v8, v9] 74 (0, 0))) (hb : Below w0.heap.size w0 w) (hbg : w0.heap.size ≤ g) (hbi : w0.heap.size ≤ gi) (hne : gi ≠ g) (h8 : ∀ x ∈ l, U8 x) (hl : l.length ≤ 1000000) : Calls Try.prog 72 #[.pointer (some ⟨gi, 0, none⟩), .func (.func 52) #[.pointer (some ⟨g, 0, none⟩)] #[], .pointer (some ⟨g, 0, none⟩)] w fun e w' => e = .returned (.tuple #[]) ∧ As.Rd w0 w' g ((As.rn (As.rn (As.rn l ok).2.1 (As.rn l ok).2.2).2.1 (As.rn (As.rn l ok).2.1 (As.rn l ok).2.2).2.2).2.1) ((As.rn (As.rn (As.rn l ok).2.1 (As.rn l ok).2.2).2.1 (As.rn (As.rn l ok).2.1 (As.rn l ok).2.2).2.2).2.2) ∧ w'.heap[gi]? = some (.cells #[.int .i64 a0, .int .i64 ((As.rn l ok).1), .int .i64 a2, .int .i64 a3, .int .i64 ((As.rn (As.rn l ok).2.1 (As.rn l ok).2.2).1), .int .i64 ((As.rn (As.rn (As.rn l ok).2.1 (As.rn l ok).2.2).2.1 (As.rn (As.rn l ok).2.1 (As.rn l ok).2.2).2.2).1), .int .i64 a6, .int .i64 a7, v8, v9] 74 (0, 0)) ∧ Below w0.heap.size w0 w' ∧ (∀ q, q < w.heap.size → q ≠ g → q ≠ gi → w'.heap[q]? = w.heap[q]?) ∧ w.heap.size ≤ w'.heap.size := by
  have HG := Aside0.mk hg
  have BKgi := Aside0.mk hi
  have HB := Aside0.mk hb
  have HBG := Aside0.mk hbg
  have HBI := Aside0.mk hbi
  have HNE := Aside0.mk hne
  have H8 := Aside0.mk h8
  have HL := Aside0.mk hl
  have HK := Aside0.mk (show ∀ q, q < w.heap.size → q ≠ g → q ≠ gi → w.heap[q]? = w.heap[q]? from fun _ _ _ _ => rfl)
  have HS := Aside0.mk (Nat.le_refl w.heap.size)
  have hu := Try.underlying74
  clear hg hi hb hbg hbi hne h8 hl
  go_enter Try.func72, Try.ntmps72
  go_wp2_with (first
    | (go_at_call 52; (with_reducible refine (As.num1 HG.out HB.out HBG.out H8.out HL.out).mono ?_); rintro r w2 ⟨rfl, hg, hb, hk, hs⟩; have n0_ := Aside0.mk ((hk gi (blk_lt BKgi.out) HNE.out).trans BKgi.out); have n1_ := Aside0.mk (fun q h1 h2 h3 => (hk q (Nat.lt_of_lt_of_le h1 HS.out) h2).trans (HK.out q h1 h2 h3)); have n2_ := Aside0.mk (Nat.le_trans HS.out hs); clear HG HB HK HS BKgi hs hk; have HG := Aside0.mk hg; have HB := Aside0.mk hb; have BKgi := n0_; have HK := n1_; have HS := n2_; clear n0_ n1_ n2_ hg hb)
    | (go_at_call 52; (with_reducible refine (As.num1 HG.out HB.out HBG.out (As.rn_u8 H8.out) (Nat.le_trans As.rn_len HL.out)).mono ?_); rintro r w2 ⟨rfl, hg, hb, hk, hs⟩; have n0_ := Aside0.mk ((hk gi (blk_lt BKgi.out) HNE.out).trans BKgi.out); have n1_ := Aside0.mk (fun q h1 h2 h3 => (hk q (Nat.lt_of_lt_of_le h1 HS.out) h2).trans (HK.out q h1 h2 h3)); have n2_ := Aside0.mk (Nat.le_trans HS.out hs); clear HG HB HK HS BKgi hs hk; have HG := Aside0.mk hg; have HB := Aside0.mk hb; have BKgi := n0_; have HK := n1_; have HS := n2_; clear n0_ n1_ n2_ hg hb)
    | (go_at_call 52; (with_reducible refine (As.num1 HG.out HB.out HBG.out (As.rn_u8 (As.rn_u8 H8.out)) (Nat.le_trans As.rn_len (Nat.le_trans As.rn_len HL.out))).mono ?_); rintro r w2 ⟨rfl, hg, hb, hk, hs⟩; have n0_ := Aside0.mk ((hk gi (blk_lt BKgi.out) HNE.out).trans BKgi.out); have n1_ := Aside0.mk (fun q h1 h2 h3 => (hk q (Nat.lt_of_lt_of_le h1 HS.out) h2).trans (HK.out q h1 h2 h3)); have n2_ := Aside0.mk (Nat.le_trans HS.out hs); clear HG HB HK HS BKgi hs hk; have HG := Aside0.mk hg; have HB := Aside0.mk hb; have BKgi := n0_; have HK := n1_; have HS := n2_; clear n0_ n1_ n2_ hg hb)
    | ((with_reducible refine gate_store rfl ?_); refine As.store_cell rfl rfl gi ?_ ?_ 74 _ BKgi.out ?hr ?_; (case hr => (have hs_ := fun i => blk_cell BKgi.out i); (have hf_ := fun i => blk_frozen BKgi.out i); first | (go_simp; done) | (go_simp; rfl)); intro w3 hgb hgr; simp only [List.setIfInBounds_toArray, List.set_cons_zero, List.set_cons_succ] at hgb; have n0_ := Aside0.mk (HB.out.grown hgr HB.out.size (fun k hk => by cases hk; exact HBI.out)); have n1_ := Aside0.mk (fun q h1 h2 h3 => (hgr.block q (Nat.lt_of_lt_of_le h1 HS.out) (fun he => h3 (Option.some.inj he))).trans (HK.out q h1 h2 h3)); have n2_ := Aside0.mk (Nat.le_trans HS.out hgr.size); have n3_ := Aside0.mk (As.Rd_grown HG.out hgr HNE.out); clear HB HK HS HG; have HB := n0_; have HK := n1_; have HS := n2_; have HG := n3_; clear n0_ n1_ n2_ n3_; clear BKgi hgr; have BKgi := Aside0.mk hgb; clear hgb; skip))
  go_end0
  exact ⟨rfl, HG.out, BKgi.out, HB.out, HK.out, HS.out⟩

def As.rs (l : List Int) (ok : Bool) : List Int × List Int × Bool := if l.length = 0 ∨ rd l 0 ≠ (l.length : Int) - 1 then ([], [], false) else (l.drop 1, [], ok)
theorem As.rs_u8 {l : List Int} {ok : Bool} (h : ∀ x ∈ l, U8 x) : ∀ x ∈ (As.rs l ok).1, U8 x := by
  unfold As.rs
  split
  · intro x hx; cases hx
  · exact fun x hx => h x (List.mem_of_mem_drop hx)
theorem As.rs_len {l : List Int} {ok : Bool} : (As.rs l ok).1.length ≤ l.length := by
  unfold As.rs
  split
  · simp
  · simp
set_option maxHeartbeats 4000000 in
set_option maxRecDepth 100000 in
theorem As.rest1 {w0 w : World} {g : Nat} {l : List Int} {ok : Bool} (hg : As.Rd w0 w g l ok) (hb : Below w0.heap.size w0 w) (hbg : w0.heap.size ≤ g) (h8 : ∀ x ∈ l, U8 x) (hl : l.length ≤ 1000000) : Calls Try.prog 79 #[.pointer (some ⟨g, 0, none⟩)] w fun e w' => (∃ A c, e = .returned (.slice A (As.rs l ok).1.length c) ∧ (As.rs l ok).1.length ≤ c ∧ (Kd.int .u8).C w0 A (As.rs l ok).1.length (As.rs l ok).1) ∧ As.Rd w0 w' g (As.rs l ok).2.1 (As.rs l ok).2.2 ∧ Below w0.heap.size w0 w' ∧ (∀ q, q < w.heap.size → q ≠ g → w'.heap[q]? = w.heap[q]?) ∧ w.heap.size ≤ w'.heap.size := by
  obtain ⟨A, c, hg, hc, hr⟩ := hg
  have BKg := Aside0.mk hg
  have HR := Aside0.mk hr
  have HC := Aside0.mk hc
  have HB := Aside0.mk hb
  have HBG := Aside0.mk hbg
  have H8 := Aside0.mk h8
  have HL := Aside0.mk hl
  have HK := Aside0.mk (show ∀ q, q < w.heap.size → q ≠ g → w.heap[q]? = w.heap[q]? from fun _ _ _ => rfl)
  have HS := Aside0.mk (Nat.le_refl w.heap.size)
  have hu := Try.underlying77
  have hu8 := Try.underlying28
  clear hg hr hb hbg h8 hl
  have cg := fun i => blk_cell BKg.out i
  by_cases h0 : l.length = 0
  · rw [show As.rs l ok = ([], [], false) from if_pos (.inl h0)]
    have d0 : ((l.length : Int) == 0) = true := by simpa using h0
    go_enter Try.func79, Try.ntmps79
    go_wp2
    refine start_ (n := 22) (S := fun w' => Below w.heap.size w w') (ds := []) (bt 22 0) (by kernel_rfl) rfl (by kernel_rfl) (below_drew1 (Below.refl _ _)) (fun hHeld => ?_)
    clear cg
    refine pure_ (i := 0) (N := some 4) (v := ?_) (a' := ?_) (bt 22 1) rfl rfl (by kernel_rfl) (fun _ _ _ h => h) (Or.inl ⟨by rfl, ?_⟩) ?_ ?_
    rotate_left
    · intro w'
      go_simp
      first | with_reducible rfl | (simp [Instr.field, go_sem]; rfl)
    rotate_left
    · simp only [Act.put, List.setIfInBounds_toArray, List.set_cons_zero, List.set_cons_succ]
      rfl
    refine pure_ (i := 1) (N := some 5) (v := ?_) (a' := ?_) (bt 22 3) rfl rfl (by kernel_rfl) (fun _ _ _ h => h) (Or.inl ⟨by rfl, ?_⟩) ?_ ?_
    rotate_left
    · intro w'
      go_simp
      first | with_reducible rfl | (simp [Instr.field, go_sem]; rfl)
    rotate_left
    · simp only [Act.put, List.setIfInBounds_toArray, List.set_cons_zero, List.set_cons_succ]
      rfl
    refine pure_ (i := 2) (N := some 6) (v := ?_) (a' := ?_) (bt 22 7) rfl rfl (by kernel_rfl) (fun _ _ _ h => h) (Or.inl ⟨by rfl, ?_⟩) ?_ ?_
    rotate_left
    · intro w'
      go_simp
      first | with_reducible rfl | (simp [Instr.field, go_sem]; rfl)
    rotate_left
    · simp only [Act.put, List.setIfInBounds_toArray, List.set_cons_zero, List.set_cons_succ]
      rfl
    refine take_ (i := 3) (N := some 7) (v := ?_) (a' := ?_) (bt 22 15) rfl rfl (by kernel_rfl) (fun _ _ _ h => h) (Or.inl ⟨by rfl, ?_⟩) hHeld ?_ ?_
    rotate_left
    · intro w' hS
      have cg1 := fun i => blk_cell (blk_below BKg.out hS) i
      go_simp
      first | with_reducible rfl | (simp [Instr.field, go_sem]; rfl)
    rotate_left
    · simp only [Act.put, List.setIfInBounds_toArray, List.set_cons_zero, List.set_cons_succ]
      rfl
    refine pure_ (i := 4) (N := some 8) (v := ?_) (a' := ?_) (bt 22 31) rfl rfl (by kernel_rfl) (fun _ _ _ h => h) (Or.inl ⟨by rfl, ?_⟩) ?_ ?_
    rotate_left
    · intro w'
      go_simp
      first | with_reducible rfl | (simp [Instr.field, go_sem]; rfl)
    rotate_left
    · simp only [Act.put, List.setIfInBounds_toArray, List.set_cons_zero, List.set_cons_succ]
      rfl
    refine pure_ (i := 5) (N := some 9) (v := ?_) (a' := ?_) (bt 22 63) rfl rfl (by kernel_rfl) (fun _ _ _ h => h) (Or.inl ⟨by rfl, ?_⟩) ?_ ?_
    rotate_left
    · intro w'
      go_simp
      first | with_reducible rfl | (simp [Instr.field, go_sem]; rfl)
    rotate_left
    · simp only [Act.put, List.setIfInBounds_toArray, List.set_cons_zero, List.set_cons_succ]
      rfl
    refine pure_ (i := 6) (N := some 10) (v := ?_) (a' := ?_) (bt 22 127) rfl rfl (by kernel_rfl) (fun _ _ _ h => h) (Or.inl ⟨by rfl, ?_⟩) ?_ ?_
    rotate_left
    · intro w'
      go_simp
      first | with_reducible rfl | (simp [Instr.field, go_sem]; rfl)
    rotate_left
    · simp only [Act.put, List.setIfInBounds_toArray, List.set_cons_zero, List.set_cons_succ]
      rfl
    refine pure_ (i := 7) (N := some 11) (v := undef) (a' := ?_) (bt 22 255) rfl rfl (by kernel_rfl) (fun _ _ _ h => h) (Or.inr ⟨by rfl, rfl⟩) ?_ ?_
    rotate_left
    · simp only [Act.put, List.setIfInBounds_toArray, List.set_cons_zero, List.set_cons_succ]
      rfl
    refine pure_ (i := 8) (N := some 12) (v := undef) (a' := ?_) (bt 22 511) rfl rfl (by kernel_rfl) (fun _ _ _ h => h) (Or.inr ⟨by rfl, rfl⟩) ?_ ?_
    rotate_left
    · simp only [Act.put, List.setIfInBounds_toArray, List.set_cons_zero, List.set_cons_succ]
      rfl
    refine pure_ (i := 9) (N := some 13) (v := undef) (a' := ?_) (bt 22 1023) rfl rfl (by kernel_rfl) (fun _ _ _ h => h) (Or.inr ⟨by rfl, rfl⟩) ?_ ?_
    rotate_left
    · simp only [Act.put, List.setIfInBounds_toArray, List.set_cons_zero, List.set_cons_succ]
      rfl
    refine pure_ (i := 10) (N := some 14) (v := undef) (a' := ?_) (bt 22 2047) rfl rfl (by kernel_rfl) (fun _ _ _ h => h) (Or.inr ⟨by rfl, rfl⟩) ?_ ?_
    rotate_left
    · simp only [Act.put, List.setIfInBounds_toArray, List.set_cons_zero, List.set_cons_succ]
      rfl
    refine pure_ (i := 11) (N := some 15) (v := undef) (a' := ?_) (bt 22 4095) rfl rfl (by kernel_rfl) (fun _ _ _ h => h) (Or.inr ⟨by rfl, rfl⟩) ?_ ?_
    rotate_left
    · simp only [Act.put, List.setIfInBounds_toArray, List.set_cons_zero, List.set_cons_succ]
      rfl
    refine pure_ (i := 12) (N := some 16) (v := undef) (a' := ?_) (bt 22 8191) rfl rfl (by kernel_rfl) (fun _ _ _ h => h) (Or.inr ⟨by rfl, rfl⟩) ?_ ?_
    rotate_left
    · simp only [Act.put, List.setIfInBounds_toArray, List.set_cons_zero, List.set_cons_succ]
      rfl
    refine pure_ (i := 13) (N := some 17) (v := undef) (a' := ?_) (bt 22 16383) rfl rfl (by kernel_rfl) (fun _ _ _ h => h) (Or.inr ⟨by rfl, rfl⟩) ?_ ?_
    rotate_left
    · simp only [Act.put, List.setIfInBounds_toArray, List.set_cons_zero, List.set_cons_succ]
      rfl
    refine pure_ (i := 14) (N := some 18) (v := undef) (a' := ?_) (bt 22 32767) rfl rfl (by kernel_rfl) (fun _ _ _ h => h) (Or.inr ⟨by rfl, rfl⟩) ?_ ?_
    rotate_left
    · simp only [Act.put, List.setIfInBounds_toArray, List.set_cons_zero, List.set_cons_succ]
      rfl
    refine pure_ (i := 15) (N := some 19) (v := undef) (a' := ?_) (bt 22 65535) rfl rfl (by kernel_rfl) (fun _ _ _ h => h) (Or.inr ⟨by rfl, rfl⟩) ?_ ?_
    rotate_left
    · simp only [Act.put, List.setIfInBounds_toArray, List.set_cons_zero, List.set_cons_succ]
      rfl
    refine pure_ (i := 16) (N := some 20) (v := undef) (a' := ?_) (bt 22 131071) rfl rfl (by kernel_rfl) (fun _ _ _ h => h) (Or.inr ⟨by rfl, rfl⟩) ?_ ?_
    rotate_left
    · simp only [Act.put, List.setIfInBounds_toArray, List.set_cons_zero, List.set_cons_succ]
      rfl
    refine pure_ (i := 17) (N := some 21) (v := undef) (a' := ?_) (bt 22 262143) rfl rfl (by kernel_rfl) (fun _ _ _ h => h) (Or.inr ⟨by rfl, rfl⟩) ?_ ?_
    rotate_left
    · simp only [Act.put, List.setIfInBounds_toArray, List.set_cons_zero, List.set_cons_succ]
      rfl
    refine pure_ (i := 18) (N := some 22) (v := undef) (a' := ?_) (bt 22 524287) rfl rfl (by kernel_rfl) (fun _ _ _ h => h) (Or.inr ⟨by rfl, rfl⟩) ?_ ?_
    rotate_left
    · simp only [Act.put, List.setIfInBounds_toArray, List.set_cons_zero, List.set_cons_succ]
      rfl
    refine pure_ (i := 19) (N := some 23) (v := undef) (a' := ?_) (bt 22 1048575) rfl rfl (by kernel_rfl) (fun _ _ _ h => h) (Or.inr ⟨by rfl, rfl⟩) ?_ ?_
    rotate_left
    · simp only [Act.put, List.setIfInBounds_toArray, List.set_cons_zero, List.set_cons_succ]
      rfl
    refine pure_ (i := 20) (N := some 24) (v := undef) (a' := ?_) (bt 22 2097151) rfl rfl (by kernel_rfl) (fun _ _ _ h => h) (Or.inr ⟨by rfl, rfl⟩) ?_ ?_
    rotate_left
    · simp only [Act.put, List.setIfInBounds_toArray, List.set_cons_zero, List.set_cons_succ]
      rfl
    refine pure_ (i := 21) (N := some 25) (v := ?_) (a' := ?_) (bt 22 4194303) rfl rfl (by kernel_rfl) (fun _ _ _ h => h) (Or.inl ⟨by rfl, ?_⟩) ?_ ?_
    rotate_left
    · intro w'
      go_simp
      first | with_reducible rfl | (simp [Instr.field, go_sem]; rfl)
    rotate_left
    · simp only [Act.put, List.setIfInBounds_toArray, List.set_cons_zero, List.set_cons_succ]
      rfl
    refine done_ (by kernel_rfl) ?_
    have hb := hHeld
    have n0_ := Aside0.mk (below_step HB.out hb)
    have n1_ := Aside0.mk (show ∀ q, q < w.heap.size → q ≠ g → _ from fun q h1 (_ : q ≠ g) => hb.block q h1)
    have n2_ := Aside0.mk hb.size
    have n3_ := Aside0.mk (blk_below BKg.out hb)
    clear HB HK HS BKg hb hHeld
    have HB := n0_
    have HK := n1_
    have HS := n2_
    have BKg := n3_
    clear n0_ n1_ n2_ n3_
    have cg := fun i => blk_cell BKg.out i
    go_wp2_with (first
      | ((with_reducible refine gate_store rfl ?_); refine As.store_cell rfl rfl g ?_ ?_ 77 _ BKg.out ?hr ?_; (case hr => (have hs_ := fun i => blk_cell BKg.out i); (have hf_ := fun i => blk_frozen BKg.out i); first | (go_simp; done) | (go_simp; rfl)); intro w3 hgb hgr; simp only [List.setIfInBounds_toArray, List.set_cons_zero, List.set_cons_succ] at hgb; have n0_ := Aside0.mk (HB.out.grown hgr HB.out.size (fun k hk => by cases hk; exact HBG.out)); have n1_ := Aside0.mk (fun q h1 h2 => (hgr.block q (Nat.lt_of_lt_of_le h1 HS.out) (fun he => h2 (Option.some.inj he))).trans (HK.out q h1 h2)); have n2_ := Aside0.mk (Nat.le_trans HS.out hgr.size); clear HB HK HS; have HB := n0_; have HK := n1_; have HS := n2_; clear n0_ n1_ n2_; clear BKg hgr; have BKg := Aside0.mk hgb; clear hgb; (try clear cg); have cg := fun i => blk_cell BKg.out i))
    go_ret
    exact ⟨⟨none, 0, rfl, Nat.le_refl _, Kd.C_nil _ _⟩, ⟨none, 0, BKg.out, Nat.le_refl _, Kd.C_nil _ _⟩, HB.out, HK.out, HS.out⟩
  have d0 : ((l.length : Int) == 0) = false := by simpa using h0
  have hpos : (0 : Int) < (l.length : Int) := by omega
  have hposn : 0 < l.length := by omega
  obtain ⟨ad, ea, hx⟩ := Kd.at_int HR.out 0 (by omega) (by omega)
  have HX := Aside0.mk (show w0.cell? ad = some (.int .u8 (rd l 0)) from hx)
  clear hx
  have hub := rd_all H8.out (i := 0) (by omega) (by omega)
  have hw0 : IntKind.i64.wrap (rd l 0) = rd l 0 := by rw [i64_w]; exact w64 (by unfold U8 at hub; omega)
  have hw1 : IntKind.i64.wrap ((l.length : Int) - 1) = (l.length : Int) - 1 := by rw [i64_w]; exact w64 (by have := HL.out; omega)
  obtain ⟨t, ht⟩ : ∃ t, l.drop 1 = t := ⟨_, rfl⟩
  have hlen := Aside0.mk (show t.length = l.length - 1 by rw [← ht, List.length_drop])
  have hC0 := Kd.C_drop (m := 1) HR.out (by omega) HC.out
  rw [ht] at hC0
  have hC := Aside0.mk hC0
  clear hub hC0
  subst ea
  by_cases h1 : rd l 0 = (l.length : Int) - 1
  rotate_left
  · rw [show As.rs l ok = ([], [], false) from if_pos (.inr h1)]
    have d1 : (rd l 0 != (l.length : Int) - 1) = true := by simpa using h1
    go_enter Try.func79, Try.ntmps79
    go_wp2
    refine start_ (n := 22) (S := fun w' => Below w.heap.size w w') (ds := []) (bt 22 0) (by kernel_rfl) rfl (by kernel_rfl) (below_drew1 (Below.refl _ _)) (fun hHeld => ?_)
    clear cg
    refine pure_ (i := 0) (N := some 4) (v := ?_) (a' := ?_) (bt 22 1) rfl rfl (by kernel_rfl) (fun _ _ _ h => h) (Or.inl ⟨by rfl, ?_⟩) ?_ ?_
    rotate_left
    · intro w'
      go_simp
      first | with_reducible rfl | (simp [Instr.field, go_sem]; rfl)
    rotate_left
    · simp only [Act.put, List.setIfInBounds_toArray, List.set_cons_zero, List.set_cons_succ]
      rfl
    refine pure_ (i := 1) (N := some 5) (v := ?_) (a' := ?_) (bt 22 3) rfl rfl (by kernel_rfl) (fun _ _ _ h => h) (Or.inl ⟨by rfl, ?_⟩) ?_ ?_
    rotate_left
    · intro w'
      go_simp
      first | with_reducible rfl | (simp [Instr.field, go_sem]; rfl)
    rotate_left
    · simp only [Act.put, List.setIfInBounds_toArray, List.set_cons_zero, List.set_cons_succ]
      rfl
    refine pure_ (i := 2) (N := some 6) (v := ?_) (a' := ?_) (bt 22 7) rfl rfl (by kernel_rfl) (fun _ _ _ h => h) (Or.inl ⟨by rfl, ?_⟩) ?_ ?_
    rotate_left
    · intro w'
      go_simp
      first | with_reducible rfl | (simp [Instr.field, go_sem]; rfl)
    rotate_left
    · simp only [Act.put, List.setIfInBounds_toArray, List.set_cons_zero, List.set_cons_succ]
      rfl
    refine take_ (i := 3) (N := some 7) (v := ?_) (a' := ?_) (bt 22 15) rfl rfl (by kernel_rfl) (fun _ _ _ h => h) (Or.inl ⟨by rfl, ?_⟩) hHeld ?_ ?_
    rotate_left
    · intro w' hS
      have cg1 := fun i => blk_cell (blk_below BKg.out hS) i
      go_simp
      first | with_reducible rfl | (simp [Instr.field, go_sem]; rfl)
    rotate_left
    · simp only [Act.put, List.setIfInBounds_toArray, List.set_cons_zero, List.set_cons_succ]
      rfl
    refine pure_ (i := 4) (N := some 8) (v := ?_) (a' := ?_) (bt 22 31) rfl rfl (by kernel_rfl) (fun _ _ _ h => h) (Or.inl ⟨by rfl, ?_⟩) ?_ ?_
    rotate_left
    · intro w'
      go_simp
      first | with_reducible rfl | (simp [Instr.field, go_sem]; rfl)
    rotate_left
    · simp only [Act.put, List.setIfInBounds_toArray, List.set_cons_zero, List.set_cons_succ]
      rfl
    refine pure_ (i := 5) (N := some 9) (v := ?_) (a' := ?_) (bt 22 63) rfl rfl (by kernel_rfl) (fun _ _ _ h => h) (Or.inl ⟨by rfl, ?_⟩) ?_ ?_
    rotate_left
    · intro w'
      go_simp
      first | with_reducible rfl | (simp [Instr.field, go_sem]; rfl)
    rotate_left
    · simp only [Act.put, List.setIfInBounds_toArray, List.set_cons_zero, List.set_cons_succ]
      rfl
    refine pure_ (i := 6) (N := some 10) (v := ?_) (a' := ?_) (bt 22 127) rfl rfl (by kernel_rfl) (fun _ _ _ h => h) (Or.inl ⟨by rfl, ?_⟩) ?_ ?_
    rotate_left
    · intro w'
      go_simp
      first | with_reducible rfl | (simp [Instr.field, go_sem]; rfl)
    rotate_left
    · simp only [Act.put, List.setIfInBounds_toArray, List.set_cons_zero, List.set_cons_succ]
      rfl
    refine pure_ (i := 7) (N := some 11) (v := ?_) (a' := ?_) (bt 22 255) rfl rfl (by kernel_rfl) (fun _ _ _ h => h) (Or.inl ⟨by rfl, ?_⟩) ?_ ?_
    rotate_left
    · intro w'
      go_simp
      first | with_reducible rfl | (simp [Instr.field, go_sem]; rfl)
    rotate_left
    · simp only [Act.put, List.setIfInBounds_toArray, List.set_cons_zero, List.set_cons_succ]
      rfl
    refine pure_ (i := 8) (N := some 12) (v := ?_) (a' := ?_) (bt 22 511) rfl rfl (by kernel_rfl) (fun _ _ _ h => h) (Or.inl ⟨by rfl, ?_⟩) ?_ ?_
    rotate_left
    · intro w'
      go_simp
      first | with_reducible rfl | (simp [Instr.field, go_sem]; rfl)
    rotate_left
    · simp only [Act.put, List.setIfInBounds_toArray, List.set_cons_zero, List.set_cons_succ]
      rfl
    refine pure_ (i := 9) (N := some 13) (v := ?_) (a' := ?_) (bt 22 1023) rfl rfl (by kernel_rfl) (fun _ _ _ h => h) (Or.inl ⟨by rfl, ?_⟩) ?_ ?_
    rotate_left
    · intro w'
      go_simp
      first | with_reducible rfl | (simp [Instr.field, go_sem]; rfl)
    rotate_left
    · simp only [Act.put, List.setIfInBounds_toArray, List.set_cons_zero, List.set_cons_succ]
      rfl
    refine take_ (i := 10) (N := some 14) (v := ?_) (a' := ?_) (bt 22 2047) rfl rfl (by kernel_rfl) (fun _ _ _ h => h) (Or.inl ⟨by rfl, ?_⟩) hHeld ?_ ?_
    rotate_left
    · intro w' hS
      have cg1 := fun i => blk_cell (blk_below BKg.out hS) i
      go_simp
      first | with_reducible rfl | (simp [Instr.field, go_sem]; rfl)
    rotate_left
    · simp only [Act.put, List.setIfInBounds_toArray, List.set_cons_zero, List.set_cons_succ]
      rfl
    refine pure_ (i := 11) (N := some 15) (v := ?_) (a' := ?_) (bt 22 4095) rfl rfl (by kernel_rfl) (fun _ _ _ h => h) (Or.inl ⟨by rfl, ?_⟩) ?_ ?_
    rotate_left
    · intro w'
      go_simp
      first | with_reducible rfl | (simp [Instr.field, go_sem]; rfl)
    rotate_left
    · simp only [Act.put, List.setIfInBounds_toArray, List.set_cons_zero, List.set_cons_succ]
      rfl
    refine take_ (i := 12) (N := some 16) (v := ?_) (a' := ?_) (bt 22 8191) rfl rfl (by kernel_rfl) (fun _ _ _ h => h) (Or.inl ⟨by rfl, ?_⟩) hHeld ?_ ?_
    rotate_left
    · intro w' hS
      have f_ := pw_cell_below hS (pw_cell_below HB.out HX.out)
      go_simp
      first | with_reducible rfl | (simp [Instr.field, go_sem]; rfl)
    rotate_left
    · simp only [Act.put, List.setIfInBounds_toArray, List.set_cons_zero, List.set_cons_succ]
      rfl
    refine pure_ (i := 13) (N := some 17) (v := ?_) (a' := ?_) (bt 22 16383) rfl rfl (by kernel_rfl) (fun _ _ _ h => h) (Or.inl ⟨by rfl, ?_⟩) ?_ ?_
    rotate_left
    · intro w'
      go_simp
      first | with_reducible rfl | (simp [Instr.field, go_sem]; rfl)
    rotate_left
    · simp only [Act.put, List.setIfInBounds_toArray, List.set_cons_zero, List.set_cons_succ]
      rfl
    refine pure_ (i := 14) (N := some 18) (v := ?_) (a' := ?_) (bt 22 32767) rfl rfl (by kernel_rfl) (fun _ _ _ h => h) (Or.inl ⟨by rfl, ?_⟩) ?_ ?_
    rotate_left
    · intro w'
      go_simp
      first | with_reducible rfl | (simp [Instr.field, go_sem]; rfl)
    rotate_left
    · simp only [Act.put, List.setIfInBounds_toArray, List.set_cons_zero, List.set_cons_succ]
      rfl
    refine pure_ (i := 15) (N := some 19) (v := ?_) (a' := ?_) (bt 22 65535) rfl rfl (by kernel_rfl) (fun _ _ _ h => h) (Or.inl ⟨by rfl, ?_⟩) ?_ ?_
    rotate_left
    · intro w'
      go_simp
      first | with_reducible rfl | (simp [Instr.field, go_sem]; rfl)
    rotate_left
    · simp only [Act.put, List.setIfInBounds_toArray, List.set_cons_zero, List.set_cons_succ]
      rfl
    refine pure_ (i := 16) (N := some 20) (v := ?_) (a' := ?_) (bt 22 131071) rfl rfl (by kernel_rfl) (fun _ _ _ h => h) (Or.inl ⟨by rfl, ?_⟩) ?_ ?_
    rotate_left
    · intro w'
      go_simp
      first | with_reducible rfl | (simp [Instr.field, go_sem]; rfl)
    rotate_left
    · simp only [Act.put, List.setIfInBounds_toArray, List.set_cons_zero, List.set_cons_succ]
      rfl
    refine take_ (i := 17) (N := some 21) (v := ?_) (a' := ?_) (bt 22 262143) rfl rfl (by kernel_rfl) (fun _ _ _ h => h) (Or.inl ⟨by rfl, ?_⟩) hHeld ?_ ?_
    rotate_left
    · intro w' hS
      have cg1 := fun i => blk_cell (blk_below BKg.out hS) i
      go_simp
      first | with_reducible rfl | (simp [Instr.field, go_sem]; rfl)
    rotate_left
    · simp only [Act.put, List.setIfInBounds_toArray, List.set_cons_zero, List.set_cons_succ]
      rfl
    refine pure_ (i := 18) (N := some 22) (v := ?_) (a' := ?_) (bt 22 524287) rfl rfl (by kernel_rfl) (fun _ _ _ h => h) (Or.inl ⟨by rfl, ?_⟩) ?_ ?_
    rotate_left
    · intro w'
      go_simp
      first | with_reducible rfl | (simp [Instr.field, go_sem]; rfl)
    rotate_left
    · simp only [Act.put, List.setIfInBounds_toArray, List.set_cons_zero, List.set_cons_succ]
      rfl
    refine pure_ (i := 19) (N := some 23) (v := ?_) (a' := ?_) (bt 22 1048575) rfl rfl (by kernel_rfl) (fun _ _ _ h => h) (Or.inl ⟨by rfl, ?_⟩) ?_ ?_
    rotate_left
    · intro w'
      go_simp
      first | with_reducible rfl | (simp [Instr.field, go_sem]; rfl)
    rotate_left
    · simp only [Act.put, List.setIfInBounds_toArray, List.set_cons_zero, List.set_cons_succ]
      rfl
    refine pure_ (i := 20) (N := some 24) (v := ?_) (a' := ?_) (bt 22 2097151) rfl rfl (by kernel_rfl) (fun _ _ _ h => h) (Or.inl ⟨by rfl, ?_⟩) ?_ ?_
    rotate_left
    · intro w'
      go_simp
      first | with_reducible rfl | (simp [Instr.field, go_sem]; rfl)
    rotate_left
    · simp only [Act.put, List.setIfInBounds_toArray, List.set_cons_zero, List.set_cons_succ]
      rfl
    refine pure_ (i := 21) (N := some 25) (v := ?_) (a' := ?_) (bt 22 4194303) rfl rfl (by kernel_rfl) (fun _ _ _ h => h) (Or.inl ⟨by rfl, ?_⟩) ?_ ?_
    rotate_left
    · intro w'
      go_simp
      first | with_reducible rfl | (simp [Instr.field, go_sem]; rfl)
    rotate_left
    · simp only [Act.put, List.setIfInBounds_toArray, List.set_cons_zero, List.set_cons_succ]
      rfl
    refine done_ (by kernel_rfl) ?_
    have hb := hHeld
    have n0_ := Aside0.mk (below_step HB.out hb)
    have n1_ := Aside0.mk (show ∀ q, q < w.heap.size → q ≠ g → _ from fun q h1 (_ : q ≠ g) => hb.block q h1)
    have n2_ := Aside0.mk hb.size
    have n3_ := Aside0.mk (blk_below BKg.out hb)
    clear HB HK HS BKg hb hHeld
    have HB := n0_
    have HK := n1_
    have HS := n2_
    have BKg := n3_
    clear n0_ n1_ n2_ n3_
    have cg := fun i => blk_cell BKg.out i
    go_wp2_with (first
      | ((with_reducible refine gate_store rfl ?_); refine As.store_cell rfl rfl g ?_ ?_ 77 _ BKg.out ?hr ?_; (case hr => (have hs_ := fun i => blk_cell BKg.out i); (have hf_ := fun i => blk_frozen BKg.out i); first | (go_simp; done) | (go_simp; rfl)); intro w3 hgb hgr; simp only [List.setIfInBounds_toArray, List.set_cons_zero, List.set_cons_succ] at hgb; have n0_ := Aside0.mk (HB.out.grown hgr HB.out.size (fun k hk => by cases hk; exact HBG.out)); have n1_ := Aside0.mk (fun q h1 h2 => (hgr.block q (Nat.lt_of_lt_of_le h1 HS.out) (fun he => h2 (Option.some.inj he))).trans (HK.out q h1 h2)); have n2_ := Aside0.mk (Nat.le_trans HS.out hgr.size); clear HB HK HS; have HB := n0_; have HK := n1_; have HS := n2_; clear n0_ n1_ n2_; clear BKg hgr; have BKg := Aside0.mk hgb; clear hgb; (try clear cg); have cg := fun i => blk_cell BKg.out i))
    go_ret
    exact ⟨⟨none, 0, rfl, Nat.le_refl _, Kd.C_nil _ _⟩, ⟨none, 0, BKg.out, Nat.le_refl _, Kd.C_nil _ _⟩, HB.out, HK.out, HS.out⟩
  · rw [show As.rs l ok = (t, [], ok) from by rw [← ht]; exact if_neg (by rintro (h | h); exact h0 h; exact h h1)]
    have d1 : (rd l 0 != (l.length : Int) - 1) = false := by simpa using h1
    go_enter Try.func79, Try.ntmps79
    go_wp2
    refine start_ (n := 22) (S := fun w' => Below w.heap.size w w') (ds := []) (bt 22 0) (by kernel_rfl) rfl (by kernel_rfl) (below_drew1 (Below.refl _ _)) (fun hHeld => ?_)
    clear cg
    refine pure_ (i := 0) (N := some 4) (v := ?_) (a' := ?_) (bt 22 1) rfl rfl (by kernel_rfl) (fun _ _ _ h => h) (Or.inl ⟨by rfl, ?_⟩) ?_ ?_
    rotate_left
    · intro w'
      go_simp
      first | with_reducible rfl | (simp [Instr.field, go_sem]; rfl)
    rotate_left
    · simp only [Act.put, List.setIfInBounds_toArray, List.set_cons_zero, List.set_cons_succ]
      rfl
    refine pure_ (i := 1) (N := some 5) (v := ?_) (a' := ?_) (bt 22 3) rfl rfl (by kernel_rfl) (fun _ _ _ h => h) (Or.inl ⟨by rfl, ?_⟩) ?_ ?_
    rotate_left
    · intro w'
      go_simp
      first | with_reducible rfl | (simp [Instr.field, go_sem]; rfl)
    rotate_left
    · simp only [Act.put, List.setIfInBounds_toArray, List.set_cons_zero, List.set_cons_succ]
      rfl
    refine pure_ (i := 2) (N := some 6) (v := ?_) (a' := ?_) (bt 22 7) rfl rfl (by kernel_rfl) (fun _ _ _ h => h) (Or.inl ⟨by rfl, ?_⟩) ?_ ?_
    rotate_left
    · intro w'
      go_simp
      first | with_reducible rfl | (simp [Instr.field, go_sem]; rfl)
    rotate_left
    · simp only [Act.put, List.setIfInBounds_toArray, List.set_cons_zero, List.set_cons_succ]
      rfl
    refine take_ (i := 3) (N := some 7) (v := ?_) (a' := ?_) (bt 22 15) rfl rfl (by kernel_rfl) (fun _ _ _ h => h) (Or.inl ⟨by rfl, ?_⟩) hHeld ?_ ?_
    rotate_left
    · intro w' hS
      have cg1 := fun i => blk_cell (blk_below BKg.out hS) i
      go_simp
      first | with_reducible rfl | (simp [Instr.field, go_sem]; rfl)
    rotate_left
    · simp only [Act.put, List.setIfInBounds_toArray, List.set_cons_zero, List.set_cons_succ]
      rfl
    refine pure_ (i := 4) (N := some 8) (v := ?_) (a' := ?_) (bt 22 31) rfl rfl (by kernel_rfl) (fun _ _ _ h => h) (Or.inl ⟨by rfl, ?_⟩) ?_ ?_
    rotate_left
    · intro w'
      go_simp
      first | with_reducible rfl | (simp [Instr.field, go_sem]; rfl)
    rotate_left
    · simp only [Act.put, List.setIfInBounds_toArray, List.set_cons_zero, List.set_cons_succ]
      rfl
    refine pure_ (i := 5) (N := some 9) (v := ?_) (a' := ?_) (bt 22 63) rfl rfl (by kernel_rfl) (fun _ _ _ h => h) (Or.inl ⟨by rfl, ?_⟩) ?_ ?_
    rotate_left
    · intro w'
      go_simp
      first | with_reducible rfl | (simp [Instr.field, go_sem]; rfl)
    rotate_left
    · simp only [Act.put, List.setIfInBounds_toArray, List.set_cons_zero, List.set_cons_succ]
      rfl
    refine pure_ (i := 6) (N := some 10) (v := ?_) (a' := ?_) (bt 22 127) rfl rfl (by kernel_rfl) (fun _ _ _ h => h) (Or.inl ⟨by rfl, ?_⟩) ?_ ?_
    rotate_left
    · intro w'
      go_simp
      first | with_reducible rfl | (simp [Instr.field, go_sem]; rfl)
    rotate_left
    · simp only [Act.put, List.setIfInBounds_toArray, List.set_cons_zero, List.set_cons_succ]
      rfl
    refine pure_ (i := 7) (N := some 11) (v := ?_) (a' := ?_) (bt 22 255) rfl rfl (by kernel_rfl) (fun _ _ _ h => h) (Or.inl ⟨by rfl, ?_⟩) ?_ ?_
    rotate_left
    · intro w'
      go_simp
      first | with_reducible rfl | (simp [Instr.field, go_sem]; rfl)
    rotate_left
    · simp only [Act.put, List.setIfInBounds_toArray, List.set_cons_zero, List.set_cons_succ]
      rfl
    refine pure_ (i := 8) (N := some 12) (v := ?_) (a' := ?_) (bt 22 511) rfl rfl (by kernel_rfl) (fun _ _ _ h => h) (Or.inl ⟨by rfl, ?_⟩) ?_ ?_
    rotate_left
    · intro w'
      go_simp
      first | with_reducible rfl | (simp [Instr.field, go_sem]; rfl)
    rotate_left
    · simp only [Act.put, List.setIfInBounds_toArray, List.set_cons_zero, List.set_cons_succ]
      rfl
    refine pure_ (i := 9) (N := some 13) (v := ?_) (a' := ?_) (bt 22 1023) rfl rfl (by kernel_rfl) (fun _ _ _ h => h) (Or.inl ⟨by rfl, ?_⟩) ?_ ?_
    rotate_left
    · intro w'
      go_simp
      first | with_reducible rfl | (simp [Instr.field, go_sem]; rfl)
    rotate_left
    · simp only [Act.put, List.setIfInBounds_toArray, List.set_cons_zero, List.set_cons_succ]
      rfl
    refine take_ (i := 10) (N := some 14) (v := ?_) (a' := ?_) (bt 22 2047) rfl rfl (by kernel_rfl) (fun _ _ _ h => h) (Or.inl ⟨by rfl, ?_⟩) hHeld ?_ ?_
    rotate_left
    · intro w' hS
      have cg1 := fun i => blk_cell (blk_below BKg.out hS) i
      go_simp
      first | with_reducible rfl | (simp [Instr.field, go_sem]; rfl)
    rotate_left
    · simp only [Act.put, List.setIfInBounds_toArray, List.set_cons_zero, List.set_cons_succ]
      rfl
    refine pure_ (i := 11) (N := some 15) (v := ?_) (a' := ?_) (bt 22 4095) rfl rfl (by kernel_rfl) (fun _ _ _ h => h) (Or.inl ⟨by rfl, ?_⟩) ?_ ?_
    rotate_left
    · intro w'
      go_simp
      first | with_reducible rfl | (simp [Instr.field, go_sem]; rfl)
    rotate_left
    · simp only [Act.put, List.setIfInBounds_toArray, List.set_cons_zero, List.set_cons_succ]
      rfl
    refine take_ (i := 12) (N := some 16) (v := ?_) (a' := ?_) (bt 22 8191) rfl rfl (by kernel_rfl) (fun _ _ _ h => h) (Or.inl ⟨by rfl, ?_⟩) hHeld ?_ ?_
    rotate_left
    · intro w' hS
      have f_ := pw_cell_below hS (pw_cell_below HB.out HX.out)
      go_simp
      first | with_reducible rfl | (simp [Instr.field, go_sem]; rfl)
    rotate_left
    · simp only [Act.put, List.setIfInBounds_toArray, List.set_cons_zero, List.set_cons_succ]
      rfl
    refine pure_ (i := 13) (N := some 17) (v := ?_) (a' := ?_) (bt 22 16383) rfl rfl (by kernel_rfl) (fun _ _ _ h => h) (Or.inl ⟨by rfl, ?_⟩) ?_ ?_
    rotate_left
    · intro w'
      go_simp
      first | with_reducible rfl | (simp [Instr.field, go_sem]; rfl)
    rotate_left
    · simp only [Act.put, List.setIfInBounds_toArray, List.set_cons_zero, List.set_cons_succ]
      rfl
    refine pure_ (i := 14) (N := some 18) (v := ?_) (a' := ?_) (bt 22 32767) rfl rfl (by kernel_rfl) (fun _ _ _ h => h) (Or.inl ⟨by rfl, ?_⟩) ?_ ?_
    rotate_left
    · intro w'
      go_simp
      first | with_reducible rfl | (simp [Instr.field, go_sem]; rfl)
    rotate_left
    · simp only [Act.put, List.setIfInBounds_toArray, List.set_cons_zero, List.set_cons_succ]
      rfl
    refine pure_ (i := 15) (N := some 19) (v := ?_) (a' := ?_) (bt 22 65535) rfl rfl (by kernel_rfl) (fun _ _ _ h => h) (Or.inl ⟨by rfl, ?_⟩) ?_ ?_
    rotate_left
    · intro w'
      go_simp
      first | with_reducible rfl | (simp [Instr.field, go_sem]; rfl)
    rotate_left
    · simp only [Act.put, List.setIfInBounds_toArray, List.set_cons_zero, List.set_cons_succ]
      rfl
    refine pure_ (i := 16) (N := some 20) (v := ?_) (a' := ?_) (bt 22 131071) rfl rfl (by kernel_rfl) (fun _ _ _ h => h) (Or.inl ⟨by rfl, ?_⟩) ?_ ?_
    rotate_left
    · intro w'
      go_simp
      first | with_reducible rfl | (simp [Instr.field, go_sem]; rfl)
    rotate_left
    · simp only [Act.put, List.setIfInBounds_toArray, List.set_cons_zero, List.set_cons_succ]
      rfl
    refine take_ (i := 17) (N := some 21) (v := ?_) (a' := ?_) (bt 22 262143) rfl rfl (by kernel_rfl) (fun _ _ _ h => h) (Or.inl ⟨by rfl, ?_⟩) hHeld ?_ ?_
    rotate_left
    · intro w' hS
      have cg1 := fun i => blk_cell (blk_below BKg.out hS) i
      go_simp
      first | with_reducible rfl | (simp [Instr.field, go_sem]; rfl)
    rotate_left
    · simp only [Act.put, List.setIfInBounds_toArray, List.set_cons_zero, List.set_cons_succ]
      rfl
    refine pure_ (i := 18) (N := some 22) (v := ?_) (a' := ?_) (bt 22 524287) rfl rfl (by kernel_rfl) (fun _ _ _ h => h) (Or.inl ⟨by rfl, ?_⟩) ?_ ?_
    rotate_left
    · intro w'
      go_simp
      first | with_reducible rfl | (simp [Instr.field, go_sem]; rfl)
    rotate_left
    · simp only [Act.put, List.setIfInBounds_toArray, List.set_cons_zero, List.set_cons_succ]
      rfl
    refine pure_ (i := 19) (N := some 23) (v := ?_) (a' := ?_) (bt 22 1048575) rfl rfl (by kernel_rfl) (fun _ _ _ h => h) (Or.inl ⟨by rfl, ?_⟩) ?_ ?_
    rotate_left
    · intro w'
      go_simp
      first | with_reducible rfl | (simp [Instr.field, go_sem]; rfl)
    rotate_left
    · simp only [Act.put, List.setIfInBounds_toArray, List.set_cons_zero, List.set_cons_succ]
      rfl
    refine pure_ (i := 20) (N := some 24) (v := ?_) (a' := ?_) (bt 22 2097151) rfl rfl (by kernel_rfl) (fun _ _ _ h => h) (Or.inl ⟨by rfl, ?_⟩) ?_ ?_
    rotate_left
    · intro w'
      go_simp
      first | with_reducible rfl | (simp [Instr.field, go_sem]; rfl)
    rotate_left
    · simp only [Act.put, List.setIfInBounds_toArray, List.set_cons_zero, List.set_cons_succ]
      rfl
    refine pure_ (i := 21) (N := some 25) (v := ?_) (a' := ?_) (bt 22 4194303) rfl rfl (by kernel_rfl) (fun _ _ _ h => h) (Or.inl ⟨by rfl, ?_⟩) ?_ ?_
    rotate_left
    · intro w'
      go_simp
      first | with_reducible rfl | (simp [Instr.field, go_sem]; rfl)
    rotate_left
    · simp only [Act.put, List.setIfInBounds_toArray, List.set_cons_zero, List.set_cons_succ]
      rfl
    refine done_ (by kernel_rfl) ?_
    have hb := hHeld
    have n0_ := Aside0.mk (below_step HB.out hb)
    have n1_ := Aside0.mk (show ∀ q, q < w.heap.size → q ≠ g → _ from fun q h1 (_ : q ≠ g) => hb.block q h1)
    have n2_ := Aside0.mk hb.size
    have n3_ := Aside0.mk (blk_below BKg.out hb)
    clear HB HK HS BKg hb hHeld
    have HB := n0_
    have HK := n1_
    have HS := n2_
    have BKg := n3_
    clear n0_ n1_ n2_ n3_
    have cg := fun i => blk_cell BKg.out i
    go_wp2_with (first
      | ((with_reducible refine gate_store rfl ?_); refine As.store_cell rfl rfl g ?_ ?_ 77 _ BKg.out ?hr ?_; (case hr => (have hs_ := fun i => blk_cell BKg.out i); (have hf_ := fun i => blk_frozen BKg.out i); first | (go_simp; done) | (go_simp; rfl)); intro w3 hgb hgr; simp only [List.setIfInBounds_toArray, List.set_cons_zero, List.set_cons_succ] at hgb; have n0_ := Aside0.mk (HB.out.grown hgr HB.out.size (fun k hk => by cases hk; exact HBG.out)); have n1_ := Aside0.mk (fun q h1 h2 => (hgr.block q (Nat.lt_of_lt_of_le h1 HS.out) (fun he => h2 (Option.some.inj he))).trans (HK.out q h1 h2)); have n2_ := Aside0.mk (Nat.le_trans HS.out hgr.size); clear HB HK HS; have HB := n0_; have HK := n1_; have HS := n2_; clear n0_ n1_ n2_; clear BKg hgr; have BKg := Aside0.mk hgb; clear hgb; (try clear cg); have cg := fun i => blk_cell BKg.out i))
    all_goals
      have hC1 := hC.out
      first | rw [if_pos (by assumption)] at hC1 | rw [if_neg (by assumption)] at hC1
      go_ret
      exact ⟨⟨_, _, by rw [hlen.out]; rfl, by rw [hlen.out]; omega, hC1⟩, ⟨none, 0, BKg.out, Nat.le_refl _, Kd.C_nil _ _⟩, HB.out, HK.out, HS.out⟩

end Go.Proofs.Ytedfbemifigoeaa.P
