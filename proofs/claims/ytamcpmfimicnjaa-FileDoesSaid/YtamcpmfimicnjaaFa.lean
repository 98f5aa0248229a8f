import Derived.Test.YtamcpmfimicnjaaX
import Derived.Test.YtamcpmfimicnjaaPx0
import Derived.Test.YtamcpmfimicnjaaPx13
import Derived.Test.YtamcpmfimicnjaaPx2
import Derived.Test.YtamcpmfimicnjaaPx3
import Derived.Test.YtamcpmfimicnjaaPx4
import Derived.Test.YtamcpmfimicnjaaPx6
import Derived.Test.YtamcpmfimicnjaaPx7
import Derived.Test.YtamcpmfimicnjaaLFile
import Derived.Test.YtamcpmfimicnjaaLCells
import Derived.Test.YtamcpmfimicnjaaLSameW
import Derived.Test.YtamcpmfimicnjaaLSameB
namespace Go.Proofs.Ytamcpmfimicnjaa.P
open Go.RowKit Go.Proofs.YtamcpmfimicnjaaW.PrintWords Go.Proofs.YtamcpmfimicnjaaW.PrintLast Go.Proofs.YtamcpmfimicnjaaW.PrintMore
attribute [local go_sem] max2_int min2_int max_two min_two max_three min_three max_four min_four   -- for this text's walks alone
set_option linter.unusedVariables false
set_option linter.unusedSimpArgs false
open Go.Proofs.Ytamcpmfimicnjaa.L

/-- A file's value, as it is read. -/
def Fi.V (w : World) (cs : Array Value) (x : S31) : Prop := k31.K w x cs.toList
theorem Fi.V_below {w w1 : World} {cs : Array Value} {x : S31} (h : Fi.V w cs x) (hb : Below w.heap.size w w1) : Fi.V w1 cs x := k31.K_below hb h
theorem Fi.V_size {w : World} {cs : Array Value} {x : S31} (h : Fi.V w cs x) : cs.size = 14 := by
  have h2 := k31.K_len h
  rw [Array.length_toList] at h2
  exact h2
theorem Fi.V_one {w : World} {cs : Array Value} {x : S31} (h : Fi.V w cs x) : cs.all (·.oneCell') = true :=
  Array.all_eq_true_iff_forall_mem.2 (fun u hu => k31.K_one h u (by simpa using hu))
/-- No table is longer than Go's makes. -/
def Fi.Fit (x : S31) : Prop := x.f1.length ≤ 1000000 ∧ x.f2.length ≤ 1000000 ∧ x.f3.length ≤ 1000000 ∧ x.f4.length ≤ 1000000
theorem Fi.open {w : World} {cs : Array Value} {x : S31} (h : Fi.V w cs x) : ∃ A10 c10 A11 c11 A12 c12 A13 c13, cs = #[.int .i64 x.f0.f0.f0, .int .i64 x.f0.f0.f1, .int .i64 x.f0.f1.f0, .int .i64 x.f0.f1.f1, .int .i64 x.f0.f2.f0, .int .i64 x.f0.f2.f1, .int .i64 x.f0.f3.f0, .int .i64 x.f0.f3.f1, .int .i64 x.f0.f4.f0, .int .i64 x.f0.f4.f1, .slice A10 x.f1.length c10, .slice A11 x.f2.length c11, .slice A12 x.f3.length c12, .slice A13 x.f4.length c13] ∧ x.f1.length ≤ c10 ∧ Kd.bool.C w A10 x.f1.length x.f1 ∧ x.f2.length ≤ c11 ∧ Kd.bool.C w A11 x.f2.length x.f2 ∧ x.f3.length ≤ c12 ∧ (Kd.int .u16).C w A12 x.f3.length x.f3 ∧ x.f4.length ≤ c13 ∧ (Kd.int .u16).C w A13 x.f4.length x.f4 := by
  obtain ⟨A10, c10, A11, c11, A12, c12, A13, c13, e, r⟩ := k31_open h
  exact ⟨A10, c10, A11, c11, A12, c12, A13, c13, by rw [← Array.toArray_toList (xs := cs), e], r⟩
theorem Fi.mk {w : World} (x : S31) {A10 A11 A12 A13 : Option Addr} {c10 c11 c12 c13 : Nat} (l10 : x.f1.length ≤ c10) (g10 : Kd.bool.C w A10 x.f1.length x.f1) (l11 : x.f2.length ≤ c11) (g11 : Kd.bool.C w A11 x.f2.length x.f2) (l12 : x.f3.length ≤ c12) (g12 : (Kd.int .u16).C w A12 x.f3.length x.f3) (l13 : x.f4.length ≤ c13) (g13 : (Kd.int .u16).C w A13 x.f4.length x.f4) :
    Fi.V w #[.int .i64 x.f0.f0.f0, .int .i64 x.f0.f0.f1, .int .i64 x.f0.f1.f0, .int .i64 x.f0.f1.f1, .int .i64 x.f0.f2.f0, .int .i64 x.f0.f2.f1, .int .i64 x.f0.f3.f0, .int .i64 x.f0.f3.f1, .int .i64 x.f0.f4.f0, .int .i64 x.f0.f4.f1, .slice A10 x.f1.length c10, .slice A11 x.f2.length c11, .slice A12 x.f3.length c12, .slice A13 x.f4.length c13] x := k31_mk w x l10 g10 l11 g11 l12 g12 l13 g13
/-- A file's value whose tables the call has made: their blocks are not below b. -/
def Fi.N (w : World) (b : Nat) (cs : Array Value) (x : S31) : Prop := k31.M w b (fun _ => True) x cs.toList
theorem Fi.N.V {w : World} {b : Nat} {cs : Array Value} {x : S31} (h : Fi.N w b cs x) : Fi.V w cs x := k31.K_of_M h
theorem Fi.N_below {w w1 : World} {b : Nat} {cs : Array Value} {x : S31} (h : Fi.N w b cs x) (hb : Below w.heap.size w w1) : Fi.N w1 b cs x := k31.M_mono (fun _ _ => trivial) (k31.M_move (fun k hk => hb.block k hk.2.2.1) (k31.M_bound h))
theorem Fi.N_setRow {w : World} {b g : Nat} {cs : Array Value} {x : S31} (h : Fi.N w b cs x) (hg : g < b) (ds : Array Value) : Fi.N (w.setRow g ds) b cs x := k31.M_mono (fun _ _ => trivial) (k31.M_move (fun k hk => setRow_other _ _ _ _ (by have := hk.2.1; omega)) (k31.M_bound h))
theorem Fi.N_lower {w : World} {b b' : Nat} {cs : Array Value} {x : S31} (h : Fi.N w b cs x) (hb : b' ≤ b) : Fi.N w b' cs x := k31.M_lower hb h
theorem Fi.size : (Try.prog.info? 31).map (·.size) = some 14 := by kernel_rfl
theorem Fi.zero (w : World) : (zeroValue 31).run Try.prog w = .ok (.agg #[.int .i64 0, .int .i64 0, .int .i64 0, .int .i64 0, .int .i64 0, .int .i64 0, .int .i64 0, .int .i64 0, .int .i64 0, .int .i64 0, .slice none 0 0, .slice none 0 0, .slice none 0 0, .slice none 0 0]) w := by kernel_rfl
abbrev Fi.Z : Array Value := #[.int .i64 0, .int .i64 0, .int .i64 0, .int .i64 0, .int .i64 0, .int .i64 0, .int .i64 0, .int .i64 0, .int .i64 0, .int .i64 0, .slice none 0 0, .slice none 0 0, .slice none 0 0, .slice none 0 0]
theorem Fi.V_zero (w : World) : Fi.V w Fi.Z z31 := by
  have n8 := (Kd.R_reads' (Kd.R_nil Kd.bool 0 w 0 (fun _ => True))).2.2
  have n16 := (Kd.R_reads' (Kd.R_nil (Kd.int .u16) 0 w 0 (fun _ => True))).2.2
  exact Fi.mk z31 (Nat.le_refl _) n8 (Nat.le_refl _) n8 (Nat.le_refl _) n16 (Nat.le_refl _) n16
theorem Fi.below_setRow {B : Nat} {w0 w : World} {g : Nat} (h : Below B w0 w) (hg : B ≤ g) (ds : Array Value) : Below B w0 (w.setRow g ds) := ⟨h.os, h.tape, h.output, by rw [setRow_size]; exact h.size, fun k hk => (setRow_other _ _ _ _ (by omega)).trans (h.block k hk)⟩

theorem Fi.grown_set (w : World) (g i : Nat) (v : Value) : w.grownBy (w.setCell ⟨g, i, none⟩ v) (some g) := by
  obtain ⟨s1, s2, s3, s4⟩ := setCells_same g [v] i w
  exact ⟨s1, s2, s3, Nat.le_of_eq s4.symm, fun q _ hq => setCells_far [v] i q (fun he => hq (by rw [he]))⟩
theorem Fi.grown_row (w : World) (g : Nat) (ds : Array Value) : w.grownBy (w.setRow g ds) (some g) := ⟨rfl, rfl, rfl, Nat.le_of_eq (setRow_size w g ds).symm, fun k _ hk => setRow_other _ _ _ _ (fun he => hk (by rw [he]))⟩
theorem Fi.store_row {ops : Array Oper} {rest : List Oper} {o : Oper} {a : Act} {w : World} {Q : Exit → Act → World → Prop} (hgd : o.guard = none) (ty : TypeId) (x y : Operand) (ho : o.op = .store ty x y)
    (g : Nat) (cells : Array Value) (hx : a.eval x = .pointer (some ⟨g, 0, none⟩)) (hy : a.eval y = .agg cells)
    (t : TypeId) (old : Array Value) (hg : w.heap[g]? = some (.cells old t (0, 0))) (hi : (Try.prog.info? ty).map (·.size) = some cells.size)
    (hold : old.size = cells.size) (h1 : cells.all (·.oneCell') = true)
    (h : ∀ w1, w1.heap[g]? = some (.cells cells t (0, 0)) → w.grownBy w1 (some g) → wpList Try.prog ops Q rest (a.put o.dst undef) w1) : wpList Try.prog ops Q (o :: rest) a w :=
  wpList_store_row hgd ty x y ho g cells hx hy t old hg hi hold h1 (h _ (setRow_heap _ _ _ cells _ _ hg) (Fi.grown_row w g cells))
/-- A row of Booleans, by its number. -/
def bt (n m : Nat) : Array Bool := ⟨(List.range n).map fun i => m.testBit i⟩
theorem Fi.R_set {α : Type} {d : Kd α} {e : Nat} {w : World} {b g : Nat} {v : Value} {xs : List α} {ds : Array Value} (h : d.R e w b (fun _ => True) v xs) (hb : w.heap[g]? = some (.cells ds 31 (0, 0))) (he : ∀ q, q ∈ e :: d.E → q ≠ 31) (i : Nat) (u : Value) : d.R e (w.setCell ⟨g, i, none⟩ u) b (fun _ => True) v xs :=
  Kd.R_mono (Kd.R_grown (Kd.R_types h hb he) (Fi.grown_set w g i u) (fun k hk he => hk.2 (Option.some.inj he))) (fun _ _ => trivial)
set_option maxHeartbeats 4000000 in
set_option maxRecDepth 100000 in
theorem Fi.copy {w : World} {cs : Array Value} {x : S31} (h : Fi.V w cs x) (hf : Fi.Fit x) : Calls Try.prog 10 #[.agg cs] w fun e w' => ∃ cs', e = .returned (.agg cs') ∧ Fi.N w' w.heap.size cs' x ∧ Below w.heap.size w w' := by
  obtain ⟨A10, c10, A11, c11, A12, c12, A13, c13, rfl, k10, g10, k11, g11, k12, g12, k13, g13⟩ := Fi.open h
  obtain ⟨q1, q2, q3, q4⟩ := hf
  have K10 := Aside0.mk k10
  have G10 := Aside0.mk g10
  have A100 := Aside0.mk (show slices_Clone_bool_bool.f x.f1 = some x.f1 by unfold slices_Clone_bool_bool.f; rw [if_pos (by omega)])
  have K11 := Aside0.mk k11
  have G11 := Aside0.mk g11
  have A110 := Aside0.mk (show slices_Clone_bool_bool.f x.f2 = some x.f2 by unfold slices_Clone_bool_bool.f; rw [if_pos (by omega)])
  have K12 := Aside0.mk k12
  have G12 := Aside0.mk g12
  have A120 := Aside0.mk (show slices_Clone_uint16_uint16.f x.f3 = some x.f3 by unfold slices_Clone_uint16_uint16.f; rw [if_pos (by omega)])
  have K13 := Aside0.mk k13
  have G13 := Aside0.mk g13
  have A130 := Aside0.mk (show slices_Clone_uint16_uint16.f x.f4 = some x.f4 by unfold slices_Clone_uint16_uint16.f; rw [if_pos (by omega)])
  clear h q1 q2 q3 q4 k10 g10 k11 g11 k12 g12 k13 g13
  have hu := Try.underlying31
  have hz := Fi.zero
  have HB := Aside0.mk (Below.refl w.heap.size w)
  go_enter Try.func10, Try.ntmps10
  go_wp2_with (first
    | ((with_reducible refine gate_dst (N := 1) rfl ?_); refine box_event ?hg (N := 1) ?hd (cs := #[.int .i64 x.f0.f0.f0, .int .i64 x.f0.f0.f1, .int .i64 x.f0.f1.f0, .int .i64 x.f0.f1.f1, .int .i64 x.f0.f2.f0, .int .i64 x.f0.f2.f1, .int .i64 x.f0.f3.f0, .int .i64 x.f0.f3.f1, .int .i64 x.f0.f4.f0, .int .i64 x.f0.f4.f1, .slice A10 x.f1.length c10, .slice A11 x.f2.length c11, .slice A12 x.f3.length c12, .slice A13 x.f4.length c13]) (t := 31) ?hr ?_; (case hd => rfl); (case hg => rfl); (case hr => first | (go_simp; done) | (go_simp; rfl)); intro g1 hg w1 hbox hb; have GEg1 := Aside0.mk ((by rw [hg]; exact HB.out.size) : w.heap.size ≤ g1); have BKg1 := Aside0.mk hbox; clear hbox hg; have n0_ := Aside0.mk (below_step HB.out hb); clear HB; have HB := n0_; clear n0_; skip; clear hb)
    | ((with_reducible refine gate_dst (N := 2) rfl ?_); refine box_event ?hg (N := 2) ?hd (cs := Fi.Z) (t := 31) ?hr ?_; (case hd => rfl); (case hg => rfl); (case hr => first | (go_simp; done) | (go_simp; rfl)); intro gz hg w2 hbox hb; have NE := Aside0.mk (show g1 ≠ gz by rw [hg]; exact Nat.ne_of_lt (blk_lt BKg1.out)); have GEgz := Aside0.mk ((by rw [hg]; exact HB.out.size) : w.heap.size ≤ gz); have BKgz := Aside0.mk hbox; clear hbox hg; have n0_ := Aside0.mk (below_step HB.out hb); have n1_ := Aside0.mk (blk_below BKg1.out hb); clear HB BKg1; have HB := n0_; have BKg1 := n1_; clear n0_ n1_; skip; clear hb))
  have hS0 : w2.drew.heap[g1]? = some (.cells #[.int .i64 x.f0.f0.f0, .int .i64 x.f0.f0.f1, .int .i64 x.f0.f1.f0, .int .i64 x.f0.f1.f1, .int .i64 x.f0.f2.f0, .int .i64 x.f0.f2.f1, .int .i64 x.f0.f3.f0, .int .i64 x.f0.f3.f1, .int .i64 x.f0.f4.f0, .int .i64 x.f0.f4.f1, .slice A10 x.f1.length c10, .slice A11 x.f2.length c11, .slice A12 x.f3.length c12, .slice A13 x.f4.length c13] 31 (0, 0)) := blk_drew BKg1.out
  refine start_ (n := 10) (S := fun w' => w'.heap[g1]? = some (.cells #[.int .i64 x.f0.f0.f0, .int .i64 x.f0.f0.f1, .int .i64 x.f0.f1.f0, .int .i64 x.f0.f1.f1, .int .i64 x.f0.f2.f0, .int .i64 x.f0.f2.f1, .int .i64 x.f0.f3.f0, .int .i64 x.f0.f3.f1, .int .i64 x.f0.f4.f0, .int .i64 x.f0.f4.f1, .slice A10 x.f1.length c10, .slice A11 x.f2.length c11, .slice A12 x.f3.length c12, .slice A13 x.f4.length c13] 31 (0, 0))) (ds := [7, 9]) (bt 10 0) (by kernel_rfl) rfl (by kernel_rfl) hS0 (fun hHeld => ?_)
  have hb := below_drew1 (Below.refl w2.heap.size w2)
  have n0_ := Aside0.mk (blk_below BKgz.out hb)
  have n1_ := Aside0.mk (below_step HB.out hb)
  clear BKgz HB
  have BKgz := n0_
  have HB := n1_
  clear n0_ n1_
  clear hb hS0 BKg1
  generalize w2.drew = v0 at *
  refine pure_ (i := 0) (N := some 3) (v := ?_) (a' := ?_) (bt 10 1) rfl rfl (by kernel_rfl) (fun _ _ _ h => h) (Or.inl ⟨by rfl, ?_⟩) ?_ ?_
  rotate_left
  · intro w'
    go_simp
    first | with_reducible rfl | (simp [Instr.field, go_sem]; rfl)
  rotate_left
  · simp only [Act.put, List.setIfInBounds_toArray, List.set_cons_zero, List.set_cons_succ]
    rfl
  refine pure_ (i := 3) (N := some 6) (v := ?_) (a' := ?_) (bt 10 9) rfl rfl (by kernel_rfl) (fun _ _ _ h => h) (Or.inl ⟨by rfl, ?_⟩) ?_ ?_
  rotate_left
  · intro w'
    go_simp
    first | with_reducible rfl | (simp [Instr.field, go_sem]; rfl)
  rotate_left
  · simp only [Act.put, List.setIfInBounds_toArray, List.set_cons_zero, List.set_cons_succ]
    rfl
  refine take_ (i := 1) (N := some 4) (v := ?_) (a' := ?_) (bt 10 11) rfl rfl (by kernel_rfl) (fun _ _ _ h => h) (Or.inl ⟨by rfl, ?_⟩) hHeld ?_ ?_
  rotate_left
  · intro w' hS
    have f_ : w'.cell? ⟨g1, 10, none⟩ = some (.slice A10 x.f1.length c10) := (blk_cell hS 10).trans rfl
    go_simp
    first | with_reducible rfl | (simp [Instr.field, go_sem]; rfl)
  rotate_left
  · simp only [Act.put, List.setIfInBounds_toArray, List.set_cons_zero, List.set_cons_succ]
    rfl
  refine take_ (i := 4) (N := some 7) (v := ?_) (a' := ?_) (bt 10 27) rfl rfl (by kernel_rfl) (fun _ _ _ h => h) (Or.inl ⟨by rfl, ?_⟩) hHeld ?_ ?_
  rotate_left
  · intro w' hS
    have f_ : w'.cell? ⟨g1, 11, none⟩ = some (.slice A11 x.f2.length c11) := (blk_cell hS 11).trans rfl
    go_simp
    first | with_reducible rfl | (simp [Instr.field, go_sem]; rfl)
  rotate_left
  · simp only [Act.put, List.setIfInBounds_toArray, List.set_cons_zero, List.set_cons_succ]
    rfl
  refine one_ (i := 2) (N := some 5) (bt 10 31) rfl rfl (by kernel_rfl) (by decide) (fun K hK => ?_)
  refine goes_ Try.func28 (by kernel_rfl) rfl #[.slice A10 x.f1.length c10] (by rfl) rfl rfl (by (try simp only [List.map_toArray, List.map_cons, List.map_nil]); first | done | rfl) ?_
  refine (slices_Clone_bool_bool.calls _ _ x.f1 x.f1 _ (Kd.C_below G10.out HB.out) K10.out A100.out).mono ?_
  rintro e v1 ⟨v_, rfl, ho, hb⟩
  refine ⟨_, rfl, ?_⟩
  obtain ⟨B10, d10, ev⟩ := Kd.R_slice ho
  subst ev
  have R10 := Aside0.mk (Kd.R_lower ho HB.out.size)
  clear ho
  have n0_ := Aside0.mk (blk_below BKgz.out hb)
  have n1_ := Aside0.mk (below_step HB.out hb)
  clear BKgz HB
  have BKgz := n0_
  have HB := n1_
  clear n0_ n1_
  have hS2 := blk_below hHeld hb
  clear hb hHeld
  refine hK.out _ _ hS2 (fun hHeld => ?_)
  clear hK K hS2
  refine norm_ (a' := ?_) ?_ ?_
  rotate_left
  · show Act.put _ (some 5) _ = _
    simp only [Act.put, List.setIfInBounds_toArray, List.set_cons_zero, List.set_cons_succ]
    rfl
  refine pure_ (i := 6) (N := some 9) (v := ?_) (a' := ?_) (bt 10 95) rfl rfl (by kernel_rfl) (fun _ _ _ h => h) (Or.inl ⟨by rfl, ?_⟩) ?_ ?_
  rotate_left
  · intro w'
    go_simp
    first | with_reducible rfl | (simp [Instr.field, go_sem]; rfl)
  rotate_left
  · simp only [Act.put, List.setIfInBounds_toArray, List.set_cons_zero, List.set_cons_succ]
    rfl
  refine one_ (i := 5) (N := some 8) (bt 10 127) rfl rfl (by kernel_rfl) (by decide) (fun K hK => ?_)
  refine goes_ Try.func28 (by kernel_rfl) rfl #[.slice A11 x.f2.length c11] (by rfl) rfl rfl (by (try simp only [List.map_toArray, List.map_cons, List.map_nil]); first | done | rfl) ?_
  refine (slices_Clone_bool_bool.calls _ _ x.f2 x.f2 _ (Kd.C_below G11.out HB.out) K11.out A110.out).mono ?_
  rintro e v2 ⟨v_, rfl, ho, hb⟩
  refine ⟨_, rfl, ?_⟩
  obtain ⟨B11, d11, ev⟩ := Kd.R_slice ho
  subst ev
  have R11 := Aside0.mk (Kd.R_lower ho HB.out.size)
  clear ho
  have n0_ := Aside0.mk (blk_below BKgz.out hb)
  have n1_ := Aside0.mk (below_step HB.out hb)
  have n2_ := Aside0.mk (Kd.R_below R10.out hb)
  clear BKgz HB R10
  have BKgz := n0_
  have HB := n1_
  have R10 := n2_
  clear n0_ n1_ n2_
  have hS2 := blk_below hHeld hb
  clear hb hHeld
  refine hK.out _ _ hS2 (fun hHeld => ?_)
  clear hK K hS2
  refine norm_ (a' := ?_) ?_ ?_
  rotate_left
  · show Act.put _ (some 8) _ = _
    simp only [Act.put, List.setIfInBounds_toArray, List.set_cons_zero, List.set_cons_succ]
    rfl
  have BKg1 := Aside0.mk hHeld
  clear hHeld
  refine last_ (i := 7) (N := none) (bt 10 255) rfl rfl (by kernel_rfl) (by decide) (fun K hK => ?_)
  have hs_ : v2.cell? ⟨g1, 10, none⟩ = some (.slice A10 x.f1.length c10) := (blk_cell BKg1.out 10).trans rfl
  have hf_ := blk_frozen BKg1.out 10
  refine skip_ (w1 := v2.setCell ⟨g1, 10, none⟩ (.slice B10 x.f1.length d10)) (by rfl) rfl ?_ ?_
  · go_simp
  refine hK.out _ _ ?_
  clear hK K hs_ hf_
  have n0_ := Aside0.mk (blk_put BKg1.out 10 (.slice B10 x.f1.length d10) (cs' := #[.int .i64 x.f0.f0.f0, .int .i64 x.f0.f0.f1, .int .i64 x.f0.f1.f0, .int .i64 x.f0.f1.f1, .int .i64 x.f0.f2.f0, .int .i64 x.f0.f2.f1, .int .i64 x.f0.f3.f0, .int .i64 x.f0.f3.f1, .int .i64 x.f0.f4.f0, .int .i64 x.f0.f4.f1, .slice B10 x.f1.length d10, .slice A11 x.f2.length c11, .slice A12 x.f3.length c12, .slice A13 x.f4.length c13]) rfl)
  have n1_ := Aside0.mk (blk_far BKgz.out (p := ⟨g1, 10, none⟩) (fun he => NE.out he.symm) (.slice B10 x.f1.length d10))
  have n2_ := Aside0.mk (below_set (j := 10) (v := .slice B10 x.f1.length d10) HB.out GEg1.out)
  have m0_ := Aside0.mk (Fi.R_set R10.out BKg1.out (by decide) 10 (.slice B10 x.f1.length d10))
  have m1_ := Aside0.mk (Fi.R_set R11.out BKg1.out (by decide) 10 (.slice B10 x.f1.length d10))
  clear BKg1 BKgz HB R10 R11
  have BKg1 := n0_
  have BKgz := n1_
  have HB := n2_
  have R10 := m0_
  have R11 := m1_
  clear n0_ n1_ n2_ m0_ m1_
  generalize v2.setCell ⟨g1, 10, none⟩ (.slice B10 x.f1.length d10) = u0 at *
  refine pure_ (i := 8) (N := some 10) (v := ?_) (a' := ?_) (bt 10 511) rfl rfl (by kernel_rfl) (fun _ _ _ h => h) (Or.inl ⟨by rfl, ?_⟩) ?_ ?_
  rotate_left
  · intro w'
    go_simp
    first | with_reducible rfl | (simp [Instr.field, go_sem]; rfl)
  rotate_left
  · simp only [Act.put, List.setIfInBounds_toArray, List.set_cons_zero, List.set_cons_succ]
    rfl
  refine last_ (i := 9) (N := none) (bt 10 1023) rfl rfl (by kernel_rfl) (by decide) (fun K hK => ?_)
  have hs_ : u0.cell? ⟨g1, 11, none⟩ = some (.slice A11 x.f2.length c11) := (blk_cell BKg1.out 11).trans rfl
  have hf_ := blk_frozen BKg1.out 11
  refine skip_ (w1 := u0.setCell ⟨g1, 11, none⟩ (.slice B11 x.f2.length d11)) (by rfl) rfl ?_ ?_
  · go_simp
  refine hK.out _ _ ?_
  clear hK K hs_ hf_
  have n0_ := Aside0.mk (blk_put BKg1.out 11 (.slice B11 x.f2.length d11) (cs' := #[.int .i64 x.f0.f0.f0, .int .i64 x.f0.f0.f1, .int .i64 x.f0.f1.f0, .int .i64 x.f0.f1.f1, .int .i64 x.f0.f2.f0, .int .i64 x.f0.f2.f1, .int .i64 x.f0.f3.f0, .int .i64 x.f0.f3.f1, .int .i64 x.f0.f4.f0, .int .i64 x.f0.f4.f1, .slice B10 x.f1.length d10, .slice B11 x.f2.length d11, .slice A12 x.f3.length c12, .slice A13 x.f4.length c13]) rfl)
  have n1_ := Aside0.mk (blk_far BKgz.out (p := ⟨g1, 11, none⟩) (fun he => NE.out he.symm) (.slice B11 x.f2.length d11))
  have n2_ := Aside0.mk (below_set (j := 11) (v := .slice B11 x.f2.length d11) HB.out GEg1.out)
  have m0_ := Aside0.mk (Fi.R_set R10.out BKg1.out (by decide) 11 (.slice B11 x.f2.length d11))
  have m1_ := Aside0.mk (Fi.R_set R11.out BKg1.out (by decide) 11 (.slice B11 x.f2.length d11))
  clear BKg1 BKgz HB R10 R11
  have BKg1 := n0_
  have BKgz := n1_
  have HB := n2_
  have R10 := m0_
  have R11 := m1_
  clear n0_ n1_ n2_ m0_ m1_
  generalize u0.setCell ⟨g1, 11, none⟩ (.slice B11 x.f2.length d11) = u1 at *
  refine done_ (by kernel_rfl) ?_
  go_wp2
  have hS0 : u1.drew.heap[g1]? = some (.cells #[.int .i64 x.f0.f0.f0, .int .i64 x.f0.f0.f1, .int .i64 x.f0.f1.f0, .int .i64 x.f0.f1.f1, .int .i64 x.f0.f2.f0, .int .i64 x.f0.f2.f1, .int .i64 x.f0.f3.f0, .int .i64 x.f0.f3.f1, .int .i64 x.f0.f4.f0, .int .i64 x.f0.f4.f1, .slice B10 x.f1.length d10, .slice B11 x.f2.length d11, .slice A12 x.f3.length c12, .slice A13 x.f4.length c13] 31 (0, 0)) := blk_drew BKg1.out
  refine start_ (n := 10) (S := fun w' => w'.heap[g1]? = some (.cells #[.int .i64 x.f0.f0.f0, .int .i64 x.f0.f0.f1, .int .i64 x.f0.f1.f0, .int .i64 x.f0.f1.f1, .int .i64 x.f0.f2.f0, .int .i64 x.f0.f2.f1, .int .i64 x.f0.f3.f0, .int .i64 x.f0.f3.f1, .int .i64 x.f0.f4.f0, .int .i64 x.f0.f4.f1, .slice B10 x.f1.length d10, .slice B11 x.f2.length d11, .slice A12 x.f3.length c12, .slice A13 x.f4.length c13] 31 (0, 0))) (ds := [7, 9]) (bt 10 0) (by kernel_rfl) rfl (by kernel_rfl) hS0 (fun hHeld => ?_)
  have hb := below_drew1 (Below.refl u1.heap.size u1)
  have n0_ := Aside0.mk (blk_below BKgz.out hb)
  have n1_ := Aside0.mk (below_step HB.out hb)
  have n2_ := Aside0.mk (Kd.R_below R10.out hb)
  have n3_ := Aside0.mk (Kd.R_below R11.out hb)
  clear BKgz HB R10 R11
  have BKgz := n0_
  have HB := n1_
  have R10 := n2_
  have R11 := n3_
  clear n0_ n1_ n2_ n3_
  clear hb hS0 BKg1
  generalize u1.drew = v0 at *
  refine pure_ (i := 0) (N := some 11) (v := ?_) (a' := ?_) (bt 10 1) rfl rfl (by kernel_rfl) (fun _ _ _ h => h) (Or.inl ⟨by rfl, ?_⟩) ?_ ?_
  rotate_left
  · intro w'
    go_simp
    first | with_reducible rfl | (simp [Instr.field, go_sem]; rfl)
  rotate_left
  · simp only [Act.put, List.setIfInBounds_toArray, List.set_cons_zero, List.set_cons_succ]
    rfl
  refine pure_ (i := 3) (N := some 14) (v := ?_) (a' := ?_) (bt 10 9) rfl rfl (by kernel_rfl) (fun _ _ _ h => h) (Or.inl ⟨by rfl, ?_⟩) ?_ ?_
  rotate_left
  · intro w'
    go_simp
    first | with_reducible rfl | (simp [Instr.field, go_sem]; rfl)
  rotate_left
  · simp only [Act.put, List.setIfInBounds_toArray, List.set_cons_zero, List.set_cons_succ]
    rfl
  refine take_ (i := 1) (N := some 12) (v := ?_) (a' := ?_) (bt 10 11) rfl rfl (by kernel_rfl) (fun _ _ _ h => h) (Or.inl ⟨by rfl, ?_⟩) hHeld ?_ ?_
  rotate_left
  · intro w' hS
    have f_ : w'.cell? ⟨g1, 12, none⟩ = some (.slice A12 x.f3.length c12) := (blk_cell hS 12).trans rfl
    go_simp
    first | with_reducible rfl | (simp [Instr.field, go_sem]; rfl)
  rotate_left
  · simp only [Act.put, List.setIfInBounds_toArray, List.set_cons_zero, List.set_cons_succ]
    rfl
  refine take_ (i := 4) (N := some 15) (v := ?_) (a' := ?_) (bt 10 27) rfl rfl (by kernel_rfl) (fun _ _ _ h => h) (Or.inl ⟨by rfl, ?_⟩) hHeld ?_ ?_
  rotate_left
  · intro w' hS
    have f_ : w'.cell? ⟨g1, 13, none⟩ = some (.slice A13 x.f4.length c13) := (blk_cell hS 13).trans rfl
    go_simp
    first | with_reducible rfl | (simp [Instr.field, go_sem]; rfl)
  rotate_left
  · simp only [Act.put, List.setIfInBounds_toArray, List.set_cons_zero, List.set_cons_succ]
    rfl
  refine one_ (i := 2) (N := some 13) (bt 10 31) rfl rfl (by kernel_rfl) (by decide) (fun K hK => ?_)
  refine goes_ Try.func29 (by kernel_rfl) rfl #[.slice A12 x.f3.length c12] (by rfl) rfl rfl (by (try simp only [List.map_toArray, List.map_cons, List.map_nil]); first | done | rfl) ?_
  refine (slices_Clone_uint16_uint16.calls _ _ x.f3 x.f3 _ (Kd.C_below G12.out HB.out) K12.out A120.out).mono ?_
  rintro e v1 ⟨v_, rfl, ho, hb⟩
  refine ⟨_, rfl, ?_⟩
  obtain ⟨B12, d12, ev⟩ := Kd.R_slice ho
  subst ev
  have R12 := Aside0.mk (Kd.R_lower ho HB.out.size)
  clear ho
  have n0_ := Aside0.mk (blk_below BKgz.out hb)
  have n1_ := Aside0.mk (below_step HB.out hb)
  have n2_ := Aside0.mk (Kd.R_below R10.out hb)
  have n3_ := Aside0.mk (Kd.R_below R11.out hb)
  clear BKgz HB R10 R11
  have BKgz := n0_
  have HB := n1_
  have R10 := n2_
  have R11 := n3_
  clear n0_ n1_ n2_ n3_
  have hS2 := blk_below hHeld hb
  clear hb hHeld
  refine hK.out _ _ hS2 (fun hHeld => ?_)
  clear hK K hS2
  refine norm_ (a' := ?_) ?_ ?_
  rotate_left
  · show Act.put _ (some 13) _ = _
    simp only [Act.put, List.setIfInBounds_toArray, List.set_cons_zero, List.set_cons_succ]
    rfl
  refine pure_ (i := 6) (N := some 17) (v := ?_) (a' := ?_) (bt 10 95) rfl rfl (by kernel_rfl) (fun _ _ _ h => h) (Or.inl ⟨by rfl, ?_⟩) ?_ ?_
  rotate_left
  · intro w'
    go_simp
    first | with_reducible rfl | (simp [Instr.field, go_sem]; rfl)
  rotate_left
  · simp only [Act.put, List.setIfInBounds_toArray, List.set_cons_zero, List.set_cons_succ]
    rfl
  refine one_ (i := 5) (N := some 16) (bt 10 127) rfl rfl (by kernel_rfl) (by decide) (fun K hK => ?_)
  refine goes_ Try.func29 (by kernel_rfl) rfl #[.slice A13 x.f4.length c13] (by rfl) rfl rfl (by (try simp only [List.map_toArray, List.map_cons, List.map_nil]); first | done | rfl) ?_
  refine (slices_Clone_uint16_uint16.calls _ _ x.f4 x.f4 _ (Kd.C_below G13.out HB.out) K13.out A130.out).mono ?_
  rintro e v2 ⟨v_, rfl, ho, hb⟩
  refine ⟨_, rfl, ?_⟩
  obtain ⟨B13, d13, ev⟩ := Kd.R_slice ho
  subst ev
  have R13 := Aside0.mk (Kd.R_lower ho HB.out.size)
  clear ho
  have n0_ := Aside0.mk (blk_below BKgz.out hb)
  have n1_ := Aside0.mk (below_step HB.out hb)
  have n2_ := Aside0.mk (Kd.R_below R10.out hb)
  have n3_ := Aside0.mk (Kd.R_below R11.out hb)
  have n4_ := Aside0.mk (Kd.R_below R12.out hb)
  clear BKgz HB R10 R11 R12
  have BKgz := n0_
  have HB := n1_
  have R10 := n2_
  have R11 := n3_
  have R12 := n4_
  clear n0_ n1_ n2_ n3_ n4_
  have hS2 := blk_below hHeld hb
  clear hb hHeld
  refine hK.out _ _ hS2 (fun hHeld => ?_)
  clear hK K hS2
  refine norm_ (a' := ?_) ?_ ?_
  rotate_left
  · show Act.put _ (some 16) _ = _
    simp only [Act.put, List.setIfInBounds_toArray, List.set_cons_zero, List.set_cons_succ]
    rfl
  have BKg1 := Aside0.mk hHeld
  clear hHeld
  refine last_ (i := 7) (N := none) (bt 10 255) rfl rfl (by kernel_rfl) (by decide) (fun K hK => ?_)
  have hs_ : v2.cell? ⟨g1, 12, none⟩ = some (.slice A12 x.f3.length c12) := (blk_cell BKg1.out 12).trans rfl
  have hf_ := blk_frozen BKg1.out 12
  refine skip_ (w1 := v2.setCell ⟨g1, 12, none⟩ (.slice B12 x.f3.length d12)) (by rfl) rfl ?_ ?_
  · go_simp
  refine hK.out _ _ ?_
  clear hK K hs_ hf_
  have n0_ := Aside0.mk (blk_put BKg1.out 12 (.slice B12 x.f3.length d12) (cs' := #[.int .i64 x.f0.f0.f0, .int .i64 x.f0.f0.f1, .int .i64 x.f0.f1.f0, .int .i64 x.f0.f1.f1, .int .i64 x.f0.f2.f0, .int .i64 x.f0.f2.f1, .int .i64 x.f0.f3.f0, .int .i64 x.f0.f3.f1, .int .i64 x.f0.f4.f0, .int .i64 x.f0.f4.f1, .slice B10 x.f1.length d10, .slice B11 x.f2.length d11, .slice B12 x.f3.length d12, .slice A13 x.f4.length c13]) rfl)
  have n1_ := Aside0.mk (blk_far BKgz.out (p := ⟨g1, 12, none⟩) (fun he => NE.out he.symm) (.slice B12 x.f3.length d12))
  have n2_ := Aside0.mk (below_set (j := 12) (v := .slice B12 x.f3.length d12) HB.out GEg1.out)
  have m0_ := Aside0.mk (Fi.R_set R10.out BKg1.out (by decide) 12 (.slice B12 x.f3.length d12))
  have m1_ := Aside0.mk (Fi.R_set R11.out BKg1.out (by decide) 12 (.slice B12 x.f3.length d12))
  have m2_ := Aside0.mk (Fi.R_set R12.out BKg1.out (by decide) 12 (.slice B12 x.f3.length d12))
  have m3_ := Aside0.mk (Fi.R_set R13.out BKg1.out (by decide) 12 (.slice B12 x.f3.length d12))
  clear BKg1 BKgz HB R10 R11 R12 R13
  have BKg1 := n0_
  have BKgz := n1_
  have HB := n2_
  have R10 := m0_
  have R11 := m1_
  have R12 := m2_
  have R13 := m3_
  clear n0_ n1_ n2_ m0_ m1_ m2_ m3_
  generalize v2.setCell ⟨g1, 12, none⟩ (.slice B12 x.f3.length d12) = u2 at *
  refine pure_ (i := 8) (N := some 18) (v := ?_) (a' := ?_) (bt 10 511) rfl rfl (by kernel_rfl) (fun _ _ _ h => h) (Or.inl ⟨by rfl, ?_⟩) ?_ ?_
  rotate_left
  · intro w'
    go_simp
    first | with_reducible rfl | (simp [Instr.field, go_sem]; rfl)
  rotate_left
  · simp only [Act.put, List.setIfInBounds_toArray, List.set_cons_zero, List.set_cons_succ]
    rfl
  refine last_ (i := 9) (N := none) (bt 10 1023) rfl rfl (by kernel_rfl) (by decide) (fun K hK => ?_)
  have hs_ : u2.cell? ⟨g1, 13, none⟩ = some (.slice A13 x.f4.length c13) := (blk_cell BKg1.out 13).trans rfl
  have hf_ := blk_frozen BKg1.out 13
  refine skip_ (w1 := u2.setCell ⟨g1, 13, none⟩ (.slice B13 x.f4.length d13)) (by rfl) rfl ?_ ?_
  · go_simp
  refine hK.out _ _ ?_
  clear hK K hs_ hf_
  have n0_ := Aside0.mk (blk_put BKg1.out 13 (.slice B13 x.f4.length d13) (cs' := #[.int .i64 x.f0.f0.f0, .int .i64 x.f0.f0.f1, .int .i64 x.f0.f1.f0, .int .i64 x.f0.f1.f1, .int .i64 x.f0.f2.f0, .int .i64 x.f0.f2.f1, .int .i64 x.f0.f3.f0, .int .i64 x.f0.f3.f1, .int .i64 x.f0.f4.f0, .int .i64 x.f0.f4.f1, .slice B10 x.f1.length d10, .slice B11 x.f2.length d11, .slice B12 x.f3.length d12, .slice B13 x.f4.length d13]) rfl)
  have n1_ := Aside0.mk (blk_far BKgz.out (p := ⟨g1, 13, none⟩) (fun he => NE.out he.symm) (.slice B13 x.f4.length d13))
  have n2_ := Aside0.mk (below_set (j := 13) (v := .slice B13 x.f4.length d13) HB.out GEg1.out)
  have m0_ := Aside0.mk (Fi.R_set R10.out BKg1.out (by decide) 13 (.slice B13 x.f4.length d13))
  have m1_ := Aside0.mk (Fi.R_set R11.out BKg1.out (by decide) 13 (.slice B13 x.f4.length d13))
  have m2_ := Aside0.mk (Fi.R_set R12.out BKg1.out (by decide) 13 (.slice B13 x.f4.length d13))
  have m3_ := Aside0.mk (Fi.R_set R13.out BKg1.out (by decide) 13 (.slice B13 x.f4.length d13))
  clear BKg1 BKgz HB R10 R11 R12 R13
  have BKg1 := n0_
  have BKgz := n1_
  have HB := n2_
  have R10 := m0_
  have R11 := m1_
  have R12 := m2_
  have R13 := m3_
  clear n0_ n1_ n2_ m0_ m1_ m2_ m3_
  generalize u2.setCell ⟨g1, 13, none⟩ (.slice B13 x.f4.length d13) = u3 at *
  refine done_ (by kernel_rfl) ?_
  go_wp2_with (first
    | (refine wpList_load_row rfl 31 _ rfl g1 rfl 31 _ (0, 0) _ BKg1.out hu rfl (by kernel_rfl) ?_)
    | ((with_reducible refine gate_store rfl ?_); refine Fi.store_row rfl 31 _ _ rfl gz #[.int .i64 x.f0.f0.f0, .int .i64 x.f0.f0.f1, .int .i64 x.f0.f1.f0, .int .i64 x.f0.f1.f1, .int .i64 x.f0.f2.f0, .int .i64 x.f0.f2.f1, .int .i64 x.f0.f3.f0, .int .i64 x.f0.f3.f1, .int .i64 x.f0.f4.f0, .int .i64 x.f0.f4.f1, .slice B10 x.f1.length d10, .slice B11 x.f2.length d11, .slice B12 x.f3.length d12, .slice B13 x.f4.length d13] rfl rfl 31 _ BKgz.out (by kernel_rfl) rfl (by first | kernel_rfl | simp [Value.oneCell']) ?_; intro w9 hg9 hgr))
  refine bodyPost_ret (results_cell_row rfl _ _ gz 31 #[.int .i64 x.f0.f0.f0, .int .i64 x.f0.f0.f1, .int .i64 x.f0.f1.f0, .int .i64 x.f0.f1.f1, .int .i64 x.f0.f2.f0, .int .i64 x.f0.f2.f1, .int .i64 x.f0.f3.f0, .int .i64 x.f0.f3.f1, .int .i64 x.f0.f4.f0, .int .i64 x.f0.f4.f1, .slice B10 x.f1.length d10, .slice B11 x.f2.length d11, .slice B12 x.f3.length d12, .slice B13 x.f4.length d13] (0, 0) _ rfl hg9 hu rfl (by kernel_rfl)) rfl ?_
  exact ⟨_, rfl, k31_mkM w9 w.heap.size (fun _ => True) x (Kd.R_mono (Kd.R_grown (Kd.R_types R10.out BKgz.out (by decide)) hgr (fun k hk he => hk.2 (Option.some.inj he))) (fun _ _ => trivial)) (Kd.R_mono (Kd.R_grown (Kd.R_types R11.out BKgz.out (by decide)) hgr (fun k hk he => hk.2 (Option.some.inj he))) (fun _ _ => trivial)) (Kd.R_mono (Kd.R_grown (Kd.R_types R12.out BKgz.out (by decide)) hgr (fun k hk he => hk.2 (Option.some.inj he))) (fun _ _ => trivial)) (Kd.R_mono (Kd.R_grown (Kd.R_types R13.out BKgz.out (by decide)) hgr (fun k hk he => hk.2 (Option.some.inj he))) (fun _ _ => trivial)), HB.out.grown hgr HB.out.size (fun k hk => by cases hk; exact GEgz.out)⟩

set_option maxHeartbeats 4000000 in
set_option maxRecDepth 100000 in
theorem Fi.told_ok {w : World} {cs : Array Value} {x : S31} (h : Fi.V w cs x) (hf : Fi.Fit x) : Calls Try.prog 30 #[.agg cs, .int .i64 0] w fun e w' => ∃ cs', e = .returned (.tuple #[.agg cs', .int .i64 0]) ∧ Fi.N w' w.heap.size cs' x ∧ Below w.heap.size w w' := by
  have hu := Try.underlying31
  have hz := Fi.zero
  have hs : (Try.prog.info? 31).map (·.size) = some cs.size := by rw [Fi.V_size h]; exact Fi.size
  have HV := Aside0.mk h
  clear h
  have hs2 : ∀ (c : Array Value), c.size = 14 → (Try.prog.info? 31).map (·.size) = some c.size := fun c hc => by rw [hc]; exact Fi.size
  have q1 : (w.alloc (.cells cs 31 (0, 0))).heap.size = w.heap.size + 1 := Array.size_push ..
  have b1 := below_alloc (Below.refl w.heap.size w) (.cells cs 31 (0, 0))
  have b2 := below_alloc (Below.refl (w.alloc (.cells cs 31 (0, 0))).heap.size (w.alloc (.cells cs 31 (0, 0)))) (.cells Fi.Z 31 (0, 0))
  have HG1 := Aside0.mk (blk_below (blk_new w (.cells cs 31 (0, 0))) b2)
  have HG2 := Aside0.mk (blk_new (w.alloc (.cells cs 31 (0, 0))) (.cells Fi.Z 31 (0, 0)))
  rw [q1] at HG2
  have HB := Aside0.mk (below_step b1 b2)
  have HV2 := Aside0.mk (Fi.V_below (Fi.V_below HV.out b1) b2)
  clear HV b1 b2 q1
  go_enter Try.func30, Try.ntmps30
  go_wp2_with (first
    | (refine wpList_load_row rfl 31 _ rfl w.heap.size rfl 31 _ (0, 0) _ HG1.out hu rfl hs ?_)
    | (go_at_call 10; (with_reducible refine (Fi.copy HV2.out hf).mono ?_); rintro r w3 ⟨cs', rfl, hV, hb⟩; have HC := Aside0.mk hV; have HS3 := Aside0.mk (show w.heap.size + 1 < ((w.alloc (.cells cs 31 (0, 0))).alloc (.cells Fi.Z 31 (0, 0))).heap.size from blk_lt HG2.out); have HG22 := Aside0.mk (blk_below HG2.out hb); have HB2 := Aside0.mk (below_step HB.out hb); clear hV hb HB HG2; have HB := HB2; have HG2 := HG22; clear HB2 HG22)
    | ((with_reducible refine gate_store rfl ?_); refine wpList_store_row rfl 31 _ _ rfl (w.heap.size + 1) cs' rfl rfl 31 _ HG2.out (hs2 _ (Fi.V_size HC.out.V)) (by rw [Fi.V_size HC.out.V]; rfl) (Fi.V_one HC.out.V) ?_))
  have HG3 := setRow_heap _ _ _ cs' _ _ HG2.out
  refine bodyPost_ret (results_ct rfl _ _ (w.heap.size + 1) 31 cs' (0, 0) _ rfl HG3 hu rfl (hs2 _ (Fi.V_size HC.out.V))) rfl ?_
  have hb3 := Fi.below_setRow HB.out (Nat.le_succ _) cs'
  exact ⟨cs', rfl, Fi.N_lower (Fi.N_setRow HC.out HS3.out cs') (Nat.le_of_lt (Nat.lt_of_succ_lt HS3.out)), hb3⟩
theorem Fi.N_zero (w : World) (b : Nat) : Fi.N w b Fi.Z z31 :=
  k31_mkM w b (fun _ => True) z31 (Kd.R_nil Kd.bool _ w b _) (Kd.R_nil Kd.bool _ w b _) (Kd.R_nil (Kd.int .u16) _ w b _) (Kd.R_nil (Kd.int .u16) _ w b _)
set_option maxHeartbeats 4000000 in
set_option maxRecDepth 100000 in
theorem Fi.told_no {w : World} {cs : Array Value} {x : S31} (h : Fi.V w cs x) {e0 : Int} (he : e0 ≠ 0) : Calls Try.prog 30 #[.agg cs, .int .i64 e0] w fun e w' => e = .returned (.tuple #[.agg Fi.Z, .int .i64 e0]) ∧ Below w.heap.size w w' := by
  have hu := Try.underlying31
  have hz := Fi.zero
  have hne : (e0 != 0) = true := by simpa using he
  have q1 : (w.alloc (.cells cs 31 (0, 0))).heap.size = w.heap.size + 1 := Array.size_push ..
  have b1 := below_alloc (Below.refl w.heap.size w) (.cells cs 31 (0, 0))
  have b2 := below_alloc (Below.refl (w.alloc (.cells cs 31 (0, 0))).heap.size (w.alloc (.cells cs 31 (0, 0)))) (.cells Fi.Z 31 (0, 0))
  have HG2 := Aside0.mk (blk_new (w.alloc (.cells cs 31 (0, 0))) (.cells Fi.Z 31 (0, 0)))
  rw [q1] at HG2
  have HB := Aside0.mk (below_step b1 b2)
  clear b1 b2 q1
  go_enter Try.func30, Try.ntmps30
  go_wp2
  refine bodyPost_ret (results_ct rfl _ _ (w.heap.size + 1) 31 Fi.Z (0, 0) _ rfl HG2.out hu rfl Fi.size) rfl ?_
  exact ⟨rfl, HB.out⟩

theorem Fi.N_grown {w w1 : World} {b g : Nat} {cs : Array Value} {x : S31} (h : Fi.N w b cs x) (hg : w.grownBy w1 (some g)) (hlt : g < b) : Fi.N w1 b cs x := k31.M_mono (fun _ _ => trivial) (k31.M_move (fun k hk => hg.block k hk.2.2.1 (by simp only [ne_eq, Option.some.injEq]; have := hk.2.1; omega)) (k31.M_bound h))
theorem Fi.open2 {w : World} {cs : Array Value} {a0 a1 a2 a3 a4 a5 a6 a7 a8 a9 : Int} {l1 l2 : List Bool} {l3 l4 : List Int} (h : Fi.V w cs (⟨⟨⟨a0, a1⟩, ⟨a2, a3⟩, ⟨a4, a5⟩, ⟨a6, a7⟩, ⟨a8, a9⟩⟩, l1, l2, l3, l4⟩ : S31)) : ∃ A10 c10 A11 c11 A12 c12 A13 c13, cs = #[.int .i64 a0, .int .i64 a1, .int .i64 a2, .int .i64 a3, .int .i64 a4, .int .i64 a5, .int .i64 a6, .int .i64 a7, .int .i64 a8, .int .i64 a9, .slice A10 l1.length c10, .slice A11 l2.length c11, .slice A12 l3.length c12, .slice A13 l4.length c13] ∧ l1.length ≤ c10 ∧ Kd.bool.C w A10 l1.length l1 ∧ l2.length ≤ c11 ∧ Kd.bool.C w A11 l2.length l2 ∧ l3.length ≤ c12 ∧ (Kd.int .u16).C w A12 l3.length l3 ∧ l4.length ≤ c13 ∧ (Kd.int .u16).C w A13 l4.length l4 := Fi.open h
theorem Fi.mk2 {w : World} {a0 a1 a2 a3 a4 a5 a6 a7 a8 a9 : Int} {l1 l2 : List Bool} {l3 l4 : List Int} {A10 A11 A12 A13 : Option Addr} {c10 c11 c12 c13 : Nat} (k10 : l1.length ≤ c10) (g10 : Kd.bool.C w A10 l1.length l1) (k11 : l2.length ≤ c11) (g11 : Kd.bool.C w A11 l2.length l2) (k12 : l3.length ≤ c12) (g12 : (Kd.int .u16).C w A12 l3.length l3) (k13 : l4.length ≤ c13) (g13 : (Kd.int .u16).C w A13 l4.length l4) : Fi.V w #[.int .i64 a0, .int .i64 a1, .int .i64 a2, .int .i64 a3, .int .i64 a4, .int .i64 a5, .int .i64 a6, .int .i64 a7, .int .i64 a8, .int .i64 a9, .slice A10 l1.length c10, .slice A11 l2.length c11, .slice A12 l3.length c12, .slice A13 l4.length c13] (⟨⟨⟨a0, a1⟩, ⟨a2, a3⟩, ⟨a4, a5⟩, ⟨a6, a7⟩, ⟨a8, a9⟩⟩, l1, l2, l3, l4⟩ : S31) := Fi.mk (⟨⟨⟨a0, a1⟩, ⟨a2, a3⟩, ⟨a4, a5⟩, ⟨a6, a7⟩, ⟨a8, a9⟩⟩, l1, l2, l3, l4⟩ : S31) k10 g10 k11 g11 k12 g12 k13 g13
def Fi.P (x : S31) : Prop := FileP x.f0.f0.f0 x.f0.f0.f1 x.f0.f1.f0 x.f0.f1.f1 x.f0.f2.f0 x.f0.f2.f1 x.f0.f3.f0 x.f0.f3.f1 x.f0.f4.f0 x.f0.f4.f1 x.f1 x.f2 x.f3 x.f4
instance (x : S31) : Decidable (Fi.P x) := by unfold Fi.P; infer_instance
theorem Fi.P_fit {x : S31} (h : Fi.P x) : x.f1.length ≤ 65536 ∧ x.f2.length ≤ 65536 ∧ x.f3.length ≤ 65536 ∧ x.f4.length ≤ 65536 := by
  obtain ⟨⟨h1, h2, h3, h4, h5⟩, k1, k2, k3, k4⟩ := h
  unfold RightP at h1 h2 h3 h4
  omega
theorem Fi.right {w : World} {cs : Array Value} {x : S31} (h : Fi.V w cs x) {y : Bool} (hy : decide (Fi.P x) = y) : Calls Try.prog 19 #[.agg cs] w fun e w' => e = .returned (.bool y) ∧ Below w.heap.size w w' := by
  subst hy
  obtain ⟨A10, c10, A11, c11, A12, c12, A13, c13, rfl, l10, g10, l11, g11, l12, g12, l13, g13⟩ := Fi.open h
  exact file_Right.calls _ _ _ _ _ _ _ _ _ _ _ _ x.f1 _ _ x.f2 _ _ x.f3 _ _ x.f4 _ w g10 l10 g11 l11 g12 l12 g13 l13 (fright_eq ..)
theorem Fi.told {w : World} {cs : Array Value} {x y : S31} (h : Fi.V w cs x) (e0 : Int) (hf : e0 = 0 → Fi.Fit x) (hy : (if e0 = 0 then x else z31) = y) : Calls Try.prog 30 #[.agg cs, .int .i64 e0] w fun e w' => ∃ cs', e = .returned (.tuple #[.agg cs', .int .i64 e0]) ∧ Fi.N w' w.heap.size cs' y ∧ Below w.heap.size w w' := by
  subst hy
  by_cases he : e0 = 0
  · subst he
    exact Fi.told_ok h (hf rfl)
  · rw [if_neg he]
    exact (Fi.told_no h he).mono (fun e w' hh => ⟨Fi.Z, hh.1, Fi.N_zero _ _, hh.2⟩)
theorem Fi.cgetB {w : World} {A : Option Addr} {c : Nat} {l : List Bool} {L : List Bool} {E : Int} {a b p n : Int} (hr : Kd.bool.C w A l.length l) (hc : l.length ≤ c) (hp : I64 p) (he : readS a b l p n = (L, E)) : Calls Try.prog 32 #[.agg #[.int .i64 a, .int .i64 b], .slice A l.length c, .int .i64 p, .int .i64 n] w fun e w' => ∃ v, e = .returned (.tuple #[v, .int .i64 E]) ∧ Kd.bool.R 4 w' w.heap.size (fun _ => True) v L ∧ Below w.heap.size w w' :=
  cells_Bits.calls 1 a b A c l p n L E w hr hc ((cwordsB 0 l).trans (congrArg some he))
theorem Fi.cputB {w : World} {A A2 : Option Addr} {c c2 : Nat} {l m L : List Bool} {E : Int} {a b p : Int} (hr : Kd.bool.C w A l.length l) (hc : l.length ≤ c) (hr2 : Kd.bool.C w A2 m.length m) (hc2 : m.length ≤ c2) (hp : I64 p) (he : writeS a b l p m = (L, E)) : Calls Try.prog 31 #[.agg #[.int .i64 a, .int .i64 b], .slice A l.length c, .int .i64 p, .slice A2 m.length c2] w fun e w' => ∃ v, e = .returned (.tuple #[v, .int .i64 E]) ∧ Kd.bool.R 4 w' w.heap.size (fun _ => True) v L ∧ Below w.heap.size w w' :=
  cells_SetBits.calls 1 a b A c l p A2 c2 m L E w hr hc hr2 hc2 ((csetB 0 l m).trans (congrArg some he))
theorem Fi.cgetW {w : World} {A : Option Addr} {c : Nat} {l : List Int} {L : List Int} {E : Int} {a b p n : Int} (hr : (Kd.int .u16).C w A l.length l) (hc : l.length ≤ c) (hp : I64 p) (he : readS a b l p n = (L, E)) : Calls Try.prog 39 #[.agg #[.int .i64 a, .int .i64 b], .slice A l.length c, .int .i64 p, .int .i64 n] w fun e w' => ∃ v, e = .returned (.tuple #[v, .int .i64 E]) ∧ (Kd.int .u16).R 53 w' w.heap.size (fun _ => True) v L ∧ Below w.heap.size w w' :=
  cells_Words.calls 1 a b A c l p n L E w hr hc ((cwordsW 0 l).trans (congrArg some he))
theorem Fi.cputW {w : World} {A A2 : Option Addr} {c c2 : Nat} {l m L : List Int} {E : Int} {a b p : Int} (hr : (Kd.int .u16).C w A l.length l) (hc : l.length ≤ c) (hr2 : (Kd.int .u16).C w A2 m.length m) (hc2 : m.length ≤ c2) (hp : I64 p) (he : writeS a b l p m = (L, E)) : Calls Try.prog 33 #[.agg #[.int .i64 a, .int .i64 b], .slice A l.length c, .int .i64 p, .slice A2 m.length c2] w fun e w' => ∃ v, e = .returned (.tuple #[v, .int .i64 E]) ∧ (Kd.int .u16).R 53 w' w.heap.size (fun _ => True) v L ∧ Below w.heap.size w w' :=
  cells_SetWords.calls 1 a b A c l p A2 c2 m L E w hr hc hr2 hc2 ((csetW 0 l m).trans (congrArg some he))
theorem Fi.cmeets {a b p n : Int} (hp : I64 p) (hn : I64 n) {y : Bool} (hy : decide (MeetsP a b p n) = y) (w : World) : Calls Try.prog 34 #[.agg #[.int .i64 a, .int .i64 b], .int .i64 p, .int .i64 n] w fun e w' => e = .returned (.bool y) ∧ Below w.heap.size w w' := window_Meets.calls 2 a b p n _ w (hy ▸ meets_eq 0 hp hn)
theorem Fi.write_len {α : Type} {a b p : Int} {l m L : List α} (h : writeS a b l p m = (L, 0)) : L.length = l.length ∧ ∃ q, q + m.length ≤ l.length ∧ L = l.take q ++ m ++ l.drop (q + m.length) := by
  unfold writeS at h
  by_cases h1 : RightP a b ∧ (l.length : Int) = b ∧ 1 ≤ m.length
  · rw [if_pos h1] at h
    by_cases h2 : HoldsP a b p m.length
    · rw [if_pos h2] at h
      injection h with h3 h4
      unfold HoldsP at h2
      have h5 : (p - a).toNat + m.length ≤ l.length := by omega
      subst h3
      refine ⟨?_, _, h5, rfl⟩
      simp only [List.length_append, List.length_take, List.length_drop]
      omega
    · rw [if_neg h2] at h
      injection h with h3 h4
      cases h4
  · rw [if_neg h1] at h
    injection h with h3 h4
    cases h4
theorem Fi.rright {a b : Int} {y : Bool} (hy : decide (RightP a b) = y) (w : World) : Calls Try.prog 41 #[.agg #[.int .i64 a, .int .i64 b]] w fun e w' => e = .returned (.bool y) ∧ Below w.heap.size w w' :=
  bilgeref12_Right.calls a b _ w (hy ▸ rright_eq a b)
set_option maxHeartbeats 4000000 in
set_option maxRecDepth 100000 in
theorem Fi.rbank {a0 a1 a2 a3 a4 a5 a6 a7 a8 a9 : Int} {y : Bool} (hy : decide (BankP a0 a1 a2 a3 a4 a5 a6 a7 a8 a9) = y) {w : World} : Calls Try.prog 22 #[.agg #[.int .i64 a0, .int .i64 a1, .int .i64 a2, .int .i64 a3, .int .i64 a4, .int .i64 a5, .int .i64 a6, .int .i64 a7, .int .i64 a8, .int .i64 a9]] w fun e w' => e = .returned (.bool y) ∧ Below w.heap.size w w' := by
  subst hy
  have hu25 := Try.underlying25
  have hu23 := Try.underlying23
  have HB := Aside0.mk (Below.refl w.heap.size w)
  by_cases h0 : RightP a0 a1
  rotate_left
  · have d0 : decide (RightP a0 a1) = false := decide_eq_false h0
    rw [show decide (BankP a0 a1 a2 a3 a4 a5 a6 a7 a8 a9) = false from decide_eq_false (fun h => h0 h.1)]
    clear h0
    go_enter Try.func22, Try.ntmps22
    go_wp2_with (first
      | ((with_reducible refine gate_dst (N := 1) rfl ?_); refine box_event ?hg (N := 1) ?hd (cs := #[.int .i64 a0, .int .i64 a1, .int .i64 a2, .int .i64 a3, .int .i64 a4, .int .i64 a5, .int .i64 a6, .int .i64 a7, .int .i64 a8, .int .i64 a9]) (t := 25) ?hr ?_; (case hd => rfl); (case hg => rfl); (case hr => first | (go_simp; done) | (go_simp; rfl)); intro g hg w1 hbox hb; have GEg := Aside0.mk ((by rw [hg]; exact HB.out.size) : w.heap.size ≤ g); have BKg := Aside0.mk hbox; clear hbox hg; have n0_ := Aside0.mk (below_step HB.out hb); clear HB; have HB := n0_; clear n0_; have cg_0 : w1.cell? ⟨g, 0, none⟩ = some (.int .i64 a0) := (blk_cell BKg.out 0).trans rfl; have cg_1 : w1.cell? ⟨g, 1, none⟩ = some (.int .i64 a1) := (blk_cell BKg.out 1).trans rfl; have cg_2 : w1.cell? ⟨g, 2, none⟩ = some (.int .i64 a2) := (blk_cell BKg.out 2).trans rfl; have cg_3 : w1.cell? ⟨g, 3, none⟩ = some (.int .i64 a3) := (blk_cell BKg.out 3).trans rfl; have cg_4 : w1.cell? ⟨g, 4, none⟩ = some (.int .i64 a4) := (blk_cell BKg.out 4).trans rfl; have cg_5 : w1.cell? ⟨g, 5, none⟩ = some (.int .i64 a5) := (blk_cell BKg.out 5).trans rfl; have cg_6 : w1.cell? ⟨g, 6, none⟩ = some (.int .i64 a6) := (blk_cell BKg.out 6).trans rfl; have cg_7 : w1.cell? ⟨g, 7, none⟩ = some (.int .i64 a7) := (blk_cell BKg.out 7).trans rfl; have cg_8 : w1.cell? ⟨g, 8, none⟩ = some (.int .i64 a8) := (blk_cell BKg.out 8).trans rfl; have cg_9 : w1.cell? ⟨g, 9, none⟩ = some (.int .i64 a9) := (blk_cell BKg.out 9).trans rfl; clear hb)
      | (go_at_call 41; (first | (with_reducible refine (Fi.rright d0 _).mono ?_)); rintro r w2 ⟨rfl, hb⟩; have n0_ := Aside0.mk (below_step HB.out hb); have n1_ := Aside0.mk (blk_below BKg.out hb); clear HB BKg; have HB := n0_; have BKg := n1_; clear n0_ n1_; have cg_0 : w2.cell? ⟨g, 0, none⟩ = some (.int .i64 a0) := (blk_cell BKg.out 0).trans rfl; have cg_1 : w2.cell? ⟨g, 1, none⟩ = some (.int .i64 a1) := (blk_cell BKg.out 1).trans rfl; have cg_2 : w2.cell? ⟨g, 2, none⟩ = some (.int .i64 a2) := (blk_cell BKg.out 2).trans rfl; have cg_3 : w2.cell? ⟨g, 3, none⟩ = some (.int .i64 a3) := (blk_cell BKg.out 3).trans rfl; have cg_4 : w2.cell? ⟨g, 4, none⟩ = some (.int .i64 a4) := (blk_cell BKg.out 4).trans rfl; have cg_5 : w2.cell? ⟨g, 5, none⟩ = some (.int .i64 a5) := (blk_cell BKg.out 5).trans rfl; have cg_6 : w2.cell? ⟨g, 6, none⟩ = some (.int .i64 a6) := (blk_cell BKg.out 6).trans rfl; have cg_7 : w2.cell? ⟨g, 7, none⟩ = some (.int .i64 a7) := (blk_cell BKg.out 7).trans rfl; have cg_8 : w2.cell? ⟨g, 8, none⟩ = some (.int .i64 a8) := (blk_cell BKg.out 8).trans rfl; have cg_9 : w2.cell? ⟨g, 9, none⟩ = some (.int .i64 a9) := (blk_cell BKg.out 9).trans rfl; clear hb))
    go_ret
    exact ⟨rfl, HB.out⟩
  by_cases h1 : RightP a2 a3
  rotate_left
  · have d0 : decide (RightP a0 a1) = true := decide_eq_true h0
    have d1 : decide (RightP a2 a3) = false := decide_eq_false h1
    rw [show decide (BankP a0 a1 a2 a3 a4 a5 a6 a7 a8 a9) = false from decide_eq_false (fun h => h1 h.2.1)]
    clear h0 h1
    go_enter Try.func22, Try.ntmps22
    go_wp2_with (first
      | ((with_reducible refine gate_dst (N := 1) rfl ?_); refine box_event ?hg (N := 1) ?hd (cs := #[.int .i64 a0, .int .i64 a1, .int .i64 a2, .int .i64 a3, .int .i64 a4, .int .i64 a5, .int .i64 a6, .int .i64 a7, .int .i64 a8, .int .i64 a9]) (t := 25) ?hr ?_; (case hd => rfl); (case hg => rfl); (case hr => first | (go_simp; done) | (go_simp; rfl)); intro g hg w1 hbox hb; have GEg := Aside0.mk ((by rw [hg]; exact HB.out.size) : w.heap.size ≤ g); have BKg := Aside0.mk hbox; clear hbox hg; have n0_ := Aside0.mk (below_step HB.out hb); clear HB; have HB := n0_; clear n0_; have cg_0 : w1.cell? ⟨g, 0, none⟩ = some (.int .i64 a0) := (blk_cell BKg.out 0).trans rfl; have cg_1 : w1.cell? ⟨g, 1, none⟩ = some (.int .i64 a1) := (blk_cell BKg.out 1).trans rfl; have cg_2 : w1.cell? ⟨g, 2, none⟩ = some (.int .i64 a2) := (blk_cell BKg.out 2).trans rfl; have cg_3 : w1.cell? ⟨g, 3, none⟩ = some (.int .i64 a3) := (blk_cell BKg.out 3).trans rfl; have cg_4 : w1.cell? ⟨g, 4, none⟩ = some (.int .i64 a4) := (blk_cell BKg.out 4).trans rfl; have cg_5 : w1.cell? ⟨g, 5, none⟩ = some (.int .i64 a5) := (blk_cell BKg.out 5).trans rfl; have cg_6 : w1.cell? ⟨g, 6, none⟩ = some (.int .i64 a6) := (blk_cell BKg.out 6).trans rfl; have cg_7 : w1.cell? ⟨g, 7, none⟩ = some (.int .i64 a7) := (blk_cell BKg.out 7).trans rfl; have cg_8 : w1.cell? ⟨g, 8, none⟩ = some (.int .i64 a8) := (blk_cell BKg.out 8).trans rfl; have cg_9 : w1.cell? ⟨g, 9, none⟩ = some (.int .i64 a9) := (blk_cell BKg.out 9).trans rfl; clear hb)
      | (go_at_call 41; (first | (with_reducible refine (Fi.rright d0 _).mono ?_) | (with_reducible refine (Fi.rright d1 _).mono ?_)); rintro r w2 ⟨rfl, hb⟩; have n0_ := Aside0.mk (below_step HB.out hb); have n1_ := Aside0.mk (blk_below BKg.out hb); clear HB BKg; have HB := n0_; have BKg := n1_; clear n0_ n1_; have cg_0 : w2.cell? ⟨g, 0, none⟩ = some (.int .i64 a0) := (blk_cell BKg.out 0).trans rfl; have cg_1 : w2.cell? ⟨g, 1, none⟩ = some (.int .i64 a1) := (blk_cell BKg.out 1).trans rfl; have cg_2 : w2.cell? ⟨g, 2, none⟩ = some (.int .i64 a2) := (blk_cell BKg.out 2).trans rfl; have cg_3 : w2.cell? ⟨g, 3, none⟩ = some (.int .i64 a3) := (blk_cell BKg.out 3).trans rfl; have cg_4 : w2.cell? ⟨g, 4, none⟩ = some (.int .i64 a4) := (blk_cell BKg.out 4).trans rfl; have cg_5 : w2.cell? ⟨g, 5, none⟩ = some (.int .i64 a5) := (blk_cell BKg.out 5).trans rfl; have cg_6 : w2.cell? ⟨g, 6, none⟩ = some (.int .i64 a6) := (blk_cell BKg.out 6).trans rfl; have cg_7 : w2.cell? ⟨g, 7, none⟩ = some (.int .i64 a7) := (blk_cell BKg.out 7).trans rfl; have cg_8 : w2.cell? ⟨g, 8, none⟩ = some (.int .i64 a8) := (blk_cell BKg.out 8).trans rfl; have cg_9 : w2.cell? ⟨g, 9, none⟩ = some (.int .i64 a9) := (blk_cell BKg.out 9).trans rfl; clear hb))
    go_ret
    exact ⟨rfl, HB.out⟩
  by_cases h2 : RightP a4 a5
  rotate_left
  · have d0 : decide (RightP a0 a1) = true := decide_eq_true h0
    have d1 : decide (RightP a2 a3) = true := decide_eq_true h1
    have d2 : decide (RightP a4 a5) = false := decide_eq_false h2
    rw [show decide (BankP a0 a1 a2 a3 a4 a5 a6 a7 a8 a9) = false from decide_eq_false (fun h => h2 h.2.2.1)]
    clear h0 h1 h2
    go_enter Try.func22, Try.ntmps22
    go_wp2_with (first
      | ((with_reducible refine gate_dst (N := 1) rfl ?_); refine box_event ?hg (N := 1) ?hd (cs := #[.int .i64 a0, .int .i64 a1, .int .i64 a2, .int .i64 a3, .int .i64 a4, .int .i64 a5, .int .i64 a6, .int .i64 a7, .int .i64 a8, .int .i64 a9]) (t := 25) ?hr ?_; (case hd => rfl); (case hg => rfl); (case hr => first | (go_simp; done) | (go_simp; rfl)); intro g hg w1 hbox hb; have GEg := Aside0.mk ((by rw [hg]; exact HB.out.size) : w.heap.size ≤ g); have BKg := Aside0.mk hbox; clear hbox hg; have n0_ := Aside0.mk (below_step HB.out hb); clear HB; have HB := n0_; clear n0_; have cg_0 : w1.cell? ⟨g, 0, none⟩ = some (.int .i64 a0) := (blk_cell BKg.out 0).trans rfl; have cg_1 : w1.cell? ⟨g, 1, none⟩ = some (.int .i64 a1) := (blk_cell BKg.out 1).trans rfl; have cg_2 : w1.cell? ⟨g, 2, none⟩ = some (.int .i64 a2) := (blk_cell BKg.out 2).trans rfl; have cg_3 : w1.cell? ⟨g, 3, none⟩ = some (.int .i64 a3) := (blk_cell BKg.out 3).trans rfl; have cg_4 : w1.cell? ⟨g, 4, none⟩ = some (.int .i64 a4) := (blk_cell BKg.out 4).trans rfl; have cg_5 : w1.cell? ⟨g, 5, none⟩ = some (.int .i64 a5) := (blk_cell BKg.out 5).trans rfl; have cg_6 : w1.cell? ⟨g, 6, none⟩ = some (.int .i64 a6) := (blk_cell BKg.out 6).trans rfl; have cg_7 : w1.cell? ⟨g, 7, none⟩ = some (.int .i64 a7) := (blk_cell BKg.out 7).trans rfl; have cg_8 : w1.cell? ⟨g, 8, none⟩ = some (.int .i64 a8) := (blk_cell BKg.out 8).trans rfl; have cg_9 : w1.cell? ⟨g, 9, none⟩ = some (.int .i64 a9) := (blk_cell BKg.out 9).trans rfl; clear hb)
      | (go_at_call 41; (first | (with_reducible refine (Fi.rright d0 _).mono ?_) | (with_reducible refine (Fi.rright d1 _).mono ?_) | (with_reducible refine (Fi.rright d2 _).mono ?_)); rintro r w2 ⟨rfl, hb⟩; have n0_ := Aside0.mk (below_step HB.out hb); have n1_ := Aside0.mk (blk_below BKg.out hb); clear HB BKg; have HB := n0_; have BKg := n1_; clear n0_ n1_; have cg_0 : w2.cell? ⟨g, 0, none⟩ = some (.int .i64 a0) := (blk_cell BKg.out 0).trans rfl; have cg_1 : w2.cell? ⟨g, 1, none⟩ = some (.int .i64 a1) := (blk_cell BKg.out 1).trans rfl; have cg_2 : w2.cell? ⟨g, 2, none⟩ = some (.int .i64 a2) := (blk_cell BKg.out 2).trans rfl; have cg_3 : w2.cell? ⟨g, 3, none⟩ = some (.int .i64 a3) := (blk_cell BKg.out 3).trans rfl; have cg_4 : w2.cell? ⟨g, 4, none⟩ = some (.int .i64 a4) := (blk_cell BKg.out 4).trans rfl; have cg_5 : w2.cell? ⟨g, 5, none⟩ = some (.int .i64 a5) := (blk_cell BKg.out 5).trans rfl; have cg_6 : w2.cell? ⟨g, 6, none⟩ = some (.int .i64 a6) := (blk_cell BKg.out 6).trans rfl; have cg_7 : w2.cell? ⟨g, 7, none⟩ = some (.int .i64 a7) := (blk_cell BKg.out 7).trans rfl; have cg_8 : w2.cell? ⟨g, 8, none⟩ = some (.int .i64 a8) := (blk_cell BKg.out 8).trans rfl; have cg_9 : w2.cell? ⟨g, 9, none⟩ = some (.int .i64 a9) := (blk_cell BKg.out 9).trans rfl; clear hb))
    go_ret
    exact ⟨rfl, HB.out⟩
  by_cases h3 : RightP a6 a7
  rotate_left
  · have d0 : decide (RightP a0 a1) = true := decide_eq_true h0
    have d1 : decide (RightP a2 a3) = true := decide_eq_true h1
    have d2 : decide (RightP a4 a5) = true := decide_eq_true h2
    have d3 : decide (RightP a6 a7) = false := decide_eq_false h3
    rw [show decide (BankP a0 a1 a2 a3 a4 a5 a6 a7 a8 a9) = false from decide_eq_false (fun h => h3 h.2.2.2.1)]
    clear h0 h1 h2 h3
    go_enter Try.func22, Try.ntmps22
    go_wp2_with (first
      | ((with_reducible refine gate_dst (N := 1) rfl ?_); refine box_event ?hg (N := 1) ?hd (cs := #[.int .i64 a0, .int .i64 a1, .int .i64 a2, .int .i64 a3, .int .i64 a4, .int .i64 a5, .int .i64 a6, .int .i64 a7, .int .i64 a8, .int .i64 a9]) (t := 25) ?hr ?_; (case hd => rfl); (case hg => rfl); (case hr => first | (go_simp; done) | (go_simp; rfl)); intro g hg w1 hbox hb; have GEg := Aside0.mk ((by rw [hg]; exact HB.out.size) : w.heap.size ≤ g); have BKg := Aside0.mk hbox; clear hbox hg; have n0_ := Aside0.mk (below_step HB.out hb); clear HB; have HB := n0_; clear n0_; have cg_0 : w1.cell? ⟨g, 0, none⟩ = some (.int .i64 a0) := (blk_cell BKg.out 0).trans rfl; have cg_1 : w1.cell? ⟨g, 1, none⟩ = some (.int .i64 a1) := (blk_cell BKg.out 1).trans rfl; have cg_2 : w1.cell? ⟨g, 2, none⟩ = some (.int .i64 a2) := (blk_cell BKg.out 2).trans rfl; have cg_3 : w1.cell? ⟨g, 3, none⟩ = some (.int .i64 a3) := (blk_cell BKg.out 3).trans rfl; have cg_4 : w1.cell? ⟨g, 4, none⟩ = some (.int .i64 a4) := (blk_cell BKg.out 4).trans rfl; have cg_5 : w1.cell? ⟨g, 5, none⟩ = some (.int .i64 a5) := (blk_cell BKg.out 5).trans rfl; have cg_6 : w1.cell? ⟨g, 6, none⟩ = some (.int .i64 a6) := (blk_cell BKg.out 6).trans rfl; have cg_7 : w1.cell? ⟨g, 7, none⟩ = some (.int .i64 a7) := (blk_cell BKg.out 7).trans rfl; have cg_8 : w1.cell? ⟨g, 8, none⟩ = some (.int .i64 a8) := (blk_cell BKg.out 8).trans rfl; have cg_9 : w1.cell? ⟨g, 9, none⟩ = some (.int .i64 a9) := (blk_cell BKg.out 9).trans rfl; clear hb)
      | (go_at_call 41; (first | (with_reducible refine (Fi.rright d0 _).mono ?_) | (with_reducible refine (Fi.rright d1 _).mono ?_) | (with_reducible refine (Fi.rright d2 _).mono ?_) | (with_reducible refine (Fi.rright d3 _).mono ?_)); rintro r w2 ⟨rfl, hb⟩; have n0_ := Aside0.mk (below_step HB.out hb); have n1_ := Aside0.mk (blk_below BKg.out hb); clear HB BKg; have HB := n0_; have BKg := n1_; clear n0_ n1_; have cg_0 : w2.cell? ⟨g, 0, none⟩ = some (.int .i64 a0) := (blk_cell BKg.out 0).trans rfl; have cg_1 : w2.cell? ⟨g, 1, none⟩ = some (.int .i64 a1) := (blk_cell BKg.out 1).trans rfl; have cg_2 : w2.cell? ⟨g, 2, none⟩ = some (.int .i64 a2) := (blk_cell BKg.out 2).trans rfl; have cg_3 : w2.cell? ⟨g, 3, none⟩ = some (.int .i64 a3) := (blk_cell BKg.out 3).trans rfl; have cg_4 : w2.cell? ⟨g, 4, none⟩ = some (.int .i64 a4) := (blk_cell BKg.out 4).trans rfl; have cg_5 : w2.cell? ⟨g, 5, none⟩ = some (.int .i64 a5) := (blk_cell BKg.out 5).trans rfl; have cg_6 : w2.cell? ⟨g, 6, none⟩ = some (.int .i64 a6) := (blk_cell BKg.out 6).trans rfl; have cg_7 : w2.cell? ⟨g, 7, none⟩ = some (.int .i64 a7) := (blk_cell BKg.out 7).trans rfl; have cg_8 : w2.cell? ⟨g, 8, none⟩ = some (.int .i64 a8) := (blk_cell BKg.out 8).trans rfl; have cg_9 : w2.cell? ⟨g, 9, none⟩ = some (.int .i64 a9) := (blk_cell BKg.out 9).trans rfl; clear hb))
    go_ret
    exact ⟨rfl, HB.out⟩
  by_cases h4 : RightP a8 a9
  rotate_left
  · have d0 : decide (RightP a0 a1) = true := decide_eq_true h0
    have d1 : decide (RightP a2 a3) = true := decide_eq_true h1
    have d2 : decide (RightP a4 a5) = true := decide_eq_true h2
    have d3 : decide (RightP a6 a7) = true := decide_eq_true h3
    have d4 : decide (RightP a8 a9) = false := decide_eq_false h4
    rw [show decide (BankP a0 a1 a2 a3 a4 a5 a6 a7 a8 a9) = false from decide_eq_false (fun h => h4 h.2.2.2.2)]
    clear h0 h1 h2 h3 h4
    go_enter Try.func22, Try.ntmps22
    go_wp2_with (first
      | ((with_reducible refine gate_dst (N := 1) rfl ?_); refine box_event ?hg (N := 1) ?hd (cs := #[.int .i64 a0, .int .i64 a1, .int .i64 a2, .int .i64 a3, .int .i64 a4, .int .i64 a5, .int .i64 a6, .int .i64 a7, .int .i64 a8, .int .i64 a9]) (t := 25) ?hr ?_; (case hd => rfl); (case hg => rfl); (case hr => first | (go_simp; done) | (go_simp; rfl)); intro g hg w1 hbox hb; have GEg := Aside0.mk ((by rw [hg]; exact HB.out.size) : w.heap.size ≤ g); have BKg := Aside0.mk hbox; clear hbox hg; have n0_ := Aside0.mk (below_step HB.out hb); clear HB; have HB := n0_; clear n0_; have cg_0 : w1.cell? ⟨g, 0, none⟩ = some (.int .i64 a0) := (blk_cell BKg.out 0).trans rfl; have cg_1 : w1.cell? ⟨g, 1, none⟩ = some (.int .i64 a1) := (blk_cell BKg.out 1).trans rfl; have cg_2 : w1.cell? ⟨g, 2, none⟩ = some (.int .i64 a2) := (blk_cell BKg.out 2).trans rfl; have cg_3 : w1.cell? ⟨g, 3, none⟩ = some (.int .i64 a3) := (blk_cell BKg.out 3).trans rfl; have cg_4 : w1.cell? ⟨g, 4, none⟩ = some (.int .i64 a4) := (blk_cell BKg.out 4).trans rfl; have cg_5 : w1.cell? ⟨g, 5, none⟩ = some (.int .i64 a5) := (blk_cell BKg.out 5).trans rfl; have cg_6 : w1.cell? ⟨g, 6, none⟩ = some (.int .i64 a6) := (blk_cell BKg.out 6).trans rfl; have cg_7 : w1.cell? ⟨g, 7, none⟩ = some (.int .i64 a7) := (blk_cell BKg.out 7).trans rfl; have cg_8 : w1.cell? ⟨g, 8, none⟩ = some (.int .i64 a8) := (blk_cell BKg.out 8).trans rfl; have cg_9 : w1.cell? ⟨g, 9, none⟩ = some (.int .i64 a9) := (blk_cell BKg.out 9).trans rfl; clear hb)
      | (go_at_call 41; (first | (with_reducible refine (Fi.rright d0 _).mono ?_) | (with_reducible refine (Fi.rright d1 _).mono ?_) | (with_reducible refine (Fi.rright d2 _).mono ?_) | (with_reducible refine (Fi.rright d3 _).mono ?_) | (with_reducible refine (Fi.rright d4 _).mono ?_)); rintro r w2 ⟨rfl, hb⟩; have n0_ := Aside0.mk (below_step HB.out hb); have n1_ := Aside0.mk (blk_below BKg.out hb); clear HB BKg; have HB := n0_; have BKg := n1_; clear n0_ n1_; have cg_0 : w2.cell? ⟨g, 0, none⟩ = some (.int .i64 a0) := (blk_cell BKg.out 0).trans rfl; have cg_1 : w2.cell? ⟨g, 1, none⟩ = some (.int .i64 a1) := (blk_cell BKg.out 1).trans rfl; have cg_2 : w2.cell? ⟨g, 2, none⟩ = some (.int .i64 a2) := (blk_cell BKg.out 2).trans rfl; have cg_3 : w2.cell? ⟨g, 3, none⟩ = some (.int .i64 a3) := (blk_cell BKg.out 3).trans rfl; have cg_4 : w2.cell? ⟨g, 4, none⟩ = some (.int .i64 a4) := (blk_cell BKg.out 4).trans rfl; have cg_5 : w2.cell? ⟨g, 5, none⟩ = some (.int .i64 a5) := (blk_cell BKg.out 5).trans rfl; have cg_6 : w2.cell? ⟨g, 6, none⟩ = some (.int .i64 a6) := (blk_cell BKg.out 6).trans rfl; have cg_7 : w2.cell? ⟨g, 7, none⟩ = some (.int .i64 a7) := (blk_cell BKg.out 7).trans rfl; have cg_8 : w2.cell? ⟨g, 8, none⟩ = some (.int .i64 a8) := (blk_cell BKg.out 8).trans rfl; have cg_9 : w2.cell? ⟨g, 9, none⟩ = some (.int .i64 a9) := (blk_cell BKg.out 9).trans rfl; clear hb))
    go_ret
    exact ⟨rfl, HB.out⟩
  have d0 : decide (RightP a0 a1) = true := decide_eq_true h0
  have d1 : decide (RightP a2 a3) = true := decide_eq_true h1
  have d2 : decide (RightP a4 a5) = true := decide_eq_true h2
  have d3 : decide (RightP a6 a7) = true := decide_eq_true h3
  have d4 : decide (RightP a8 a9) = true := decide_eq_true h4
  rw [show decide (BankP a0 a1 a2 a3 a4 a5 a6 a7 a8 a9) = true from decide_eq_true ⟨h0, h1, h2, h3, h4⟩]
  clear h0 h1 h2 h3 h4
  go_enter Try.func22, Try.ntmps22
  go_wp2_with (first
    | ((with_reducible refine gate_dst (N := 1) rfl ?_); refine box_event ?hg (N := 1) ?hd (cs := #[.int .i64 a0, .int .i64 a1, .int .i64 a2, .int .i64 a3, .int .i64 a4, .int .i64 a5, .int .i64 a6, .int .i64 a7, .int .i64 a8, .int .i64 a9]) (t := 25) ?hr ?_; (case hd => rfl); (case hg => rfl); (case hr => first | (go_simp; done) | (go_simp; rfl)); intro g hg w1 hbox hb; have GEg := Aside0.mk ((by rw [hg]; exact HB.out.size) : w.heap.size ≤ g); have BKg := Aside0.mk hbox; clear hbox hg; have n0_ := Aside0.mk (below_step HB.out hb); clear HB; have HB := n0_; clear n0_; have cg_0 : w1.cell? ⟨g, 0, none⟩ = some (.int .i64 a0) := (blk_cell BKg.out 0).trans rfl; have cg_1 : w1.cell? ⟨g, 1, none⟩ = some (.int .i64 a1) := (blk_cell BKg.out 1).trans rfl; have cg_2 : w1.cell? ⟨g, 2, none⟩ = some (.int .i64 a2) := (blk_cell BKg.out 2).trans rfl; have cg_3 : w1.cell? ⟨g, 3, none⟩ = some (.int .i64 a3) := (blk_cell BKg.out 3).trans rfl; have cg_4 : w1.cell? ⟨g, 4, none⟩ = some (.int .i64 a4) := (blk_cell BKg.out 4).trans rfl; have cg_5 : w1.cell? ⟨g, 5, none⟩ = some (.int .i64 a5) := (blk_cell BKg.out 5).trans rfl; have cg_6 : w1.cell? ⟨g, 6, none⟩ = some (.int .i64 a6) := (blk_cell BKg.out 6).trans rfl; have cg_7 : w1.cell? ⟨g, 7, none⟩ = some (.int .i64 a7) := (blk_cell BKg.out 7).trans rfl; have cg_8 : w1.cell? ⟨g, 8, none⟩ = some (.int .i64 a8) := (blk_cell BKg.out 8).trans rfl; have cg_9 : w1.cell? ⟨g, 9, none⟩ = some (.int .i64 a9) := (blk_cell BKg.out 9).trans rfl; clear hb)
    | (go_at_call 41; (first | (with_reducible refine (Fi.rright d0 _).mono ?_) | (with_reducible refine (Fi.rright d1 _).mono ?_) | (with_reducible refine (Fi.rright d2 _).mono ?_) | (with_reducible refine (Fi.rright d3 _).mono ?_) | (with_reducible refine (Fi.rright d4 _).mono ?_)); rintro r w2 ⟨rfl, hb⟩; have n0_ := Aside0.mk (below_step HB.out hb); have n1_ := Aside0.mk (blk_below BKg.out hb); clear HB BKg; have HB := n0_; have BKg := n1_; clear n0_ n1_; have cg_0 : w2.cell? ⟨g, 0, none⟩ = some (.int .i64 a0) := (blk_cell BKg.out 0).trans rfl; have cg_1 : w2.cell? ⟨g, 1, none⟩ = some (.int .i64 a1) := (blk_cell BKg.out 1).trans rfl; have cg_2 : w2.cell? ⟨g, 2, none⟩ = some (.int .i64 a2) := (blk_cell BKg.out 2).trans rfl; have cg_3 : w2.cell? ⟨g, 3, none⟩ = some (.int .i64 a3) := (blk_cell BKg.out 3).trans rfl; have cg_4 : w2.cell? ⟨g, 4, none⟩ = some (.int .i64 a4) := (blk_cell BKg.out 4).trans rfl; have cg_5 : w2.cell? ⟨g, 5, none⟩ = some (.int .i64 a5) := (blk_cell BKg.out 5).trans rfl; have cg_6 : w2.cell? ⟨g, 6, none⟩ = some (.int .i64 a6) := (blk_cell BKg.out 6).trans rfl; have cg_7 : w2.cell? ⟨g, 7, none⟩ = some (.int .i64 a7) := (blk_cell BKg.out 7).trans rfl; have cg_8 : w2.cell? ⟨g, 8, none⟩ = some (.int .i64 a8) := (blk_cell BKg.out 8).trans rfl; have cg_9 : w2.cell? ⟨g, 9, none⟩ = some (.int .i64 a9) := (blk_cell BKg.out 9).trans rfl; clear hb))
  go_ret
  exact ⟨rfl, HB.out⟩

end Go.Proofs.Ytamcpmfimicnjaa.P
