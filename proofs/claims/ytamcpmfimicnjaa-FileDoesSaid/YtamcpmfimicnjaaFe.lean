import Derived.Test.YtamcpmfimicnjaaX
import Derived.Test.YtamcpmfimicnjaaFa
import Derived.Test.YtamcpmfimicnjaaLFile
namespace Go.Proofs.Ytamcpmfimicnjaa.P
open Go.RowKit Go.Proofs.YtamcpmfimicnjaaW.PrintWords Go.Proofs.YtamcpmfimicnjaaW.PrintLast Go.Proofs.YtamcpmfimicnjaaW.PrintMore
attribute [local go_sem] max2_int min2_int max_two min_two max_three min_three max_four min_four   -- for this text's walks alone
set_option linter.unusedVariables false
set_option linter.unusedSimpArgs false
open Go.Proofs.Ytamcpmfimicnjaa.L

theorem Fi.load_hide2 {ops : Array Oper} {rest : List Oper} {o : Oper} {a : Act} {w : World} {Q : Exit → Act → World → Prop} (hgd : o.guard = none) (v : Value) (hrun : (execOp a.eval o).run Try.prog w = .ok (.value v) w) (h : ∀ u, u = v → wpList Try.prog ops Q rest (a.put o.dst u) w) : wpList Try.prog ops Q (o :: rest) a w := Kd.event_run hgd hrun (h _ rfl)
def Fi.new (a0 a1 a2 a3 a4 a5 a6 a7 a8 a9 : Int) : S31 := if BankP a0 a1 a2 a3 a4 a5 a6 a7 a8 a9 then ⟨⟨⟨a0, a1⟩, ⟨a2, a3⟩, ⟨a4, a5⟩, ⟨a6, a7⟩, ⟨a8, a9⟩⟩, List.replicate a1.toNat false, List.replicate a3.toNat false, List.replicate a5.toNat 0, List.replicate a7.toNat 0⟩ else z31
theorem Fi.may {a0 a1 a2 a3 a4 a5 a6 a7 a8 a9 : Int} {y : Bool} (hy : decide (BankP a0 a1 a2 a3 a4 a5 a6 a7 a8 a9) = y) (w : World) : Calls Try.prog 27 #[.agg #[.int .i64 a0, .int .i64 a1, .int .i64 a2, .int .i64 a3, .int .i64 a4, .int .i64 a5, .int .i64 a6, .int .i64 a7, .int .i64 a8, .int .i64 a9]] w fun e w' => e = .returned (.bool y) ∧ Below w.heap.size w w' := file_may.calls a0 a1 a2 a3 a4 a5 a6 a7 a8 a9 y w (hy ▸ may_eq ..)
def Fi.RB (w w' : World) (v : Value) (n : Int) : Prop := Kd.R Kd.bool 4 w' w.heap.size (fun _ => True) v (List.replicate n.toNat false)
def Fi.RW (w w' : World) (v : Value) (n : Int) : Prop := Kd.R (Kd.int .u16) 53 w' w.heap.size (fun _ => True) v (List.replicate n.toNat 0)
def Fi.SC (w : World) (g : Nat) (a0 a1 a2 a3 a4 a5 a6 a7 a8 a9 : Int) (w' : World) : Prop := w'.heap[g]? = some (.cells #[.int .i64 a0, .int .i64 a1, .int .i64 a2, .int .i64 a3, .int .i64 a4, .int .i64 a5, .int .i64 a6, .int .i64 a7, .int .i64 a8, .int .i64 a9] 25 (0, 0)) ∧ Below w.heap.size w w'
theorem Fi.SC.step {w w1 w2 : World} {g : Nat} {a0 a1 a2 a3 a4 a5 a6 a7 a8 a9 : Int} (h : Fi.SC w g a0 a1 a2 a3 a4 a5 a6 a7 a8 a9 w1) (hb : Below w1.heap.size w1 w2) : Fi.SC w g a0 a1 a2 a3 a4 a5 a6 a7 a8 a9 w2 := ⟨blk_below h.1 hb, below_step h.2 hb⟩
def Fi.SB (w : World) (g : Nat) (ds : Array Value) (w' : World) : Prop := w'.heap[g]? = some (.cells ds 25 (0, 0)) ∧ Below w.heap.size w w'
theorem Fi.SB.step {w w1 w2 : World} {g : Nat} {ds : Array Value} (h : Fi.SB w g ds w1) (hb : Below w1.heap.size w1 w2) : Fi.SB w g ds w2 := ⟨blk_below h.1 hb, below_step h.2 hb⟩
theorem Fi.info4 : (Try.prog.info? 4).map (fun i => (i.zero, i.size, i.bytes)) = some (some (.bool false), 1, 1) := by kernel_rfl
theorem Fi.info16 : (Try.prog.info? 53).map (fun i => (i.zero, i.size, i.bytes)) = some (some (.int .u16 0), 1, 2) := by kernel_rfl
theorem Fi.store_ev {ops : Array Oper} {oi : Oper} {a : Act} {w : World} {K : Act → World → Prop} {Q : Exit → Act → World → Prop} (hw : Region.wanted oi (yielded ops a.tmps) = true) (hN : oi.dst = none) (ty : TypeId) (x y : Operand) (ho : oi.op = .store ty x y)
    (g : Nat) (cells : Array Value) (hx : a.eval x = .pointer (some ⟨g, 0, none⟩)) (hy : a.eval y = .agg cells) (t : TypeId) (old : Array Value) (hg : w.heap[g]? = some (.cells old t (0, 0))) (hi : (Try.prog.info? ty).map (·.size) = some cells.size)
    (hold : old.size = cells.size) (h1 : cells.all (·.oneCell') = true) (h : ∀ w1, w1.heap[g]? = some (.cells cells t (0, 0)) → w.grownBy w1 (some g) → K a w1) : if Region.wanted oi (yielded ops a.tmps) = true then Oper.wp Try.prog oi a w K Q else K (a.put none undef) w := by
  rw [if_pos hw]
  refine wp_store_row ty x y ho g cells hx hy t old hg hi hold h1 ?_
  rw [hN]
  exact h _ (setRow_heap _ _ _ cells _ _ hg) (Fi.grown_row w g cells)
def Fi.Tc0 : Bool × List (List Nat × List Nat) := (true, [([], []), ([], []), ([1], [1]), ([2], [2]), ([3, 3], [3]), ([], []), ([5], [5]), ([6], [6]), ([7, 7], [7]), ([], []), ([9], [9]), ([10], [10]), ([11, 11], [11]), ([], []), ([13], [13]), ([14], [14]), ([15, 15], [15]), ([0, 4, 8, 12, 16], [0, 4, 8, 12, 16]), ([17, 0, 1, 2, 3, 4, 5, 6, 7, 8, 9, 10, 11, 12, 13, 14, 15, 16, 17], [17]), ([18, 0, 1, 2, 3, 4, 5, 6, 7, 8, 9, 10, 11, 12, 13, 14, 15, 16, 17, 18], [])])
def Fi.Bc0 : List Nat := [0, 0, 2, 6, 14, 0, 32, 96, 224, 0, 512, 1536, 3584, 0, 8192, 24576, 57344, 131071, 262143, 524287]
theorem Fi.Tc : rtab .any (opsOf Try.f8 3) = Fi.Tc0 := by kernel_rfl
theorem Fi.Bc : waitsOk Fi.Tc0.2 Fi.Bc0 = true := by kernel_rfl
set_option maxHeartbeats 4000000 in
set_option maxRecDepth 100000 in
theorem Fi.cnew {a0 a1 a2 a3 a4 a5 a6 a7 a8 a9 : Int} {w : World} : Calls Try.prog 8 #[.agg #[.int .i64 a0, .int .i64 a1, .int .i64 a2, .int .i64 a3, .int .i64 a4, .int .i64 a5, .int .i64 a6, .int .i64 a7, .int .i64 a8, .int .i64 a9]] w fun e w' => ∃ cs', e = .returned (.tuple #[.agg cs', .int .i64 (if BankP a0 a1 a2 a3 a4 a5 a6 a7 a8 a9 then 0 else 11)]) ∧ Fi.N w' w.heap.size cs' (Fi.new a0 a1 a2 a3 a4 a5 a6 a7 a8 a9) ∧ Below w.heap.size w w' := by
  have hu := Try.underlying31
  have hu25 := Try.underlying25
  have hu23 := Try.underlying23
  have hz := Fi.zero
  have HB := Aside0.mk (Below.refl w.heap.size w)
  by_cases hP : BankP a0 a1 a2 a3 a4 a5 a6 a7 a8 a9
  rotate_left
  · have hd : decide (BankP a0 a1 a2 a3 a4 a5 a6 a7 a8 a9) = false := decide_eq_false hP
    rw [if_neg hP, show Fi.new a0 a1 a2 a3 a4 a5 a6 a7 a8 a9 = z31 from if_neg hP]
    clear hP
    go_enter Try.func8, Try.ntmps8
    go_wp2_with (first
      | ((with_reducible refine gate_dst (N := 1) rfl ?_); refine box_event ?hg (N := 1) ?hd (cs := #[.int .i64 a0, .int .i64 a1, .int .i64 a2, .int .i64 a3, .int .i64 a4, .int .i64 a5, .int .i64 a6, .int .i64 a7, .int .i64 a8, .int .i64 a9]) (t := 25) ?hr ?_; (case hd => rfl); (case hg => rfl); (case hr => first | (go_simp; done) | (go_simp; rfl)); intro g hg w1 hbox hb; have GEg := Aside0.mk ((by rw [hg]; exact HB.out.size) : w.heap.size ≤ g); have BKg := Aside0.mk hbox; clear hbox hg; have n0_ := Aside0.mk (below_step HB.out hb); clear HB; have HB := n0_; clear n0_; skip; clear hb)
      | ((with_reducible refine gate_dst (N := 2) rfl ?_); refine box_event ?hg (N := 2) ?hd (cs := #[.int .i64 0, .int .i64 0, .int .i64 0, .int .i64 0, .int .i64 0, .int .i64 0, .int .i64 0, .int .i64 0, .int .i64 0, .int .i64 0, .slice none 0 0, .slice none 0 0, .slice none 0 0, .slice none 0 0]) (t := 31) ?hr ?_; (case hd => rfl); (case hg => rfl); (case hr => first | (go_simp; done) | (go_simp; rfl)); intro b hg w1b hbox hb; have NB := Aside0.mk (show g ≠ b by rw [hg]; exact Nat.ne_of_lt (blk_lt BKg.out)); have GEb := Aside0.mk ((by rw [hg]; exact HB.out.size) : w.heap.size ≤ b); have BKb := Aside0.mk hbox; clear hbox hg; have n0_ := Aside0.mk (below_step HB.out hb); have n1_ := Aside0.mk (blk_below BKg.out hb); clear HB BKg; have HB := n0_; have BKg := n1_; clear n0_ n1_; skip; clear hb)
      | (refine wpList_load_row rfl 25 _ rfl g rfl 25 _ (0, 0) _ BKg.out hu25 rfl (by kernel_rfl) ?_)
      | (go_at_call 27; (with_reducible refine (Fi.may hd _).mono ?_); rintro r w3 ⟨rfl, hb⟩; have n0_ := Aside0.mk (below_step HB.out hb); have n1_ := Aside0.mk (blk_below BKg.out hb); have n2_ := Aside0.mk (blk_below BKb.out hb); clear HB BKg BKb; have HB := n0_; have BKg := n1_; have BKb := n2_; clear n0_ n1_ n2_; clear hb)
      | ((with_reducible refine gate_dst (N := 7) rfl ?_); refine Fi.load_hide2 rfl (.agg Fi.Z) ?hr ?_; (case hr => first | (go_simp; done) | (go_simp; rfl)); intro u hu_; have HU := Aside0.mk hu_; clear hu_)
      | ((with_reducible refine gate_store rfl ?_); refine Fi.store_row rfl 31 _ _ rfl b Fi.Z rfl HU.out 31 _ BKb.out (by kernel_rfl) rfl (by first | kernel_rfl | simp [Value.oneCell']) ?_; intro w9 hg9 hgr; have n1_ := Aside0.mk (HB.out.grown hgr HB.out.size (fun k hk => by cases hk; exact GEb.out)); clear HB BKb; have HB := n1_; have BKb := Aside0.mk hg9; clear n1_ hg9 hgr))
    refine bodyPost_ret (results_ct rfl _ _ b 31 Fi.Z (0, 0) _ rfl BKb.out hu rfl (by kernel_rfl)) rfl ?_
    exact ⟨_, rfl, Fi.N_zero _ _, HB.out⟩
  have hd : decide (BankP a0 a1 a2 a3 a4 a5 a6 a7 a8 a9) = true := decide_eq_true hP
  rw [if_pos hP, show Fi.new a0 a1 a2 a3 a4 a5 a6 a7 a8 a9 = _ from if_pos hP]
  obtain ⟨⟨pa1, qa1⟩, ⟨pa3, qa3⟩, ⟨pa5, qa5⟩, ⟨pa7, qa7⟩⟩ : (0 ≤ a1 ∧ a1 ≤ 65536) ∧ (0 ≤ a3 ∧ a3 ≤ 65536) ∧ (0 ≤ a5 ∧ a5 ≤ 65536) ∧ (0 ≤ a7 ∧ a7 ≤ 65536) := by
    obtain ⟨p1, p2, p3, p4, p5⟩ := hP
    unfold RightP at p1 p2 p3 p4
    omega
  have ha10 := Aside0.mk pa1
  have ha11 := Aside0.mk (show a1.toNat * 1 ≤ 281474976710656 by omega)
  have ha30 := Aside0.mk pa3
  have ha31 := Aside0.mk (show a3.toNat * 1 ≤ 281474976710656 by omega)
  have ha50 := Aside0.mk pa5
  have ha51 := Aside0.mk (show a5.toNat * 2 ≤ 281474976710656 by omega)
  have ha70 := Aside0.mk pa7
  have ha71 := Aside0.mk (show a7.toNat * 2 ≤ 281474976710656 by omega)
  clear hP pa1 qa1 pa3 qa3 pa5 qa5 pa7 qa7
  go_enter Try.func8, Try.ntmps8
  go_wp2_with (first
    | ((with_reducible refine gate_dst (N := 1) rfl ?_); refine box_event ?hg (N := 1) ?hd (cs := #[.int .i64 a0, .int .i64 a1, .int .i64 a2, .int .i64 a3, .int .i64 a4, .int .i64 a5, .int .i64 a6, .int .i64 a7, .int .i64 a8, .int .i64 a9]) (t := 25) ?hr ?_; (case hd => rfl); (case hg => rfl); (case hr => first | (go_simp; done) | (go_simp; rfl)); intro g hg w1 hbox hb; have GEg := Aside0.mk ((by rw [hg]; exact HB.out.size) : w.heap.size ≤ g); have BKg := Aside0.mk hbox; clear hbox hg; have n0_ := Aside0.mk (below_step HB.out hb); clear HB; have HB := n0_; clear n0_; skip; clear hb)
    | ((with_reducible refine gate_dst (N := 2) rfl ?_); refine box_event ?hg (N := 2) ?hd (cs := #[.int .i64 0, .int .i64 0, .int .i64 0, .int .i64 0, .int .i64 0, .int .i64 0, .int .i64 0, .int .i64 0, .int .i64 0, .int .i64 0, .slice none 0 0, .slice none 0 0, .slice none 0 0, .slice none 0 0]) (t := 31) ?hr ?_; (case hd => rfl); (case hg => rfl); (case hr => first | (go_simp; done) | (go_simp; rfl)); intro b hg w1b hbox hb; have NB := Aside0.mk (show g ≠ b by rw [hg]; exact Nat.ne_of_lt (blk_lt BKg.out)); have GEb := Aside0.mk ((by rw [hg]; exact HB.out.size) : w.heap.size ≤ b); have BKb := Aside0.mk hbox; clear hbox hg; have n0_ := Aside0.mk (below_step HB.out hb); have n1_ := Aside0.mk (blk_below BKg.out hb); clear HB BKg; have HB := n0_; have BKg := n1_; clear n0_ n1_; skip; clear hb)
    | (refine wpList_load_row rfl 25 _ rfl g rfl 25 _ (0, 0) _ BKg.out hu25 rfl (by kernel_rfl) ?_)
    | (go_at_call 27; (with_reducible refine (Fi.may hd _).mono ?_); rintro r w3 ⟨rfl, hb⟩; have n0_ := Aside0.mk (below_step HB.out hb); have n1_ := Aside0.mk (blk_below BKg.out hb); have n2_ := Aside0.mk (blk_below BKb.out hb); clear HB BKg BKb; have HB := n0_; have BKg := n1_; have BKb := n2_; clear n0_ n1_ n2_; clear hb))
  refine start_ (n := 20) (S := Fi.SC w g a0 a1 a2 a3 a4 a5 a6 a7 a8 a9) (ds := []) (bt 20 0) (by kernel_rfl) rfl (by kernel_rfl) ⟨blk_drew BKg.out, below_drew1 HB.out⟩ (fun hHeld => ?_); refine with_tabW Fi.Tc Fi.Bc (fun HT_ HW_ => ?_)
  have BKb2 := Aside0.mk (blk_drew BKb.out)
  clear BKb BKg HB
  have BKb := BKb2
  clear BKb2
  generalize w3.drew = w5 at BKb hHeld ⊢
  refine pure_ (i := 1) (N := some 9) (v := ?_) (a' := ?_) (bt 20 2) rfl rfl (any_of HT_.out (by kernel_rfl)) (fun _ _ _ h => h) (Or.inl ⟨by rfl, ?_⟩) ?_ ?_
  rotate_left
  · intro w'
    go_simp
    first | with_reducible rfl | (simp [Instr.field, go_sem]; rfl)
  rotate_left
  · simp only [Act.put, List.setIfInBounds_toArray, List.set_cons_zero, List.set_cons_succ, i64_w, i32_w]
    rfl
  refine pure_ (i := 2) (N := some 10) (v := ?_) (a' := ?_) (bt 20 6) rfl rfl (any_of HT_.out (by kernel_rfl)) (fun _ _ _ h => h) (Or.inl ⟨by rfl, ?_⟩) ?_ ?_
  rotate_left
  · intro w'
    go_simp
    first | with_reducible rfl | (simp [Instr.field, go_sem]; rfl)
  rotate_left
  · simp only [Act.put, List.setIfInBounds_toArray, List.set_cons_zero, List.set_cons_succ, i64_w, i32_w]
    rfl
  refine pure_ (i := 5) (N := some 13) (v := ?_) (a' := ?_) (bt 20 38) rfl rfl (any_of HT_.out (by kernel_rfl)) (fun _ _ _ h => h) (Or.inl ⟨by rfl, ?_⟩) ?_ ?_
  rotate_left
  · intro w'
    go_simp
    first | with_reducible rfl | (simp [Instr.field, go_sem]; rfl)
  rotate_left
  · simp only [Act.put, List.setIfInBounds_toArray, List.set_cons_zero, List.set_cons_succ, i64_w, i32_w]
    rfl
  refine pure_ (i := 6) (N := some 14) (v := ?_) (a' := ?_) (bt 20 102) rfl rfl (any_of HT_.out (by kernel_rfl)) (fun _ _ _ h => h) (Or.inl ⟨by rfl, ?_⟩) ?_ ?_
  rotate_left
  · intro w'
    go_simp
    first | with_reducible rfl | (simp [Instr.field, go_sem]; rfl)
  rotate_left
  · simp only [Act.put, List.setIfInBounds_toArray, List.set_cons_zero, List.set_cons_succ, i64_w, i32_w]
    rfl
  refine pure_ (i := 9) (N := some 17) (v := ?_) (a' := ?_) (bt 20 614) rfl rfl (any_of HT_.out (by kernel_rfl)) (fun _ _ _ h => h) (Or.inl ⟨by rfl, ?_⟩) ?_ ?_
  rotate_left
  · intro w'
    go_simp
    first | with_reducible rfl | (simp [Instr.field, go_sem]; rfl)
  rotate_left
  · simp only [Act.put, List.setIfInBounds_toArray, List.set_cons_zero, List.set_cons_succ, i64_w, i32_w]
    rfl
  refine pure_ (i := 10) (N := some 18) (v := ?_) (a' := ?_) (bt 20 1638) rfl rfl (any_of HT_.out (by kernel_rfl)) (fun _ _ _ h => h) (Or.inl ⟨by rfl, ?_⟩) ?_ ?_
  rotate_left
  · intro w'
    go_simp
    first | with_reducible rfl | (simp [Instr.field, go_sem]; rfl)
  rotate_left
  · simp only [Act.put, List.setIfInBounds_toArray, List.set_cons_zero, List.set_cons_succ, i64_w, i32_w]
    rfl
  refine pure_ (i := 13) (N := some 21) (v := ?_) (a' := ?_) (bt 20 9830) rfl rfl (any_of HT_.out (by kernel_rfl)) (fun _ _ _ h => h) (Or.inl ⟨by rfl, ?_⟩) ?_ ?_
  rotate_left
  · intro w'
    go_simp
    first | with_reducible rfl | (simp [Instr.field, go_sem]; rfl)
  rotate_left
  · simp only [Act.put, List.setIfInBounds_toArray, List.set_cons_zero, List.set_cons_succ, i64_w, i32_w]
    rfl
  refine pure_ (i := 14) (N := some 22) (v := ?_) (a' := ?_) (bt 20 26214) rfl rfl (any_of HT_.out (by kernel_rfl)) (fun _ _ _ h => h) (Or.inl ⟨by rfl, ?_⟩) ?_ ?_
  rotate_left
  · intro w'
    go_simp
    first | with_reducible rfl | (simp [Instr.field, go_sem]; rfl)
  rotate_left
  · simp only [Act.put, List.setIfInBounds_toArray, List.set_cons_zero, List.set_cons_succ, i64_w, i32_w]
    rfl
  refine take_ (i := 0) (N := some 8) (v := ?_) (a' := ?_) (bt 20 26215) rfl rfl (take_ofW HT_.out HW_.out (by kernel_rfl)) (fun _ _ _ h => h) (Or.inl ⟨by rfl, ?_⟩) hHeld ?_ ?_
  rotate_left
  · rintro w' ⟨h1_, h2_⟩
    have s0_ : w'.cell? ⟨g, 0, none⟩ = some (.int .i64 a0) := (blk_cell h1_ 0).trans rfl; have s1_ : w'.cell? ⟨g, 1, none⟩ = some (.int .i64 a1) := (blk_cell h1_ 1).trans rfl; have s2_ : w'.cell? ⟨g, 2, none⟩ = some (.int .i64 a2) := (blk_cell h1_ 2).trans rfl; have s3_ : w'.cell? ⟨g, 3, none⟩ = some (.int .i64 a3) := (blk_cell h1_ 3).trans rfl; have s4_ : w'.cell? ⟨g, 4, none⟩ = some (.int .i64 a4) := (blk_cell h1_ 4).trans rfl; have s5_ : w'.cell? ⟨g, 5, none⟩ = some (.int .i64 a5) := (blk_cell h1_ 5).trans rfl; have s6_ : w'.cell? ⟨g, 6, none⟩ = some (.int .i64 a6) := (blk_cell h1_ 6).trans rfl; have s7_ : w'.cell? ⟨g, 7, none⟩ = some (.int .i64 a7) := (blk_cell h1_ 7).trans rfl; have s8_ : w'.cell? ⟨g, 8, none⟩ = some (.int .i64 a8) := (blk_cell h1_ 8).trans rfl; have s9_ : w'.cell? ⟨g, 9, none⟩ = some (.int .i64 a9) := (blk_cell h1_ 9).trans rfl
    clear h1_ h2_
    go_simp
    first | with_reducible rfl | (simp [Instr.field, go_sem]; rfl)
  rotate_left
  · simp only [Act.put, List.setIfInBounds_toArray, List.set_cons_zero, List.set_cons_succ, i64_w, i32_w]
    rfl
  refine take_ (i := 3) (N := some 11) (v := ?_) (a' := ?_) (bt 20 26223) rfl rfl (take_ofW HT_.out HW_.out (by kernel_rfl)) (fun _ _ _ h => h) (Or.inl ⟨by rfl, ?_⟩) hHeld ?_ ?_
  rotate_left
  · rintro w' ⟨h1_, h2_⟩
    have s0_ : w'.cell? ⟨g, 0, none⟩ = some (.int .i64 a0) := (blk_cell h1_ 0).trans rfl; have s1_ : w'.cell? ⟨g, 1, none⟩ = some (.int .i64 a1) := (blk_cell h1_ 1).trans rfl; have s2_ : w'.cell? ⟨g, 2, none⟩ = some (.int .i64 a2) := (blk_cell h1_ 2).trans rfl; have s3_ : w'.cell? ⟨g, 3, none⟩ = some (.int .i64 a3) := (blk_cell h1_ 3).trans rfl; have s4_ : w'.cell? ⟨g, 4, none⟩ = some (.int .i64 a4) := (blk_cell h1_ 4).trans rfl; have s5_ : w'.cell? ⟨g, 5, none⟩ = some (.int .i64 a5) := (blk_cell h1_ 5).trans rfl; have s6_ : w'.cell? ⟨g, 6, none⟩ = some (.int .i64 a6) := (blk_cell h1_ 6).trans rfl; have s7_ : w'.cell? ⟨g, 7, none⟩ = some (.int .i64 a7) := (blk_cell h1_ 7).trans rfl; have s8_ : w'.cell? ⟨g, 8, none⟩ = some (.int .i64 a8) := (blk_cell h1_ 8).trans rfl; have s9_ : w'.cell? ⟨g, 9, none⟩ = some (.int .i64 a9) := (blk_cell h1_ 9).trans rfl
    clear h1_ h2_
    go_simp
    first | with_reducible rfl | (simp [Instr.field, go_sem]; rfl)
  rotate_left
  · simp only [Act.put, List.setIfInBounds_toArray, List.set_cons_zero, List.set_cons_succ, i64_w, i32_w]
    rfl
  refine take_ (i := 7) (N := some 15) (v := ?_) (a' := ?_) (bt 20 26351) rfl rfl (take_ofW HT_.out HW_.out (by kernel_rfl)) (fun _ _ _ h => h) (Or.inl ⟨by rfl, ?_⟩) hHeld ?_ ?_
  rotate_left
  · rintro w' ⟨h1_, h2_⟩
    have s0_ : w'.cell? ⟨g, 0, none⟩ = some (.int .i64 a0) := (blk_cell h1_ 0).trans rfl; have s1_ : w'.cell? ⟨g, 1, none⟩ = some (.int .i64 a1) := (blk_cell h1_ 1).trans rfl; have s2_ : w'.cell? ⟨g, 2, none⟩ = some (.int .i64 a2) := (blk_cell h1_ 2).trans rfl; have s3_ : w'.cell? ⟨g, 3, none⟩ = some (.int .i64 a3) := (blk_cell h1_ 3).trans rfl; have s4_ : w'.cell? ⟨g, 4, none⟩ = some (.int .i64 a4) := (blk_cell h1_ 4).trans rfl; have s5_ : w'.cell? ⟨g, 5, none⟩ = some (.int .i64 a5) := (blk_cell h1_ 5).trans rfl; have s6_ : w'.cell? ⟨g, 6, none⟩ = some (.int .i64 a6) := (blk_cell h1_ 6).trans rfl; have s7_ : w'.cell? ⟨g, 7, none⟩ = some (.int .i64 a7) := (blk_cell h1_ 7).trans rfl; have s8_ : w'.cell? ⟨g, 8, none⟩ = some (.int .i64 a8) := (blk_cell h1_ 8).trans rfl; have s9_ : w'.cell? ⟨g, 9, none⟩ = some (.int .i64 a9) := (blk_cell h1_ 9).trans rfl
    clear h1_ h2_
    go_simp
    first | with_reducible rfl | (simp [Instr.field, go_sem]; rfl)
  rotate_left
  · simp only [Act.put, List.setIfInBounds_toArray, List.set_cons_zero, List.set_cons_succ, i64_w, i32_w]
    rfl
  refine take_ (i := 11) (N := some 19) (v := ?_) (a' := ?_) (bt 20 28399) rfl rfl (take_ofW HT_.out HW_.out (by kernel_rfl)) (fun _ _ _ h => h) (Or.inl ⟨by rfl, ?_⟩) hHeld ?_ ?_
  rotate_left
  · rintro w' ⟨h1_, h2_⟩
    have s0_ : w'.cell? ⟨g, 0, none⟩ = some (.int .i64 a0) := (blk_cell h1_ 0).trans rfl; have s1_ : w'.cell? ⟨g, 1, none⟩ = some (.int .i64 a1) := (blk_cell h1_ 1).trans rfl; have s2_ : w'.cell? ⟨g, 2, none⟩ = some (.int .i64 a2) := (blk_cell h1_ 2).trans rfl; have s3_ : w'.cell? ⟨g, 3, none⟩ = some (.int .i64 a3) := (blk_cell h1_ 3).trans rfl; have s4_ : w'.cell? ⟨g, 4, none⟩ = some (.int .i64 a4) := (blk_cell h1_ 4).trans rfl; have s5_ : w'.cell? ⟨g, 5, none⟩ = some (.int .i64 a5) := (blk_cell h1_ 5).trans rfl; have s6_ : w'.cell? ⟨g, 6, none⟩ = some (.int .i64 a6) := (blk_cell h1_ 6).trans rfl; have s7_ : w'.cell? ⟨g, 7, none⟩ = some (.int .i64 a7) := (blk_cell h1_ 7).trans rfl; have s8_ : w'.cell? ⟨g, 8, none⟩ = some (.int .i64 a8) := (blk_cell h1_ 8).trans rfl; have s9_ : w'.cell? ⟨g, 9, none⟩ = some (.int .i64 a9) := (blk_cell h1_ 9).trans rfl
    clear h1_ h2_
    go_simp
    first | with_reducible rfl | (simp [Instr.field, go_sem]; rfl)
  rotate_left
  · simp only [Act.put, List.setIfInBounds_toArray, List.set_cons_zero, List.set_cons_succ, i64_w, i32_w]
    rfl
  refine take_ (i := 15) (N := some 23) (v := ?_) (a' := ?_) (bt 20 61167) rfl rfl (take_ofW HT_.out HW_.out (by kernel_rfl)) (fun _ _ _ h => h) (Or.inl ⟨by rfl, ?_⟩) hHeld ?_ ?_
  rotate_left
  · rintro w' ⟨h1_, h2_⟩
    have s0_ : w'.cell? ⟨g, 0, none⟩ = some (.int .i64 a0) := (blk_cell h1_ 0).trans rfl; have s1_ : w'.cell? ⟨g, 1, none⟩ = some (.int .i64 a1) := (blk_cell h1_ 1).trans rfl; have s2_ : w'.cell? ⟨g, 2, none⟩ = some (.int .i64 a2) := (blk_cell h1_ 2).trans rfl; have s3_ : w'.cell? ⟨g, 3, none⟩ = some (.int .i64 a3) := (blk_cell h1_ 3).trans rfl; have s4_ : w'.cell? ⟨g, 4, none⟩ = some (.int .i64 a4) := (blk_cell h1_ 4).trans rfl; have s5_ : w'.cell? ⟨g, 5, none⟩ = some (.int .i64 a5) := (blk_cell h1_ 5).trans rfl; have s6_ : w'.cell? ⟨g, 6, none⟩ = some (.int .i64 a6) := (blk_cell h1_ 6).trans rfl; have s7_ : w'.cell? ⟨g, 7, none⟩ = some (.int .i64 a7) := (blk_cell h1_ 7).trans rfl; have s8_ : w'.cell? ⟨g, 8, none⟩ = some (.int .i64 a8) := (blk_cell h1_ 8).trans rfl; have s9_ : w'.cell? ⟨g, 9, none⟩ = some (.int .i64 a9) := (blk_cell h1_ 9).trans rfl
    clear h1_ h2_
    go_simp
    first | with_reducible rfl | (simp [Instr.field, go_sem]; rfl)
  rotate_left
  · simp only [Act.put, List.setIfInBounds_toArray, List.set_cons_zero, List.set_cons_succ, i64_w, i32_w]
    rfl
  refine join_ (σ := Value × Value × Value × Value) 3 (bt 20 131071) (fun s_ => [(12, s_.1), (16, s_.2.1), (20, s_.2.2.1), (24, s_.2.2.2)]) (fun s_ w' => Fi.SC w g a0 a1 a2 a3 a4 a5 a6 a7 a8 a9 w' ∧ w'.heap[b]? = some (.cells Fi.Z 31 (0, 0)) ∧ Fi.RB w w' s_.1 a1 ∧ Fi.RB w w' s_.2.1 a3 ∧ Fi.RW w w' s_.2.2.1 a5 ∧ Fi.RW w w' s_.2.2.2 a7) ?_ ?_
  rotate_left
  · intro hJ4_8_12_16
    refine join_ (σ := Value × Value × Value) 4 (bt 20 65535) (fun s_ => [(12, s_.1), (16, s_.2.1), (20, s_.2.2)]) (fun s_ w' => Fi.SC w g a0 a1 a2 a3 a4 a5 a6 a7 a8 a9 w' ∧ w'.heap[b]? = some (.cells Fi.Z 31 (0, 0)) ∧ Fi.RB w w' s_.1 a1 ∧ Fi.RB w w' s_.2.1 a3 ∧ Fi.RW w w' s_.2.2 a5) ?_ ?_
    rotate_left
    · intro hJ4_8_12
      refine join_ (σ := Value × Value × Value) 4 (bt 20 126975) (fun s_ => [(12, s_.1), (16, s_.2.1), (24, s_.2.2)]) (fun s_ w' => Fi.SC w g a0 a1 a2 a3 a4 a5 a6 a7 a8 a9 w' ∧ w'.heap[b]? = some (.cells Fi.Z 31 (0, 0)) ∧ Fi.RB w w' s_.1 a1 ∧ Fi.RB w w' s_.2.1 a3 ∧ Fi.RW w w' s_.2.2 a7) ?_ ?_
      rotate_left
      · intro hJ4_8_16
        refine join_ (σ := Value × Value × Value) 4 (bt 20 130815) (fun s_ => [(12, s_.1), (20, s_.2.1), (24, s_.2.2)]) (fun s_ w' => Fi.SC w g a0 a1 a2 a3 a4 a5 a6 a7 a8 a9 w' ∧ w'.heap[b]? = some (.cells Fi.Z 31 (0, 0)) ∧ Fi.RB w w' s_.1 a1 ∧ Fi.RW w w' s_.2.1 a5 ∧ Fi.RW w w' s_.2.2 a7) ?_ ?_
        rotate_left
        · intro hJ4_12_16
          refine join_ (σ := Value × Value × Value) 4 (bt 20 131055) (fun s_ => [(16, s_.1), (20, s_.2.1), (24, s_.2.2)]) (fun s_ w' => Fi.SC w g a0 a1 a2 a3 a4 a5 a6 a7 a8 a9 w' ∧ w'.heap[b]? = some (.cells Fi.Z 31 (0, 0)) ∧ Fi.RB w w' s_.1 a3 ∧ Fi.RW w w' s_.2.1 a5 ∧ Fi.RW w w' s_.2.2 a7) ?_ ?_
          rotate_left
          · intro hJ8_12_16
            refine join_ (σ := Value × Value) 5 (bt 20 61439) (fun s_ => [(12, s_.1), (16, s_.2)]) (fun s_ w' => Fi.SC w g a0 a1 a2 a3 a4 a5 a6 a7 a8 a9 w' ∧ w'.heap[b]? = some (.cells Fi.Z 31 (0, 0)) ∧ Fi.RB w w' s_.1 a1 ∧ Fi.RB w w' s_.2 a3) ?_ ?_
            rotate_left
            · intro hJ4_8
              refine join_ (σ := Value × Value) 5 (bt 20 65279) (fun s_ => [(12, s_.1), (20, s_.2)]) (fun s_ w' => Fi.SC w g a0 a1 a2 a3 a4 a5 a6 a7 a8 a9 w' ∧ w'.heap[b]? = some (.cells Fi.Z 31 (0, 0)) ∧ Fi.RB w w' s_.1 a1 ∧ Fi.RW w w' s_.2 a5) ?_ ?_
              rotate_left
              · intro hJ4_12
                refine join_ (σ := Value × Value) 5 (bt 20 126719) (fun s_ => [(12, s_.1), (24, s_.2)]) (fun s_ w' => Fi.SC w g a0 a1 a2 a3 a4 a5 a6 a7 a8 a9 w' ∧ w'.heap[b]? = some (.cells Fi.Z 31 (0, 0)) ∧ Fi.RB w w' s_.1 a1 ∧ Fi.RW w w' s_.2 a7) ?_ ?_
                rotate_left
                · intro hJ4_16
                  refine join_ (σ := Value × Value) 5 (bt 20 65519) (fun s_ => [(16, s_.1), (20, s_.2)]) (fun s_ w' => Fi.SC w g a0 a1 a2 a3 a4 a5 a6 a7 a8 a9 w' ∧ w'.heap[b]? = some (.cells Fi.Z 31 (0, 0)) ∧ Fi.RB w w' s_.1 a3 ∧ Fi.RW w w' s_.2 a5) ?_ ?_
                  rotate_left
                  · intro hJ8_12
                    refine join_ (σ := Value × Value) 5 (bt 20 126959) (fun s_ => [(16, s_.1), (24, s_.2)]) (fun s_ w' => Fi.SC w g a0 a1 a2 a3 a4 a5 a6 a7 a8 a9 w' ∧ w'.heap[b]? = some (.cells Fi.Z 31 (0, 0)) ∧ Fi.RB w w' s_.1 a3 ∧ Fi.RW w w' s_.2 a7) ?_ ?_
                    rotate_left
                    · intro hJ8_16
                      refine join_ (σ := Value × Value) 5 (bt 20 130799) (fun s_ => [(20, s_.1), (24, s_.2)]) (fun s_ w' => Fi.SC w g a0 a1 a2 a3 a4 a5 a6 a7 a8 a9 w' ∧ w'.heap[b]? = some (.cells Fi.Z 31 (0, 0)) ∧ Fi.RW w w' s_.1 a5 ∧ Fi.RW w w' s_.2 a7) ?_ ?_
                      rotate_left
                      · intro hJ12_16
                        refine join_ (σ := Value) 6 (bt 20 61183) (fun s_ => [(12, s_)]) (fun s_ w' => Fi.SC w g a0 a1 a2 a3 a4 a5 a6 a7 a8 a9 w' ∧ w'.heap[b]? = some (.cells Fi.Z 31 (0, 0)) ∧ Fi.RB w w' s_ a1) ?_ ?_
                        rotate_left
                        · intro hJ4
                          refine join_ (σ := Value) 6 (bt 20 61423) (fun s_ => [(16, s_)]) (fun s_ w' => Fi.SC w g a0 a1 a2 a3 a4 a5 a6 a7 a8 a9 w' ∧ w'.heap[b]? = some (.cells Fi.Z 31 (0, 0)) ∧ Fi.RB w w' s_ a3) ?_ ?_
                          rotate_left
                          · intro hJ8
                            refine join_ (σ := Value) 6 (bt 20 65263) (fun s_ => [(20, s_)]) (fun s_ w' => Fi.SC w g a0 a1 a2 a3 a4 a5 a6 a7 a8 a9 w' ∧ w'.heap[b]? = some (.cells Fi.Z 31 (0, 0)) ∧ Fi.RW w w' s_ a5) ?_ ?_
                            rotate_left
                            · intro hJ12
                              refine join_ (σ := Value) 6 (bt 20 126703) (fun s_ => [(24, s_)]) (fun s_ w' => Fi.SC w g a0 a1 a2 a3 a4 a5 a6 a7 a8 a9 w' ∧ w'.heap[b]? = some (.cells Fi.Z 31 (0, 0)) ∧ Fi.RW w w' s_ a7) ?_ ?_
                              rotate_left
                              · intro hJ16
                                refine four_ (i := 4) (j := 8) (k := 12) (m := 16) (Ni := some 12) (Nj := some 16) (Nk := some 20) (Nm := some 24) (bt 20 61183) (bt 20 61423) (bt 20 65263) (bt 20 126703) rfl rfl rfl rfl rfl rfl rfl rfl (four_of HT_.out (by kernel_rfl)) (by decide) (by decide) (by decide) (by decide) (fun K hK => ?_) (fun K hK => ?_) (fun K hK => ?_) (fun K hK => ?_)
                                · skip
                                  refine Kd.R_make_step Kd.bool _ 4 (by rfl) (N := 12) rfl 28 _ _ rfl a1 rfl rfl Try.underlying28 (.bool false) 1 Fi.info4 rfl (by decide) (by omega) false (ok := fun _ => True) (okp := fun _ => True) rfl (fun _ hk => hk) trivial ha10.out ha11.out (Below.refl _ _) (Nat.le_refl _) ?_
                                  intro v4 w6 ho hb hg_ hnew_
                                  clear hg_ hnew_
                                  have hL := hHeld.2.size
                                  refine hK.out _ _ (hHeld.step hb) (fun hHeld => ?_)
                                  clear hK K
                                  refine norm_ (a' := ?_) ?_ ?_
                                  rotate_left
                                  · show Act.put _ (some 12) _ = _
                                    simp only [Act.put, List.setIfInBounds_toArray, List.set_cons_zero, List.set_cons_succ, i64_w, i32_w]
                                    rfl
                                  exact norm_ (by simp only [putAll, Act.put, List.setIfInBounds_toArray, List.set_cons_zero, List.set_cons_succ] <;> rfl) (hJ4 v4 _ ⟨hHeld, blk_below BKb.out hb, Kd.R_lower ho hL⟩)
                                · skip
                                  refine Kd.R_make_step Kd.bool _ 4 (by rfl) (N := 16) rfl 28 _ _ rfl a3 rfl rfl Try.underlying28 (.bool false) 1 Fi.info4 rfl (by decide) (by omega) false (ok := fun _ => True) (okp := fun _ => True) rfl (fun _ hk => hk) trivial ha30.out ha31.out (Below.refl _ _) (Nat.le_refl _) ?_
                                  intro v8 w6 ho hb hg_ hnew_
                                  clear hg_ hnew_
                                  have hL := hHeld.2.size
                                  refine hK.out _ _ (hHeld.step hb) (fun hHeld => ?_)
                                  clear hK K
                                  refine norm_ (a' := ?_) ?_ ?_
                                  rotate_left
                                  · show Act.put _ (some 16) _ = _
                                    simp only [Act.put, List.setIfInBounds_toArray, List.set_cons_zero, List.set_cons_succ, i64_w, i32_w]
                                    rfl
                                  exact norm_ (by simp only [putAll, Act.put, List.setIfInBounds_toArray, List.set_cons_zero, List.set_cons_succ] <;> rfl) (hJ8 v8 _ ⟨hHeld, blk_below BKb.out hb, Kd.R_lower ho hL⟩)
                                · skip
                                  refine Kd.R_make_step (Kd.int .u16) _ 53 (by rfl) (N := 20) rfl 29 _ _ rfl a5 rfl rfl Try.underlying29 (.int .u16 0) 2 Fi.info16 rfl (by decide) (by omega) 0 (ok := fun _ => True) (okp := fun _ => True) rfl (fun _ hk => hk) trivial ha50.out ha51.out (Below.refl _ _) (Nat.le_refl _) ?_
                                  intro v12 w6 ho hb hg_ hnew_
                                  clear hg_ hnew_
                                  have hL := hHeld.2.size
                                  refine hK.out _ _ (hHeld.step hb) (fun hHeld => ?_)
                                  clear hK K
                                  refine norm_ (a' := ?_) ?_ ?_
                                  rotate_left
                                  · show Act.put _ (some 20) _ = _
                                    simp only [Act.put, List.setIfInBounds_toArray, List.set_cons_zero, List.set_cons_succ, i64_w, i32_w]
                                    rfl
                                  exact norm_ (by simp only [putAll, Act.put, List.setIfInBounds_toArray, List.set_cons_zero, List.set_cons_succ] <;> rfl) (hJ12 v12 _ ⟨hHeld, blk_below BKb.out hb, Kd.R_lower ho hL⟩)
                                · skip
                                  refine Kd.R_make_step (Kd.int .u16) _ 53 (by rfl) (N := 24) rfl 29 _ _ rfl a7 rfl rfl Try.underlying29 (.int .u16 0) 2 Fi.info16 rfl (by decide) (by omega) 0 (ok := fun _ => True) (okp := fun _ => True) rfl (fun _ hk => hk) trivial ha70.out ha71.out (Below.refl _ _) (Nat.le_refl _) ?_
                                  intro v16 w6 ho hb hg_ hnew_
                                  clear hg_ hnew_
                                  have hL := hHeld.2.size
                                  refine hK.out _ _ (hHeld.step hb) (fun hHeld => ?_)
                                  clear hK K
                                  refine norm_ (a' := ?_) ?_ ?_
                                  rotate_left
                                  · show Act.put _ (some 24) _ = _
                                    simp only [Act.put, List.setIfInBounds_toArray, List.set_cons_zero, List.set_cons_succ, i64_w, i32_w]
                                    rfl
                                  exact norm_ (by simp only [putAll, Act.put, List.setIfInBounds_toArray, List.set_cons_zero, List.set_cons_succ] <;> rfl) (hJ16 v16 _ ⟨hHeld, blk_below BKb.out hb, Kd.R_lower ho hL⟩)
                              rintro v16 w5 ⟨hHeld, hBb, hO16⟩
                              have BKb3 := Aside0.mk hBb
                              clear BKb hBb
                              have BKb := BKb3
                              clear BKb3
                              have HO16 := Aside0.mk (show Kd.R (Kd.int .u16) 53 _ _ _ v16 (List.replicate a7.toNat 0) from hO16)
                              clear hO16
                              refine norm_ (a' := ?_) ?_ ?_
                              rotate_left
                              · simp only [putAll, Act.put, List.setIfInBounds_toArray, List.set_cons_zero, List.set_cons_succ]
                                rfl
                              refine three_ (i := 4) (j := 8) (k := 12) (Ni := some 12) (Nj := some 16) (Nk := some 20) (bt 20 126719) (bt 20 126959) (bt 20 130799) rfl rfl rfl rfl rfl rfl (three_of HT_.out (by kernel_rfl)) (by decide) (by decide) (by decide) (fun K hK => ?_) (fun K hK => ?_) (fun K hK => ?_)
                              · skip
                                refine Kd.R_make_step Kd.bool _ 4 (by rfl) (N := 12) rfl 28 _ _ rfl a1 rfl rfl Try.underlying28 (.bool false) 1 Fi.info4 rfl (by decide) (by omega) false (ok := fun _ => True) (okp := fun _ => True) rfl (fun _ hk => hk) trivial ha10.out ha11.out (Below.refl _ _) (Nat.le_refl _) ?_
                                intro v4 w6 ho hb hg_ hnew_
                                clear hg_ hnew_
                                have hL := hHeld.2.size
                                refine hK.out _ _ (hHeld.step hb) (fun hHeld => ?_)
                                clear hK K
                                refine norm_ (a' := ?_) ?_ ?_
                                rotate_left
                                · show Act.put _ (some 12) _ = _
                                  simp only [Act.put, List.setIfInBounds_toArray, List.set_cons_zero, List.set_cons_succ, i64_w, i32_w]
                                  rfl
                                exact norm_ (by simp only [putAll, Act.put, List.setIfInBounds_toArray, List.set_cons_zero, List.set_cons_succ] <;> rfl) (hJ4_16 (v4, v16) _ ⟨hHeld, blk_below BKb.out hb, Kd.R_lower ho hL, Kd.R_below HO16.out hb⟩)
                              · skip
                                refine Kd.R_make_step Kd.bool _ 4 (by rfl) (N := 16) rfl 28 _ _ rfl a3 rfl rfl Try.underlying28 (.bool false) 1 Fi.info4 rfl (by decide) (by omega) false (ok := fun _ => True) (okp := fun _ => True) rfl (fun _ hk => hk) trivial ha30.out ha31.out (Below.refl _ _) (Nat.le_refl _) ?_
                                intro v8 w6 ho hb hg_ hnew_
                                clear hg_ hnew_
                                have hL := hHeld.2.size
                                refine hK.out _ _ (hHeld.step hb) (fun hHeld => ?_)
                                clear hK K
                                refine norm_ (a' := ?_) ?_ ?_
                                rotate_left
                                · show Act.put _ (some 16) _ = _
                                  simp only [Act.put, List.setIfInBounds_toArray, List.set_cons_zero, List.set_cons_succ, i64_w, i32_w]
                                  rfl
                                exact norm_ (by simp only [putAll, Act.put, List.setIfInBounds_toArray, List.set_cons_zero, List.set_cons_succ] <;> rfl) (hJ8_16 (v8, v16) _ ⟨hHeld, blk_below BKb.out hb, Kd.R_lower ho hL, Kd.R_below HO16.out hb⟩)
                              · skip
                                refine Kd.R_make_step (Kd.int .u16) _ 53 (by rfl) (N := 20) rfl 29 _ _ rfl a5 rfl rfl Try.underlying29 (.int .u16 0) 2 Fi.info16 rfl (by decide) (by omega) 0 (ok := fun _ => True) (okp := fun _ => True) rfl (fun _ hk => hk) trivial ha50.out ha51.out (Below.refl _ _) (Nat.le_refl _) ?_
                                intro v12 w6 ho hb hg_ hnew_
                                clear hg_ hnew_
                                have hL := hHeld.2.size
                                refine hK.out _ _ (hHeld.step hb) (fun hHeld => ?_)
                                clear hK K
                                refine norm_ (a' := ?_) ?_ ?_
                                rotate_left
                                · show Act.put _ (some 20) _ = _
                                  simp only [Act.put, List.setIfInBounds_toArray, List.set_cons_zero, List.set_cons_succ, i64_w, i32_w]
                                  rfl
                                exact norm_ (by simp only [putAll, Act.put, List.setIfInBounds_toArray, List.set_cons_zero, List.set_cons_succ] <;> rfl) (hJ12_16 (v12, v16) _ ⟨hHeld, blk_below BKb.out hb, Kd.R_lower ho hL, Kd.R_below HO16.out hb⟩)
                            rintro v12 w5 ⟨hHeld, hBb, hO12⟩
                            have BKb3 := Aside0.mk hBb
                            clear BKb hBb
                            have BKb := BKb3
                            clear BKb3
                            have HO12 := Aside0.mk (show Kd.R (Kd.int .u16) 53 _ _ _ v12 (List.replicate a5.toNat 0) from hO12)
                            clear hO12
                            refine norm_ (a' := ?_) ?_ ?_
                            rotate_left
                            · simp only [putAll, Act.put, List.setIfInBounds_toArray, List.set_cons_zero, List.set_cons_succ]
                              rfl
                            refine three_ (i := 4) (j := 8) (k := 16) (Ni := some 12) (Nj := some 16) (Nk := some 24) (bt 20 65279) (bt 20 65519) (bt 20 130799) rfl rfl rfl rfl rfl rfl (three_of HT_.out (by kernel_rfl)) (by decide) (by decide) (by decide) (fun K hK => ?_) (fun K hK => ?_) (fun K hK => ?_)
                            · skip
                              refine Kd.R_make_step Kd.bool _ 4 (by rfl) (N := 12) rfl 28 _ _ rfl a1 rfl rfl Try.underlying28 (.bool false) 1 Fi.info4 rfl (by decide) (by omega) false (ok := fun _ => True) (okp := fun _ => True) rfl (fun _ hk => hk) trivial ha10.out ha11.out (Below.refl _ _) (Nat.le_refl _) ?_
                              intro v4 w6 ho hb hg_ hnew_
                              clear hg_ hnew_
                              have hL := hHeld.2.size
                              refine hK.out _ _ (hHeld.step hb) (fun hHeld => ?_)
                              clear hK K
                              refine norm_ (a' := ?_) ?_ ?_
                              rotate_left
                              · show Act.put _ (some 12) _ = _
                                simp only [Act.put, List.setIfInBounds_toArray, List.set_cons_zero, List.set_cons_succ, i64_w, i32_w]
                                rfl
                              exact norm_ (by simp only [putAll, Act.put, List.setIfInBounds_toArray, List.set_cons_zero, List.set_cons_succ] <;> rfl) (hJ4_12 (v4, v12) _ ⟨hHeld, blk_below BKb.out hb, Kd.R_lower ho hL, Kd.R_below HO12.out hb⟩)
                            · skip
                              refine Kd.R_make_step Kd.bool _ 4 (by rfl) (N := 16) rfl 28 _ _ rfl a3 rfl rfl Try.underlying28 (.bool false) 1 Fi.info4 rfl (by decide) (by omega) false (ok := fun _ => True) (okp := fun _ => True) rfl (fun _ hk => hk) trivial ha30.out ha31.out (Below.refl _ _) (Nat.le_refl _) ?_
                              intro v8 w6 ho hb hg_ hnew_
                              clear hg_ hnew_
                              have hL := hHeld.2.size
                              refine hK.out _ _ (hHeld.step hb) (fun hHeld => ?_)
                              clear hK K
                              refine norm_ (a' := ?_) ?_ ?_
                              rotate_left
                              · show Act.put _ (some 16) _ = _
                                simp only [Act.put, List.setIfInBounds_toArray, List.set_cons_zero, List.set_cons_succ, i64_w, i32_w]
                                rfl
                              exact norm_ (by simp only [putAll, Act.put, List.setIfInBounds_toArray, List.set_cons_zero, List.set_cons_succ] <;> rfl) (hJ8_12 (v8, v12) _ ⟨hHeld, blk_below BKb.out hb, Kd.R_lower ho hL, Kd.R_below HO12.out hb⟩)
                            · skip
                              refine Kd.R_make_step (Kd.int .u16) _ 53 (by rfl) (N := 24) rfl 29 _ _ rfl a7 rfl rfl Try.underlying29 (.int .u16 0) 2 Fi.info16 rfl (by decide) (by omega) 0 (ok := fun _ => True) (okp := fun _ => True) rfl (fun _ hk => hk) trivial ha70.out ha71.out (Below.refl _ _) (Nat.le_refl _) ?_
                              intro v16 w6 ho hb hg_ hnew_
                              clear hg_ hnew_
                              have hL := hHeld.2.size
                              refine hK.out _ _ (hHeld.step hb) (fun hHeld => ?_)
                              clear hK K
                              refine norm_ (a' := ?_) ?_ ?_
                              rotate_left
                              · show Act.put _ (some 24) _ = _
                                simp only [Act.put, List.setIfInBounds_toArray, List.set_cons_zero, List.set_cons_succ, i64_w, i32_w]
                                rfl
                              exact norm_ (by simp only [putAll, Act.put, List.setIfInBounds_toArray, List.set_cons_zero, List.set_cons_succ] <;> rfl) (hJ12_16 (v12, v16) _ ⟨hHeld, blk_below BKb.out hb, Kd.R_below HO12.out hb, Kd.R_lower ho hL⟩)
                          rintro v8 w5 ⟨hHeld, hBb, hO8⟩
                          have BKb3 := Aside0.mk hBb
                          clear BKb hBb
                          have BKb := BKb3
                          clear BKb3
                          have HO8 := Aside0.mk (show Kd.R Kd.bool 4 _ _ _ v8 (List.replicate a3.toNat false) from hO8)
                          clear hO8
                          refine norm_ (a' := ?_) ?_ ?_
                          rotate_left
                          · simp only [putAll, Act.put, List.setIfInBounds_toArray, List.set_cons_zero, List.set_cons_succ]
                            rfl
                          refine three_ (i := 4) (j := 12) (k := 16) (Ni := some 12) (Nj := some 20) (Nk := some 24) (bt 20 61439) (bt 20 65519) (bt 20 126959) rfl rfl rfl rfl rfl rfl (three_of HT_.out (by kernel_rfl)) (by decide) (by decide) (by decide) (fun K hK => ?_) (fun K hK => ?_) (fun K hK => ?_)
                          · skip
                            refine Kd.R_make_step Kd.bool _ 4 (by rfl) (N := 12) rfl 28 _ _ rfl a1 rfl rfl Try.underlying28 (.bool false) 1 Fi.info4 rfl (by decide) (by omega) false (ok := fun _ => True) (okp := fun _ => True) rfl (fun _ hk => hk) trivial ha10.out ha11.out (Below.refl _ _) (Nat.le_refl _) ?_
                            intro v4 w6 ho hb hg_ hnew_
                            clear hg_ hnew_
                            have hL := hHeld.2.size
                            refine hK.out _ _ (hHeld.step hb) (fun hHeld => ?_)
                            clear hK K
                            refine norm_ (a' := ?_) ?_ ?_
                            rotate_left
                            · show Act.put _ (some 12) _ = _
                              simp only [Act.put, List.setIfInBounds_toArray, List.set_cons_zero, List.set_cons_succ, i64_w, i32_w]
                              rfl
                            exact norm_ (by simp only [putAll, Act.put, List.setIfInBounds_toArray, List.set_cons_zero, List.set_cons_succ] <;> rfl) (hJ4_8 (v4, v8) _ ⟨hHeld, blk_below BKb.out hb, Kd.R_lower ho hL, Kd.R_below HO8.out hb⟩)
                          · skip
                            refine Kd.R_make_step (Kd.int .u16) _ 53 (by rfl) (N := 20) rfl 29 _ _ rfl a5 rfl rfl Try.underlying29 (.int .u16 0) 2 Fi.info16 rfl (by decide) (by omega) 0 (ok := fun _ => True) (okp := fun _ => True) rfl (fun _ hk => hk) trivial ha50.out ha51.out (Below.refl _ _) (Nat.le_refl _) ?_
                            intro v12 w6 ho hb hg_ hnew_
                            clear hg_ hnew_
                            have hL := hHeld.2.size
                            refine hK.out _ _ (hHeld.step hb) (fun hHeld => ?_)
                            clear hK K
                            refine norm_ (a' := ?_) ?_ ?_
                            rotate_left
                            · show Act.put _ (some 20) _ = _
                              simp only [Act.put, List.setIfInBounds_toArray, List.set_cons_zero, List.set_cons_succ, i64_w, i32_w]
                              rfl
                            exact norm_ (by simp only [putAll, Act.put, List.setIfInBounds_toArray, List.set_cons_zero, List.set_cons_succ] <;> rfl) (hJ8_12 (v8, v12) _ ⟨hHeld, blk_below BKb.out hb, Kd.R_below HO8.out hb, Kd.R_lower ho hL⟩)
                          · skip
                            refine Kd.R_make_step (Kd.int .u16) _ 53 (by rfl) (N := 24) rfl 29 _ _ rfl a7 rfl rfl Try.underlying29 (.int .u16 0) 2 Fi.info16 rfl (by decide) (by omega) 0 (ok := fun _ => True) (okp := fun _ => True) rfl (fun _ hk => hk) trivial ha70.out ha71.out (Below.refl _ _) (Nat.le_refl _) ?_
                            intro v16 w6 ho hb hg_ hnew_
                            clear hg_ hnew_
                            have hL := hHeld.2.size
                            refine hK.out _ _ (hHeld.step hb) (fun hHeld => ?_)
                            clear hK K
                            refine norm_ (a' := ?_) ?_ ?_
                            rotate_left
                            · show Act.put _ (some 24) _ = _
                              simp only [Act.put, List.setIfInBounds_toArray, List.set_cons_zero, List.set_cons_succ, i64_w, i32_w]
                              rfl
                            exact norm_ (by simp only [putAll, Act.put, List.setIfInBounds_toArray, List.set_cons_zero, List.set_cons_succ] <;> rfl) (hJ8_16 (v8, v16) _ ⟨hHeld, blk_below BKb.out hb, Kd.R_below HO8.out hb, Kd.R_lower ho hL⟩)
                        rintro v4 w5 ⟨hHeld, hBb, hO4⟩
                        have BKb3 := Aside0.mk hBb
                        clear BKb hBb
                        have BKb := BKb3
                        clear BKb3
                        have HO4 := Aside0.mk (show Kd.R Kd.bool 4 _ _ _ v4 (List.replicate a1.toNat false) from hO4)
                        clear hO4
                        refine norm_ (a' := ?_) ?_ ?_
                        rotate_left
                        · simp only [putAll, Act.put, List.setIfInBounds_toArray, List.set_cons_zero, List.set_cons_succ]
                          rfl
                        refine three_ (i := 8) (j := 12) (k := 16) (Ni := some 16) (Nj := some 20) (Nk := some 24) (bt 20 61439) (bt 20 65279) (bt 20 126719) rfl rfl rfl rfl rfl rfl (three_of HT_.out (by kernel_rfl)) (by decide) (by decide) (by decide) (fun K hK => ?_) (fun K hK => ?_) (fun K hK => ?_)
                        · skip
                          refine Kd.R_make_step Kd.bool _ 4 (by rfl) (N := 16) rfl 28 _ _ rfl a3 rfl rfl Try.underlying28 (.bool false) 1 Fi.info4 rfl (by decide) (by omega) false (ok := fun _ => True) (okp := fun _ => True) rfl (fun _ hk => hk) trivial ha30.out ha31.out (Below.refl _ _) (Nat.le_refl _) ?_
                          intro v8 w6 ho hb hg_ hnew_
                          clear hg_ hnew_
                          have hL := hHeld.2.size
                          refine hK.out _ _ (hHeld.step hb) (fun hHeld => ?_)
                          clear hK K
                          refine norm_ (a' := ?_) ?_ ?_
                          rotate_left
                          · show Act.put _ (some 16) _ = _
                            simp only [Act.put, List.setIfInBounds_toArray, List.set_cons_zero, List.set_cons_succ, i64_w, i32_w]
                            rfl
                          exact norm_ (by simp only [putAll, Act.put, List.setIfInBounds_toArray, List.set_cons_zero, List.set_cons_succ] <;> rfl) (hJ4_8 (v4, v8) _ ⟨hHeld, blk_below BKb.out hb, Kd.R_below HO4.out hb, Kd.R_lower ho hL⟩)
                        · skip
                          refine Kd.R_make_step (Kd.int .u16) _ 53 (by rfl) (N := 20) rfl 29 _ _ rfl a5 rfl rfl Try.underlying29 (.int .u16 0) 2 Fi.info16 rfl (by decide) (by omega) 0 (ok := fun _ => True) (okp := fun _ => True) rfl (fun _ hk => hk) trivial ha50.out ha51.out (Below.refl _ _) (Nat.le_refl _) ?_
                          intro v12 w6 ho hb hg_ hnew_
                          clear hg_ hnew_
                          have hL := hHeld.2.size
                          refine hK.out _ _ (hHeld.step hb) (fun hHeld => ?_)
                          clear hK K
                          refine norm_ (a' := ?_) ?_ ?_
                          rotate_left
                          · show Act.put _ (some 20) _ = _
                            simp only [Act.put, List.setIfInBounds_toArray, List.set_cons_zero, List.set_cons_succ, i64_w, i32_w]
                            rfl
                          exact norm_ (by simp only [putAll, Act.put, List.setIfInBounds_toArray, List.set_cons_zero, List.set_cons_succ] <;> rfl) (hJ4_12 (v4, v12) _ ⟨hHeld, blk_below BKb.out hb, Kd.R_below HO4.out hb, Kd.R_lower ho hL⟩)
                        · skip
                          refine Kd.R_make_step (Kd.int .u16) _ 53 (by rfl) (N := 24) rfl 29 _ _ rfl a7 rfl rfl Try.underlying29 (.int .u16 0) 2 Fi.info16 rfl (by decide) (by omega) 0 (ok := fun _ => True) (okp := fun _ => True) rfl (fun _ hk => hk) trivial ha70.out ha71.out (Below.refl _ _) (Nat.le_refl _) ?_
                          intro v16 w6 ho hb hg_ hnew_
                          clear hg_ hnew_
                          have hL := hHeld.2.size
                          refine hK.out _ _ (hHeld.step hb) (fun hHeld => ?_)
                          clear hK K
                          refine norm_ (a' := ?_) ?_ ?_
                          rotate_left
                          · show Act.put _ (some 24) _ = _
                            simp only [Act.put, List.setIfInBounds_toArray, List.set_cons_zero, List.set_cons_succ, i64_w, i32_w]
                            rfl
                          exact norm_ (by simp only [putAll, Act.put, List.setIfInBounds_toArray, List.set_cons_zero, List.set_cons_succ] <;> rfl) (hJ4_16 (v4, v16) _ ⟨hHeld, blk_below BKb.out hb, Kd.R_below HO4.out hb, Kd.R_lower ho hL⟩)
                      rintro ⟨v12, v16⟩ w5 ⟨hHeld, hBb, hO12, hO16⟩
                      have BKb3 := Aside0.mk hBb
                      clear BKb hBb
                      have BKb := BKb3
                      clear BKb3
                      have HO12 := Aside0.mk (show Kd.R (Kd.int .u16) 53 _ _ _ v12 (List.replicate a5.toNat 0) from hO12)
                      have HO16 := Aside0.mk (show Kd.R (Kd.int .u16) 53 _ _ _ v16 (List.replicate a7.toNat 0) from hO16)
                      clear hO12 hO16
                      refine norm_ (a' := ?_) ?_ ?_
                      rotate_left
                      · simp only [putAll, Act.put, List.setIfInBounds_toArray, List.set_cons_zero, List.set_cons_succ]
                        rfl
                      refine two_ (i := 4) (j := 8) (Ni := some 12) (Nj := some 16) (bt 20 130815) (bt 20 131055) rfl rfl rfl rfl (two_of HT_.out (by kernel_rfl)) (by decide) (by decide) (fun K hK => ?_) (fun K hK => ?_)
                      · skip
                        refine Kd.R_make_step Kd.bool _ 4 (by rfl) (N := 12) rfl 28 _ _ rfl a1 rfl rfl Try.underlying28 (.bool false) 1 Fi.info4 rfl (by decide) (by omega) false (ok := fun _ => True) (okp := fun _ => True) rfl (fun _ hk => hk) trivial ha10.out ha11.out (Below.refl _ _) (Nat.le_refl _) ?_
                        intro v4 w6 ho hb hg_ hnew_
                        clear hg_ hnew_
                        have hL := hHeld.2.size
                        refine hK.out _ _ (hHeld.step hb) (fun hHeld => ?_)
                        clear hK K
                        refine norm_ (a' := ?_) ?_ ?_
                        rotate_left
                        · show Act.put _ (some 12) _ = _
                          simp only [Act.put, List.setIfInBounds_toArray, List.set_cons_zero, List.set_cons_succ, i64_w, i32_w]
                          rfl
                        exact norm_ (by simp only [putAll, Act.put, List.setIfInBounds_toArray, List.set_cons_zero, List.set_cons_succ] <;> rfl) (hJ4_12_16 (v4, v12, v16) _ ⟨hHeld, blk_below BKb.out hb, Kd.R_lower ho hL, Kd.R_below HO12.out hb, Kd.R_below HO16.out hb⟩)
                      · skip
                        refine Kd.R_make_step Kd.bool _ 4 (by rfl) (N := 16) rfl 28 _ _ rfl a3 rfl rfl Try.underlying28 (.bool false) 1 Fi.info4 rfl (by decide) (by omega) false (ok := fun _ => True) (okp := fun _ => True) rfl (fun _ hk => hk) trivial ha30.out ha31.out (Below.refl _ _) (Nat.le_refl _) ?_
                        intro v8 w6 ho hb hg_ hnew_
                        clear hg_ hnew_
                        have hL := hHeld.2.size
                        refine hK.out _ _ (hHeld.step hb) (fun hHeld => ?_)
                        clear hK K
                        refine norm_ (a' := ?_) ?_ ?_
                        rotate_left
                        · show Act.put _ (some 16) _ = _
                          simp only [Act.put, List.setIfInBounds_toArray, List.set_cons_zero, List.set_cons_succ, i64_w, i32_w]
                          rfl
                        exact norm_ (by simp only [putAll, Act.put, List.setIfInBounds_toArray, List.set_cons_zero, List.set_cons_succ] <;> rfl) (hJ8_12_16 (v8, v12, v16) _ ⟨hHeld, blk_below BKb.out hb, Kd.R_lower ho hL, Kd.R_below HO12.out hb, Kd.R_below HO16.out hb⟩)
                    rintro ⟨v8, v16⟩ w5 ⟨hHeld, hBb, hO8, hO16⟩
                    have BKb3 := Aside0.mk hBb
                    clear BKb hBb
                    have BKb := BKb3
                    clear BKb3
                    have HO8 := Aside0.mk (show Kd.R Kd.bool 4 _ _ _ v8 (List.replicate a3.toNat false) from hO8)
                    have HO16 := Aside0.mk (show Kd.R (Kd.int .u16) 53 _ _ _ v16 (List.replicate a7.toNat 0) from hO16)
                    clear hO8 hO16
                    refine norm_ (a' := ?_) ?_ ?_
                    rotate_left
                    · simp only [putAll, Act.put, List.setIfInBounds_toArray, List.set_cons_zero, List.set_cons_succ]
                      rfl
                    refine two_ (i := 4) (j := 12) (Ni := some 12) (Nj := some 20) (bt 20 126975) (bt 20 131055) rfl rfl rfl rfl (two_of HT_.out (by kernel_rfl)) (by decide) (by decide) (fun K hK => ?_) (fun K hK => ?_)
                    · skip
                      refine Kd.R_make_step Kd.bool _ 4 (by rfl) (N := 12) rfl 28 _ _ rfl a1 rfl rfl Try.underlying28 (.bool false) 1 Fi.info4 rfl (by decide) (by omega) false (ok := fun _ => True) (okp := fun _ => True) rfl (fun _ hk => hk) trivial ha10.out ha11.out (Below.refl _ _) (Nat.le_refl _) ?_
                      intro v4 w6 ho hb hg_ hnew_
                      clear hg_ hnew_
                      have hL := hHeld.2.size
                      refine hK.out _ _ (hHeld.step hb) (fun hHeld => ?_)
                      clear hK K
                      refine norm_ (a' := ?_) ?_ ?_
                      rotate_left
                      · show Act.put _ (some 12) _ = _
                        simp only [Act.put, List.setIfInBounds_toArray, List.set_cons_zero, List.set_cons_succ, i64_w, i32_w]
                        rfl
                      exact norm_ (by simp only [putAll, Act.put, List.setIfInBounds_toArray, List.set_cons_zero, List.set_cons_succ] <;> rfl) (hJ4_8_16 (v4, v8, v16) _ ⟨hHeld, blk_below BKb.out hb, Kd.R_lower ho hL, Kd.R_below HO8.out hb, Kd.R_below HO16.out hb⟩)
                    · skip
                      refine Kd.R_make_step (Kd.int .u16) _ 53 (by rfl) (N := 20) rfl 29 _ _ rfl a5 rfl rfl Try.underlying29 (.int .u16 0) 2 Fi.info16 rfl (by decide) (by omega) 0 (ok := fun _ => True) (okp := fun _ => True) rfl (fun _ hk => hk) trivial ha50.out ha51.out (Below.refl _ _) (Nat.le_refl _) ?_
                      intro v12 w6 ho hb hg_ hnew_
                      clear hg_ hnew_
                      have hL := hHeld.2.size
                      refine hK.out _ _ (hHeld.step hb) (fun hHeld => ?_)
                      clear hK K
                      refine norm_ (a' := ?_) ?_ ?_
                      rotate_left
                      · show Act.put _ (some 20) _ = _
                        simp only [Act.put, List.setIfInBounds_toArray, List.set_cons_zero, List.set_cons_succ, i64_w, i32_w]
                        rfl
                      exact norm_ (by simp only [putAll, Act.put, List.setIfInBounds_toArray, List.set_cons_zero, List.set_cons_succ] <;> rfl) (hJ8_12_16 (v8, v12, v16) _ ⟨hHeld, blk_below BKb.out hb, Kd.R_below HO8.out hb, Kd.R_lower ho hL, Kd.R_below HO16.out hb⟩)
                  rintro ⟨v8, v12⟩ w5 ⟨hHeld, hBb, hO8, hO12⟩
                  have BKb3 := Aside0.mk hBb
                  clear BKb hBb
                  have BKb := BKb3
                  clear BKb3
                  have HO8 := Aside0.mk (show Kd.R Kd.bool 4 _ _ _ v8 (List.replicate a3.toNat false) from hO8)
                  have HO12 := Aside0.mk (show Kd.R (Kd.int .u16) 53 _ _ _ v12 (List.replicate a5.toNat 0) from hO12)
                  clear hO8 hO12
                  refine norm_ (a' := ?_) ?_ ?_
                  rotate_left
                  · simp only [putAll, Act.put, List.setIfInBounds_toArray, List.set_cons_zero, List.set_cons_succ]
                    rfl
                  refine two_ (i := 4) (j := 16) (Ni := some 12) (Nj := some 24) (bt 20 65535) (bt 20 131055) rfl rfl rfl rfl (two_of HT_.out (by kernel_rfl)) (by decide) (by decide) (fun K hK => ?_) (fun K hK => ?_)
                  · skip
                    refine Kd.R_make_step Kd.bool _ 4 (by rfl) (N := 12) rfl 28 _ _ rfl a1 rfl rfl Try.underlying28 (.bool false) 1 Fi.info4 rfl (by decide) (by omega) false (ok := fun _ => True) (okp := fun _ => True) rfl (fun _ hk => hk) trivial ha10.out ha11.out (Below.refl _ _) (Nat.le_refl _) ?_
                    intro v4 w6 ho hb hg_ hnew_
                    clear hg_ hnew_
                    have hL := hHeld.2.size
                    refine hK.out _ _ (hHeld.step hb) (fun hHeld => ?_)
                    clear hK K
                    refine norm_ (a' := ?_) ?_ ?_
                    rotate_left
                    · show Act.put _ (some 12) _ = _
                      simp only [Act.put, List.setIfInBounds_toArray, List.set_cons_zero, List.set_cons_succ, i64_w, i32_w]
                      rfl
                    exact norm_ (by simp only [putAll, Act.put, List.setIfInBounds_toArray, List.set_cons_zero, List.set_cons_succ] <;> rfl) (hJ4_8_12 (v4, v8, v12) _ ⟨hHeld, blk_below BKb.out hb, Kd.R_lower ho hL, Kd.R_below HO8.out hb, Kd.R_below HO12.out hb⟩)
                  · skip
                    refine Kd.R_make_step (Kd.int .u16) _ 53 (by rfl) (N := 24) rfl 29 _ _ rfl a7 rfl rfl Try.underlying29 (.int .u16 0) 2 Fi.info16 rfl (by decide) (by omega) 0 (ok := fun _ => True) (okp := fun _ => True) rfl (fun _ hk => hk) trivial ha70.out ha71.out (Below.refl _ _) (Nat.le_refl _) ?_
                    intro v16 w6 ho hb hg_ hnew_
                    clear hg_ hnew_
                    have hL := hHeld.2.size
                    refine hK.out _ _ (hHeld.step hb) (fun hHeld => ?_)
                    clear hK K
                    refine norm_ (a' := ?_) ?_ ?_
                    rotate_left
                    · show Act.put _ (some 24) _ = _
                      simp only [Act.put, List.setIfInBounds_toArray, List.set_cons_zero, List.set_cons_succ, i64_w, i32_w]
                      rfl
                    exact norm_ (by simp only [putAll, Act.put, List.setIfInBounds_toArray, List.set_cons_zero, List.set_cons_succ] <;> rfl) (hJ8_12_16 (v8, v12, v16) _ ⟨hHeld, blk_below BKb.out hb, Kd.R_below HO8.out hb, Kd.R_below HO12.out hb, Kd.R_lower ho hL⟩)
                rintro ⟨v4, v16⟩ w5 ⟨hHeld, hBb, hO4, hO16⟩
                have BKb3 := Aside0.mk hBb
                clear BKb hBb
                have BKb := BKb3
                clear BKb3
                have HO4 := Aside0.mk (show Kd.R Kd.bool 4 _ _ _ v4 (List.replicate a1.toNat false) from hO4)
                have HO16 := Aside0.mk (show Kd.R (Kd.int .u16) 53 _ _ _ v16 (List.replicate a7.toNat 0) from hO16)
                clear hO4 hO16
                refine norm_ (a' := ?_) ?_ ?_
                rotate_left
                · simp only [putAll, Act.put, List.setIfInBounds_toArray, List.set_cons_zero, List.set_cons_succ]
                  rfl
                refine two_ (i := 8) (j := 12) (Ni := some 16) (Nj := some 20) (bt 20 126975) (bt 20 130815) rfl rfl rfl rfl (two_of HT_.out (by kernel_rfl)) (by decide) (by decide) (fun K hK => ?_) (fun K hK => ?_)
                · skip
                  refine Kd.R_make_step Kd.bool _ 4 (by rfl) (N := 16) rfl 28 _ _ rfl a3 rfl rfl Try.underlying28 (.bool false) 1 Fi.info4 rfl (by decide) (by omega) false (ok := fun _ => True) (okp := fun _ => True) rfl (fun _ hk => hk) trivial ha30.out ha31.out (Below.refl _ _) (Nat.le_refl _) ?_
                  intro v8 w6 ho hb hg_ hnew_
                  clear hg_ hnew_
                  have hL := hHeld.2.size
                  refine hK.out _ _ (hHeld.step hb) (fun hHeld => ?_)
                  clear hK K
                  refine norm_ (a' := ?_) ?_ ?_
                  rotate_left
                  · show Act.put _ (some 16) _ = _
                    simp only [Act.put, List.setIfInBounds_toArray, List.set_cons_zero, List.set_cons_succ, i64_w, i32_w]
                    rfl
                  exact norm_ (by simp only [putAll, Act.put, List.setIfInBounds_toArray, List.set_cons_zero, List.set_cons_succ] <;> rfl) (hJ4_8_16 (v4, v8, v16) _ ⟨hHeld, blk_below BKb.out hb, Kd.R_below HO4.out hb, Kd.R_lower ho hL, Kd.R_below HO16.out hb⟩)
                · skip
                  refine Kd.R_make_step (Kd.int .u16) _ 53 (by rfl) (N := 20) rfl 29 _ _ rfl a5 rfl rfl Try.underlying29 (.int .u16 0) 2 Fi.info16 rfl (by decide) (by omega) 0 (ok := fun _ => True) (okp := fun _ => True) rfl (fun _ hk => hk) trivial ha50.out ha51.out (Below.refl _ _) (Nat.le_refl _) ?_
                  intro v12 w6 ho hb hg_ hnew_
                  clear hg_ hnew_
                  have hL := hHeld.2.size
                  refine hK.out _ _ (hHeld.step hb) (fun hHeld => ?_)
                  clear hK K
                  refine norm_ (a' := ?_) ?_ ?_
                  rotate_left
                  · show Act.put _ (some 20) _ = _
                    simp only [Act.put, List.setIfInBounds_toArray, List.set_cons_zero, List.set_cons_succ, i64_w, i32_w]
                    rfl
                  exact norm_ (by simp only [putAll, Act.put, List.setIfInBounds_toArray, List.set_cons_zero, List.set_cons_succ] <;> rfl) (hJ4_12_16 (v4, v12, v16) _ ⟨hHeld, blk_below BKb.out hb, Kd.R_below HO4.out hb, Kd.R_lower ho hL, Kd.R_below HO16.out hb⟩)
              rintro ⟨v4, v12⟩ w5 ⟨hHeld, hBb, hO4, hO12⟩
              have BKb3 := Aside0.mk hBb
              clear BKb hBb
              have BKb := BKb3
              clear BKb3
              have HO4 := Aside0.mk (show Kd.R Kd.bool 4 _ _ _ v4 (List.replicate a1.toNat false) from hO4)
              have HO12 := Aside0.mk (show Kd.R (Kd.int .u16) 53 _ _ _ v12 (List.replicate a5.toNat 0) from hO12)
              clear hO4 hO12
              refine norm_ (a' := ?_) ?_ ?_
              rotate_left
              · simp only [putAll, Act.put, List.setIfInBounds_toArray, List.set_cons_zero, List.set_cons_succ]
                rfl
              refine two_ (i := 8) (j := 16) (Ni := some 16) (Nj := some 24) (bt 20 65535) (bt 20 130815) rfl rfl rfl rfl (two_of HT_.out (by kernel_rfl)) (by decide) (by decide) (fun K hK => ?_) (fun K hK => ?_)
              · skip
                refine Kd.R_make_step Kd.bool _ 4 (by rfl) (N := 16) rfl 28 _ _ rfl a3 rfl rfl Try.underlying28 (.bool false) 1 Fi.info4 rfl (by decide) (by omega) false (ok := fun _ => True) (okp := fun _ => True) rfl (fun _ hk => hk) trivial ha30.out ha31.out (Below.refl _ _) (Nat.le_refl _) ?_
                intro v8 w6 ho hb hg_ hnew_
                clear hg_ hnew_
                have hL := hHeld.2.size
                refine hK.out _ _ (hHeld.step hb) (fun hHeld => ?_)
                clear hK K
                refine norm_ (a' := ?_) ?_ ?_
                rotate_left
                · show Act.put _ (some 16) _ = _
                  simp only [Act.put, List.setIfInBounds_toArray, List.set_cons_zero, List.set_cons_succ, i64_w, i32_w]
                  rfl
                exact norm_ (by simp only [putAll, Act.put, List.setIfInBounds_toArray, List.set_cons_zero, List.set_cons_succ] <;> rfl) (hJ4_8_12 (v4, v8, v12) _ ⟨hHeld, blk_below BKb.out hb, Kd.R_below HO4.out hb, Kd.R_lower ho hL, Kd.R_below HO12.out hb⟩)
              · skip
                refine Kd.R_make_step (Kd.int .u16) _ 53 (by rfl) (N := 24) rfl 29 _ _ rfl a7 rfl rfl Try.underlying29 (.int .u16 0) 2 Fi.info16 rfl (by decide) (by omega) 0 (ok := fun _ => True) (okp := fun _ => True) rfl (fun _ hk => hk) trivial ha70.out ha71.out (Below.refl _ _) (Nat.le_refl _) ?_
                intro v16 w6 ho hb hg_ hnew_
                clear hg_ hnew_
                have hL := hHeld.2.size
                refine hK.out _ _ (hHeld.step hb) (fun hHeld => ?_)
                clear hK K
                refine norm_ (a' := ?_) ?_ ?_
                rotate_left
                · show Act.put _ (some 24) _ = _
                  simp only [Act.put, List.setIfInBounds_toArray, List.set_cons_zero, List.set_cons_succ, i64_w, i32_w]
                  rfl
                exact norm_ (by simp only [putAll, Act.put, List.setIfInBounds_toArray, List.set_cons_zero, List.set_cons_succ] <;> rfl) (hJ4_12_16 (v4, v12, v16) _ ⟨hHeld, blk_below BKb.out hb, Kd.R_below HO4.out hb, Kd.R_below HO12.out hb, Kd.R_lower ho hL⟩)
            rintro ⟨v4, v8⟩ w5 ⟨hHeld, hBb, hO4, hO8⟩
            have BKb3 := Aside0.mk hBb
            clear BKb hBb
            have BKb := BKb3
            clear BKb3
            have HO4 := Aside0.mk (show Kd.R Kd.bool 4 _ _ _ v4 (List.replicate a1.toNat false) from hO4)
            have HO8 := Aside0.mk (show Kd.R Kd.bool 4 _ _ _ v8 (List.replicate a3.toNat false) from hO8)
            clear hO4 hO8
            refine norm_ (a' := ?_) ?_ ?_
            rotate_left
            · simp only [putAll, Act.put, List.setIfInBounds_toArray, List.set_cons_zero, List.set_cons_succ]
              rfl
            refine two_ (i := 12) (j := 16) (Ni := some 20) (Nj := some 24) (bt 20 65535) (bt 20 126975) rfl rfl rfl rfl (two_of HT_.out (by kernel_rfl)) (by decide) (by decide) (fun K hK => ?_) (fun K hK => ?_)
            · skip
              refine Kd.R_make_step (Kd.int .u16) _ 53 (by rfl) (N := 20) rfl 29 _ _ rfl a5 rfl rfl Try.underlying29 (.int .u16 0) 2 Fi.info16 rfl (by decide) (by omega) 0 (ok := fun _ => True) (okp := fun _ => True) rfl (fun _ hk => hk) trivial ha50.out ha51.out (Below.refl _ _) (Nat.le_refl _) ?_
              intro v12 w6 ho hb hg_ hnew_
              clear hg_ hnew_
              have hL := hHeld.2.size
              refine hK.out _ _ (hHeld.step hb) (fun hHeld => ?_)
              clear hK K
              refine norm_ (a' := ?_) ?_ ?_
              rotate_left
              · show Act.put _ (some 20) _ = _
                simp only [Act.put, List.setIfInBounds_toArray, List.set_cons_zero, List.set_cons_succ, i64_w, i32_w]
                rfl
              exact norm_ (by simp only [putAll, Act.put, List.setIfInBounds_toArray, List.set_cons_zero, List.set_cons_succ] <;> rfl) (hJ4_8_12 (v4, v8, v12) _ ⟨hHeld, blk_below BKb.out hb, Kd.R_below HO4.out hb, Kd.R_below HO8.out hb, Kd.R_lower ho hL⟩)
            · skip
              refine Kd.R_make_step (Kd.int .u16) _ 53 (by rfl) (N := 24) rfl 29 _ _ rfl a7 rfl rfl Try.underlying29 (.int .u16 0) 2 Fi.info16 rfl (by decide) (by omega) 0 (ok := fun _ => True) (okp := fun _ => True) rfl (fun _ hk => hk) trivial ha70.out ha71.out (Below.refl _ _) (Nat.le_refl _) ?_
              intro v16 w6 ho hb hg_ hnew_
              clear hg_ hnew_
              have hL := hHeld.2.size
              refine hK.out _ _ (hHeld.step hb) (fun hHeld => ?_)
              clear hK K
              refine norm_ (a' := ?_) ?_ ?_
              rotate_left
              · show Act.put _ (some 24) _ = _
                simp only [Act.put, List.setIfInBounds_toArray, List.set_cons_zero, List.set_cons_succ, i64_w, i32_w]
                rfl
              exact norm_ (by simp only [putAll, Act.put, List.setIfInBounds_toArray, List.set_cons_zero, List.set_cons_succ] <;> rfl) (hJ4_8_16 (v4, v8, v16) _ ⟨hHeld, blk_below BKb.out hb, Kd.R_below HO4.out hb, Kd.R_below HO8.out hb, Kd.R_lower ho hL⟩)
          rintro ⟨v8, v12, v16⟩ w5 ⟨hHeld, hBb, hO8, hO12, hO16⟩
          have BKb3 := Aside0.mk hBb
          clear BKb hBb
          have BKb := BKb3
          clear BKb3
          have HO8 := Aside0.mk (show Kd.R Kd.bool 4 _ _ _ v8 (List.replicate a3.toNat false) from hO8)
          have HO12 := Aside0.mk (show Kd.R (Kd.int .u16) 53 _ _ _ v12 (List.replicate a5.toNat 0) from hO12)
          have HO16 := Aside0.mk (show Kd.R (Kd.int .u16) 53 _ _ _ v16 (List.replicate a7.toNat 0) from hO16)
          clear hO8 hO12 hO16
          refine norm_ (a' := ?_) ?_ ?_
          rotate_left
          · simp only [putAll, Act.put, List.setIfInBounds_toArray, List.set_cons_zero, List.set_cons_succ]
            rfl
          refine one_ (i := 4) (N := some 12) (bt 20 131071) rfl rfl (one_of HT_.out (by kernel_rfl)) (by decide) (fun K hK => ?_)
          refine Kd.R_make_step Kd.bool _ 4 (by rfl) (N := 12) rfl 28 _ _ rfl a1 rfl rfl Try.underlying28 (.bool false) 1 Fi.info4 rfl (by decide) (by omega) false (ok := fun _ => True) (okp := fun _ => True) rfl (fun _ hk => hk) trivial ha10.out ha11.out (Below.refl _ _) (Nat.le_refl _) ?_
          intro v4 w6 ho hb hg_ hnew_
          clear hg_ hnew_
          have hL := hHeld.2.size
          refine hK.out _ _ (hHeld.step hb) (fun hHeld => ?_)
          clear hK K
          refine norm_ (a' := ?_) ?_ ?_
          rotate_left
          · show Act.put _ (some 12) _ = _
            simp only [Act.put, List.setIfInBounds_toArray, List.set_cons_zero, List.set_cons_succ, i64_w, i32_w]
            rfl
          exact norm_ (by simp only [putAll, Act.put, List.setIfInBounds_toArray, List.set_cons_zero, List.set_cons_succ] <;> rfl) (hJ4_8_12_16 (v4, v8, v12, v16) _ ⟨hHeld, blk_below BKb.out hb, Kd.R_lower ho hL, Kd.R_below HO8.out hb, Kd.R_below HO12.out hb, Kd.R_below HO16.out hb⟩)
        rintro ⟨v4, v12, v16⟩ w5 ⟨hHeld, hBb, hO4, hO12, hO16⟩
        have BKb3 := Aside0.mk hBb
        clear BKb hBb
        have BKb := BKb3
        clear BKb3
        have HO4 := Aside0.mk (show Kd.R Kd.bool 4 _ _ _ v4 (List.replicate a1.toNat false) from hO4)
        have HO12 := Aside0.mk (show Kd.R (Kd.int .u16) 53 _ _ _ v12 (List.replicate a5.toNat 0) from hO12)
        have HO16 := Aside0.mk (show Kd.R (Kd.int .u16) 53 _ _ _ v16 (List.replicate a7.toNat 0) from hO16)
        clear hO4 hO12 hO16
        refine norm_ (a' := ?_) ?_ ?_
        rotate_left
        · simp only [putAll, Act.put, List.setIfInBounds_toArray, List.set_cons_zero, List.set_cons_succ]
          rfl
        refine one_ (i := 8) (N := some 16) (bt 20 131071) rfl rfl (one_of HT_.out (by kernel_rfl)) (by decide) (fun K hK => ?_)
        refine Kd.R_make_step Kd.bool _ 4 (by rfl) (N := 16) rfl 28 _ _ rfl a3 rfl rfl Try.underlying28 (.bool false) 1 Fi.info4 rfl (by decide) (by omega) false (ok := fun _ => True) (okp := fun _ => True) rfl (fun _ hk => hk) trivial ha30.out ha31.out (Below.refl _ _) (Nat.le_refl _) ?_
        intro v8 w6 ho hb hg_ hnew_
        clear hg_ hnew_
        have hL := hHeld.2.size
        refine hK.out _ _ (hHeld.step hb) (fun hHeld => ?_)
        clear hK K
        refine norm_ (a' := ?_) ?_ ?_
        rotate_left
        · show Act.put _ (some 16) _ = _
          simp only [Act.put, List.setIfInBounds_toArray, List.set_cons_zero, List.set_cons_succ, i64_w, i32_w]
          rfl
        exact norm_ (by simp only [putAll, Act.put, List.setIfInBounds_toArray, List.set_cons_zero, List.set_cons_succ] <;> rfl) (hJ4_8_12_16 (v4, v8, v12, v16) _ ⟨hHeld, blk_below BKb.out hb, Kd.R_below HO4.out hb, Kd.R_lower ho hL, Kd.R_below HO12.out hb, Kd.R_below HO16.out hb⟩)
      rintro ⟨v4, v8, v16⟩ w5 ⟨hHeld, hBb, hO4, hO8, hO16⟩
      have BKb3 := Aside0.mk hBb
      clear BKb hBb
      have BKb := BKb3
      clear BKb3
      have HO4 := Aside0.mk (show Kd.R Kd.bool 4 _ _ _ v4 (List.replicate a1.toNat false) from hO4)
      have HO8 := Aside0.mk (show Kd.R Kd.bool 4 _ _ _ v8 (List.replicate a3.toNat false) from hO8)
      have HO16 := Aside0.mk (show Kd.R (Kd.int .u16) 53 _ _ _ v16 (List.replicate a7.toNat 0) from hO16)
      clear hO4 hO8 hO16
      refine norm_ (a' := ?_) ?_ ?_
      rotate_left
      · simp only [putAll, Act.put, List.setIfInBounds_toArray, List.set_cons_zero, List.set_cons_succ]
        rfl
      refine one_ (i := 12) (N := some 20) (bt 20 131071) rfl rfl (one_of HT_.out (by kernel_rfl)) (by decide) (fun K hK => ?_)
      refine Kd.R_make_step (Kd.int .u16) _ 53 (by rfl) (N := 20) rfl 29 _ _ rfl a5 rfl rfl Try.underlying29 (.int .u16 0) 2 Fi.info16 rfl (by decide) (by omega) 0 (ok := fun _ => True) (okp := fun _ => True) rfl (fun _ hk => hk) trivial ha50.out ha51.out (Below.refl _ _) (Nat.le_refl _) ?_
      intro v12 w6 ho hb hg_ hnew_
      clear hg_ hnew_
      have hL := hHeld.2.size
      refine hK.out _ _ (hHeld.step hb) (fun hHeld => ?_)
      clear hK K
      refine norm_ (a' := ?_) ?_ ?_
      rotate_left
      · show Act.put _ (some 20) _ = _
        simp only [Act.put, List.setIfInBounds_toArray, List.set_cons_zero, List.set_cons_succ, i64_w, i32_w]
        rfl
      exact norm_ (by simp only [putAll, Act.put, List.setIfInBounds_toArray, List.set_cons_zero, List.set_cons_succ] <;> rfl) (hJ4_8_12_16 (v4, v8, v12, v16) _ ⟨hHeld, blk_below BKb.out hb, Kd.R_below HO4.out hb, Kd.R_below HO8.out hb, Kd.R_lower ho hL, Kd.R_below HO16.out hb⟩)
    rintro ⟨v4, v8, v12⟩ w5 ⟨hHeld, hBb, hO4, hO8, hO12⟩
    have BKb3 := Aside0.mk hBb
    clear BKb hBb
    have BKb := BKb3
    clear BKb3
    have HO4 := Aside0.mk (show Kd.R Kd.bool 4 _ _ _ v4 (List.replicate a1.toNat false) from hO4)
    have HO8 := Aside0.mk (show Kd.R Kd.bool 4 _ _ _ v8 (List.replicate a3.toNat false) from hO8)
    have HO12 := Aside0.mk (show Kd.R (Kd.int .u16) 53 _ _ _ v12 (List.replicate a5.toNat 0) from hO12)
    clear hO4 hO8 hO12
    refine norm_ (a' := ?_) ?_ ?_
    rotate_left
    · simp only [putAll, Act.put, List.setIfInBounds_toArray, List.set_cons_zero, List.set_cons_succ]
      rfl
    refine one_ (i := 16) (N := some 24) (bt 20 131071) rfl rfl (one_of HT_.out (by kernel_rfl)) (by decide) (fun K hK => ?_)
    refine Kd.R_make_step (Kd.int .u16) _ 53 (by rfl) (N := 24) rfl 29 _ _ rfl a7 rfl rfl Try.underlying29 (.int .u16 0) 2 Fi.info16 rfl (by decide) (by omega) 0 (ok := fun _ => True) (okp := fun _ => True) rfl (fun _ hk => hk) trivial ha70.out ha71.out (Below.refl _ _) (Nat.le_refl _) ?_
    intro v16 w6 ho hb hg_ hnew_
    clear hg_ hnew_
    have hL := hHeld.2.size
    refine hK.out _ _ (hHeld.step hb) (fun hHeld => ?_)
    clear hK K
    refine norm_ (a' := ?_) ?_ ?_
    rotate_left
    · show Act.put _ (some 24) _ = _
      simp only [Act.put, List.setIfInBounds_toArray, List.set_cons_zero, List.set_cons_succ, i64_w, i32_w]
      rfl
    exact norm_ (by simp only [putAll, Act.put, List.setIfInBounds_toArray, List.set_cons_zero, List.set_cons_succ] <;> rfl) (hJ4_8_12_16 (v4, v8, v12, v16) _ ⟨hHeld, blk_below BKb.out hb, Kd.R_below HO4.out hb, Kd.R_below HO8.out hb, Kd.R_below HO12.out hb, Kd.R_lower ho hL⟩)
  rintro ⟨v4, v8, v12, v16⟩ w5 ⟨hHeld, hBb, hO4, hO8, hO12, hO16⟩
  have BKb3 := Aside0.mk hBb
  clear BKb hBb
  have BKb := BKb3
  clear BKb3
  have HO4 := Aside0.mk (show Kd.R Kd.bool 4 _ _ _ v4 (List.replicate a1.toNat false) from hO4)
  have HO8 := Aside0.mk (show Kd.R Kd.bool 4 _ _ _ v8 (List.replicate a3.toNat false) from hO8)
  have HO12 := Aside0.mk (show Kd.R (Kd.int .u16) 53 _ _ _ v12 (List.replicate a5.toNat 0) from hO12)
  have HO16 := Aside0.mk (show Kd.R (Kd.int .u16) 53 _ _ _ v16 (List.replicate a7.toNat 0) from hO16)
  clear hO4 hO8 hO12 hO16
  obtain ⟨A10, c10, e10⟩ := Kd.R_slice HO4.out
  subst e10
  obtain ⟨A11, c11, e11⟩ := Kd.R_slice HO8.out
  subst e11
  obtain ⟨A12, c12, e12⟩ := Kd.R_slice HO12.out
  subst e12
  obtain ⟨A13, c13, e13⟩ := Kd.R_slice HO16.out
  subst e13
  simp only [List.length_replicate] at HO4 HO8 HO12 HO16 ⊢
  refine norm_ (a' := ?_) ?_ ?_
  rotate_left
  · simp only [putAll, Act.put, List.setIfInBounds_toArray, List.set_cons_zero, List.set_cons_succ]
    rfl
  refine pure_ (i := 17) (N := some 25) (v := ?_) (a' := ?_) (bt 20 262143) rfl rfl (any_of HT_.out (by kernel_rfl)) (fun _ _ _ h => h) (Or.inl ⟨by rfl, ?_⟩) ?_ ?_
  rotate_left
  · intro w'
    go_simp
    first | with_reducible rfl | (simp [Instr.field, go_sem]; rfl)
  rotate_left
  · simp only [Act.put, List.setIfInBounds_toArray, List.set_cons_zero, List.set_cons_succ, i64_w, i32_w]
    rfl
  refine one_ (i := 18) (N := none) (bt 20 524287) rfl rfl (one_of HT_.out (by kernel_rfl)) (by decide) (fun K hK => ?_)
  refine Fi.store_ev (by rfl) rfl 31 _ _ rfl b #[.int .i64 a0, .int .i64 a1, .int .i64 a2, .int .i64 a3, .int .i64 a4, .int .i64 a5, .int .i64 a6, .int .i64 a7, .int .i64 a8, .int .i64 a9, .slice A10 a1.toNat c10, .slice A11 a3.toNat c11, .slice A12 a5.toNat c12, .slice A13 a7.toNat c13] rfl rfl 31 _ BKb.out (by kernel_rfl) rfl (by first | kernel_rfl | simp [Value.oneCell']) ?_
  intro w7 hgb hgr
  have HO42 := Aside0.mk (Kd.R_mono (ok' := fun _ => True) (Kd.R_grown (Kd.R_types HO4.out BKb.out (by decide)) hgr (fun k hk he => hk.2 (Option.some.inj he))) (fun _ _ => trivial))
  have HO82 := Aside0.mk (Kd.R_mono (ok' := fun _ => True) (Kd.R_grown (Kd.R_types HO8.out BKb.out (by decide)) hgr (fun k hk he => hk.2 (Option.some.inj he))) (fun _ _ => trivial))
  have HO122 := Aside0.mk (Kd.R_mono (ok' := fun _ => True) (Kd.R_grown (Kd.R_types HO12.out BKb.out (by decide)) hgr (fun k hk he => hk.2 (Option.some.inj he))) (fun _ _ => trivial))
  have HO162 := Aside0.mk (Kd.R_mono (ok' := fun _ => True) (Kd.R_grown (Kd.R_types HO16.out BKb.out (by decide)) hgr (fun k hk he => hk.2 (Option.some.inj he))) (fun _ _ => trivial))
  have hS7 : Fi.SC w g a0 a1 a2 a3 a4 a5 a6 a7 a8 a9 w7 := ⟨blk_grown hHeld.1 hgr (fun he => NB.out (Option.some.inj he)), hHeld.2.grown hgr hHeld.2.size (fun k hk => by cases hk; exact GEb.out)⟩
  clear hHeld
  refine hK.out _ _ hS7 (fun hHeld => ?_)
  clear hK K
  refine pure_ (i := 19) (N := some 3) (v := ?_) (a' := ?_) (bt 20 1048575) rfl rfl (any_of HT_.out (by kernel_rfl)) (fun _ _ _ h => h) (Or.inl ⟨by rfl, ?_⟩) ?_ ?_
  rotate_left
  · intro w'
    go_simp
    first | with_reducible rfl | (simp [Instr.field, go_sem]; rfl)
  rotate_left
  · simp only [Act.put, List.setIfInBounds_toArray, List.set_cons_zero, List.set_cons_succ, i64_w, i32_w]
    rfl
  refine done_ (done_of HT_.out (by kernel_rfl)) ?_
  try go_wp2
  refine bodyPost_ret (results_ct rfl _ _ b 31 #[.int .i64 a0, .int .i64 a1, .int .i64 a2, .int .i64 a3, .int .i64 a4, .int .i64 a5, .int .i64 a6, .int .i64 a7, .int .i64 a8, .int .i64 a9, .slice A10 a1.toNat c10, .slice A11 a3.toNat c11, .slice A12 a5.toNat c12, .slice A13 a7.toNat c13] (0, 0) _ rfl hgb hu rfl (by kernel_rfl)) rfl ?_
  exact ⟨_, rfl, k31_mkM _ _ (fun _ => True) (⟨⟨⟨a0, a1⟩, ⟨a2, a3⟩, ⟨a4, a5⟩, ⟨a6, a7⟩, ⟨a8, a9⟩⟩, (List.replicate a1.toNat false), (List.replicate a3.toNat false), (List.replicate a5.toNat 0), (List.replicate a7.toNat 0)⟩ : S31) HO42.out HO82.out HO122.out HO162.out, hS7.2⟩

end Go.Proofs.Ytamcpmfimicnjaa.P
