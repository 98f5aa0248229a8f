import Derived.Test.YtamcpmfimicnjaaX
import Derived.Test.YtamcpmfimicnjaaFf
import Derived.Test.YtamcpmfimicnjaaLFile
import Derived.Test.YtamcpmfimicnjaaLSameW
namespace Go.Proofs.Ytamcpmfimicnjaa.P
open Go.RowKit Go.Proofs.YtamcpmfimicnjaaW.PrintWords Go.Proofs.YtamcpmfimicnjaaW.PrintLast Go.Proofs.YtamcpmfimicnjaaW.PrintMore
attribute [local go_sem] max2_int min2_int max_two min_two max_three min_three max_four min_four   -- for this text's walks alone
set_option linter.unusedVariables false
set_option linter.unusedSimpArgs false
open Go.Proofs.Ytamcpmfimicnjaa.L

theorem Fi.run_load {o : Oper} {a : Act} {ty : TypeId} {x : Operand} {w : World} {g : Nat} {v : Value} (ho : o.op = .load ty x) (hx : a.eval x = .pointer (some ⟨g, 0, none⟩)) (hl : (loadVar ty ⟨g, 0, none⟩).run Try.prog w = .ok v w) : (execOp a.eval o).run Try.prog w = .ok (.value v) w := by
  unfold execOp
  simp only [ho, hx, Instr.loadAt, Instr.sureAddr, Sem.run_bind, Sem.run_pure, Result.andThen_ok, hl]
theorem Fi.load31 {w : World} {g : Nat} {cs : Array Value} (hg : w.heap[g]? = some (.cells cs 31 (0, 0))) (hs : cs.size = 14) : (loadVar 31 ⟨g, 0, none⟩).run Try.prog w = .ok (.agg cs) w := run_loadVar_row w g 31 31 cs (0, 0) _ hg Try.underlying31 rfl (by rw [hs]; exact Fi.size)
abbrev Fi.XF : S31 := ⟨⟨⟨0, 0⟩, ⟨0, 0⟩, ⟨0, 4⟩, ⟨0, 0⟩, ⟨2, 1⟩⟩, [], [], [0, 0, 0, 0], []⟩
abbrev Fi.XX : S31 := ⟨⟨⟨0, 0⟩, ⟨0, 0⟩, ⟨0, 4⟩, ⟨0, 0⟩, ⟨2, 1⟩⟩, [], [], [0, 0, 0, 7], []⟩
theorem Fi.s1 : Fi.new 0 0 0 0 0 4 0 0 2 1 = Fi.XF := by kernel_rfl
theorem Fi.s2 : (if BankP 0 0 0 0 0 4 0 0 2 1 then (0 : Int) else 11) = 0 := by kernel_rfl
theorem Fi.s3 : Fi.new (-1) 0 0 0 0 0 0 0 0 0 = z31 := by kernel_rfl
theorem Fi.s4 : (if BankP (-1) 0 0 0 0 0 0 0 0 0 then (0 : Int) else 11) = 11 := by kernel_rfl
theorem Fi.s5 : Fi.words Fi.XF false 1 1 = ([0], 0) := by kernel_rfl
theorem Fi.s6 : Fi.words Fi.XF false 1 2 = ([], 4) := by kernel_rfl
theorem Fi.s7 : Fi.words Fi.XF false 3 2 = ([], 2) := by kernel_rfl
theorem Fi.s8 : Fi.setWords Fi.XF 3 [7] = (Fi.XX, 0) := by kernel_rfl
theorem Fi.s9 : decide (Fi.P Fi.XF) = true := by kernel_rfl
theorem Fi.s10 : Fi.eqb Fi.XF Fi.XX = false := by kernel_rfl
theorem Fi.s11 : Fi.Fit Fi.XF := by unfold Fi.Fit; decide
def Fi.SS (w : World) (g1 g9 : Nat) (cf cx : Array Value) (u : Value) (gf gx cpf cpx : Nat) (w' : World) : Prop := w'.heap[g1]? = some (.cells cf 31 (0, 0)) ∧ w'.heap[g9]? = some (.cells cx 31 (0, 0)) ∧ Fi.V w' cf Fi.XF ∧ Fi.V w' cx Fi.XX ∧ (Kd.int .u16).R 53 w' w.heap.size (fun _ => True) u [0] ∧ (Kd.int .u16).R 53 w' w.heap.size (fun _ => True) (.slice (some ⟨gf, 0, none⟩) 4 cpf) [0, 0, 0, 0] ∧ (Kd.int .u16).R 53 w' w.heap.size (fun _ => True) (.slice (some ⟨gx, 0, none⟩) 4 cpx) [0, 0, 0, 7] ∧ Below w.heap.size w w'
theorem Fi.SS.step {w w1 w2 : World} {g1 g9 gf gx cpf cpx : Nat} {cf cx : Array Value} {u : Value} (h : Fi.SS w g1 g9 cf cx u gf gx cpf cpx w1) (hb : Below w1.heap.size w1 w2) : Fi.SS w g1 g9 cf cx u gf gx cpf cpx w2 := by
  obtain ⟨h1, h2, h3, h4, h5, h6, h7, h8⟩ := h
  exact ⟨blk_below h1 hb, blk_below h2 hb, Fi.V_below h3 hb, Fi.V_below h4 hb, Kd.R_below h5 hb, Kd.R_below h6 hb, Kd.R_below h7 hb, below_step h8 hb⟩
set_option maxHeartbeats 4000000 in
set_option maxRecDepth 100000 in
theorem Fi.sure {w : World} : Calls Try.prog 7 #[] w fun e w' => e = .returned (.bool true) ∧ Below w.heap.size w w' := by
  have hu := Try.underlying31
  have hu25 := Try.underlying25
  have hu23 := Try.underlying23
  have hz := Fi.zero
  have HB := Aside0.mk (Below.refl w.heap.size w)
  go_enter Try.func7, Try.ntmps7
  go_wp2_with (first
    | (go_at_call 8; (with_reducible refine (Fi.cnewE Fi.s1 Fi.s2).mono ?_); rintro r w1 ⟨csF, rfl, hN, hb⟩; have HF := Aside0.mk (Fi.N_lower hN HB.out.size); clear hN; have n0_ := Aside0.mk (below_step HB.out hb); clear HB; have HB := n0_; clear n0_; clear hb)
    | ((with_reducible refine gate_dst (N := 1) rfl ?_); refine box_event ?hg (N := 1) ?hd (cs := Fi.Z) (t := 31) ?hr ?_; (case hd => rfl); (case hg => rfl); (case hr => first | (go_simp; done) | (go_simp; rfl)); intro g1 hg w2 hbox hb; have GX := Aside0.mk (Nat.le_of_eq hg.symm); have HX := Aside0.mk hb; have BKg1 := Aside0.mk hbox; clear hg hbox hb)
    | ((with_reducible refine gate_store rfl ?_); refine Fi.store_row rfl 31 _ _ rfl g1 csF rfl rfl 31 _ BKg1.out (by rw [Fi.V_size HF.out.V]; exact Fi.size) (by rw [Fi.V_size HF.out.V]; rfl) (Fi.V_one HF.out.V) ?_; intro w3 hgb hgr; have hb := HX.out.grown hgr HX.out.size (fun k hk => by cases hk; exact GX.out); have n0_ := Aside0.mk (below_step HB.out hb); have n1_ := Aside0.mk (Fi.N_below HF.out hb); clear HB HF; have HB := n0_; have HF := n1_; clear n0_ n1_; clear BKg1 GX HX hb hgr; have BKg1 := Aside0.mk hgb; clear hgb)
    | (refine wpList_load_row rfl 31 _ rfl g1 rfl 31 _ (0, 0) _ BKg1.out hu rfl (by rw [Fi.V_size HF.out.V]; exact Fi.size) ?_))
  go_wp2_with (first
    | (go_at_call 18; (with_reducible refine (Fi.cwordsE HF.out.V false (show I64 (1 : Int) by decide) (show I64 (1 : Int) by decide) Fi.s5).mono ?_); rintro r w4 ⟨v3, rfl, ho, hb⟩; have R3 := Aside0.mk (Kd.R_lower ho HB.out.size); clear ho; have n0_ := Aside0.mk (below_step HB.out hb); have n1_ := Aside0.mk (Fi.N_below HF.out hb); have n2_ := Aside0.mk (blk_below BKg1.out hb); clear HB HF BKg1; have HB := n0_; have HF := n1_; have BKg1 := n2_; clear n0_ n1_ n2_; clear hb)
    | (refine wpList_load_row rfl 31 _ rfl g1 rfl 31 _ (0, 0) _ BKg1.out hu rfl (by rw [Fi.V_size HF.out.V]; exact Fi.size) ?_))
  go_wp2_with (first
    | (go_at_call 18; (with_reducible refine (Fi.cwordsE HF.out.V false (show I64 (1 : Int) by decide) (show I64 (2 : Int) by decide) Fi.s6).mono ?_); rintro r w5 ⟨v5, rfl, ho, hb⟩; clear ho; have n0_ := Aside0.mk (below_step HB.out hb); have n1_ := Aside0.mk (Fi.N_below HF.out hb); have n2_ := Aside0.mk (blk_below BKg1.out hb); have n3_ := Aside0.mk (Kd.R_below R3.out hb); clear HB HF BKg1 R3; have HB := n0_; have HF := n1_; have BKg1 := n2_; have R3 := n3_; clear n0_ n1_ n2_ n3_; clear hb)
    | (go_at_call 18; (with_reducible refine (Fi.cwordsE HF.out.V false (show I64 (3 : Int) by decide) (show I64 (2 : Int) by decide) Fi.s7).mono ?_); rintro r w6 ⟨v7, rfl, ho, hb⟩; clear ho; have n0_ := Aside0.mk (below_step HB.out hb); have n1_ := Aside0.mk (Fi.N_below HF.out hb); have n2_ := Aside0.mk (blk_below BKg1.out hb); have n3_ := Aside0.mk (Kd.R_below R3.out hb); clear HB HF BKg1 R3; have HB := n0_; have HF := n1_; have BKg1 := n2_; have R3 := n3_; clear n0_ n1_ n2_ n3_; clear hb)
    | (refine wpList_load_row rfl 31 _ rfl g1 rfl 31 _ (0, 0) _ BKg1.out hu rfl (by rw [Fi.V_size HF.out.V]; exact Fi.size) ?_)
    | ((with_reducible refine gate_dst (N := 37) rfl ?_); refine Kd.R_lit (Kd.int .u16) _ 53 ?hg (N := 37) ?hd (xs := ([7] : List Int)) (inner := [.int .u16 7]) (ok := fun _ => True) (okp := fun _ => True) ?hr ?hp (fun _ hk => hk) trivial (Below.refl _ _) (Nat.le_refl _) (by simp) ?_; (case hd => rfl); (case hg => rfl); (case hr => first | (go_simp; done) | (go_simp; rfl)); (case hp => exact (Reps.one (show Kd.M (Kd.int .u16) _ _ _ 7 [.int .u16 7] from rfl) (Reps.none _ _))); intro vl w7 ho hb _ _; obtain ⟨Al, cl, el⟩ := Kd.R_slice ho; subst el; replace ho : (Kd.int .u16).R 53 _ _ _ (.slice Al 1 cl) [7] := ho; have HL := Aside0.mk ho; clear ho; have n0_ := Aside0.mk (below_step HB.out hb); have n1_ := Aside0.mk (Fi.N_below HF.out hb); have n2_ := Aside0.mk (blk_below BKg1.out hb); have n3_ := Aside0.mk (Kd.R_below R3.out hb); clear HB HF BKg1 R3; have HB := n0_; have HF := n1_; have BKg1 := n2_; have R3 := n3_; clear n0_ n1_ n2_ n3_; clear hb)
    | (go_at_call 16; (refine (Fi.csetWordsE (m := [7]) HF.out.V (Kd.R_reads' HL.out).2.2 (Kd.R_reads' HL.out).2.1 (show I64 (3 : Int) by decide) Fi.s8).mono ?_); rintro r w8 ⟨csX, rfl, hN, hb⟩; have HX9 := Aside0.mk (Fi.N_lower hN HB.out.size); clear hN; clear HL; have n0_ := Aside0.mk (below_step HB.out hb); have n1_ := Aside0.mk (Fi.N_below HF.out hb); have n2_ := Aside0.mk (blk_below BKg1.out hb); have n3_ := Aside0.mk (Kd.R_below R3.out hb); clear HB HF BKg1 R3; have HB := n0_; have HF := n1_; have BKg1 := n2_; have R3 := n3_; clear n0_ n1_ n2_ n3_; clear hb)
    | ((with_reducible refine gate_dst (N := 9) rfl ?_); refine box_event ?hg (N := 9) ?hd (cs := Fi.Z) (t := 31) ?hr ?_; (case hd => rfl); (case hg => rfl); (case hr => first | (go_simp; done) | (go_simp; rfl)); intro g9 hg w9 hbox hb; have GX := Aside0.mk (Nat.le_of_eq hg.symm); have HX := Aside0.mk hb; have BKg9 := Aside0.mk hbox; clear hg hbox hb)
    | ((with_reducible refine gate_store rfl ?_); refine Fi.store_row rfl 31 _ _ rfl g9 csX rfl rfl 31 _ BKg9.out (by rw [Fi.V_size HX9.out.V]; exact Fi.size) (by rw [Fi.V_size HX9.out.V]; rfl) (Fi.V_one HX9.out.V) ?_; intro w10 hgb hgr; have hb := HX.out.grown hgr HX.out.size (fun k hk => by cases hk; exact GX.out); have n0_ := Aside0.mk (below_step HB.out hb); have n1_ := Aside0.mk (Fi.N_below HF.out hb); have n2_ := Aside0.mk (blk_below BKg1.out hb); have n3_ := Aside0.mk (Kd.R_below R3.out hb); have n4_ := Aside0.mk (Fi.N_below HX9.out hb); clear HB HF BKg1 R3 HX9; have HB := n0_; have HF := n1_; have BKg1 := n2_; have R3 := n3_; have HX9 := n4_; clear n0_ n1_ n2_ n3_ n4_; clear BKg9 GX HX hb hgr; have BKg9 := Aside0.mk hgb; clear hgb))
  go_wp2_with (first
    | (go_at_call 8; (with_reducible refine (Fi.cnewE Fi.s3 Fi.s4).mono ?_); rintro r w11 ⟨csZ, rfl, hN, hb⟩; have HZ := Aside0.mk (Fi.N_lower hN HB.out.size); clear hN; have n0_ := Aside0.mk (below_step HB.out hb); have n1_ := Aside0.mk (Fi.N_below HF.out hb); have n2_ := Aside0.mk (blk_below BKg1.out hb); have n3_ := Aside0.mk (Kd.R_below R3.out hb); have n4_ := Aside0.mk (Fi.N_below HX9.out hb); have n5_ := Aside0.mk (blk_below BKg9.out hb); clear HB HF BKg1 R3 HX9 BKg9; have HB := n0_; have HF := n1_; have BKg1 := n2_; have R3 := n3_; have HX9 := n4_; have BKg9 := n5_; clear n0_ n1_ n2_ n3_ n4_ n5_; clear hb)
    | ((with_reducible refine gate_dst (N := 11) rfl ?_); refine box_event ?hg (N := 11) ?hd (cs := Fi.Z) (t := 31) ?hr ?_; (case hd => rfl); (case hg => rfl); (case hr => first | (go_simp; done) | (go_simp; rfl)); intro g11 hg w12 hbox hb; have GX := Aside0.mk (Nat.le_of_eq hg.symm); have HX := Aside0.mk hb; have BKg11 := Aside0.mk hbox; clear hg hbox hb)
    | ((with_reducible refine gate_store rfl ?_); refine Fi.store_row rfl 31 _ _ rfl g11 csZ rfl rfl 31 _ BKg11.out (by rw [Fi.V_size HZ.out.V]; exact Fi.size) (by rw [Fi.V_size HZ.out.V]; rfl) (Fi.V_one HZ.out.V) ?_; intro w13 hgb hgr; have hb := HX.out.grown hgr HX.out.size (fun k hk => by cases hk; exact GX.out); have n0_ := Aside0.mk (below_step HB.out hb); have n1_ := Aside0.mk (Fi.N_below HF.out hb); have n2_ := Aside0.mk (blk_below BKg1.out hb); have n3_ := Aside0.mk (Kd.R_below R3.out hb); have n4_ := Aside0.mk (Fi.N_below HX9.out hb); have n5_ := Aside0.mk (blk_below BKg9.out hb); have n6_ := Aside0.mk (Fi.N_below HZ.out hb); clear HB HF BKg1 R3 HX9 BKg9 HZ; have HB := n0_; have HF := n1_; have BKg1 := n2_; have R3 := n3_; have HX9 := n4_; have BKg9 := n5_; have HZ := n6_; clear n0_ n1_ n2_ n3_ n4_ n5_ n6_; clear BKg11 GX HX hb hgr; have BKg11 := Aside0.mk hgb; clear hgb))
  clear BKg11 HZ
  have HVF := Aside0.mk HF.out.V
  have HVX := Aside0.mk HX9.out.V
  obtain ⟨f10, f11, f12, f13, eF, o10, o11, o12, o13⟩ := Fi.openN HF.out
  obtain ⟨x10, x11, x12, x13, eX, p10, p11, p12, p13⟩ := Fi.openN HX9.out
  replace o12 : (Kd.int .u16).R 53 w13 w.heap.size (fun _ => True) f12 [0, 0, 0, 0] := o12
  replace p12 : (Kd.int .u16).R 53 w13 w.heap.size (fun _ => True) x12 [0, 0, 0, 7] := p12
  obtain ⟨gf, cpf, e1, q1⟩ := Kd.R_form o12 (by simp)
  obtain ⟨gx, cpx, e2, q2⟩ := Kd.R_form p12 (by simp)
  replace e1 : f12 = .slice (some ⟨gf, 0, none⟩) 4 cpf := e1
  replace e2 : x12 = .slice (some ⟨gx, 0, none⟩) 4 cpx := e2
  subst e1
  subst e2
  obtain ⟨A3, c3, e3⟩ := Kd.R_slice R3.out
  subst e3
  replace R3 : Aside0 ((Kd.int .u16).R 53 w13 w.heap.size (fun _ => True) (.slice A3 1 c3) [0]) := R3
  replace eF : csF = #[.int .i64 0, .int .i64 0, .int .i64 0, .int .i64 0, .int .i64 0, .int .i64 4, .int .i64 0, .int .i64 0, .int .i64 2, .int .i64 1, f10, f11, .slice (some ⟨gf, 0, none⟩) 4 cpf, f13] := eF
  replace eX : csX = #[.int .i64 0, .int .i64 0, .int .i64 0, .int .i64 0, .int .i64 0, .int .i64 4, .int .i64 0, .int .i64 0, .int .i64 2, .int .i64 1, x10, x11, .slice (some ⟨gx, 0, none⟩) 4 cpx, x13] := eX
  have hSS : Fi.SS w g1 g9 csF csX (.slice A3 1 c3) gf gx cpf cpx w13 := ⟨BKg1.out, BKg9.out, HVF.out, HVX.out, R3.out, o12, p12, HB.out⟩
  have EF := Aside0.mk eF
  have EX := Aside0.mk eX
  clear eF eX o10 o11 o12 o13 p10 p11 p12 p13 q1 q2 HVF HVX R3 BKg1 BKg9 HF HX9 HB
  refine start_ (n := 58) (S := Fi.SS w g1 g9 csF csX (.slice A3 1 c3) gf gx cpf cpx) (ds := []) (bt 58 0) (by kernel_rfl) rfl (by kernel_rfl) (hSS.step (below_drew1 (Below.refl _ _))) (fun hHeld => ?_)
  clear hSS
  generalize w13.drew = w5 at hHeld ⊢
  refine pure_ (i := 0) (N := some 47) (v := ?_) (a' := ?_) (bt 58 1) rfl rfl (by kernel_rfl) (fun _ _ _ h => h) (Or.inl ⟨by rfl, ?_⟩) ?_ ?_
  rotate_left
  · intro w'
    go_simp
    first | with_reducible rfl | (simp [Instr.field, go_sem]; rfl)
  rotate_left
  · simp only [Act.put, List.setIfInBounds_toArray, List.set_cons_zero, List.set_cons_succ]
    rfl
  refine pure_ (i := 1) (N := some 48) (v := ?_) (a' := ?_) (bt 58 3) rfl rfl (by kernel_rfl) (fun _ _ _ h => h) (Or.inl ⟨by rfl, ?_⟩) ?_ ?_
  rotate_left
  · intro w'
    go_simp
    first | with_reducible rfl | (simp [Instr.field, go_sem]; rfl)
  rotate_left
  · simp only [Act.put, List.setIfInBounds_toArray, List.set_cons_zero, List.set_cons_succ]
    rfl
  refine pure_ (i := 2) (N := some 49) (v := ?_) (a' := ?_) (bt 58 7) rfl rfl (by kernel_rfl) (fun _ _ _ h => h) (Or.inl ⟨by rfl, ?_⟩) ?_ ?_
  rotate_left
  · intro w'
    go_simp
    first | with_reducible rfl | (simp [Instr.field, go_sem]; rfl)
  rotate_left
  · simp only [Act.put, List.setIfInBounds_toArray, List.set_cons_zero, List.set_cons_succ]
    rfl
  refine pure_ (i := 3) (N := some 50) (v := ?_) (a' := ?_) (bt 58 15) rfl rfl (by kernel_rfl) (fun _ _ _ h => h) (Or.inl ⟨by rfl, ?_⟩) ?_ ?_
  rotate_left
  · intro w'
    go_simp
    first | with_reducible rfl | (simp [Instr.field, go_sem]; rfl)
  rotate_left
  · simp only [Act.put, List.setIfInBounds_toArray, List.set_cons_zero, List.set_cons_succ]
    rfl
  refine pure_ (i := 4) (N := some 51) (v := ?_) (a' := ?_) (bt 58 31) rfl rfl (by kernel_rfl) (fun _ _ _ h => h) (Or.inl ⟨by rfl, ?_⟩) ?_ ?_
  rotate_left
  · intro w'
    go_simp
    first | with_reducible rfl | (simp [Instr.field, go_sem]; rfl)
  rotate_left
  · simp only [Act.put, List.setIfInBounds_toArray, List.set_cons_zero, List.set_cons_succ]
    rfl
  refine pure_ (i := 5) (N := some 52) (v := ?_) (a' := ?_) (bt 58 63) rfl rfl (by kernel_rfl) (fun _ _ _ h => h) (Or.inl ⟨by rfl, ?_⟩) ?_ ?_
  rotate_left
  · intro w'
    go_simp
    first | with_reducible rfl | (simp [Instr.field, go_sem]; rfl)
  rotate_left
  · simp only [Act.put, List.setIfInBounds_toArray, List.set_cons_zero, List.set_cons_succ]
    rfl
  refine pure_ (i := 6) (N := some 53) (v := ?_) (a' := ?_) (bt 58 127) rfl rfl (by kernel_rfl) (fun _ _ _ h => h) (Or.inl ⟨by rfl, ?_⟩) ?_ ?_
  rotate_left
  · intro w'
    go_simp
    first | with_reducible rfl | (simp [Instr.field, go_sem]; rfl)
  rotate_left
  · simp only [Act.put, List.setIfInBounds_toArray, List.set_cons_zero, List.set_cons_succ]
    rfl
  refine pure_ (i := 7) (N := some 54) (v := ?_) (a' := ?_) (bt 58 255) rfl rfl (by kernel_rfl) (fun _ _ _ h => h) (Or.inl ⟨by rfl, ?_⟩) ?_ ?_
  rotate_left
  · intro w'
    go_simp
    first | with_reducible rfl | (simp [Instr.field, go_sem]; rfl)
  rotate_left
  · simp only [Act.put, List.setIfInBounds_toArray, List.set_cons_zero, List.set_cons_succ]
    rfl
  refine one_ (i := 8) (N := some 55) (bt 58 511) rfl rfl (by kernel_rfl) (by decide) (fun K hK => ?_)
  refine Kd.R_lit_step (Kd.int .u16) _ 53 ?hg (N := 55) ?hd (xs := ([0] : List Int)) (inner := [.int .u16 0]) (ok := fun _ => True) (okp := fun _ => True) ?hr ?hp (fun _ hk => hk) trivial (Below.refl _ _) (Nat.le_refl _) (by simp) ?_
  (case hd => rfl)
  (case hg => rfl)
  (case hr => first | (go_simp; done) | (go_simp; rfl))
  (case hp => exact (Reps.one (show Kd.M (Kd.int .u16) _ _ _ 0 [.int .u16 0] from rfl) (Reps.none _ _)))
  intro vl w6 ho hb hg_ hnew_
  clear hg_ hnew_
  obtain ⟨Al, cl, el⟩ := Kd.R_slice ho
  subst el
  replace ho : (Kd.int .u16).R 53 _ _ _ (.slice Al 1 cl) [0] := ho
  have HL := Aside0.mk ho
  clear ho
  refine hK.out _ _ (hHeld.step hb) (fun hHeld => ?_)
  clear hK K hb
  refine norm_ (a' := ?_) ?_ ?_
  rotate_left
  · show Act.put _ (some 55) _ = _
    simp only [Act.put, List.setIfInBounds_toArray, List.set_cons_zero, List.set_cons_succ]
    rfl
  refine one_ (i := 9) (N := some 56) (bt 58 1023) rfl rfl (by kernel_rfl) (by decide) (fun K hK => ?_)
  refine goes_ Try.func14 (by kernel_rfl) rfl #[.slice A3 1 c3, .slice Al 1 cl] (by rfl) rfl rfl (by (try simp only [List.map_toArray, List.map_cons, List.map_nil]); first | done | rfl) ?_
  refine (bilgeref01_Words.calls 10 A3 c3 [0] Al cl [0] true _ (Kd.R_reads' hHeld.2.2.2.2.1).2.2 (Kd.R_reads' hHeld.2.2.2.2.1).2.1 (Kd.R_reads' HL.out).2.2 (Kd.R_reads' HL.out).2.1 (words_eq (by decide) (by decide))).mono ?_
  rintro e w6 ⟨rfl, hd⟩
  refine ⟨_, rfl, ?_⟩
  have hb := hd.below
  clear hd HL
  refine hK.out _ _ (hHeld.step hb) (fun hHeld => ?_)
  clear hK K hb
  refine norm_ (a' := ?_) ?_ ?_
  rotate_left
  · show Act.put _ (some 56) _ = _
    simp only [Act.put, List.setIfInBounds_toArray, List.set_cons_zero, List.set_cons_succ]
    rfl
  refine pure_ (i := 10) (N := some 57) (v := ?_) (a' := ?_) (bt 58 2047) rfl rfl (by kernel_rfl) (fun _ _ _ h => h) (Or.inl ⟨by rfl, ?_⟩) ?_ ?_
  rotate_left
  · intro w'
    go_simp
    first | with_reducible rfl | (simp [Instr.field, go_sem]; rfl)
  rotate_left
  · simp only [Act.put, List.setIfInBounds_toArray, List.set_cons_zero, List.set_cons_succ]
    rfl
  refine pure_ (i := 11) (N := some 58) (v := ?_) (a' := ?_) (bt 58 4095) rfl rfl (by kernel_rfl) (fun _ _ _ h => h) (Or.inl ⟨by rfl, ?_⟩) ?_ ?_
  rotate_left
  · intro w'
    go_simp
    first | with_reducible rfl | (simp [Instr.field, go_sem]; rfl)
  rotate_left
  · simp only [Act.put, List.setIfInBounds_toArray, List.set_cons_zero, List.set_cons_succ]
    rfl
  refine pure_ (i := 12) (N := some 59) (v := ?_) (a' := ?_) (bt 58 8191) rfl rfl (by kernel_rfl) (fun _ _ _ h => h) (Or.inl ⟨by rfl, ?_⟩) ?_ ?_
  rotate_left
  · intro w'
    go_simp
    first | with_reducible rfl | (simp [Instr.field, go_sem]; rfl)
  rotate_left
  · simp only [Act.put, List.setIfInBounds_toArray, List.set_cons_zero, List.set_cons_succ]
    rfl
  refine pure_ (i := 13) (N := some 60) (v := ?_) (a' := ?_) (bt 58 16383) rfl rfl (by kernel_rfl) (fun _ _ _ h => h) (Or.inl ⟨by rfl, ?_⟩) ?_ ?_
  rotate_left
  · intro w'
    go_simp
    first | with_reducible rfl | (simp [Instr.field, go_sem]; rfl)
  rotate_left
  · simp only [Act.put, List.setIfInBounds_toArray, List.set_cons_zero, List.set_cons_succ]
    rfl
  refine pure_ (i := 14) (N := some 61) (v := ?_) (a' := ?_) (bt 58 32767) rfl rfl (by kernel_rfl) (fun _ _ _ h => h) (Or.inl ⟨by rfl, ?_⟩) ?_ ?_
  rotate_left
  · intro w'
    go_simp
    first | with_reducible rfl | (simp [Instr.field, go_sem]; rfl)
  rotate_left
  · simp only [Act.put, List.setIfInBounds_toArray, List.set_cons_zero, List.set_cons_succ]
    rfl
  refine pure_ (i := 15) (N := some 62) (v := ?_) (a' := ?_) (bt 58 65535) rfl rfl (by kernel_rfl) (fun _ _ _ h => h) (Or.inl ⟨by rfl, ?_⟩) ?_ ?_
  rotate_left
  · intro w'
    go_simp
    first | with_reducible rfl | (simp [Instr.field, go_sem]; rfl)
  rotate_left
  · simp only [Act.put, List.setIfInBounds_toArray, List.set_cons_zero, List.set_cons_succ]
    rfl
  refine pure_ (i := 16) (N := some 63) (v := ?_) (a' := ?_) (bt 58 131071) rfl rfl (by kernel_rfl) (fun _ _ _ h => h) (Or.inl ⟨by rfl, ?_⟩) ?_ ?_
  rotate_left
  · intro w'
    go_simp
    first | with_reducible rfl | (simp [Instr.field, go_sem]; rfl)
  rotate_left
  · simp only [Act.put, List.setIfInBounds_toArray, List.set_cons_zero, List.set_cons_succ]
    rfl
  refine pure_ (i := 17) (N := some 64) (v := ?_) (a' := ?_) (bt 58 262143) rfl rfl (by kernel_rfl) (fun _ _ _ h => h) (Or.inl ⟨by rfl, ?_⟩) ?_ ?_
  rotate_left
  · intro w'
    go_simp
    first | with_reducible rfl | (simp [Instr.field, go_sem]; rfl)
  rotate_left
  · simp only [Act.put, List.setIfInBounds_toArray, List.set_cons_zero, List.set_cons_succ]
    rfl
  refine pure_ (i := 18) (N := some 65) (v := ?_) (a' := ?_) (bt 58 524287) rfl rfl (by kernel_rfl) (fun _ _ _ h => h) (Or.inl ⟨by rfl, ?_⟩) ?_ ?_
  rotate_left
  · intro w'
    go_simp
    first | with_reducible rfl | (simp [Instr.field, go_sem]; rfl)
  rotate_left
  · simp only [Act.put, List.setIfInBounds_toArray, List.set_cons_zero, List.set_cons_succ]
    rfl
  refine pure_ (i := 19) (N := some 66) (v := ?_) (a' := ?_) (bt 58 1048575) rfl rfl (by kernel_rfl) (fun _ _ _ h => h) (Or.inl ⟨by rfl, ?_⟩) ?_ ?_
  rotate_left
  · intro w'
    go_simp
    first | with_reducible rfl | (simp [Instr.field, go_sem]; rfl)
  rotate_left
  · simp only [Act.put, List.setIfInBounds_toArray, List.set_cons_zero, List.set_cons_succ]
    rfl
  refine pure_ (i := 20) (N := some 67) (v := ?_) (a' := ?_) (bt 58 2097151) rfl rfl (by kernel_rfl) (fun _ _ _ h => h) (Or.inl ⟨by rfl, ?_⟩) ?_ ?_
  rotate_left
  · intro w'
    go_simp
    first | with_reducible rfl | (simp [Instr.field, go_sem]; rfl)
  rotate_left
  · simp only [Act.put, List.setIfInBounds_toArray, List.set_cons_zero, List.set_cons_succ]
    rfl
  refine pure_ (i := 21) (N := some 68) (v := ?_) (a' := ?_) (bt 58 4194303) rfl rfl (by kernel_rfl) (fun _ _ _ h => h) (Or.inl ⟨by rfl, ?_⟩) ?_ ?_
  rotate_left
  · intro w'
    go_simp
    first | with_reducible rfl | (simp [Instr.field, go_sem]; rfl)
  rotate_left
  · simp only [Act.put, List.setIfInBounds_toArray, List.set_cons_zero, List.set_cons_succ]
    rfl
  refine pure_ (i := 22) (N := some 69) (v := ?_) (a' := ?_) (bt 58 8388607) rfl rfl (by kernel_rfl) (fun _ _ _ h => h) (Or.inl ⟨by rfl, ?_⟩) ?_ ?_
  rotate_left
  · intro w'
    go_simp
    first | with_reducible rfl | (simp [Instr.field, go_sem]; rfl)
  rotate_left
  · simp only [Act.put, List.setIfInBounds_toArray, List.set_cons_zero, List.set_cons_succ]
    rfl
  refine pure_ (i := 23) (N := some 70) (v := ?_) (a' := ?_) (bt 58 16777215) rfl rfl (by kernel_rfl) (fun _ _ _ h => h) (Or.inl ⟨by rfl, ?_⟩) ?_ ?_
  rotate_left
  · intro w'
    go_simp
    first | with_reducible rfl | (simp [Instr.field, go_sem]; rfl)
  rotate_left
  · simp only [Act.put, List.setIfInBounds_toArray, List.set_cons_zero, List.set_cons_succ]
    rfl
  refine pure_ (i := 24) (N := some 71) (v := ?_) (a' := ?_) (bt 58 33554431) rfl rfl (by kernel_rfl) (fun _ _ _ h => h) (Or.inl ⟨by rfl, ?_⟩) ?_ ?_
  rotate_left
  · intro w'
    go_simp
    first | with_reducible rfl | (simp [Instr.field, go_sem]; rfl)
  rotate_left
  · simp only [Act.put, List.setIfInBounds_toArray, List.set_cons_zero, List.set_cons_succ]
    rfl
  refine take_ (i := 25) (N := some 72) (v := ?_) (a' := ?_) (bt 58 67108863) rfl rfl (by kernel_rfl) (fun _ _ _ h => h) (Or.inl ⟨by rfl, ?_⟩) hHeld ?_ ?_
  rotate_left
  · intro w' hS
    have c1 := blk_cell hS.2.1 12
    rw [EX.out] at c1
    replace c1 : w'.cell? ⟨g9, 12, none⟩ = some (.slice (some ⟨gx, 0, none⟩) 4 cpx) := c1
    clear hS
    go_simp
    first | with_reducible rfl | (simp [Instr.field, go_sem]; rfl)
  rotate_left
  · simp only [Act.put, List.setIfInBounds_toArray, List.set_cons_zero, List.set_cons_succ]
    rfl
  refine pure_ (i := 26) (N := some 73) (v := ?_) (a' := ?_) (bt 58 134217727) rfl rfl (by kernel_rfl) (fun _ _ _ h => h) (Or.inl ⟨by rfl, ?_⟩) ?_ ?_
  rotate_left
  · intro w'
    go_simp
    first | with_reducible rfl | (simp [Instr.field, go_sem]; rfl)
  rotate_left
  · simp only [Act.put, List.setIfInBounds_toArray, List.set_cons_zero, List.set_cons_succ]
    rfl
  refine take_ (i := 27) (N := some 74) (v := ?_) (a' := ?_) (bt 58 268435455) rfl rfl (by kernel_rfl) (fun _ _ _ h => h) (Or.inl ⟨by rfl, ?_⟩) hHeld ?_ ?_
  rotate_left
  · intro w' hS
    have c1 := (Kd.R_celln 0 hS.2.2.2.2.2.2.1 3 (by decide) (by decide)).1
    replace c1 : w'.cell? ⟨gx, 3, none⟩ = some (.int .u16 7) := c1
    clear hS
    go_simp
    first | with_reducible rfl | (simp [Instr.field, go_sem]; rfl)
  rotate_left
  · simp only [Act.put, List.setIfInBounds_toArray, List.set_cons_zero, List.set_cons_succ]
    rfl
  refine pure_ (i := 28) (N := some 75) (v := ?_) (a' := ?_) (bt 58 536870911) rfl rfl (by kernel_rfl) (fun _ _ _ h => h) (Or.inl ⟨by rfl, ?_⟩) ?_ ?_
  rotate_left
  · intro w'
    go_simp
    first | with_reducible rfl | (simp [Instr.field, go_sem]; rfl)
  rotate_left
  · simp only [Act.put, List.setIfInBounds_toArray, List.set_cons_zero, List.set_cons_succ]
    rfl
  refine pure_ (i := 29) (N := some 76) (v := ?_) (a' := ?_) (bt 58 1073741823) rfl rfl (by kernel_rfl) (fun _ _ _ h => h) (Or.inl ⟨by rfl, ?_⟩) ?_ ?_
  rotate_left
  · intro w'
    go_simp
    first | with_reducible rfl | (simp [Instr.field, go_sem]; rfl)
  rotate_left
  · simp only [Act.put, List.setIfInBounds_toArray, List.set_cons_zero, List.set_cons_succ]
    rfl
  refine pure_ (i := 30) (N := some 77) (v := ?_) (a' := ?_) (bt 58 2147483647) rfl rfl (by kernel_rfl) (fun _ _ _ h => h) (Or.inl ⟨by rfl, ?_⟩) ?_ ?_
  rotate_left
  · intro w'
    go_simp
    first | with_reducible rfl | (simp [Instr.field, go_sem]; rfl)
  rotate_left
  · simp only [Act.put, List.setIfInBounds_toArray, List.set_cons_zero, List.set_cons_succ]
    rfl
  refine pure_ (i := 31) (N := some 78) (v := ?_) (a' := ?_) (bt 58 4294967295) rfl rfl (by kernel_rfl) (fun _ _ _ h => h) (Or.inl ⟨by rfl, ?_⟩) ?_ ?_
  rotate_left
  · intro w'
    go_simp
    first | with_reducible rfl | (simp [Instr.field, go_sem]; rfl)
  rotate_left
  · simp only [Act.put, List.setIfInBounds_toArray, List.set_cons_zero, List.set_cons_succ]
    rfl
  refine take_ (i := 32) (N := some 79) (v := ?_) (a' := ?_) (bt 58 8589934591) rfl rfl (by kernel_rfl) (fun _ _ _ h => h) (Or.inl ⟨by rfl, ?_⟩) hHeld ?_ ?_
  rotate_left
  · intro w' hS
    have c1 := blk_cell hS.1 12
    rw [EF.out] at c1
    replace c1 : w'.cell? ⟨g1, 12, none⟩ = some (.slice (some ⟨gf, 0, none⟩) 4 cpf) := c1
    clear hS
    go_simp
    first | with_reducible rfl | (simp [Instr.field, go_sem]; rfl)
  rotate_left
  · simp only [Act.put, List.setIfInBounds_toArray, List.set_cons_zero, List.set_cons_succ]
    rfl
  refine pure_ (i := 33) (N := some 80) (v := ?_) (a' := ?_) (bt 58 17179869183) rfl rfl (by kernel_rfl) (fun _ _ _ h => h) (Or.inl ⟨by rfl, ?_⟩) ?_ ?_
  rotate_left
  · intro w'
    go_simp
    first | with_reducible rfl | (simp [Instr.field, go_sem]; rfl)
  rotate_left
  · simp only [Act.put, List.setIfInBounds_toArray, List.set_cons_zero, List.set_cons_succ]
    rfl
  refine take_ (i := 34) (N := some 81) (v := ?_) (a' := ?_) (bt 58 34359738367) rfl rfl (by kernel_rfl) (fun _ _ _ h => h) (Or.inl ⟨by rfl, ?_⟩) hHeld ?_ ?_
  rotate_left
  · intro w' hS
    have c1 := (Kd.R_celln 0 hS.2.2.2.2.2.1 3 (by decide) (by decide)).1
    replace c1 : w'.cell? ⟨gf, 3, none⟩ = some (.int .u16 0) := c1
    clear hS
    go_simp
    first | with_reducible rfl | (simp [Instr.field, go_sem]; rfl)
  rotate_left
  · simp only [Act.put, List.setIfInBounds_toArray, List.set_cons_zero, List.set_cons_succ]
    rfl
  refine pure_ (i := 35) (N := some 82) (v := ?_) (a' := ?_) (bt 58 68719476735) rfl rfl (by kernel_rfl) (fun _ _ _ h => h) (Or.inl ⟨by rfl, ?_⟩) ?_ ?_
  rotate_left
  · intro w'
    go_simp
    first | with_reducible rfl | (simp [Instr.field, go_sem]; rfl)
  rotate_left
  · simp only [Act.put, List.setIfInBounds_toArray, List.set_cons_zero, List.set_cons_succ]
    rfl
  refine pure_ (i := 36) (N := some 83) (v := ?_) (a' := ?_) (bt 58 137438953471) rfl rfl (by kernel_rfl) (fun _ _ _ h => h) (Or.inl ⟨by rfl, ?_⟩) ?_ ?_
  rotate_left
  · intro w'
    go_simp
    first | with_reducible rfl | (simp [Instr.field, go_sem]; rfl)
  rotate_left
  · simp only [Act.put, List.setIfInBounds_toArray, List.set_cons_zero, List.set_cons_succ]
    rfl
  refine pure_ (i := 37) (N := some 84) (v := ?_) (a' := ?_) (bt 58 274877906943) rfl rfl (by kernel_rfl) (fun _ _ _ h => h) (Or.inl ⟨by rfl, ?_⟩) ?_ ?_
  rotate_left
  · intro w'
    go_simp
    first | with_reducible rfl | (simp [Instr.field, go_sem]; rfl)
  rotate_left
  · simp only [Act.put, List.setIfInBounds_toArray, List.set_cons_zero, List.set_cons_succ]
    rfl
  refine pure_ (i := 38) (N := some 85) (v := ?_) (a' := ?_) (bt 58 549755813887) rfl rfl (by kernel_rfl) (fun _ _ _ h => h) (Or.inl ⟨by rfl, ?_⟩) ?_ ?_
  rotate_left
  · intro w'
    go_simp
    first | with_reducible rfl | (simp [Instr.field, go_sem]; rfl)
  rotate_left
  · simp only [Act.put, List.setIfInBounds_toArray, List.set_cons_zero, List.set_cons_succ]
    rfl
  refine pure_ (i := 39) (N := some 86) (v := ?_) (a' := ?_) (bt 58 1099511627775) rfl rfl (by kernel_rfl) (fun _ _ _ h => h) (Or.inl ⟨by rfl, ?_⟩) ?_ ?_
  rotate_left
  · intro w'
    go_simp
    first | with_reducible rfl | (simp [Instr.field, go_sem]; rfl)
  rotate_left
  · simp only [Act.put, List.setIfInBounds_toArray, List.set_cons_zero, List.set_cons_succ]
    rfl
  refine pure_ (i := 40) (N := some 87) (v := ?_) (a' := ?_) (bt 58 2199023255551) rfl rfl (by kernel_rfl) (fun _ _ _ h => h) (Or.inl ⟨by rfl, ?_⟩) ?_ ?_
  rotate_left
  · intro w'
    go_simp
    first | with_reducible rfl | (simp [Instr.field, go_sem]; rfl)
  rotate_left
  · simp only [Act.put, List.setIfInBounds_toArray, List.set_cons_zero, List.set_cons_succ]
    rfl
  refine pure_ (i := 41) (N := some 88) (v := ?_) (a' := ?_) (bt 58 4398046511103) rfl rfl (by kernel_rfl) (fun _ _ _ h => h) (Or.inl ⟨by rfl, ?_⟩) ?_ ?_
  rotate_left
  · intro w'
    go_simp
    first | with_reducible rfl | (simp [Instr.field, go_sem]; rfl)
  rotate_left
  · simp only [Act.put, List.setIfInBounds_toArray, List.set_cons_zero, List.set_cons_succ]
    rfl
  refine take_ (i := 42) (N := some 89) (v := ?_) (a' := ?_) (bt 58 8796093022207) rfl rfl (by kernel_rfl) (fun _ _ _ h => h) (Or.inl ⟨by rfl, ?_⟩) hHeld ?_ ?_
  rotate_left
  · intro w' hS
    refine (?_ : Sem.run Try.prog (execOp _ _) w' = Result.ok (Next.value (Value.agg csF)) w')
    exact Fi.run_load (by rfl) (by rfl) (Fi.load31 hS.1 (Fi.V_size hS.2.2.1))
  rotate_left
  · simp only [Act.put, List.setIfInBounds_toArray, List.set_cons_zero, List.set_cons_succ]
    rfl
  refine one_ (i := 43) (N := some 90) (bt 58 17592186044415) rfl rfl (by kernel_rfl) (by decide) (fun K hK => ?_)
  refine goes_ Try.func19 (by kernel_rfl) rfl #[.agg csF] (by rfl) rfl rfl (by (try simp only [List.map_toArray, List.map_cons, List.map_nil]); first | done | rfl) ?_
  refine (Fi.right hHeld.2.2.1 Fi.s9).mono ?_
  rintro e w6 ⟨rfl, hb⟩
  refine ⟨_, rfl, ?_⟩
  refine hK.out _ _ (hHeld.step hb) (fun hHeld => ?_)
  clear hK K hb
  refine norm_ (a' := ?_) ?_ ?_
  rotate_left
  · show Act.put _ (some 90) _ = _
    simp only [Act.put, List.setIfInBounds_toArray, List.set_cons_zero, List.set_cons_succ]
    rfl
  refine pure_ (i := 44) (N := some 91) (v := ?_) (a' := ?_) (bt 58 35184372088831) rfl rfl (by kernel_rfl) (fun _ _ _ h => h) (Or.inl ⟨by rfl, ?_⟩) ?_ ?_
  rotate_left
  · intro w'
    go_simp
    first | with_reducible rfl | (simp [Instr.field, go_sem]; rfl)
  rotate_left
  · simp only [Act.put, List.setIfInBounds_toArray, List.set_cons_zero, List.set_cons_succ]
    rfl
  refine pure_ (i := 45) (N := some 92) (v := ?_) (a' := ?_) (bt 58 70368744177663) rfl rfl (by kernel_rfl) (fun _ _ _ h => h) (Or.inl ⟨by rfl, ?_⟩) ?_ ?_
  rotate_left
  · intro w'
    go_simp
    first | with_reducible rfl | (simp [Instr.field, go_sem]; rfl)
  rotate_left
  · simp only [Act.put, List.setIfInBounds_toArray, List.set_cons_zero, List.set_cons_succ]
    rfl
  refine take_ (i := 46) (N := some 93) (v := ?_) (a' := ?_) (bt 58 140737488355327) rfl rfl (by kernel_rfl) (fun _ _ _ h => h) (Or.inl ⟨by rfl, ?_⟩) hHeld ?_ ?_
  rotate_left
  · intro w' hS
    refine (?_ : Sem.run Try.prog (execOp _ _) w' = Result.ok (Next.value (Value.agg csF)) w')
    exact Fi.run_load (by rfl) (by rfl) (Fi.load31 hS.1 (Fi.V_size hS.2.2.1))
  rotate_left
  · simp only [Act.put, List.setIfInBounds_toArray, List.set_cons_zero, List.set_cons_succ]
    rfl
  refine take_ (i := 47) (N := some 94) (v := ?_) (a' := ?_) (bt 58 281474976710655) rfl rfl (by kernel_rfl) (fun _ _ _ h => h) (Or.inl ⟨by rfl, ?_⟩) hHeld ?_ ?_
  rotate_left
  · intro w' hS
    refine (?_ : Sem.run Try.prog (execOp _ _) w' = Result.ok (Next.value (Value.agg csF)) w')
    exact Fi.run_load (by rfl) (by rfl) (Fi.load31 hS.1 (Fi.V_size hS.2.2.1))
  rotate_left
  · simp only [Act.put, List.setIfInBounds_toArray, List.set_cons_zero, List.set_cons_succ]
    rfl
  refine one_ (i := 48) (N := some 95) (bt 58 562949953421311) rfl rfl (by kernel_rfl) (by decide) (fun K hK => ?_)
  refine goes_ Try.func10 (by kernel_rfl) rfl #[.agg csF] (by rfl) rfl rfl (by (try simp only [List.map_toArray, List.map_cons, List.map_nil]); first | done | rfl) ?_
  refine (Fi.copyE hHeld.2.2.1 Fi.s11).mono ?_
  rintro e w6 ⟨csC, rfl, hC, hb⟩
  have HC := Aside0.mk hC.V
  clear hC
  refine ⟨_, rfl, ?_⟩
  refine hK.out _ _ (hHeld.step hb) (fun hHeld => ?_)
  clear hK K hb
  refine norm_ (a' := ?_) ?_ ?_
  rotate_left
  · show Act.put _ (some 95) _ = _
    simp only [Act.put, List.setIfInBounds_toArray, List.set_cons_zero, List.set_cons_succ]
    rfl
  refine one_ (i := 49) (N := some 96) (bt 58 1125899906842623) rfl rfl (by kernel_rfl) (by decide) (fun K hK => ?_)
  refine goes_ Try.func17 (by kernel_rfl) rfl #[.agg csF, .agg csC] (by rfl) rfl rfl (by (try simp only [List.map_toArray, List.map_cons, List.map_nil]); first | done | rfl) ?_
  refine (Fi.same hHeld.2.2.1 HC.out Fi.s11 (Fi.eqb_self _)).mono ?_
  rintro e w6 ⟨rfl, hb⟩
  refine ⟨_, rfl, ?_⟩
  refine hK.out _ _ (hHeld.step hb) (fun hHeld => ?_)
  clear hK K hb
  clear HC
  refine norm_ (a' := ?_) ?_ ?_
  rotate_left
  · show Act.put _ (some 96) _ = _
    simp only [Act.put, List.setIfInBounds_toArray, List.set_cons_zero, List.set_cons_succ]
    rfl
  refine pure_ (i := 50) (N := some 97) (v := ?_) (a' := ?_) (bt 58 2251799813685247) rfl rfl (by kernel_rfl) (fun _ _ _ h => h) (Or.inl ⟨by rfl, ?_⟩) ?_ ?_
  rotate_left
  · intro w'
    go_simp
    first | with_reducible rfl | (simp [Instr.field, go_sem]; rfl)
  rotate_left
  · simp only [Act.put, List.setIfInBounds_toArray, List.set_cons_zero, List.set_cons_succ]
    rfl
  refine pure_ (i := 51) (N := some 98) (v := ?_) (a' := ?_) (bt 58 4503599627370495) rfl rfl (by kernel_rfl) (fun _ _ _ h => h) (Or.inl ⟨by rfl, ?_⟩) ?_ ?_
  rotate_left
  · intro w'
    go_simp
    first | with_reducible rfl | (simp [Instr.field, go_sem]; rfl)
  rotate_left
  · simp only [Act.put, List.setIfInBounds_toArray, List.set_cons_zero, List.set_cons_succ]
    rfl
  refine take_ (i := 52) (N := some 99) (v := ?_) (a' := ?_) (bt 58 9007199254740991) rfl rfl (by kernel_rfl) (fun _ _ _ h => h) (Or.inl ⟨by rfl, ?_⟩) hHeld ?_ ?_
  rotate_left
  · intro w' hS
    refine (?_ : Sem.run Try.prog (execOp _ _) w' = Result.ok (Next.value (Value.agg csF)) w')
    exact Fi.run_load (by rfl) (by rfl) (Fi.load31 hS.1 (Fi.V_size hS.2.2.1))
  rotate_left
  · simp only [Act.put, List.setIfInBounds_toArray, List.set_cons_zero, List.set_cons_succ]
    rfl
  refine take_ (i := 53) (N := some 100) (v := ?_) (a' := ?_) (bt 58 18014398509481983) rfl rfl (by kernel_rfl) (fun _ _ _ h => h) (Or.inl ⟨by rfl, ?_⟩) hHeld ?_ ?_
  rotate_left
  · intro w' hS
    refine (?_ : Sem.run Try.prog (execOp _ _) w' = Result.ok (Next.value (Value.agg csX)) w')
    exact Fi.run_load (by rfl) (by rfl) (Fi.load31 hS.2.1 (Fi.V_size hS.2.2.2.1))
  rotate_left
  · simp only [Act.put, List.setIfInBounds_toArray, List.set_cons_zero, List.set_cons_succ]
    rfl
  refine one_ (i := 54) (N := some 101) (bt 58 36028797018963967) rfl rfl (by kernel_rfl) (by decide) (fun K hK => ?_)
  refine goes_ Try.func17 (by kernel_rfl) rfl #[.agg csF, .agg csX] (by rfl) rfl rfl (by (try simp only [List.map_toArray, List.map_cons, List.map_nil]); first | done | rfl) ?_
  refine (Fi.same_no hHeld.2.2.1 hHeld.2.2.2.1 Fi.s11 rfl rfl rfl (by decide)).mono ?_
  rintro e w6 ⟨rfl, hb⟩
  refine ⟨_, rfl, ?_⟩
  refine hK.out _ _ (hHeld.step hb) (fun hHeld => ?_)
  clear hK K hb
  refine norm_ (a' := ?_) ?_ ?_
  rotate_left
  · show Act.put _ (some 101) _ = _
    simp only [Act.put, List.setIfInBounds_toArray, List.set_cons_zero, List.set_cons_succ]
    rfl
  refine pure_ (i := 55) (N := some 102) (v := ?_) (a' := ?_) (bt 58 72057594037927935) rfl rfl (by kernel_rfl) (fun _ _ _ h => h) (Or.inl ⟨by rfl, ?_⟩) ?_ ?_
  rotate_left
  · intro w'
    go_simp
    first | with_reducible rfl | (simp [Instr.field, go_sem]; rfl)
  rotate_left
  · simp only [Act.put, List.setIfInBounds_toArray, List.set_cons_zero, List.set_cons_succ]
    rfl
  refine pure_ (i := 56) (N := some 103) (v := ?_) (a' := ?_) (bt 58 144115188075855871) rfl rfl (by kernel_rfl) (fun _ _ _ h => h) (Or.inl ⟨by rfl, ?_⟩) ?_ ?_
  rotate_left
  · intro w'
    go_simp
    first | with_reducible rfl | (simp [Instr.field, go_sem]; rfl)
  rotate_left
  · simp only [Act.put, List.setIfInBounds_toArray, List.set_cons_zero, List.set_cons_succ]
    rfl
  refine pure_ (i := 57) (N := some 0) (v := ?_) (a' := ?_) (bt 58 288230376151711743) rfl rfl (by kernel_rfl) (fun _ _ _ h => h) (Or.inl ⟨by rfl, ?_⟩) ?_ ?_
  rotate_left
  · intro w'
    go_simp
    first | with_reducible rfl | (simp [Instr.field, go_sem]; rfl)
  rotate_left
  · simp only [Act.put, List.setIfInBounds_toArray, List.set_cons_zero, List.set_cons_succ]
    rfl
  refine done_ (by kernel_rfl) ?_
  go_wp2
  go_ret
  exact ⟨rfl, hHeld.2.2.2.2.2.2.2⟩

end Go.Proofs.Ytamcpmfimicnjaa.P
