import Derived.Test.YtamcpmfimicnjaaX
import Derived.Test.YtamcpmfimicnjaaFe
import Derived.Test.YtamcpmfimicnjaaLFile
namespace Go.Proofs.Ytamcpmfimicnjaa.P
open Go.RowKit Go.Proofs.YtamcpmfimicnjaaW.PrintWords Go.Proofs.YtamcpmfimicnjaaW.PrintLast Go.Proofs.YtamcpmfimicnjaaW.PrintMore
attribute [local go_sem] max2_int min2_int max_two min_two max_three min_three max_four min_four   -- for this text's walks alone
set_option linter.unusedVariables false
set_option linter.unusedSimpArgs false
open Go.Proofs.Ytamcpmfimicnjaa.L

def Fi.Tr0 : Bool × List (List Nat × List Nat) := (true, [([], []), ([], []), ([1], [1]), ([2], [2]), ([3, 3], [3]), ([], []), ([5], [5]), ([6], [6]), ([7, 7], [7]), ([], []), ([9], [9]), ([10], [10]), ([11, 11], [11]), ([], []), ([13], [13]), ([14], [14]), ([15, 15], [15]), ([0, 4, 8, 12, 16], [0, 4, 8, 12, 16]), ([17, 0, 1, 2, 3, 4, 5, 6, 7, 8, 9, 10, 11, 12, 13, 14, 15, 16, 17], [17])])
def Fi.Br0 : List Nat := [0, 0, 2, 6, 14, 0, 32, 96, 224, 0, 512, 1536, 3584, 0, 8192, 24576, 57344, 131071, 262143]
theorem Fi.Tr : rtab .any (opsOf Try.f23 1) = Fi.Tr0 := by kernel_rfl
theorem Fi.Br : waitsOk Fi.Tr0.2 Fi.Br0 = true := by kernel_rfl
set_option maxHeartbeats 4000000 in
set_option maxRecDepth 100000 in
theorem Fi.rnew {a0 a1 a2 a3 a4 a5 a6 a7 a8 a9 : Int} {w : World} (hP : BankP a0 a1 a2 a3 a4 a5 a6 a7 a8 a9) : Calls Try.prog 23 #[.agg #[.int .i64 a0, .int .i64 a1, .int .i64 a2, .int .i64 a3, .int .i64 a4, .int .i64 a5, .int .i64 a6, .int .i64 a7, .int .i64 a8, .int .i64 a9]] w fun e w' => ∃ cs', e = .returned (.agg cs') ∧ Fi.N w' w.heap.size cs' (Fi.new a0 a1 a2 a3 a4 a5 a6 a7 a8 a9) ∧ Below w.heap.size w w' := by
  have hu := Try.underlying31
  have hu25 := Try.underlying25
  have hu23 := Try.underlying23
  have hz := Fi.zero
  have HB := Aside0.mk (Below.refl w.heap.size w)
  rw [show Fi.new a0 a1 a2 a3 a4 a5 a6 a7 a8 a9 = _ from if_pos hP]
  obtain ⟨⟨pa1, qa1⟩, ⟨pa3, qa3⟩, ⟨pa5, qa5⟩, ⟨pa7, qa7⟩⟩ : (0 ≤ a1 ∧ a1 ≤ 65536) ∧ (0 ≤ a3 ∧ a3 ≤ 65536) ∧ (0 ≤ a5 ∧ a5 ≤ 65536) ∧ (0 ≤ a7 ∧ a7 ≤ 65536) := by
    obtain ⟨p1, p2, p3, p4, p5⟩ := hP
    unfold RightP at p1 p2 p3 p4
    omega
  have ha10 := Aside0.mk pa1
  have ha11 := Aside0.mk (show a1.toNat * 1 ≤ 281474976710656 by omega)
  have ha30 := Aside0.mk pa3
  have ha31 := Aside0.mk (show a3.toNat * 1 ≤ 281474976710656 by omega)
  have ha50 := Aside0.mk pa5
  have ha51 := Aside0.mk (show a5.toNat * 2 ≤ 281474976710656 by omega)
  have ha70 := Aside0.mk pa7
  have ha71 := Aside0.mk (show a7.toNat * 2 ≤ 281474976710656 by omega)
  clear hP pa1 qa1 pa3 qa3 pa5 qa5 pa7 qa7
  go_enter Try.func23, Try.ntmps23
  go_wp2_with (first
    | ((with_reducible refine gate_dst (N := 1) rfl ?_); refine box_event ?hg (N := 1) ?hd (cs := #[.int .i64 a0, .int .i64 a1, .int .i64 a2, .int .i64 a3, .int .i64 a4, .int .i64 a5, .int .i64 a6, .int .i64 a7, .int .i64 a8, .int .i64 a9]) (t := 25) ?hr ?_; (case hd => rfl); (case hg => rfl); (case hr => first | (go_simp; done) | (go_simp; rfl)); intro g hg w1 hbox hb; have GEg := Aside0.mk ((by rw [hg]; exact HB.out.size) : w.heap.size ≤ g); have BKg := Aside0.mk hbox; clear hbox hg; have n0_ := Aside0.mk (below_step HB.out hb); clear HB; have HB := n0_; clear n0_; skip; clear hb)
    | ((with_reducible refine gate_dst (N := 2) rfl ?_); refine box_event ?hg (N := 2) ?hd (cs := #[.int .i64 0, .int .i64 0, .int .i64 0, .int .i64 0, .int .i64 0, .int .i64 0, .int .i64 0, .int .i64 0, .int .i64 0, .int .i64 0, .slice none 0 0, .slice none 0 0, .slice none 0 0, .slice none 0 0]) (t := 31) ?hr ?_; (case hd => rfl); (case hg => rfl); (case hr => first | (go_simp; done) | (go_simp; rfl)); intro b hg w1b hbox hb; have NB := Aside0.mk (show g ≠ b by rw [hg]; exact Nat.ne_of_lt (blk_lt BKg.out)); have GEb := Aside0.mk ((by rw [hg]; exact HB.out.size) : w.heap.size ≤ b); have BKb := Aside0.mk hbox; clear hbox hg; have n0_ := Aside0.mk (below_step HB.out hb); have n1_ := Aside0.mk (blk_below BKg.out hb); clear HB BKg; have HB := n0_; have BKg := n1_; clear n0_ n1_; skip; clear hb))
  refine start_ (n := 19) (S := Fi.SC w g a0 a1 a2 a3 a4 a5 a6 a7 a8 a9) (ds := []) (bt 19 0) (by kernel_rfl) rfl (by kernel_rfl) ⟨blk_drew BKg.out, below_drew1 HB.out⟩ (fun hHeld => ?_); refine with_tabW Fi.Tr Fi.Br (fun HT_ HW_ => ?_)
  have BKb2 := Aside0.mk (blk_drew BKb.out)
  clear BKb BKg HB
  have BKb := BKb2
  clear BKb2
  generalize w1b.drew = w5 at BKb hHeld ⊢
  refine pure_ (i := 1) (N := some 4) (v := ?_) (a' := ?_) (bt 19 2) rfl rfl (any_of HT_.out (by kernel_rfl)) (fun _ _ _ h => h) (Or.inl ⟨by rfl, ?_⟩) ?_ ?_
  rotate_left
  · intro w'
    go_simp
    first | with_reducible rfl | (simp [Instr.field, go_sem]; rfl)
  rotate_left
  · simp only [Act.put, List.setIfInBounds_toArray, List.set_cons_zero, List.set_cons_succ, i64_w, i32_w]
    rfl
  refine pure_ (i := 2) (N := some 5) (v := ?_) (a' := ?_) (bt 19 6) rfl rfl (any_of HT_.out (by kernel_rfl)) (fun _ _ _ h => h) (Or.inl ⟨by rfl, ?_⟩) ?_ ?_
  rotate_left
  · intro w'
    go_simp
    first | with_reducible rfl | (simp [Instr.field, go_sem]; rfl)
  rotate_left
  · simp only [Act.put, List.setIfInBounds_toArray, List.set_cons_zero, List.set_cons_succ, i64_w, i32_w]
    rfl
  refine pure_ (i := 5) (N := some 8) (v := ?_) (a' := ?_) (bt 19 38) rfl rfl (any_of HT_.out (by kernel_rfl)) (fun _ _ _ h => h) (Or.inl ⟨by rfl, ?_⟩) ?_ ?_
  rotate_left
  · intro w'
    go_simp
    first | with_reducible rfl | (simp [Instr.field, go_sem]; rfl)
  rotate_left
  · simp only [Act.put, List.setIfInBounds_toArray, List.set_cons_zero, List.set_cons_succ, i64_w, i32_w]
    rfl
  refine pure_ (i := 6) (N := some 9) (v := ?_) (a' := ?_) (bt 19 102) rfl rfl (any_of HT_.out (by kernel_rfl)) (fun _ _ _ h => h) (Or.inl ⟨by rfl, ?_⟩) ?_ ?_
  rotate_left
  · intro w'
    go_simp
    first | with_reducible rfl | (simp [Instr.field, go_sem]; rfl)
  rotate_left
  · simp only [Act.put, List.setIfInBounds_toArray, List.set_cons_zero, List.set_cons_succ, i64_w, i32_w]
    rfl
  refine pure_ (i := 9) (N := some 12) (v := ?_) (a' := ?_) (bt 19 614) rfl rfl (any_of HT_.out (by kernel_rfl)) (fun _ _ _ h => h) (Or.inl ⟨by rfl, ?_⟩) ?_ ?_
  rotate_left
  · intro w'
    go_simp
    first | with_reducible rfl | (simp [Instr.field, go_sem]; rfl)
  rotate_left
  · simp only [Act.put, List.setIfInBounds_toArray, List.set_cons_zero, List.set_cons_succ, i64_w, i32_w]
    rfl
  refine pure_ (i := 10) (N := some 13) (v := ?_) (a' := ?_) (bt 19 1638) rfl rfl (any_of HT_.out (by kernel_rfl)) (fun _ _ _ h => h) (Or.inl ⟨by rfl, ?_⟩) ?_ ?_
  rotate_left
  · intro w'
    go_simp
    first | with_reducible rfl | (simp [Instr.field, go_sem]; rfl)
  rotate_left
  · simp only [Act.put, List.setIfInBounds_toArray, List.set_cons_zero, List.set_cons_succ, i64_w, i32_w]
    rfl
  refine pure_ (i := 13) (N := some 16) (v := ?_) (a' := ?_) (bt 19 9830) rfl rfl (any_of HT_.out (by kernel_rfl)) (fun _ _ _ h => h) (Or.inl ⟨by rfl, ?_⟩) ?_ ?_
  rotate_left
  · intro w'
    go_simp
    first | with_reducible rfl | (simp [Instr.field, go_sem]; rfl)
  rotate_left
  · simp only [Act.put, List.setIfInBounds_toArray, List.set_cons_zero, List.set_cons_succ, i64_w, i32_w]
    rfl
  refine pure_ (i := 14) (N := some 17) (v := ?_) (a' := ?_) (bt 19 26214) rfl rfl (any_of HT_.out (by kernel_rfl)) (fun _ _ _ h => h) (Or.inl ⟨by rfl, ?_⟩) ?_ ?_
  rotate_left
  · intro w'
    go_simp
    first | with_reducible rfl | (simp [Instr.field, go_sem]; rfl)
  rotate_left
  · simp only [Act.put, List.setIfInBounds_toArray, List.set_cons_zero, List.set_cons_succ, i64_w, i32_w]
    rfl
  refine take_ (i := 0) (N := some 3) (v := ?_) (a' := ?_) (bt 19 26215) rfl rfl (take_ofW HT_.out HW_.out (by kernel_rfl)) (fun _ _ _ h => h) (Or.inl ⟨by rfl, ?_⟩) hHeld ?_ ?_
  rotate_left
  · rintro w' ⟨h1_, h2_⟩
    have s0_ : w'.cell? ⟨g, 0, none⟩ = some (.int .i64 a0) := (blk_cell h1_ 0).trans rfl; have s1_ : w'.cell? ⟨g, 1, none⟩ = some (.int .i64 a1) := (blk_cell h1_ 1).trans rfl; have s2_ : w'.cell? ⟨g, 2, none⟩ = some (.int .i64 a2) := (blk_cell h1_ 2).trans rfl; have s3_ : w'.cell? ⟨g, 3, none⟩ = some (.int .i64 a3) := (blk_cell h1_ 3).trans rfl; have s4_ : w'.cell? ⟨g, 4, none⟩ = some (.int .i64 a4) := (blk_cell h1_ 4).trans rfl; have s5_ : w'.cell? ⟨g, 5, none⟩ = some (.int .i64 a5) := (blk_cell h1_ 5).trans rfl; have s6_ : w'.cell? ⟨g, 6, none⟩ = some (.int .i64 a6) := (blk_cell h1_ 6).trans rfl; have s7_ : w'.cell? ⟨g, 7, none⟩ = some (.int .i64 a7) := (blk_cell h1_ 7).trans rfl; have s8_ : w'.cell? ⟨g, 8, none⟩ = some (.int .i64 a8) := (blk_cell h1_ 8).trans rfl; have s9_ : w'.cell? ⟨g, 9, none⟩ = some (.int .i64 a9) := (blk_cell h1_ 9).trans rfl
    clear h1_ h2_
    go_simp
    first | with_reducible rfl | (simp [Instr.field, go_sem]; rfl)
  rotate_left
  · simp only [Act.put, List.setIfInBounds_toArray, List.set_cons_zero, List.set_cons_succ, i64_w, i32_w]
    rfl
  refine take_ (i := 3) (N := some 6) (v := ?_) (a' := ?_) (bt 19 26223) rfl rfl (take_ofW HT_.out HW_.out (by kernel_rfl)) (fun _ _ _ h => h) (Or.inl ⟨by rfl, ?_⟩) hHeld ?_ ?_
  rotate_left
  · rintro w' ⟨h1_, h2_⟩
    have s0_ : w'.cell? ⟨g, 0, none⟩ = some (.int .i64 a0) := (blk_cell h1_ 0).trans rfl; have s1_ : w'.cell? ⟨g, 1, none⟩ = some (.int .i64 a1) := (blk_cell h1_ 1).trans rfl; have s2_ : w'.cell? ⟨g, 2, none⟩ = some (.int .i64 a2) := (blk_cell h1_ 2).trans rfl; have s3_ : w'.cell? ⟨g, 3, none⟩ = some (.int .i64 a3) := (blk_cell h1_ 3).trans rfl; have s4_ : w'.cell? ⟨g, 4, none⟩ = some (.int .i64 a4) := (blk_cell h1_ 4).trans rfl; have s5_ : w'.cell? ⟨g, 5, none⟩ = some (.int .i64 a5) := (blk_cell h1_ 5).trans rfl; have s6_ : w'.cell? ⟨g, 6, none⟩ = some (.int .i64 a6) := (blk_cell h1_ 6).trans rfl; have s7_ : w'.cell? ⟨g, 7, none⟩ = some (.int .i64 a7) := (blk_cell h1_ 7).trans rfl; have s8_ : w'.cell? ⟨g, 8, none⟩ = some (.int .i64 a8) := (blk_cell h1_ 8).trans rfl; have s9_ : w'.cell? ⟨g, 9, none⟩ = some (.int .i64 a9) := (blk_cell h1_ 9).trans rfl
    clear h1_ h2_
    go_simp
    first | with_reducible rfl | (simp [Instr.field, go_sem]; rfl)
  rotate_left
  · simp only [Act.put, List.setIfInBounds_toArray, List.set_cons_zero, List.set_cons_succ, i64_w, i32_w]
    rfl
  refine take_ (i := 7) (N := some 10) (v := ?_) (a' := ?_) (bt 19 26351) rfl rfl (take_ofW HT_.out HW_.out (by kernel_rfl)) (fun _ _ _ h => h) (Or.inl ⟨by rfl, ?_⟩) hHeld ?_ ?_
  rotate_left
  · rintro w' ⟨h1_, h2_⟩
    have s0_ : w'.cell? ⟨g, 0, none⟩ = some (.int .i64 a0) := (blk_cell h1_ 0).trans rfl; have s1_ : w'.cell? ⟨g, 1, none⟩ = some (.int .i64 a1) := (blk_cell h1_ 1).trans rfl; have s2_ : w'.cell? ⟨g, 2, none⟩ = some (.int .i64 a2) := (blk_cell h1_ 2).trans rfl; have s3_ : w'.cell? ⟨g, 3, none⟩ = some (.int .i64 a3) := (blk_cell h1_ 3).trans rfl; have s4_ : w'.cell? ⟨g, 4, none⟩ = some (.int .i64 a4) := (blk_cell h1_ 4).trans rfl; have s5_ : w'.cell? ⟨g, 5, none⟩ = some (.int .i64 a5) := (blk_cell h1_ 5).trans rfl; have s6_ : w'.cell? ⟨g, 6, none⟩ = some (.int .i64 a6) := (blk_cell h1_ 6).trans rfl; have s7_ : w'.cell? ⟨g, 7, none⟩ = some (.int .i64 a7) := (blk_cell h1_ 7).trans rfl; have s8_ : w'.cell? ⟨g, 8, none⟩ = some (.int .i64 a8) := (blk_cell h1_ 8).trans rfl; have s9_ : w'.cell? ⟨g, 9, none⟩ = some (.int .i64 a9) := (blk_cell h1_ 9).trans rfl
    clear h1_ h2_
    go_simp
    first | with_reducible rfl | (simp [Instr.field, go_sem]; rfl)
  rotate_left
  · simp only [Act.put, List.setIfInBounds_toArray, List.set_cons_zero, List.set_cons_succ, i64_w, i32_w]
    rfl
  refine take_ (i := 11) (N := some 14) (v := ?_) (a' := ?_) (bt 19 28399) rfl rfl (take_ofW HT_.out HW_.out (by kernel_rfl)) (fun _ _ _ h => h) (Or.inl ⟨by rfl, ?_⟩) hHeld ?_ ?_
  rotate_left
  · rintro w' ⟨h1_, h2_⟩
    have s0_ : w'.cell? ⟨g, 0, none⟩ = some (.int .i64 a0) := (blk_cell h1_ 0).trans rfl; have s1_ : w'.cell? ⟨g, 1, none⟩ = some (.int .i64 a1) := (blk_cell h1_ 1).trans rfl; have s2_ : w'.cell? ⟨g, 2, none⟩ = some (.int .i64 a2) := (blk_cell h1_ 2).trans rfl; have s3_ : w'.cell? ⟨g, 3, none⟩ = some (.int .i64 a3) := (blk_cell h1_ 3).trans rfl; have s4_ : w'.cell? ⟨g, 4, none⟩ = some (.int .i64 a4) := (blk_cell h1_ 4).trans rfl; have s5_ : w'.cell? ⟨g, 5, none⟩ = some (.int .i64 a5) := (blk_cell h1_ 5).trans rfl; have s6_ : w'.cell? ⟨g, 6, none⟩ = some (.int .i64 a6) := (blk_cell h1_ 6).trans rfl; have s7_ : w'.cell? ⟨g, 7, none⟩ = some (.int .i64 a7) := (blk_cell h1_ 7).trans rfl; have s8_ : w'.cell? ⟨g, 8, none⟩ = some (.int .i64 a8) := (blk_cell h1_ 8).trans rfl; have s9_ : w'.cell? ⟨g, 9, none⟩ = some (.int .i64 a9) := (blk_cell h1_ 9).trans rfl
    clear h1_ h2_
    go_simp
    first | with_reducible rfl | (simp [Instr.field, go_sem]; rfl)
  rotate_left
  · simp only [Act.put, List.setIfInBounds_toArray, List.set_cons_zero, List.set_cons_succ, i64_w, i32_w]
    rfl
  refine take_ (i := 15) (N := some 18) (v := ?_) (a' := ?_) (bt 19 61167) rfl rfl (take_ofW HT_.out HW_.out (by kernel_rfl)) (fun _ _ _ h => h) (Or.inl ⟨by rfl, ?_⟩) hHeld ?_ ?_
  rotate_left
  · rintro w' ⟨h1_, h2_⟩
    have s0_ : w'.cell? ⟨g, 0, none⟩ = some (.int .i64 a0) := (blk_cell h1_ 0).trans rfl; have s1_ : w'.cell? ⟨g, 1, none⟩ = some (.int .i64 a1) := (blk_cell h1_ 1).trans rfl; have s2_ : w'.cell? ⟨g, 2, none⟩ = some (.int .i64 a2) := (blk_cell h1_ 2).trans rfl; have s3_ : w'.cell? ⟨g, 3, none⟩ = some (.int .i64 a3) := (blk_cell h1_ 3).trans rfl; have s4_ : w'.cell? ⟨g, 4, none⟩ = some (.int .i64 a4) := (blk_cell h1_ 4).trans rfl; have s5_ : w'.cell? ⟨g, 5, none⟩ = some (.int .i64 a5) := (blk_cell h1_ 5).trans rfl; have s6_ : w'.cell? ⟨g, 6, none⟩ = some (.int .i64 a6) := (blk_cell h1_ 6).trans rfl; have s7_ : w'.cell? ⟨g, 7, none⟩ = some (.int .i64 a7) := (blk_cell h1_ 7).trans rfl; have s8_ : w'.cell? ⟨g, 8, none⟩ = some (.int .i64 a8) := (blk_cell h1_ 8).trans rfl; have s9_ : w'.cell? ⟨g, 9, none⟩ = some (.int .i64 a9) := (blk_cell h1_ 9).trans rfl
    clear h1_ h2_
    go_simp
    first | with_reducible rfl | (simp [Instr.field, go_sem]; rfl)
  rotate_left
  · simp only [Act.put, List.setIfInBounds_toArray, List.set_cons_zero, List.set_cons_succ, i64_w, i32_w]
    rfl
  refine join_ (σ := Value × Value × Value × Value) 2 (bt 19 131071) (fun s_ => [(7, s_.1), (11, s_.2.1), (15, s_.2.2.1), (19, s_.2.2.2)]) (fun s_ w' => Fi.SC w g a0 a1 a2 a3 a4 a5 a6 a7 a8 a9 w' ∧ w'.heap[b]? = some (.cells Fi.Z 31 (0, 0)) ∧ Fi.RB w w' s_.1 a1 ∧ Fi.RB w w' s_.2.1 a3 ∧ Fi.RW w w' s_.2.2.1 a5 ∧ Fi.RW w w' s_.2.2.2 a7) ?_ ?_
  rotate_left
  · intro hJ4_8_12_16
    refine join_ (σ := Value × Value × Value) 3 (bt 19 65535) (fun s_ => [(7, s_.1), (11, s_.2.1), (15, s_.2.2)]) (fun s_ w' => Fi.SC w g a0 a1 a2 a3 a4 a5 a6 a7 a8 a9 w' ∧ w'.heap[b]? = some (.cells Fi.Z 31 (0, 0)) ∧ Fi.RB w w' s_.1 a1 ∧ Fi.RB w w' s_.2.1 a3 ∧ Fi.RW w w' s_.2.2 a5) ?_ ?_
    rotate_left
    · intro hJ4_8_12
      refine join_ (σ := Value × Value × Value) 3 (bt 19 126975) (fun s_ => [(7, s_.1), (11, s_.2.1), (19, s_.2.2)]) (fun s_ w' => Fi.SC w g a0 a1 a2 a3 a4 a5 a6 a7 a8 a9 w' ∧ w'.heap[b]? = some (.cells Fi.Z 31 (0, 0)) ∧ Fi.RB w w' s_.1 a1 ∧ Fi.RB w w' s_.2.1 a3 ∧ Fi.RW w w' s_.2.2 a7) ?_ ?_
      rotate_left
      · intro hJ4_8_16
        refine join_ (σ := Value × Value × Value) 3 (bt 19 130815) (fun s_ => [(7, s_.1), (15, s_.2.1), (19, s_.2.2)]) (fun s_ w' => Fi.SC w g a0 a1 a2 a3 a4 a5 a6 a7 a8 a9 w' ∧ w'.heap[b]? = some (.cells Fi.Z 31 (0, 0)) ∧ Fi.RB w w' s_.1 a1 ∧ Fi.RW w w' s_.2.1 a5 ∧ Fi.RW w w' s_.2.2 a7) ?_ ?_
        rotate_left
        · intro hJ4_12_16
          refine join_ (σ := Value × Value × Value) 3 (bt 19 131055) (fun s_ => [(11, s_.1), (15, s_.2.1), (19, s_.2.2)]) (fun s_ w' => Fi.SC w g a0 a1 a2 a3 a4 a5 a6 a7 a8 a9 w' ∧ w'.heap[b]? = some (.cells Fi.Z 31 (0, 0)) ∧ Fi.RB w w' s_.1 a3 ∧ Fi.RW w w' s_.2.1 a5 ∧ Fi.RW w w' s_.2.2 a7) ?_ ?_
          rotate_left
          · intro hJ8_12_16
            refine join_ (σ := Value × Value) 4 (bt 19 61439) (fun s_ => [(7, s_.1), (11, s_.2)]) (fun s_ w' => Fi.SC w g a0 a1 a2 a3 a4 a5 a6 a7 a8 a9 w' ∧ w'.heap[b]? = some (.cells Fi.Z 31 (0, 0)) ∧ Fi.RB w w' s_.1 a1 ∧ Fi.RB w w' s_.2 a3) ?_ ?_
            rotate_left
            · intro hJ4_8
              refine join_ (σ := Value × Value) 4 (bt 19 65279) (fun s_ => [(7, s_.1), (15, s_.2)]) (fun s_ w' => Fi.SC w g a0 a1 a2 a3 a4 a5 a6 a7 a8 a9 w' ∧ w'.heap[b]? = some (.cells Fi.Z 31 (0, 0)) ∧ Fi.RB w w' s_.1 a1 ∧ Fi.RW w w' s_.2 a5) ?_ ?_
              rotate_left
              · intro hJ4_12
                refine join_ (σ := Value × Value) 4 (bt 19 126719) (fun s_ => [(7, s_.1), (19, s_.2)]) (fun s_ w' => Fi.SC w g a0 a1 a2 a3 a4 a5 a6 a7 a8 a9 w' ∧ w'.heap[b]? = some (.cells Fi.Z 31 (0, 0)) ∧ Fi.RB w w' s_.1 a1 ∧ Fi.RW w w' s_.2 a7) ?_ ?_
                rotate_left
                · intro hJ4_16
                  refine join_ (σ := Value × Value) 4 (bt 19 65519) (fun s_ => [(11, s_.1), (15, s_.2)]) (fun s_ w' => Fi.SC w g a0 a1 a2 a3 a4 a5 a6 a7 a8 a9 w' ∧ w'.heap[b]? = some (.cells Fi.Z 31 (0, 0)) ∧ Fi.RB w w' s_.1 a3 ∧ Fi.RW w w' s_.2 a5) ?_ ?_
                  rotate_left
                  · intro hJ8_12
                    refine join_ (σ := Value × Value) 4 (bt 19 126959) (fun s_ => [(11, s_.1), (19, s_.2)]) (fun s_ w' => Fi.SC w g a0 a1 a2 a3 a4 a5 a6 a7 a8 a9 w' ∧ w'.heap[b]? = some (.cells Fi.Z 31 (0, 0)) ∧ Fi.RB w w' s_.1 a3 ∧ Fi.RW w w' s_.2 a7) ?_ ?_
                    rotate_left
                    · intro hJ8_16
                      refine join_ (σ := Value × Value) 4 (bt 19 130799) (fun s_ => [(15, s_.1), (19, s_.2)]) (fun s_ w' => Fi.SC w g a0 a1 a2 a3 a4 a5 a6 a7 a8 a9 w' ∧ w'.heap[b]? = some (.cells Fi.Z 31 (0, 0)) ∧ Fi.RW w w' s_.1 a5 ∧ Fi.RW w w' s_.2 a7) ?_ ?_
                      rotate_left
                      · intro hJ12_16
                        refine join_ (σ := Value) 5 (bt 19 61183) (fun s_ => [(7, s_)]) (fun s_ w' => Fi.SC w g a0 a1 a2 a3 a4 a5 a6 a7 a8 a9 w' ∧ w'.heap[b]? = some (.cells Fi.Z 31 (0, 0)) ∧ Fi.RB w w' s_ a1) ?_ ?_
                        rotate_left
                        · intro hJ4
                          refine join_ (σ := Value) 5 (bt 19 61423) (fun s_ => [(11, s_)]) (fun s_ w' => Fi.SC w g a0 a1 a2 a3 a4 a5 a6 a7 a8 a9 w' ∧ w'.heap[b]? = some (.cells Fi.Z 31 (0, 0)) ∧ Fi.RB w w' s_ a3) ?_ ?_
                          rotate_left
                          · intro hJ8
                            refine join_ (σ := Value) 5 (bt 19 65263) (fun s_ => [(15, s_)]) (fun s_ w' => Fi.SC w g a0 a1 a2 a3 a4 a5 a6 a7 a8 a9 w' ∧ w'.heap[b]? = some (.cells Fi.Z 31 (0, 0)) ∧ Fi.RW w w' s_ a5) ?_ ?_
                            rotate_left
                            · intro hJ12
                              refine join_ (σ := Value) 5 (bt 19 126703) (fun s_ => [(19, s_)]) (fun s_ w' => Fi.SC w g a0 a1 a2 a3 a4 a5 a6 a7 a8 a9 w' ∧ w'.heap[b]? = some (.cells Fi.Z 31 (0, 0)) ∧ Fi.RW w w' s_ a7) ?_ ?_
                              rotate_left
                              · intro hJ16
                                refine four_ (i := 4) (j := 8) (k := 12) (m := 16) (Ni := some 7) (Nj := some 11) (Nk := some 15) (Nm := some 19) (bt 19 61183) (bt 19 61423) (bt 19 65263) (bt 19 126703) rfl rfl rfl rfl rfl rfl rfl rfl (four_of HT_.out (by kernel_rfl)) (by decide) (by decide) (by decide) (by decide) (fun K hK => ?_) (fun K hK => ?_) (fun K hK => ?_) (fun K hK => ?_)
                                · skip
                                  refine Kd.R_make_step Kd.bool _ 4 (by rfl) (N := 7) rfl 28 _ _ rfl a1 rfl rfl Try.underlying28 (.bool false) 1 Fi.info4 rfl (by decide) (by omega) false (ok := fun _ => True) (okp := fun _ => True) rfl (fun _ hk => hk) trivial ha10.out ha11.out (Below.refl _ _) (Nat.le_refl _) ?_
                                  intro v4 w6 ho hb hg_ hnew_
                                  clear hg_ hnew_
                                  have hL := hHeld.2.size
                                  refine hK.out _ _ (hHeld.step hb) (fun hHeld => ?_)
                                  clear hK K
                                  refine norm_ (a' := ?_) ?_ ?_
                                  rotate_left
                                  · show Act.put _ (some 7) _ = _
                                    simp only [Act.put, List.setIfInBounds_toArray, List.set_cons_zero, List.set_cons_succ, i64_w, i32_w]
                                    rfl
                                  exact norm_ (by simp only [putAll, Act.put, List.setIfInBounds_toArray, List.set_cons_zero, List.set_cons_succ] <;> rfl) (hJ4 v4 _ ⟨hHeld, blk_below BKb.out hb, Kd.R_lower ho hL⟩)
                                · skip
                                  refine Kd.R_make_step Kd.bool _ 4 (by rfl) (N := 11) rfl 28 _ _ rfl a3 rfl rfl Try.underlying28 (.bool false) 1 Fi.info4 rfl (by decide) (by omega) false (ok := fun _ => True) (okp := fun _ => True) rfl (fun _ hk => hk) trivial ha30.out ha31.out (Below.refl _ _) (Nat.le_refl _) ?_
                                  intro v8 w6 ho hb hg_ hnew_
                                  clear hg_ hnew_
                                  have hL := hHeld.2.size
                                  refine hK.out _ _ (hHeld.step hb) (fun hHeld => ?_)
                                  clear hK K
                                  refine norm_ (a' := ?_) ?_ ?_
                                  rotate_left
                                  · show Act.put _ (some 11) _ = _
                                    simp only [Act.put, List.setIfInBounds_toArray, List.set_cons_zero, List.set_cons_succ, i64_w, i32_w]
                                    rfl
                                  exact norm_ (by simp only [putAll, Act.put, List.setIfInBounds_toArray, List.set_cons_zero, List.set_cons_succ] <;> rfl) (hJ8 v8 _ ⟨hHeld, blk_below BKb.out hb, Kd.R_lower ho hL⟩)
                                · skip
                                  refine Kd.R_make_step (Kd.int .u16) _ 53 (by rfl) (N := 15) rfl 29 _ _ rfl a5 rfl rfl Try.underlying29 (.int .u16 0) 2 Fi.info16 rfl (by decide) (by omega) 0 (ok := fun _ => True) (okp := fun _ => True) rfl (fun _ hk => hk) trivial ha50.out ha51.out (Below.refl _ _) (Nat.le_refl _) ?_
                                  intro v12 w6 ho hb hg_ hnew_
                                  clear hg_ hnew_
                                  have hL := hHeld.2.size
                                  refine hK.out _ _ (hHeld.step hb) (fun hHeld => ?_)
                                  clear hK K
                                  refine norm_ (a' := ?_) ?_ ?_
                                  rotate_left
                                  · show Act.put _ (some 15) _ = _
                                    simp only [Act.put, List.setIfInBounds_toArray, List.set_cons_zero, List.set_cons_succ, i64_w, i32_w]
                                    rfl
                                  exact norm_ (by simp only [putAll, Act.put, List.setIfInBounds_toArray, List.set_cons_zero, List.set_cons_succ] <;> rfl) (hJ12 v12 _ ⟨hHeld, blk_below BKb.out hb, Kd.R_lower ho hL⟩)
                                · skip
                                  refine Kd.R_make_step (Kd.int .u16) _ 53 (by rfl) (N := 19) rfl 29 _ _ rfl a7 rfl rfl Try.underlying29 (.int .u16 0) 2 Fi.info16 rfl (by decide) (by omega) 0 (ok := fun _ => True) (okp := fun _ => True) rfl (fun _ hk => hk) trivial ha70.out ha71.out (Below.refl _ _) (Nat.le_refl _) ?_
                                  intro v16 w6 ho hb hg_ hnew_
                                  clear hg_ hnew_
                                  have hL := hHeld.2.size
                                  refine hK.out _ _ (hHeld.step hb) (fun hHeld => ?_)
                                  clear hK K
                                  refine norm_ (a' := ?_) ?_ ?_
                                  rotate_left
                                  · show Act.put _ (some 19) _ = _
                                    simp only [Act.put, List.setIfInBounds_toArray, List.set_cons_zero, List.set_cons_succ, i64_w, i32_w]
                                    rfl
                                  exact norm_ (by simp only [putAll, Act.put, List.setIfInBounds_toArray, List.set_cons_zero, List.set_cons_succ] <;> rfl) (hJ16 v16 _ ⟨hHeld, blk_below BKb.out hb, Kd.R_lower ho hL⟩)
                              rintro v16 w5 ⟨hHeld, hBb, hO16⟩
                              have BKb3 := Aside0.mk hBb
                              clear BKb hBb
                              have BKb := BKb3
                              clear BKb3
                              have HO16 := Aside0.mk (show Kd.R (Kd.int .u16) 53 _ _ _ v16 (List.replicate a7.toNat 0) from hO16)
                              clear hO16
                              refine norm_ (a' := ?_) ?_ ?_
                              rotate_left
                              · simp only [putAll, Act.put, List.setIfInBounds_toArray, List.set_cons_zero, List.set_cons_succ]
                                rfl
                              refine three_ (i := 4) (j := 8) (k := 12) (Ni := some 7) (Nj := some 11) (Nk := some 15) (bt 19 126719) (bt 19 126959) (bt 19 130799) rfl rfl rfl rfl rfl rfl (three_of HT_.out (by kernel_rfl)) (by decide) (by decide) (by decide) (fun K hK => ?_) (fun K hK => ?_) (fun K hK => ?_)
                              · skip
                                refine Kd.R_make_step Kd.bool _ 4 (by rfl) (N := 7) rfl 28 _ _ rfl a1 rfl rfl Try.underlying28 (.bool false) 1 Fi.info4 rfl (by decide) (by omega) false (ok := fun _ => True) (okp := fun _ => True) rfl (fun _ hk => hk) trivial ha10.out ha11.out (Below.refl _ _) (Nat.le_refl _) ?_
                                intro v4 w6 ho hb hg_ hnew_
                                clear hg_ hnew_
                                have hL := hHeld.2.size
                                refine hK.out _ _ (hHeld.step hb) (fun hHeld => ?_)
                                clear hK K
                                refine norm_ (a' := ?_) ?_ ?_
                                rotate_left
                                · show Act.put _ (some 7) _ = _
                                  simp only [Act.put, List.setIfInBounds_toArray, List.set_cons_zero, List.set_cons_succ, i64_w, i32_w]
                                  rfl
                                exact norm_ (by simp only [putAll, Act.put, List.setIfInBounds_toArray, List.set_cons_zero, List.set_cons_succ] <;> rfl) (hJ4_16 (v4, v16) _ ⟨hHeld, blk_below BKb.out hb, Kd.R_lower ho hL, Kd.R_below HO16.out hb⟩)
                              · skip
                                refine Kd.R_make_step Kd.bool _ 4 (by rfl) (N := 11) rfl 28 _ _ rfl a3 rfl rfl Try.underlying28 (.bool false) 1 Fi.info4 rfl (by decide) (by omega) false (ok := fun _ => True) (okp := fun _ => True) rfl (fun _ hk => hk) trivial ha30.out ha31.out (Below.refl _ _) (Nat.le_refl _) ?_
                                intro v8 w6 ho hb hg_ hnew_
                                clear hg_ hnew_
                                have hL := hHeld.2.size
                                refine hK.out _ _ (hHeld.step hb) (fun hHeld => ?_)
                                clear hK K
                                refine norm_ (a' := ?_) ?_ ?_
                                rotate_left
                                · show Act.put _ (some 11) _ = _
                                  simp only [Act.put, List.setIfInBounds_toArray, List.set_cons_zero, List.set_cons_succ, i64_w, i32_w]
                                  rfl
                                exact norm_ (by simp only [putAll, Act.put, List.setIfInBounds_toArray, List.set_cons_zero, List.set_cons_succ] <;> rfl) (hJ8_16 (v8, v16) _ ⟨hHeld, blk_below BKb.out hb, Kd.R_lower ho hL, Kd.R_below HO16.out hb⟩)
                              · skip
                                refine Kd.R_make_step (Kd.int .u16) _ 53 (by rfl) (N := 15) rfl 29 _ _ rfl a5 rfl rfl Try.underlying29 (.int .u16 0) 2 Fi.info16 rfl (by decide) (by omega) 0 (ok := fun _ => True) (okp := fun _ => True) rfl (fun _ hk => hk) trivial ha50.out ha51.out (Below.refl _ _) (Nat.le_refl _) ?_
                                intro v12 w6 ho hb hg_ hnew_
                                clear hg_ hnew_
                                have hL := hHeld.2.size
                                refine hK.out _ _ (hHeld.step hb) (fun hHeld => ?_)
                                clear hK K
                                refine norm_ (a' := ?_) ?_ ?_
                                rotate_left
                                · show Act.put _ (some 15) _ = _
                                  simp only [Act.put, List.setIfInBounds_toArray, List.set_cons_zero, List.set_cons_succ, i64_w, i32_w]
                                  rfl
                                exact norm_ (by simp only [putAll, Act.put, List.setIfInBounds_toArray, List.set_cons_zero, List.set_cons_succ] <;> rfl) (hJ12_16 (v12, v16) _ ⟨hHeld, blk_below BKb.out hb, Kd.R_lower ho hL, Kd.R_below HO16.out hb⟩)
                            rintro v12 w5 ⟨hHeld, hBb, hO12⟩
                            have BKb3 := Aside0.mk hBb
                            clear BKb hBb
                            have BKb := BKb3
                            clear BKb3
                            have HO12 := Aside0.mk (show Kd.R (Kd.int .u16) 53 _ _ _ v12 (List.replicate a5.toNat 0) from hO12)
                            clear hO12
                            refine norm_ (a' := ?_) ?_ ?_
                            rotate_left
                            · simp only [putAll, Act.put, List.setIfInBounds_toArray, List.set_cons_zero, List.set_cons_succ]
                              rfl
                            refine three_ (i := 4) (j := 8) (k := 16) (Ni := some 7) (Nj := some 11) (Nk := some 19) (bt 19 65279) (bt 19 65519) (bt 19 130799) rfl rfl rfl rfl rfl rfl (three_of HT_.out (by kernel_rfl)) (by decide) (by decide) (by decide) (fun K hK => ?_) (fun K hK => ?_) (fun K hK => ?_)
                            · skip
                              refine Kd.R_make_step Kd.bool _ 4 (by rfl) (N := 7) rfl 28 _ _ rfl a1 rfl rfl Try.underlying28 (.bool false) 1 Fi.info4 rfl (by decide) (by omega) false (ok := fun _ => True) (okp := fun _ => True) rfl (fun _ hk => hk) trivial ha10.out ha11.out (Below.refl _ _) (Nat.le_refl _) ?_
                              intro v4 w6 ho hb hg_ hnew_
                              clear hg_ hnew_
                              have hL := hHeld.2.size
                              refine hK.out _ _ (hHeld.step hb) (fun hHeld => ?_)
                              clear hK K
                              refine norm_ (a' := ?_) ?_ ?_
                              rotate_left
                              · show Act.put _ (some 7) _ = _
                                simp only [Act.put, List.setIfInBounds_toArray, List.set_cons_zero, List.set_cons_succ, i64_w, i32_w]
                                rfl
                              exact norm_ (by simp only [putAll, Act.put, List.setIfInBounds_toArray, List.set_cons_zero, List.set_cons_succ] <;> rfl) (hJ4_12 (v4, v12) _ ⟨hHeld, blk_below BKb.out hb, Kd.R_lower ho hL, Kd.R_below HO12.out hb⟩)
                            · skip
                              refine Kd.R_make_step Kd.bool _ 4 (by rfl) (N := 11) rfl 28 _ _ rfl a3 rfl rfl Try.underlying28 (.bool false) 1 Fi.info4 rfl (by decide) (by omega) false (ok := fun _ => True) (okp := fun _ => True) rfl (fun _ hk => hk) trivial ha30.out ha31.out (Below.refl _ _) (Nat.le_refl _) ?_
                              intro v8 w6 ho hb hg_ hnew_
                              clear hg_ hnew_
                              have hL := hHeld.2.size
                              refine hK.out _ _ (hHeld.step hb) (fun hHeld => ?_)
                              clear hK K
                              refine norm_ (a' := ?_) ?_ ?_
                              rotate_left
                              · show Act.put _ (some 11) _ = _
                                simp only [Act.put, List.setIfInBounds_toArray, List.set_cons_zero, List.set_cons_succ, i64_w, i32_w]
                                rfl
                              exact norm_ (by simp only [putAll, Act.put, List.setIfInBounds_toArray, List.set_cons_zero, List.set_cons_succ] <;> rfl) (hJ8_12 (v8, v12) _ ⟨hHeld, blk_below BKb.out hb, Kd.R_lower ho hL, Kd.R_below HO12.out hb⟩)
                            · skip
                              refine Kd.R_make_step (Kd.int .u16) _ 53 (by rfl) (N := 19) rfl 29 _ _ rfl a7 rfl rfl Try.underlying29 (.int .u16 0) 2 Fi.info16 rfl (by decide) (by omega) 0 (ok := fun _ => True) (okp := fun _ => True) rfl (fun _ hk => hk) trivial ha70.out ha71.out (Below.refl _ _) (Nat.le_refl _) ?_
                              intro v16 w6 ho hb hg_ hnew_
                              clear hg_ hnew_
                              have hL := hHeld.2.size
                              refine hK.out _ _ (hHeld.step hb) (fun hHeld => ?_)
                              clear hK K
                              refine norm_ (a' := ?_) ?_ ?_
                              rotate_left
                              · show Act.put _ (some 19) _ = _
                                simp only [Act.put, List.setIfInBounds_toArray, List.set_cons_zero, List.set_cons_succ, i64_w, i32_w]
                                rfl
                              exact norm_ (by simp only [putAll, Act.put, List.setIfInBounds_toArray, List.set_cons_zero, List.set_cons_succ] <;> rfl) (hJ12_16 (v12, v16) _ ⟨hHeld, blk_below BKb.out hb, Kd.R_below HO12.out hb, Kd.R_lower ho hL⟩)
                          rintro v8 w5 ⟨hHeld, hBb, hO8⟩
                          have BKb3 := Aside0.mk hBb
                          clear BKb hBb
                          have BKb := BKb3
                          clear BKb3
                          have HO8 := Aside0.mk (show Kd.R Kd.bool 4 _ _ _ v8 (List.replicate a3.toNat false) from hO8)
                          clear hO8
                          refine norm_ (a' := ?_) ?_ ?_
                          rotate_left
                          · simp only [putAll, Act.put, List.setIfInBounds_toArray, List.set_cons_zero, List.set_cons_succ]
                            rfl
                          refine three_ (i := 4) (j := 12) (k := 16) (Ni := some 7) (Nj := some 15) (Nk := some 19) (bt 19 61439) (bt 19 65519) (bt 19 126959) rfl rfl rfl rfl rfl rfl (three_of HT_.out (by kernel_rfl)) (by decide) (by decide) (by decide) (fun K hK => ?_) (fun K hK => ?_) (fun K hK => ?_)
                          · skip
                            refine Kd.R_make_step Kd.bool _ 4 (by rfl) (N := 7) rfl 28 _ _ rfl a1 rfl rfl Try.underlying28 (.bool false) 1 Fi.info4 rfl (by decide) (by omega) false (ok := fun _ => True) (okp := fun _ => True) rfl (fun _ hk => hk) trivial ha10.out ha11.out (Below.refl _ _) (Nat.le_refl _) ?_
                            intro v4 w6 ho hb hg_ hnew_
                            clear hg_ hnew_
                            have hL := hHeld.2.size
                            refine hK.out _ _ (hHeld.step hb) (fun hHeld => ?_)
                            clear hK K
                            refine norm_ (a' := ?_) ?_ ?_
                            rotate_left
                            · show Act.put _ (some 7) _ = _
                              simp only [Act.put, List.setIfInBounds_toArray, List.set_cons_zero, List.set_cons_succ, i64_w, i32_w]
                              rfl
                            exact norm_ (by simp only [putAll, Act.put, List.setIfInBounds_toArray, List.set_cons_zero, List.set_cons_succ] <;> rfl) (hJ4_8 (v4, v8) _ ⟨hHeld, blk_below BKb.out hb, Kd.R_lower ho hL, Kd.R_below HO8.out hb⟩)
                          · skip
                            refine Kd.R_make_step (Kd.int .u16) _ 53 (by rfl) (N := 15) rfl 29 _ _ rfl a5 rfl rfl Try.underlying29 (.int .u16 0) 2 Fi.info16 rfl (by decide) (by omega) 0 (ok := fun _ => True) (okp := fun _ => True) rfl (fun _ hk => hk) trivial ha50.out ha51.out (Below.refl _ _) (Nat.le_refl _) ?_
                            intro v12 w6 ho hb hg_ hnew_
                            clear hg_ hnew_
                            have hL := hHeld.2.size
                            refine hK.out _ _ (hHeld.step hb) (fun hHeld => ?_)
                            clear hK K
                            refine norm_ (a' := ?_) ?_ ?_
                            rotate_left
                            · show Act.put _ (some 15) _ = _
                              simp only [Act.put, List.setIfInBounds_toArray, List.set_cons_zero, List.set_cons_succ, i64_w, i32_w]
                              rfl
                            exact norm_ (by simp only [putAll, Act.put, List.setIfInBounds_toArray, List.set_cons_zero, List.set_cons_succ] <;> rfl) (hJ8_12 (v8, v12) _ ⟨hHeld, blk_below BKb.out hb, Kd.R_below HO8.out hb, Kd.R_lower ho hL⟩)
                          · skip
                            refine Kd.R_make_step (Kd.int .u16) _ 53 (by rfl) (N := 19) rfl 29 _ _ rfl a7 rfl rfl Try.underlying29 (.int .u16 0) 2 Fi.info16 rfl (by decide) (by omega) 0 (ok := fun _ => True) (okp := fun _ => True) rfl (fun _ hk => hk) trivial ha70.out ha71.out (Below.refl _ _) (Nat.le_refl _) ?_
                            intro v16 w6 ho hb hg_ hnew_
                            clear hg_ hnew_
                            have hL := hHeld.2.size
                            refine hK.out _ _ (hHeld.step hb) (fun hHeld => ?_)
                            clear hK K
                            refine norm_ (a' := ?_) ?_ ?_
                            rotate_left
                            · show Act.put _ (some 19) _ = _
                              simp only [Act.put, List.setIfInBounds_toArray, List.set_cons_zero, List.set_cons_succ, i64_w, i32_w]
                              rfl
                            exact norm_ (by simp only [putAll, Act.put, List.setIfInBounds_toArray, List.set_cons_zero, List.set_cons_succ] <;> rfl) (hJ8_16 (v8, v16) _ ⟨hHeld, blk_below BKb.out hb, Kd.R_below HO8.out hb, Kd.R_lower ho hL⟩)
                        rintro v4 w5 ⟨hHeld, hBb, hO4⟩
                        have BKb3 := Aside0.mk hBb
                        clear BKb hBb
                        have BKb := BKb3
                        clear BKb3
                        have HO4 := Aside0.mk (show Kd.R Kd.bool 4 _ _ _ v4 (List.replicate a1.toNat false) from hO4)
                        clear hO4
                        refine norm_ (a' := ?_) ?_ ?_
                        rotate_left
                        · simp only [putAll, Act.put, List.setIfInBounds_toArray, List.set_cons_zero, List.set_cons_succ]
                          rfl
                        refine three_ (i := 8) (j := 12) (k := 16) (Ni := some 11) (Nj := some 15) (Nk := some 19) (bt 19 61439) (bt 19 65279) (bt 19 126719) rfl rfl rfl rfl rfl rfl (three_of HT_.out (by kernel_rfl)) (by decide) (by decide) (by decide) (fun K hK => ?_) (fun K hK => ?_) (fun K hK => ?_)
                        · skip
                          refine Kd.R_make_step Kd.bool _ 4 (by rfl) (N := 11) rfl 28 _ _ rfl a3 rfl rfl Try.underlying28 (.bool false) 1 Fi.info4 rfl (by decide) (by omega) false (ok := fun _ => True) (okp := fun _ => True) rfl (fun _ hk => hk) trivial ha30.out ha31.out (Below.refl _ _) (Nat.le_refl _) ?_
                          intro v8 w6 ho hb hg_ hnew_
                          clear hg_ hnew_
                          have hL := hHeld.2.size
                          refine hK.out _ _ (hHeld.step hb) (fun hHeld => ?_)
                          clear hK K
                          refine norm_ (a' := ?_) ?_ ?_
                          rotate_left
                          · show Act.put _ (some 11) _ = _
                            simp only [Act.put, List.setIfInBounds_toArray, List.set_cons_zero, List.set_cons_succ, i64_w, i32_w]
                            rfl
                          exact norm_ (by simp only [putAll, Act.put, List.setIfInBounds_toArray, List.set_cons_zero, List.set_cons_succ] <;> rfl) (hJ4_8 (v4, v8) _ ⟨hHeld, blk_below BKb.out hb, Kd.R_below HO4.out hb, Kd.R_lower ho hL⟩)
                        · skip
                          refine Kd.R_make_step (Kd.int .u16) _ 53 (by rfl) (N := 15) rfl 29 _ _ rfl a5 rfl rfl Try.underlying29 (.int .u16 0) 2 Fi.info16 rfl (by decide) (by omega) 0 (ok := fun _ => True) (okp := fun _ => True) rfl (fun _ hk => hk) trivial ha50.out ha51.out (Below.refl _ _) (Nat.le_refl _) ?_
                          intro v12 w6 ho hb hg_ hnew_
                          clear hg_ hnew_
                          have hL := hHeld.2.size
                          refine hK.out _ _ (hHeld.step hb) (fun hHeld => ?_)
                          clear hK K
                          refine norm_ (a' := ?_) ?_ ?_
                          rotate_left
                          · show Act.put _ (some 15) _ = _
                            simp only [Act.put, List.setIfInBounds_toArray, List.set_cons_zero, List.set_cons_succ, i64_w, i32_w]
                            rfl
                          exact norm_ (by simp only [putAll, Act.put, List.setIfInBounds_toArray, List.set_cons_zero, List.set_cons_succ] <;> rfl) (hJ4_12 (v4, v12) _ ⟨hHeld, blk_below BKb.out hb, Kd.R_below HO4.out hb, Kd.R_lower ho hL⟩)
                        · skip
                          refine Kd.R_make_step (Kd.int .u16) _ 53 (by rfl) (N := 19) rfl 29 _ _ rfl a7 rfl rfl Try.underlying29 (.int .u16 0) 2 Fi.info16 rfl (by decide) (by omega) 0 (ok := fun _ => True) (okp := fun _ => True) rfl (fun _ hk => hk) trivial ha70.out ha71.out (Below.refl _ _) (Nat.le_refl _) ?_
                          intro v16 w6 ho hb hg_ hnew_
                          clear hg_ hnew_
                          have hL := hHeld.2.size
                          refine hK.out _ _ (hHeld.step hb) (fun hHeld => ?_)
                          clear hK K
                          refine norm_ (a' := ?_) ?_ ?_
                          rotate_left
                          · show Act.put _ (some 19) _ = _
                            simp only [Act.put, List.setIfInBounds_toArray, List.set_cons_zero, List.set_cons_succ, i64_w, i32_w]
                            rfl
                          exact norm_ (by simp only [putAll, Act.put, List.setIfInBounds_toArray, List.set_cons_zero, List.set_cons_succ] <;> rfl) (hJ4_16 (v4, v16) _ ⟨hHeld, blk_below BKb.out hb, Kd.R_below HO4.out hb, Kd.R_lower ho hL⟩)
                      rintro ⟨v12, v16⟩ w5 ⟨hHeld, hBb, hO12, hO16⟩
                      have BKb3 := Aside0.mk hBb
                      clear BKb hBb
                      have BKb := BKb3
                      clear BKb3
                      have HO12 := Aside0.mk (show Kd.R (Kd.int .u16) 53 _ _ _ v12 (List.replicate a5.toNat 0) from hO12)
                      have HO16 := Aside0.mk (show Kd.R (Kd.int .u16) 53 _ _ _ v16 (List.replicate a7.toNat 0) from hO16)
                      clear hO12 hO16
                      refine norm_ (a' := ?_) ?_ ?_
                      rotate_left
                      · simp only [putAll, Act.put, List.setIfInBounds_toArray, List.set_cons_zero, List.set_cons_succ]
                        rfl
                      refine two_ (i := 4) (j := 8) (Ni := some 7) (Nj := some 11) (bt 19 130815) (bt 19 131055) rfl rfl rfl rfl (two_of HT_.out (by kernel_rfl)) (by decide) (by decide) (fun K hK => ?_) (fun K hK => ?_)
                      · skip
                        refine Kd.R_make_step Kd.bool _ 4 (by rfl) (N := 7) rfl 28 _ _ rfl a1 rfl rfl Try.underlying28 (.bool false) 1 Fi.info4 rfl (by decide) (by omega) false (ok := fun _ => True) (okp := fun _ => True) rfl (fun _ hk => hk) trivial ha10.out ha11.out (Below.refl _ _) (Nat.le_refl _) ?_
                        intro v4 w6 ho hb hg_ hnew_
                        clear hg_ hnew_
                        have hL := hHeld.2.size
                        refine hK.out _ _ (hHeld.step hb) (fun hHeld => ?_)
                        clear hK K
                        refine norm_ (a' := ?_) ?_ ?_
                        rotate_left
                        · show Act.put _ (some 7) _ = _
                          simp only [Act.put, List.setIfInBounds_toArray, List.set_cons_zero, List.set_cons_succ, i64_w, i32_w]
                          rfl
                        exact norm_ (by simp only [putAll, Act.put, List.setIfInBounds_toArray, List.set_cons_zero, List.set_cons_succ] <;> rfl) (hJ4_12_16 (v4, v12, v16) _ ⟨hHeld, blk_below BKb.out hb, Kd.R_lower ho hL, Kd.R_below HO12.out hb, Kd.R_below HO16.out hb⟩)
                      · skip
                        refine Kd.R_make_step Kd.bool _ 4 (by rfl) (N := 11) rfl 28 _ _ rfl a3 rfl rfl Try.underlying28 (.bool false) 1 Fi.info4 rfl (by decide) (by omega) false (ok := fun _ => True) (okp := fun _ => True) rfl (fun _ hk => hk) trivial ha30.out ha31.out (Below.refl _ _) (Nat.le_refl _) ?_
                        intro v8 w6 ho hb hg_ hnew_
                        clear hg_ hnew_
                        have hL := hHeld.2.size
                        refine hK.out _ _ (hHeld.step hb) (fun hHeld => ?_)
                        clear hK K
                        refine norm_ (a' := ?_) ?_ ?_
                        rotate_left
                        · show Act.put _ (some 11) _ = _
                          simp only [Act.put, List.setIfInBounds_toArray, List.set_cons_zero, List.set_cons_succ, i64_w, i32_w]
                          rfl
                        exact norm_ (by simp only [putAll, Act.put, List.setIfInBounds_toArray, List.set_cons_zero, List.set_cons_succ] <;> rfl) (hJ8_12_16 (v8, v12, v16) _ ⟨hHeld, blk_below BKb.out hb, Kd.R_lower ho hL, Kd.R_below HO12.out hb, Kd.R_below HO16.out hb⟩)
                    rintro ⟨v8, v16⟩ w5 ⟨hHeld, hBb, hO8, hO16⟩
                    have BKb3 := Aside0.mk hBb
                    clear BKb hBb
                    have BKb := BKb3
                    clear BKb3
                    have HO8 := Aside0.mk (show Kd.R Kd.bool 4 _ _ _ v8 (List.replicate a3.toNat false) from hO8)
                    have HO16 := Aside0.mk (show Kd.R (Kd.int .u16) 53 _ _ _ v16 (List.replicate a7.toNat 0) from hO16)
                    clear hO8 hO16
                    refine norm_ (a' := ?_) ?_ ?_
                    rotate_left
                    · simp only [putAll, Act.put, List.setIfInBounds_toArray, List.set_cons_zero, List.set_cons_succ]
                      rfl
                    refine two_ (i := 4) (j := 12) (Ni := some 7) (Nj := some 15) (bt 19 126975) (bt 19 131055) rfl rfl rfl rfl (two_of HT_.out (by kernel_rfl)) (by decide) (by decide) (fun K hK => ?_) (fun K hK => ?_)
                    · skip
                      refine Kd.R_make_step Kd.bool _ 4 (by rfl) (N := 7) rfl 28 _ _ rfl a1 rfl rfl Try.underlying28 (.bool false) 1 Fi.info4 rfl (by decide) (by omega) false (ok := fun _ => True) (okp := fun _ => True) rfl (fun _ hk => hk) trivial ha10.out ha11.out (Below.refl _ _) (Nat.le_refl _) ?_
                      intro v4 w6 ho hb hg_ hnew_
                      clear hg_ hnew_
                      have hL := hHeld.2.size
                      refine hK.out _ _ (hHeld.step hb) (fun hHeld => ?_)
                      clear hK K
                      refine norm_ (a' := ?_) ?_ ?_
                      rotate_left
                      · show Act.put _ (some 7) _ = _
                        simp only [Act.put, List.setIfInBounds_toArray, List.set_cons_zero, List.set_cons_succ, i64_w, i32_w]
                        rfl
                      exact norm_ (by simp only [putAll, Act.put, List.setIfInBounds_toArray, List.set_cons_zero, List.set_cons_succ] <;> rfl) (hJ4_8_16 (v4, v8, v16) _ ⟨hHeld, blk_below BKb.out hb, Kd.R_lower ho hL, Kd.R_below HO8.out hb, Kd.R_below HO16.out hb⟩)
                    · skip
                      refine Kd.R_make_step (Kd.int .u16) _ 53 (by rfl) (N := 15) rfl 29 _ _ rfl a5 rfl rfl Try.underlying29 (.int .u16 0) 2 Fi.info16 rfl (by decide) (by omega) 0 (ok := fun _ => True) (okp := fun _ => True) rfl (fun _ hk => hk) trivial ha50.out ha51.out (Below.refl _ _) (Nat.le_refl _) ?_
                      intro v12 w6 ho hb hg_ hnew_
                      clear hg_ hnew_
                      have hL := hHeld.2.size
                      refine hK.out _ _ (hHeld.step hb) (fun hHeld => ?_)
                      clear hK K
                      refine norm_ (a' := ?_) ?_ ?_
                      rotate_left
                      · show Act.put _ (some 15) _ = _
                        simp only [Act.put, List.setIfInBounds_toArray, List.set_cons_zero, List.set_cons_succ, i64_w, i32_w]
                        rfl
                      exact norm_ (by simp only [putAll, Act.put, List.setIfInBounds_toArray, List.set_cons_zero, List.set_cons_succ] <;> rfl) (hJ8_12_16 (v8, v12, v16) _ ⟨hHeld, blk_below BKb.out hb, Kd.R_below HO8.out hb, Kd.R_lower ho hL, Kd.R_below HO16.out hb⟩)
                  rintro ⟨v8, v12⟩ w5 ⟨hHeld, hBb, hO8, hO12⟩
                  have BKb3 := Aside0.mk hBb
                  clear BKb hBb
                  have BKb := BKb3
                  clear BKb3
                  have HO8 := Aside0.mk (show Kd.R Kd.bool 4 _ _ _ v8 (List.replicate a3.toNat false) from hO8)
                  have HO12 := Aside0.mk (show Kd.R (Kd.int .u16) 53 _ _ _ v12 (List.replicate a5.toNat 0) from hO12)
                  clear hO8 hO12
                  refine norm_ (a' := ?_) ?_ ?_
                  rotate_left
                  · simp only [putAll, Act.put, List.setIfInBounds_toArray, List.set_cons_zero, List.set_cons_succ]
                    rfl
                  refine two_ (i := 4) (j := 16) (Ni := some 7) (Nj := some 19) (bt 19 65535) (bt 19 131055) rfl rfl rfl rfl (two_of HT_.out (by kernel_rfl)) (by decide) (by decide) (fun K hK => ?_) (fun K hK => ?_)
                  · skip
                    refine Kd.R_make_step Kd.bool _ 4 (by rfl) (N := 7) rfl 28 _ _ rfl a1 rfl rfl Try.underlying28 (.bool false) 1 Fi.info4 rfl (by decide) (by omega) false (ok := fun _ => True) (okp := fun _ => True) rfl (fun _ hk => hk) trivial ha10.out ha11.out (Below.refl _ _) (Nat.le_refl _) ?_
                    intro v4 w6 ho hb hg_ hnew_
                    clear hg_ hnew_
                    have hL := hHeld.2.size
                    refine hK.out _ _ (hHeld.step hb) (fun hHeld => ?_)
                    clear hK K
                    refine norm_ (a' := ?_) ?_ ?_
                    rotate_left
                    · show Act.put _ (some 7) _ = _
                      simp only [Act.put, List.setIfInBounds_toArray, List.set_cons_zero, List.set_cons_succ, i64_w, i32_w]
                      rfl
                    exact norm_ (by simp only [putAll, Act.put, List.setIfInBounds_toArray, List.set_cons_zero, List.set_cons_succ] <;> rfl) (hJ4_8_12 (v4, v8, v12) _ ⟨hHeld, blk_below BKb.out hb, Kd.R_lower ho hL, Kd.R_below HO8.out hb, Kd.R_below HO12.out hb⟩)
                  · skip
                    refine Kd.R_make_step (Kd.int .u16) _ 53 (by rfl) (N := 19) rfl 29 _ _ rfl a7 rfl rfl Try.underlying29 (.int .u16 0) 2 Fi.info16 rfl (by decide) (by omega) 0 (ok := fun _ => True) (okp := fun _ => True) rfl (fun _ hk => hk) trivial ha70.out ha71.out (Below.refl _ _) (Nat.le_refl _) ?_
                    intro v16 w6 ho hb hg_ hnew_
                    clear hg_ hnew_
                    have hL := hHeld.2.size
                    refine hK.out _ _ (hHeld.step hb) (fun hHeld => ?_)
                    clear hK K
                    refine norm_ (a' := ?_) ?_ ?_
                    rotate_left
                    · show Act.put _ (some 19) _ = _
                      simp only [Act.put, List.setIfInBounds_toArray, List.set_cons_zero, List.set_cons_succ, i64_w, i32_w]
                      rfl
                    exact norm_ (by simp only [putAll, Act.put, List.setIfInBounds_toArray, List.set_cons_zero, List.set_cons_succ] <;> rfl) (hJ8_12_16 (v8, v12, v16) _ ⟨hHeld, blk_below BKb.out hb, Kd.R_below HO8.out hb, Kd.R_below HO12.out hb, Kd.R_lower ho hL⟩)
                rintro ⟨v4, v16⟩ w5 ⟨hHeld, hBb, hO4, hO16⟩
                have BKb3 := Aside0.mk hBb
                clear BKb hBb
                have BKb := BKb3
                clear BKb3
                have HO4 := Aside0.mk (show Kd.R Kd.bool 4 _ _ _ v4 (List.replicate a1.toNat false) from hO4)
                have HO16 := Aside0.mk (show Kd.R (Kd.int .u16) 53 _ _ _ v16 (List.replicate a7.toNat 0) from hO16)
                clear hO4 hO16
                refine norm_ (a' := ?_) ?_ ?_
                rotate_left
                · simp only [putAll, Act.put, List.setIfInBounds_toArray, List.set_cons_zero, List.set_cons_succ]
                  rfl
                refine two_ (i := 8) (j := 12) (Ni := some 11) (Nj := some 15) (bt 19 126975) (bt 19 130815) rfl rfl rfl rfl (two_of HT_.out (by kernel_rfl)) (by decide) (by decide) (fun K hK => ?_) (fun K hK => ?_)
                · skip
                  refine Kd.R_make_step Kd.bool _ 4 (by rfl) (N := 11) rfl 28 _ _ rfl a3 rfl rfl Try.underlying28 (.bool false) 1 Fi.info4 rfl (by decide) (by omega) false (ok := fun _ => True) (okp := fun _ => True) rfl (fun _ hk => hk) trivial ha30.out ha31.out (Below.refl _ _) (Nat.le_refl _) ?_
                  intro v8 w6 ho hb hg_ hnew_
                  clear hg_ hnew_
                  have hL := hHeld.2.size
                  refine hK.out _ _ (hHeld.step hb) (fun hHeld => ?_)
                  clear hK K
                  refine norm_ (a' := ?_) ?_ ?_
                  rotate_left
                  · show Act.put _ (some 11) _ = _
                    simp only [Act.put, List.setIfInBounds_toArray, List.set_cons_zero, List.set_cons_succ, i64_w, i32_w]
                    rfl
                  exact norm_ (by simp only [putAll, Act.put, List.setIfInBounds_toArray, List.set_cons_zero, List.set_cons_succ] <;> rfl) (hJ4_8_16 (v4, v8, v16) _ ⟨hHeld, blk_below BKb.out hb, Kd.R_below HO4.out hb, Kd.R_lower ho hL, Kd.R_below HO16.out hb⟩)
                · skip
                  refine Kd.R_make_step (Kd.int .u16) _ 53 (by rfl) (N := 15) rfl 29 _ _ rfl a5 rfl rfl Try.underlying29 (.int .u16 0) 2 Fi.info16 rfl (by decide) (by omega) 0 (ok := fun _ => True) (okp := fun _ => True) rfl (fun _ hk => hk) trivial ha50.out ha51.out (Below.refl _ _) (Nat.le_refl _) ?_
                  intro v12 w6 ho hb hg_ hnew_
                  clear hg_ hnew_
                  have hL := hHeld.2.size
                  refine hK.out _ _ (hHeld.step hb) (fun hHeld => ?_)
                  clear hK K
                  refine norm_ (a' := ?_) ?_ ?_
                  rotate_left
                  · show Act.put _ (some 15) _ = _
                    simp only [Act.put, List.setIfInBounds_toArray, List.set_cons_zero, List.set_cons_succ, i64_w, i32_w]
                    rfl
                  exact norm_ (by simp only [putAll, Act.put, List.setIfInBounds_toArray, List.set_cons_zero, List.set_cons_succ] <;> rfl) (hJ4_12_16 (v4, v12, v16) _ ⟨hHeld, blk_below BKb.out hb, Kd.R_below HO4.out hb, Kd.R_lower ho hL, Kd.R_below HO16.out hb⟩)
              rintro ⟨v4, v12⟩ w5 ⟨hHeld, hBb, hO4, hO12⟩
              have BKb3 := Aside0.mk hBb
              clear BKb hBb
              have BKb := BKb3
              clear BKb3
              have HO4 := Aside0.mk (show Kd.R Kd.bool 4 _ _ _ v4 (List.replicate a1.toNat false) from hO4)
              have HO12 := Aside0.mk (show Kd.R (Kd.int .u16) 53 _ _ _ v12 (List.replicate a5.toNat 0) from hO12)
              clear hO4 hO12
              refine norm_ (a' := ?_) ?_ ?_
              rotate_left
              · simp only [putAll, Act.put, List.setIfInBounds_toArray, List.set_cons_zero, List.set_cons_succ]
                rfl
              refine two_ (i := 8) (j := 16) (Ni := some 11) (Nj := some 19) (bt 19 65535) (bt 19 130815) rfl rfl rfl rfl (two_of HT_.out (by kernel_rfl)) (by decide) (by decide) (fun K hK => ?_) (fun K hK => ?_)
              · skip
                refine Kd.R_make_step Kd.bool _ 4 (by rfl) (N := 11) rfl 28 _ _ rfl a3 rfl rfl Try.underlying28 (.bool false) 1 Fi.info4 rfl (by decide) (by omega) false (ok := fun _ => True) (okp := fun _ => True) rfl (fun _ hk => hk) trivial ha30.out ha31.out (Below.refl _ _) (Nat.le_refl _) ?_
                intro v8 w6 ho hb hg_ hnew_
                clear hg_ hnew_
                have hL := hHeld.2.size
                refine hK.out _ _ (hHeld.step hb) (fun hHeld => ?_)
                clear hK K
                refine norm_ (a' := ?_) ?_ ?_
                rotate_left
                · show Act.put _ (some 11) _ = _
                  simp only [Act.put, List.setIfInBounds_toArray, List.set_cons_zero, List.set_cons_succ, i64_w, i32_w]
                  rfl
                exact norm_ (by simp only [putAll, Act.put, List.setIfInBounds_toArray, List.set_cons_zero, List.set_cons_succ] <;> rfl) (hJ4_8_12 (v4, v8, v12) _ ⟨hHeld, blk_below BKb.out hb, Kd.R_below HO4.out hb, Kd.R_lower ho hL, Kd.R_below HO12.out hb⟩)
              · skip
                refine Kd.R_make_step (Kd.int .u16) _ 53 (by rfl) (N := 19) rfl 29 _ _ rfl a7 rfl rfl Try.underlying29 (.int .u16 0) 2 Fi.info16 rfl (by decide) (by omega) 0 (ok := fun _ => True) (okp := fun _ => True) rfl (fun _ hk => hk) trivial ha70.out ha71.out (Below.refl _ _) (Nat.le_refl _) ?_
                intro v16 w6 ho hb hg_ hnew_
                clear hg_ hnew_
                have hL := hHeld.2.size
                refine hK.out _ _ (hHeld.step hb) (fun hHeld => ?_)
                clear hK K
                refine norm_ (a' := ?_) ?_ ?_
                rotate_left
                · show Act.put _ (some 19) _ = _
                  simp only [Act.put, List.setIfInBounds_toArray, List.set_cons_zero, List.set_cons_succ, i64_w, i32_w]
                  rfl
                exact norm_ (by simp only [putAll, Act.put, List.setIfInBounds_toArray, List.set_cons_zero, List.set_cons_succ] <;> rfl) (hJ4_12_16 (v4, v12, v16) _ ⟨hHeld, blk_below BKb.out hb, Kd.R_below HO4.out hb, Kd.R_below HO12.out hb, Kd.R_lower ho hL⟩)
            rintro ⟨v4, v8⟩ w5 ⟨hHeld, hBb, hO4, hO8⟩
            have BKb3 := Aside0.mk hBb
            clear BKb hBb
            have BKb := BKb3
            clear BKb3
            have HO4 := Aside0.mk (show Kd.R Kd.bool 4 _ _ _ v4 (List.replicate a1.toNat false) from hO4)
            have HO8 := Aside0.mk (show Kd.R Kd.bool 4 _ _ _ v8 (List.replicate a3.toNat false) from hO8)
            clear hO4 hO8
            refine norm_ (a' := ?_) ?_ ?_
            rotate_left
            · simp only [putAll, Act.put, List.setIfInBounds_toArray, List.set_cons_zero, List.set_cons_succ]
              rfl
            refine two_ (i := 12) (j := 16) (Ni := some 15) (Nj := some 19) (bt 19 65535) (bt 19 126975) rfl rfl rfl rfl (two_of HT_.out (by kernel_rfl)) (by decide) (by decide) (fun K hK => ?_) (fun K hK => ?_)
            · skip
              refine Kd.R_make_step (Kd.int .u16) _ 53 (by rfl) (N := 15) rfl 29 _ _ rfl a5 rfl rfl Try.underlying29 (.int .u16 0) 2 Fi.info16 rfl (by decide) (by omega) 0 (ok := fun _ => True) (okp := fun _ => True) rfl (fun _ hk => hk) trivial ha50.out ha51.out (Below.refl _ _) (Nat.le_refl _) ?_
              intro v12 w6 ho hb hg_ hnew_
              clear hg_ hnew_
              have hL := hHeld.2.size
              refine hK.out _ _ (hHeld.step hb) (fun hHeld => ?_)
              clear hK K
              refine norm_ (a' := ?_) ?_ ?_
              rotate_left
              · show Act.put _ (some 15) _ = _
                simp only [Act.put, List.setIfInBounds_toArray, List.set_cons_zero, List.set_cons_succ, i64_w, i32_w]
                rfl
              exact norm_ (by simp only [putAll, Act.put, List.setIfInBounds_toArray, List.set_cons_zero, List.set_cons_succ] <;> rfl) (hJ4_8_12 (v4, v8, v12) _ ⟨hHeld, blk_below BKb.out hb, Kd.R_below HO4.out hb, Kd.R_below HO8.out hb, Kd.R_lower ho hL⟩)
            · skip
              refine Kd.R_make_step (Kd.int .u16) _ 53 (by rfl) (N := 19) rfl 29 _ _ rfl a7 rfl rfl Try.underlying29 (.int .u16 0) 2 Fi.info16 rfl (by decide) (by omega) 0 (ok := fun _ => True) (okp := fun _ => True) rfl (fun _ hk => hk) trivial ha70.out ha71.out (Below.refl _ _) (Nat.le_refl _) ?_
              intro v16 w6 ho hb hg_ hnew_
              clear hg_ hnew_
              have hL := hHeld.2.size
              refine hK.out _ _ (hHeld.step hb) (fun hHeld => ?_)
              clear hK K
              refine norm_ (a' := ?_) ?_ ?_
              rotate_left
              · show Act.put _ (some 19) _ = _
                simp only [Act.put, List.setIfInBounds_toArray, List.set_cons_zero, List.set_cons_succ, i64_w, i32_w]
                rfl
              exact norm_ (by simp only [putAll, Act.put, List.setIfInBounds_toArray, List.set_cons_zero, List.set_cons_succ] <;> rfl) (hJ4_8_16 (v4, v8, v16) _ ⟨hHeld, blk_below BKb.out hb, Kd.R_below HO4.out hb, Kd.R_below HO8.out hb, Kd.R_lower ho hL⟩)
          rintro ⟨v8, v12, v16⟩ w5 ⟨hHeld, hBb, hO8, hO12, hO16⟩
          have BKb3 := Aside0.mk hBb
          clear BKb hBb
          have BKb := BKb3
          clear BKb3
          have HO8 := Aside0.mk (show Kd.R Kd.bool 4 _ _ _ v8 (List.replicate a3.toNat false) from hO8)
          have HO12 := Aside0.mk (show Kd.R (Kd.int .u16) 53 _ _ _ v12 (List.replicate a5.toNat 0) from hO12)
          have HO16 := Aside0.mk (show Kd.R (Kd.int .u16) 53 _ _ _ v16 (List.replicate a7.toNat 0) from hO16)
          clear hO8 hO12 hO16
          refine norm_ (a' := ?_) ?_ ?_
          rotate_left
          · simp only [putAll, Act.put, List.setIfInBounds_toArray, List.set_cons_zero, List.set_cons_succ]
            rfl
          refine one_ (i := 4) (N := some 7) (bt 19 131071) rfl rfl (one_of HT_.out (by kernel_rfl)) (by decide) (fun K hK => ?_)
          refine Kd.R_make_step Kd.bool _ 4 (by rfl) (N := 7) rfl 28 _ _ rfl a1 rfl rfl Try.underlying28 (.bool false) 1 Fi.info4 rfl (by decide) (by omega) false (ok := fun _ => True) (okp := fun _ => True) rfl (fun _ hk => hk) trivial ha10.out ha11.out (Below.refl _ _) (Nat.le_refl _) ?_
          intro v4 w6 ho hb hg_ hnew_
          clear hg_ hnew_
          have hL := hHeld.2.size
          refine hK.out _ _ (hHeld.step hb) (fun hHeld => ?_)
          clear hK K
          refine norm_ (a' := ?_) ?_ ?_
          rotate_left
          · show Act.put _ (some 7) _ = _
            simp only [Act.put, List.setIfInBounds_toArray, List.set_cons_zero, List.set_cons_succ, i64_w, i32_w]
            rfl
          exact norm_ (by simp only [putAll, Act.put, List.setIfInBounds_toArray, List.set_cons_zero, List.set_cons_succ] <;> rfl) (hJ4_8_12_16 (v4, v8, v12, v16) _ ⟨hHeld, blk_below BKb.out hb, Kd.R_lower ho hL, Kd.R_below HO8.out hb, Kd.R_below HO12.out hb, Kd.R_below HO16.out hb⟩)
        rintro ⟨v4, v12, v16⟩ w5 ⟨hHeld, hBb, hO4, hO12, hO16⟩
        have BKb3 := Aside0.mk hBb
        clear BKb hBb
        have BKb := BKb3
        clear BKb3
        have HO4 := Aside0.mk (show Kd.R Kd.bool 4 _ _ _ v4 (List.replicate a1.toNat false) from hO4)
        have HO12 := Aside0.mk (show Kd.R (Kd.int .u16) 53 _ _ _ v12 (List.replicate a5.toNat 0) from hO12)
        have HO16 := Aside0.mk (show Kd.R (Kd.int .u16) 53 _ _ _ v16 (List.replicate a7.toNat 0) from hO16)
        clear hO4 hO12 hO16
        refine norm_ (a' := ?_) ?_ ?_
        rotate_left
        · simp only [putAll, Act.put, List.setIfInBounds_toArray, List.set_cons_zero, List.set_cons_succ]
          rfl
        refine one_ (i := 8) (N := some 11) (bt 19 131071) rfl rfl (one_of HT_.out (by kernel_rfl)) (by decide) (fun K hK => ?_)
        refine Kd.R_make_step Kd.bool _ 4 (by rfl) (N := 11) rfl 28 _ _ rfl a3 rfl rfl Try.underlying28 (.bool false) 1 Fi.info4 rfl (by decide) (by omega) false (ok := fun _ => True) (okp := fun _ => True) rfl (fun _ hk => hk) trivial ha30.out ha31.out (Below.refl _ _) (Nat.le_refl _) ?_
        intro v8 w6 ho hb hg_ hnew_
        clear hg_ hnew_
        have hL := hHeld.2.size
        refine hK.out _ _ (hHeld.step hb) (fun hHeld => ?_)
        clear hK K
        refine norm_ (a' := ?_) ?_ ?_
        rotate_left
        · show Act.put _ (some 11) _ = _
          simp only [Act.put, List.setIfInBounds_toArray, List.set_cons_zero, List.set_cons_succ, i64_w, i32_w]
          rfl
        exact norm_ (by simp only [putAll, Act.put, List.setIfInBounds_toArray, List.set_cons_zero, List.set_cons_succ] <;> rfl) (hJ4_8_12_16 (v4, v8, v12, v16) _ ⟨hHeld, blk_below BKb.out hb, Kd.R_below HO4.out hb, Kd.R_lower ho hL, Kd.R_below HO12.out hb, Kd.R_below HO16.out hb⟩)
      rintro ⟨v4, v8, v16⟩ w5 ⟨hHeld, hBb, hO4, hO8, hO16⟩
      have BKb3 := Aside0.mk hBb
      clear BKb hBb
      have BKb := BKb3
      clear BKb3
      have HO4 := Aside0.mk (show Kd.R Kd.bool 4 _ _ _ v4 (List.replicate a1.toNat false) from hO4)
      have HO8 := Aside0.mk (show Kd.R Kd.bool 4 _ _ _ v8 (List.replicate a3.toNat false) from hO8)
      have HO16 := Aside0.mk (show Kd.R (Kd.int .u16) 53 _ _ _ v16 (List.replicate a7.toNat 0) from hO16)
      clear hO4 hO8 hO16
      refine norm_ (a' := ?_) ?_ ?_
      rotate_left
      · simp only [putAll, Act.put, List.setIfInBounds_toArray, List.set_cons_zero, List.set_cons_succ]
        rfl
      refine one_ (i := 12) (N := some 15) (bt 19 131071) rfl rfl (one_of HT_.out (by kernel_rfl)) (by decide) (fun K hK => ?_)
      refine Kd.R_make_step (Kd.int .u16) _ 53 (by rfl) (N := 15) rfl 29 _ _ rfl a5 rfl rfl Try.underlying29 (.int .u16 0) 2 Fi.info16 rfl (by decide) (by omega) 0 (ok := fun _ => True) (okp := fun _ => True) rfl (fun _ hk => hk) trivial ha50.out ha51.out (Below.refl _ _) (Nat.le_refl _) ?_
      intro v12 w6 ho hb hg_ hnew_
      clear hg_ hnew_
      have hL := hHeld.2.size
      refine hK.out _ _ (hHeld.step hb) (fun hHeld => ?_)
      clear hK K
      refine norm_ (a' := ?_) ?_ ?_
      rotate_left
      · show Act.put _ (some 15) _ = _
        simp only [Act.put, List.setIfInBounds_toArray, List.set_cons_zero, List.set_cons_succ, i64_w, i32_w]
        rfl
      exact norm_ (by simp only [putAll, Act.put, List.setIfInBounds_toArray, List.set_cons_zero, List.set_cons_succ] <;> rfl) (hJ4_8_12_16 (v4, v8, v12, v16) _ ⟨hHeld, blk_below BKb.out hb, Kd.R_below HO4.out hb, Kd.R_below HO8.out hb, Kd.R_lower ho hL, Kd.R_below HO16.out hb⟩)
    rintro ⟨v4, v8, v12⟩ w5 ⟨hHeld, hBb, hO4, hO8, hO12⟩
    have BKb3 := Aside0.mk hBb
    clear BKb hBb
    have BKb := BKb3
    clear BKb3
    have HO4 := Aside0.mk (show Kd.R Kd.bool 4 _ _ _ v4 (List.replicate a1.toNat false) from hO4)
    have HO8 := Aside0.mk (show Kd.R Kd.bool 4 _ _ _ v8 (List.replicate a3.toNat false) from hO8)
    have HO12 := Aside0.mk (show Kd.R (Kd.int .u16) 53 _ _ _ v12 (List.replicate a5.toNat 0) from hO12)
    clear hO4 hO8 hO12
    refine norm_ (a' := ?_) ?_ ?_
    rotate_left
    · simp only [putAll, Act.put, List.setIfInBounds_toArray, List.set_cons_zero, List.set_cons_succ]
      rfl
    refine one_ (i := 16) (N := some 19) (bt 19 131071) rfl rfl (one_of HT_.out (by kernel_rfl)) (by decide) (fun K hK => ?_)
    refine Kd.R_make_step (Kd.int .u16) _ 53 (by rfl) (N := 19) rfl 29 _ _ rfl a7 rfl rfl Try.underlying29 (.int .u16 0) 2 Fi.info16 rfl (by decide) (by omega) 0 (ok := fun _ => True) (okp := fun _ => True) rfl (fun _ hk => hk) trivial ha70.out ha71.out (Below.refl _ _) (Nat.le_refl _) ?_
    intro v16 w6 ho hb hg_ hnew_
    clear hg_ hnew_
    have hL := hHeld.2.size
    refine hK.out _ _ (hHeld.step hb) (fun hHeld => ?_)
    clear hK K
    refine norm_ (a' := ?_) ?_ ?_
    rotate_left
    · show Act.put _ (some 19) _ = _
      simp only [Act.put, List.setIfInBounds_toArray, List.set_cons_zero, List.set_cons_succ, i64_w, i32_w]
      rfl
    exact norm_ (by simp only [putAll, Act.put, List.setIfInBounds_toArray, List.set_cons_zero, List.set_cons_succ] <;> rfl) (hJ4_8_12_16 (v4, v8, v12, v16) _ ⟨hHeld, blk_below BKb.out hb, Kd.R_below HO4.out hb, Kd.R_below HO8.out hb, Kd.R_below HO12.out hb, Kd.R_lower ho hL⟩)
  rintro ⟨v4, v8, v12, v16⟩ w5 ⟨hHeld, hBb, hO4, hO8, hO12, hO16⟩
  have BKb3 := Aside0.mk hBb
  clear BKb hBb
  have BKb := BKb3
  clear BKb3
  have HO4 := Aside0.mk (show Kd.R Kd.bool 4 _ _ _ v4 (List.replicate a1.toNat false) from hO4)
  have HO8 := Aside0.mk (show Kd.R Kd.bool 4 _ _ _ v8 (List.replicate a3.toNat false) from hO8)
  have HO12 := Aside0.mk (show Kd.R (Kd.int .u16) 53 _ _ _ v12 (List.replicate a5.toNat 0) from hO12)
  have HO16 := Aside0.mk (show Kd.R (Kd.int .u16) 53 _ _ _ v16 (List.replicate a7.toNat 0) from hO16)
  clear hO4 hO8 hO12 hO16
  obtain ⟨A10, c10, e10⟩ := Kd.R_slice HO4.out
  subst e10
  obtain ⟨A11, c11, e11⟩ := Kd.R_slice HO8.out
  subst e11
  obtain ⟨A12, c12, e12⟩ := Kd.R_slice HO12.out
  subst e12
  obtain ⟨A13, c13, e13⟩ := Kd.R_slice HO16.out
  subst e13
  simp only [List.length_replicate] at HO4 HO8 HO12 HO16 ⊢
  refine norm_ (a' := ?_) ?_ ?_
  rotate_left
  · simp only [putAll, Act.put, List.setIfInBounds_toArray, List.set_cons_zero, List.set_cons_succ]
    rfl
  refine pure_ (i := 17) (N := some 20) (v := ?_) (a' := ?_) (bt 19 262143) rfl rfl (any_of HT_.out (by kernel_rfl)) (fun _ _ _ h => h) (Or.inl ⟨by rfl, ?_⟩) ?_ ?_
  rotate_left
  · intro w'
    go_simp
    first | with_reducible rfl | (simp [Instr.field, go_sem]; rfl)
  rotate_left
  · simp only [Act.put, List.setIfInBounds_toArray, List.set_cons_zero, List.set_cons_succ, i64_w, i32_w]
    rfl
  refine one_ (i := 18) (N := none) (bt 19 524287) rfl rfl (one_of HT_.out (by kernel_rfl)) (by decide) (fun K hK => ?_)
  refine Fi.store_ev (by rfl) rfl 31 _ _ rfl b #[.int .i64 a0, .int .i64 a1, .int .i64 a2, .int .i64 a3, .int .i64 a4, .int .i64 a5, .int .i64 a6, .int .i64 a7, .int .i64 a8, .int .i64 a9, .slice A10 a1.toNat c10, .slice A11 a3.toNat c11, .slice A12 a5.toNat c12, .slice A13 a7.toNat c13] rfl rfl 31 _ BKb.out (by kernel_rfl) rfl (by first | kernel_rfl | simp [Value.oneCell']) ?_
  intro w7 hgb hgr
  have HO42 := Aside0.mk (Kd.R_mono (ok' := fun _ => True) (Kd.R_grown (Kd.R_types HO4.out BKb.out (by decide)) hgr (fun k hk he => hk.2 (Option.some.inj he))) (fun _ _ => trivial))
  have HO82 := Aside0.mk (Kd.R_mono (ok' := fun _ => True) (Kd.R_grown (Kd.R_types HO8.out BKb.out (by decide)) hgr (fun k hk he => hk.2 (Option.some.inj he))) (fun _ _ => trivial))
  have HO122 := Aside0.mk (Kd.R_mono (ok' := fun _ => True) (Kd.R_grown (Kd.R_types HO12.out BKb.out (by decide)) hgr (fun k hk he => hk.2 (Option.some.inj he))) (fun _ _ => trivial))
  have HO162 := Aside0.mk (Kd.R_mono (ok' := fun _ => True) (Kd.R_grown (Kd.R_types HO16.out BKb.out (by decide)) hgr (fun k hk he => hk.2 (Option.some.inj he))) (fun _ _ => trivial))
  have hS7 : Fi.SC w g a0 a1 a2 a3 a4 a5 a6 a7 a8 a9 w7 := ⟨blk_grown hHeld.1 hgr (fun he => NB.out (Option.some.inj he)), hHeld.2.grown hgr hHeld.2.size (fun k hk => by cases hk; exact GEb.out)⟩
  clear hHeld
  refine hK.out _ _ hS7 (fun hHeld => ?_)
  clear hK K
  refine done_ (done_of HT_.out (by kernel_rfl)) ?_
  try go_wp2
  refine bodyPost_ret (results_cell_row rfl _ _ b 31 #[.int .i64 a0, .int .i64 a1, .int .i64 a2, .int .i64 a3, .int .i64 a4, .int .i64 a5, .int .i64 a6, .int .i64 a7, .int .i64 a8, .int .i64 a9, .slice A10 a1.toNat c10, .slice A11 a3.toNat c11, .slice A12 a5.toNat c12, .slice A13 a7.toNat c13] (0, 0) _ rfl hgb hu rfl (by kernel_rfl)) rfl ?_
  exact ⟨_, rfl, k31_mkM _ _ (fun _ => True) (⟨⟨⟨a0, a1⟩, ⟨a2, a3⟩, ⟨a4, a5⟩, ⟨a6, a7⟩, ⟨a8, a9⟩⟩, (List.replicate a1.toNat false), (List.replicate a3.toNat false), (List.replicate a5.toNat 0), (List.replicate a7.toNat 0)⟩ : S31) HO42.out HO82.out HO122.out HO162.out, hS7.2⟩

end Go.Proofs.Ytamcpmfimicnjaa.P
