import Derived.Test.YtedfbemifigoeaaX
import Derived.Test.YtedfbemifigoeaaAl
import Derived.Test.YtedfbemifigoeaaAk
import Derived.Test.YtedfbemifigoeaaAo
import Derived.Test.YtedfbemifigoeaaLRefWord
import Derived.Test.YtedfbemifigoeaaLRefBits
import Derived.Test.YtedfbemifigoeaaLWord
import Derived.Test.YtedfbemifigoeaaLBits
import Derived.Test.YtedfbemifigoeaaPx1
import Derived.Test.YtedfbemifigoeaaPx2
import Derived.Test.YtedfbemifigoeaaPx3
import Derived.Test.YtedfbemifigoeaaPx4
import Derived.Test.YtedfbemifigoeaaPx5
import Derived.Test.YtedfbemifigoeaaPx6
import Derived.Test.YtedfbemifigoeaaPx4
namespace Go.Proofs.Ytedfbemifigoeaa.P
open Go.RowKit Go.Proofs.YtedfbemifigoeaaW.PrintWords Go.Proofs.YtedfbemifigoeaaW.PrintLast Go.Proofs.YtedfbemifigoeaaW.PrintMore
attribute [local go_sem] max2_int min2_int max_two min_two max_three min_three max_four min_four   -- for this text's walks alone
set_option linter.unusedVariables false
set_option linter.unusedSimpArgs false

open Go.Proofs.Ytedfbemifigoeaa.L

theorem As.at_val {l : List Int} (h8 : ∀ x ∈ l, U8 x) (i : Int) : 0 ≤ (atS l i).1 ∧ (atS l i).1 ≤ 65535 := by
  unfold atS
  split
  · rename_i h
    have a1 := rd_all h8 (i := i) (by omega) (by omega)
    have a2 := rd_all h8 (i := i + 1) (by omega) (by omega)
    unfold U8 at a1 a2
    simp only []
    omega
  · simp
theorem As.nms {A : Option Addr} {c : Nat} {l : List Int} {w : World} (hr : (Kd.int .u8).C w A l.length l) (hc : l.length ≤ c) (h8 : ∀ x ∈ l, U8 x) (hl : l.length ≤ 1000000) {i n : Int} (hi : I64 i) (hn : (atS l i).1 = n) : Calls Try.prog 75 #[.slice A l.length c, .int .i64 i] w fun e w' => e = .returned (.int .i64 n) ∧ Below w.heap.size w w' := by
  refine (bilgeref15_num.calls A c l i n w hr hc ?_).mono (fun e w' hh => ⟨hh.1, hh.2.below⟩)
  unfold bilgeref15_num.f
  rw [rat_eq h8 (by omega) hi]
  have hv := As.at_val h8 i
  show some (wrap64 (atS l i).1) = some n
  rw [w64 ⟨by omega, by omega⟩, hn]
theorem As.rsizes {w : World} {a : Int} (h : I64 a) : Calls Try.prog 67 #[.int .i64 a] w fun e w' => e = .returned (.int .i64 (szI a)) ∧ Below w.heap.size w w' :=
  (bilgeref02_Size.calls a _ w (rsize_eq h)).mono (fun e w' hh => ⟨hh.1, hh.2.below⟩)
theorem As.rgets {A : Option Addr} {c n : Nat} {l rg : List Int} {w : World} (hn : n = l.length) (hr : (Kd.int .u8).C w A l.length l) (hc : l.length ≤ c) (h8 : ∀ x ∈ l, U8 x) (hl : l.length ≤ 1000000) (he : (getS l).1 = rg) : Calls Try.prog 64 #[.slice A n c] w fun e w' => ∃ v b, e = .returned (.tuple #[v, .bool b]) ∧ (Kd.int .u16).R 59 w' w.heap.size (fun _ => True) v rg ∧ Below w.heap.size w w' := by
  subst he hn
  unfold getS
  by_cases h : l.length % 2 = 0
  · rw [if_pos h]
    exact (bilgeref01_Get.calls (l.length + 1) A c l (getW l) true w hr hc (by rw [rget_eq h8 (by omega) (by omega), if_pos h])).mono (fun e w' ⟨v, h1, h2, h3⟩ => ⟨v, true, h1, h2, h3⟩)
  · rw [if_neg h]
    exact (bilgeref01_Get.calls (l.length + 1) A c l [] false w hr hc (by rw [rget_eq h8 (by omega) (by omega), if_neg h])).mono (fun e w' ⟨v, h1, h2, h3⟩ => ⟨v, false, h1, h2, h3⟩)
theorem As.runpacks {A : Option Addr} {c m : Nat} {l : List Int} {bs : List Bool} {n E : Int} {w : World} (hm : m = l.length) (hr : (Kd.int .u8).C w A l.length l) (hc : l.length ≤ c) (h8 : ∀ x ∈ l, U8 x) (hl : l.length ≤ 1000000) (hn : I64 n) (he : upkS l n = (bs, E)) : Calls Try.prog 63 #[.slice A m c, .int .i64 n] w fun e w' => ∃ v, e = .returned (.tuple #[v, .int .i64 E]) ∧ Kd.bool.R 4 w' w.heap.size (fun _ => True) v bs ∧ Below w.heap.size w w' := by
  subst hm
  exact bilgeref02_Unpack.calls (8 * l.length + 1) A c l n bs E w hr hc ((runpack_eq h8 hn hl (by omega)).trans (congrArg some he))
theorem As.store_ev {ops : Array Oper} {oi : Oper} {a : Act} {w : World} {K : Act → World → Prop} {Q : Exit → Act → World → Prop} (hw : Region.wanted oi (yielded ops a.tmps) = true) (hN : oi.dst = none) (ty : TypeId) (x y : Operand) (ho : oi.op = .store ty x y)
    (g : Nat) (cells : Array Value) (hx : a.eval x = .pointer (some ⟨g, 0, none⟩)) (hy : a.eval y = .agg cells) (t : TypeId) (old : Array Value) (hg : w.heap[g]? = some (.cells old t (0, 0))) (hi : (Try.prog.info? ty).map (·.size) = some cells.size)
    (hold : old.size = cells.size) (h1 : cells.all (·.oneCell') = true) (h : ∀ w1, w1.heap[g]? = some (.cells cells t (0, 0)) → w.grownBy w1 (some g) → K a w1) : if Region.wanted oi (yielded ops a.tmps) = true then Oper.wp Try.prog oi a w K Q else K (a.put none undef) w := by
  rw [if_pos hw]
  refine wp_store_row ty x y ho g cells hx hy t old hg hi hold h1 ?_
  rw [hN]
  exact h _ (setRow_heap _ _ _ cells _ _ hg) (As.grown_row w g cells)
theorem As.box_ev {ops : Array Oper} {oi : Oper} {a : Act} {w : World} {K : Act → World → Prop} {Q : Exit → Act → World → Prop} {N : Tmp} (hw : Region.wanted oi (yielded ops a.tmps) = true) (hd : oi.dst = some N) {cs : Array Value} {t : TypeId}
    (hrun : (execOp a.eval oi).run Try.prog w = .ok (.value (.pointer (some ⟨w.heap.size, 0, none⟩))) (w.alloc (.cells cs t (0, 0))))
    (h : ∀ g, g = w.heap.size → ∀ w1, w1.heap[g]? = some (.cells cs t (0, 0)) → Below w.heap.size w w1 → K (a.put (some N) (.pointer (some ⟨g, 0, none⟩))) w1) : if Region.wanted oi (yielded ops a.tmps) = true then Oper.wp Try.prog oi a w K Q else K (a.put (some N) undef) w :=
  value_ hw hd hrun (h _ rfl _ (blk_new w _) (below_alloc (Below.refl _ _) _))
set_option maxHeartbeats 16000000 in
set_option maxRecDepth 100000 in
theorem As.gss {A : Option Addr} {c : Nat} {l : List Int} {w : World} (hr : (Kd.int .u8).C w A l.length l) (hc : l.length ≤ c) (h8 : ∀ x ∈ l, U8 x) (hl : l.length ≤ 1000000) (hp : 0 < l.length) (hk : As.known (rd l 0) = true) {y : S25} (he : As.gs l = y) : Calls Try.prog 53 #[.slice A l.length c] w fun e w' => ∃ cs', e = .returned (.agg cs') ∧ As.VV w' cs' y ∧ Below w.heap.size w w' := by
  have HR := Aside0.mk hr
  have HC := Aside0.mk hc
  have H8 := Aside0.mk h8
  have HL := Aside0.mk hl
  have hu := Try.underlying25
  have hu8 := Try.underlying28
  have hz := As.zero
  have HB := Aside0.mk (Below.refl w.heap.size w)
  have hpos : (0 : Int) < (l.length : Int) := by omega
  obtain ⟨ad, ea, hx⟩ := Kd.at_int HR.out 0 (by omega) (by omega)
  have HX := Aside0.mk (show w.cell? ad = some (.int .u8 (rd l 0)) from hx)
  clear hx
  have hub := rd_all H8.out (i := 0) (by omega) (by omega)
  have hw0 : IntKind.i64.wrap (rd l 0) = rd l 0 := by rw [i64_w]; exact w64 (by unfold U8 at hub; omega)
  clear hr h8 hl hub
  subst ea
  obtain ⟨n1, hn1_⟩ : ∃ n, (atS l 1).1 = n := ⟨_, rfl⟩
  have hn1 := Aside0.mk hn1_
  obtain ⟨n3, hn3_⟩ : ∃ n, (atS l 3).1 = n := ⟨_, rfl⟩
  have hn3 := Aside0.mk hn3_
  obtain ⟨n5, hn5_⟩ : ∃ n, (atS l 5).1 = n := ⟨_, rfl⟩
  have hn5 := Aside0.mk hn5_
  obtain ⟨n7, hn7_⟩ : ∃ n, (atS l 7).1 = n := ⟨_, rfl⟩
  have hn7 := Aside0.mk hn7_
  have hI3 := Aside0.mk (show I64 n3 by rw [← hn3_]; have := As.at_val H8.out 3; constructor <;> omega)
  unfold As.gs at he
  simp only [hn1_, hn3_, hn5_, hn7_] at he
  clear hn1_ hn3_ hn5_ hn7_
  rcases As.cases (rd l 0) with ⟨dk, d1, d2, d3, d4, d5, d6, d15, d16, d22, d23⟩ | ⟨dk, d1, d2, d3, d4, d5, d6, d15, d16, d22, d23⟩ | ⟨dk, d1, d2, d3, d4, d5, d6, d15, d16, d22, d23⟩ | ⟨dk, d1, d2, d3, d4, d5, d6, d15, d16, d22, d23⟩ | ⟨dk, d1, d2, d3, d4, d5, d6, d15, d16, d22, d23⟩ | ⟨dk, d1, d2, d3, d4, d5, d6, d15, d16, d22, d23⟩ | ⟨dk, d1, d2, d3, d4, d5, d6, d15, d16, d22, d23⟩ | ⟨dk, d1, d2, d3, d4, d5, d6, d15, d16, d22, d23⟩ | ⟨dk, d1, d2, d3, d4, d5, d6, d15, d16, d22, d23⟩ | ⟨dk, d1, d2, d3, d4, d5, d6, d15, d16, d22, d23⟩ | ⟨dk, d1, d2, d3, d4, d5, d6, d15, d16, d22, d23⟩
  rotate_right
  · exact absurd (dk.symm.trans hk) (by decide)
  all_goals simp only [d1, d2, d3, d4, d5, d6, d15, d16, d22, d23, Bool.false_or, Bool.or_false, Bool.true_or, Bool.or_true, Bool.false_eq_true, if_true, if_false] at he
  all_goals clear dk hk
  iterate 6
    · subst he
      go_enter Try.func53, Try.ntmps53
      go_wp2_with (first
        | ((with_reducible refine gate_dst (N := 2) rfl ?_); refine box_event ?hg (N := 2) ?hd (cs := As.Z) (t := 25) ?hr ?_; (case hd => rfl); (case hg => rfl); (case hr => first | (go_simp; done) | (go_simp; rfl)); intro g2 hg w1 hbox hb; have GEg2 := Aside0.mk ((by rw [hg]; exact HB.out.size) : w.heap.size ≤ g2); have BKg2 := Aside0.mk hbox; clear hbox hg; have n0_ := Aside0.mk (below_step HB.out hb); clear HB; have HB := n0_; clear n0_; skip; clear hb))
      have hb := below_drew1 (Below.refl w1.heap.size w1)
      refine start_ (n := 9) (S := fun w' => Below w1.heap.size w1 w') (ds := []) (bt 9 0) (by kernel_rfl) rfl (by kernel_rfl) hb (fun hHeld => ?_)
      clear hb
      refine pure_ (i := 0) (N := some 4) (v := ?_) (a' := ?_) (bt 9 1) rfl rfl (by kernel_rfl) (fun _ _ _ h => h) (Or.inl ⟨by rfl, ?_⟩) ?_ ?_
      rotate_left
      · intro w'
        go_simp
        first | with_reducible rfl | (simp [Instr.field, go_sem]; rfl)
      rotate_left
      · simp only [Act.put, List.setIfInBounds_toArray, List.set_cons_zero, List.set_cons_succ]
        rfl
      refine pure_ (i := 1) (N := some 5) (v := ?_) (a' := ?_) (bt 9 3) rfl rfl (by kernel_rfl) (fun _ _ _ h => h) (Or.inl ⟨by rfl, ?_⟩) ?_ ?_
      rotate_left
      · intro w'
        go_simp
        first | with_reducible rfl | (simp [Instr.field, go_sem]; rfl)
      rotate_left
      · simp only [Act.put, List.setIfInBounds_toArray, List.set_cons_zero, List.set_cons_succ]
        rfl
      refine take_ (i := 2) (N := some 6) (v := ?_) (a' := ?_) (bt 9 7) rfl rfl (by kernel_rfl) (fun _ _ _ h => h) (Or.inl ⟨by rfl, ?_⟩) hHeld ?_ ?_
      rotate_left
      · intro w' hS
        have f_ := pw_cell_below hS (pw_cell_below HB.out HX.out)
        go_simp
        first | with_reducible rfl | (simp [Instr.field, go_sem]; rfl)
      rotate_left
      · simp only [Act.put, List.setIfInBounds_toArray, List.set_cons_zero, List.set_cons_succ]
        rfl
      refine pure_ (i := 3) (N := some 7) (v := ?_) (a' := ?_) (bt 9 15) rfl rfl (by kernel_rfl) (fun _ _ _ h => h) (Or.inl ⟨by rfl, ?_⟩) ?_ ?_
      rotate_left
      · intro w'
        go_simp
        first | with_reducible rfl | (simp [Instr.field, go_sem]; rfl)
      rotate_left
      · simp only [Act.put, List.setIfInBounds_toArray, List.set_cons_zero, List.set_cons_succ]
        rfl
      refine pure_ (i := 4) (N := some 8) (v := ?_) (a' := ?_) (bt 9 31) rfl rfl (by kernel_rfl) (fun _ _ _ h => h) (Or.inl ⟨by rfl, ?_⟩) ?_ ?_
      rotate_left
      · intro w'
        go_simp
        first | with_reducible rfl | (simp [Instr.field, go_sem]; rfl)
      rotate_left
      · simp only [Act.put, List.setIfInBounds_toArray, List.set_cons_zero, List.set_cons_succ]
        rfl
      refine join_ (σ := Nat) 1 (bt 9 255) (fun s_ => [(9, .int .i64 n1), (10, .agg #[.int .i64 (rd l 0), .int .i64 n1, .int .i64 0, .int .i64 0, .int .i64 0, .int .i64 0, .int .i64 0, .int .i64 0, .slice none 0 0, .slice none 0 0]), (3, .pointer (some ⟨s_, 0, none⟩))]) (fun s_ w' => w'.heap[s_]? = some (.cells As.Z 25 (0, 0)) ∧ Below w1.heap.size w1 w' ∧ w1.heap.size ≤ s_) ?_ ?_
      rotate_left
      · intro hJ
        refine two_ (i := 5) (j := 7) (Ni := some 9) (Nj := some 3) (bt 9 63) (bt 9 159) rfl rfl rfl rfl (by kernel_rfl) (by decide) (by decide) (fun K hK => ?_) (fun K hK => ?_)
        · skip
          refine goes_ Try.func75 (by kernel_rfl) rfl #[.slice (some ad) l.length c, .int .i64 1] (by rfl) rfl rfl (by (try simp only [List.map_toArray, List.map_cons, List.map_nil]); first | done | rfl) ?_
          refine ((As.nms (Kd.C_below HR.out (below_step HB.out hHeld)) HC.out H8.out HL.out (i := 1) (by decide) hn1.out)).mono ?_
          rintro e wp ⟨rfl, hb2⟩
          refine ⟨_, rfl, ?_⟩
          refine hK.out _ _ (below_step hHeld hb2) (fun hHeld2 => ?_)
          clear hK K
          refine norm_ (a' := ?_) ?_ ?_
          rotate_left
          · show Act.put _ (some 9) _ = _
            simp only [Act.put, List.setIfInBounds_toArray, List.set_cons_zero, List.set_cons_succ]
            rfl
          refine pure_ (i := 6) (N := some 10) (v := ?_) (a' := ?_) (bt 9 127) rfl rfl (by kernel_rfl) (fun _ _ _ h => h) (Or.inl ⟨by rfl, ?_⟩) ?_ ?_
          rotate_left
          · intro w'
            have hz1 := hz w'
            refine (?_ : Sem.run Try.prog (execOp _ _) w' = Result.ok (Next.value (Value.agg #[.int .i64 (rd l 0), .int .i64 n1, .int .i64 0, .int .i64 0, .int .i64 0, .int .i64 0, .int .i64 0, .int .i64 0, .slice none 0 0, .slice none 0 0])) w')
            first | (go_simp; done) | (go_simp; rfl)
          rotate_left
          · simp only [Act.put, List.setIfInBounds_toArray, List.set_cons_zero, List.set_cons_succ]
            rfl
          refine one_ (i := 7) (N := some 3) (bt 9 255) rfl rfl (by kernel_rfl) (by decide) (fun K hK => ?_)
          refine As.box_ev (by rfl) (N := 3) rfl (cs := As.Z) (t := 25) ?hr ?_
          case hr => first | (go_simp; done) | (go_simp; rfl)
          intro g3 hg3 w9 hbox hb9
          refine hK.out _ _ (below_step hHeld2 hb9) (fun hHeld3 => ?_)
          clear hK K
          refine norm_ (a' := ?_) ?_ ?_
          rotate_left
          · show Act.put _ (some 3) _ = _
            simp only [Act.put, List.setIfInBounds_toArray, List.set_cons_zero, List.set_cons_succ]
            rfl
          exact norm_ (by simp only [putAll, Act.put, List.setIfInBounds_toArray, List.set_cons_zero, List.set_cons_succ] <;> rfl) (hJ g3 _ ⟨hbox, hHeld3, (by rw [hg3]; exact hHeld2.size)⟩)
        · skip
          refine As.box_ev (by rfl) (N := 3) rfl (cs := As.Z) (t := 25) ?hr ?_
          case hr => first | (go_simp; done) | (go_simp; rfl)
          intro g3 hg3 w9 hbox hb9
          refine hK.out _ _ (below_step hHeld hb9) (fun hHeld2 => ?_)
          clear hK K
          refine norm_ (a' := ?_) ?_ ?_
          rotate_left
          · show Act.put _ (some 3) _ = _
            simp only [Act.put, List.setIfInBounds_toArray, List.set_cons_zero, List.set_cons_succ]
            rfl
          refine one_ (i := 5) (N := some 9) (bt 9 191) rfl rfl (by kernel_rfl) (by decide) (fun K hK => ?_)
          refine goes_ Try.func75 (by kernel_rfl) rfl #[.slice (some ad) l.length c, .int .i64 1] (by rfl) rfl rfl (by (try simp only [List.map_toArray, List.map_cons, List.map_nil]); first | done | rfl) ?_
          refine ((As.nms (Kd.C_below HR.out (below_step HB.out hHeld2)) HC.out H8.out HL.out (i := 1) (by decide) hn1.out)).mono ?_
          rintro e wp ⟨rfl, hb2⟩
          refine ⟨_, rfl, ?_⟩
          refine hK.out _ _ (below_step hHeld2 hb2) (fun hHeld3 => ?_)
          clear hK K
          refine norm_ (a' := ?_) ?_ ?_
          rotate_left
          · show Act.put _ (some 9) _ = _
            simp only [Act.put, List.setIfInBounds_toArray, List.set_cons_zero, List.set_cons_succ]
            rfl
          refine pure_ (i := 6) (N := some 10) (v := ?_) (a' := ?_) (bt 9 255) rfl rfl (by kernel_rfl) (fun _ _ _ h => h) (Or.inl ⟨by rfl, ?_⟩) ?_ ?_
          rotate_left
          · intro w'
            have hz1 := hz w'
            refine (?_ : Sem.run Try.prog (execOp _ _) w' = Result.ok (Next.value (Value.agg #[.int .i64 (rd l 0), .int .i64 n1, .int .i64 0, .int .i64 0, .int .i64 0, .int .i64 0, .int .i64 0, .int .i64 0, .slice none 0 0, .slice none 0 0])) w')
            first | (go_simp; done) | (go_simp; rfl)
          rotate_left
          · simp only [Act.put, List.setIfInBounds_toArray, List.set_cons_zero, List.set_cons_succ]
            rfl
          exact norm_ (by simp only [putAll, Act.put, List.setIfInBounds_toArray, List.set_cons_zero, List.set_cons_succ] <;> rfl) (hJ g3 _ ⟨blk_below hbox hb2, hHeld3, (by rw [hg3]; exact hHeld.size)⟩)
      clear hHeld
      rintro g3 w2 ⟨hbox, hHeld, hge⟩
      have LTg2g3 := Aside0.mk (show g2 < g3 from Nat.lt_of_lt_of_le (blk_lt BKg2.out) hge)
      have GEg3 := Aside0.mk (show w.heap.size ≤ g3 from Nat.le_trans HB.out.size hge)
      have BKg3 := Aside0.mk hbox
      clear hbox
      refine norm_ (a' := ?_) ?_ ?_
      rotate_left
      · simp only [putAll, Act.put, List.setIfInBounds_toArray, List.set_cons_zero, List.set_cons_succ]
        rfl
      refine one_ (i := 8) (N := none) (bt 9 511) rfl rfl (by kernel_rfl) (by decide) (fun K hK => ?_)
      refine As.store_ev (by rfl) rfl 25 _ _ rfl g3 #[.int .i64 (rd l 0), .int .i64 n1, .int .i64 0, .int .i64 0, .int .i64 0, .int .i64 0, .int .i64 0, .int .i64 0, .slice none 0 0, .slice none 0 0] rfl rfl 25 _ BKg3.out (by kernel_rfl) rfl (by first | kernel_rfl | simp [Value.oneCell']) ?_
      intro w3 hgb hgr
      have hS7 := hHeld.grown hgr hHeld.size (fun k hk => by cases hk; exact hge)
      have n0_ := Aside0.mk (blk_grown (blk_below BKg2.out hHeld) hgr (fun he => (Nat.ne_of_lt LTg2g3.out) (Option.some.inj he)))
      have n1_ := Aside0.mk (below_step HB.out hS7)
      clear BKg2 HB BKg3 hgr hHeld
      have HB := n1_
      have BKg2 := n0_
      have BKg3 := Aside0.mk hgb
      clear n0_ n1_ hgb
      refine hK.out _ _ hS7 (fun hHeld => ?_)
      clear hK K hHeld hS7
      refine done_ (by kernel_rfl) ?_
      (try clear cg3); have cg3 := fun i => blk_cell BKg3.out i
      go_wp2_with (first
        | (go_at_call 75; (with_reducible refine (As.nms (Kd.C_below HR.out HB.out) HC.out H8.out HL.out (i := 3) (by decide) hn3.out).mono ?_); rintro r wn ⟨rfl, hb⟩; have n0_ := Aside0.mk (below_step HB.out hb); have n1_ := Aside0.mk (blk_below BKg2.out hb); have n2_ := Aside0.mk (blk_below BKg3.out hb); clear HB BKg2 BKg3; have HB := n0_; have BKg2 := n1_; have BKg3 := n2_; clear n0_ n1_ n2_; clear hb; (try clear cg3); have cg3 := fun i => blk_cell BKg3.out i)
        | ((with_reducible refine gate_store rfl ?_); refine As.store_cell rfl rfl g3 ?_ ?_ 25 _ BKg3.out ?hr ?_; (case hr => (have hs_ := fun i => blk_cell BKg3.out i); (have hf_ := fun i => blk_frozen BKg3.out i); first | (go_simp; done) | (go_simp; rfl)); intro w5 hgb hgr; simp only [List.setIfInBounds_toArray, List.set_cons_zero, List.set_cons_succ] at hgb; have n0_ := Aside0.mk (HB.out.grown hgr HB.out.size (fun k hk => by cases hk; exact GEg3.out)); have n1_ := Aside0.mk (blk_grown BKg2.out hgr (fun he => (Nat.ne_of_lt LTg2g3.out) (Option.some.inj he))); clear HB BKg2; have HB := n0_; have BKg2 := n1_; clear n0_ n1_; clear BKg3 hgr; have BKg3 := Aside0.mk hgb; clear hgb; (try clear cg3); have cg3 := fun i => blk_cell BKg3.out i)
        | ((with_reducible refine gate_store rfl ?_); refine As.store_row rfl 25 _ _ rfl g2 _ rfl rfl 25 _ BKg2.out (by kernel_rfl) rfl (by first | kernel_rfl | simp [Value.oneCell']) ?_; intro w6 hgb hgr; have n0_ := Aside0.mk (HB.out.grown hgr HB.out.size (fun k hk => by cases hk; exact GEg2.out)); have n1_ := Aside0.mk (blk_grown BKg3.out hgr (fun he => (Nat.ne_of_gt LTg2g3.out) (Option.some.inj he))); clear HB BKg3; have HB := n0_; have BKg3 := n1_; clear n0_ n1_; clear BKg2 hgr; have BKg2 := Aside0.mk hgb; clear hgb; skip)
        | (refine wpList_load_row rfl 25 _ rfl g3 rfl 25 _ (0, 0) _ BKg3.out hu rfl (by kernel_rfl) ?_))
      refine bodyPost_ret (results_cell_row rfl _ _ g2 25 _ (0, 0) _ rfl BKg2.out hu rfl (by kernel_rfl)) rfl ?_
      exact ⟨_, rfl, As.mkVV (As.n8R _ w.heap.size) (As.n9R _ _), HB.out⟩
  · by_cases q6 : 6 < l.length
    · have q6b : decide ((6 : Int) < (l.length : Int)) = true := decide_eq_true (by omega)
      have q6c : decide (6 < l.length) = true := decide_eq_true q6
      have hw6 : IntKind.i64.wrap ((l.length : Int) - 6) = (l.length : Int) - 6 := by rw [i64_w]; exact w64 (by have := HL.out; constructor <;> omega)
      by_cases qs : (l.length : Int) - 6 = szI n3
      · rw [if_pos ⟨q6, qs⟩] at he
        have qsb : ((l.length : Int) - 6 == szI n3) = true := by simpa using qs
        clear qs
        have hC6 := Kd.C_drop (m := 6) HR.out (by omega) HC.out
        rw [if_neg (show ¬ c = 6 by omega)] at hC6
        have HC6 := Aside0.mk hC6
        clear hC6
        obtain ⟨t6, ht6⟩ : ∃ t, l.drop 6 = t := ⟨_, rfl⟩
        have HL7 := Aside0.mk (show l.length - 6 = t6.length by rw [← ht6, List.length_drop])
        rw [ht6] at HC6 he
        have H86 := Aside0.mk (show ∀ x ∈ t6, U8 x from fun x hx => H8.out x (List.mem_of_mem_drop (ht6 ▸ hx)))
        have HL6 := Aside0.mk (show t6.length ≤ 1000000 by have := HL7.out; have := HL.out; omega)
        clear ht6
        obtain ⟨bs, E, hg_⟩ : ∃ bs E, upkS t6 n3 = (bs, E) := ⟨_, _, rfl⟩
        rw [hg_] at he
        subst he
        have HUP := Aside0.mk hg_
        clear hg_
        go_enter Try.func53, Try.ntmps53
        go_wp2_with (first
          | ((with_reducible refine gate_dst (N := 2) rfl ?_); refine box_event ?hg (N := 2) ?hd (cs := As.Z) (t := 25) ?hr ?_; (case hd => rfl); (case hg => rfl); (case hr => first | (go_simp; done) | (go_simp; rfl)); intro g2 hg w1 hbox hb; have GEg2 := Aside0.mk ((by rw [hg]; exact HB.out.size) : w.heap.size ≤ g2); have BKg2 := Aside0.mk hbox; clear hbox hg; have n0_ := Aside0.mk (below_step HB.out hb); clear HB; have HB := n0_; clear n0_; skip; clear hb))
        have hb := below_drew1 (Below.refl w1.heap.size w1)
        refine start_ (n := 9) (S := fun w' => Below w1.heap.size w1 w') (ds := []) (bt 9 0) (by kernel_rfl) rfl (by kernel_rfl) hb (fun hHeld => ?_)
        clear hb
        refine pure_ (i := 0) (N := some 4) (v := ?_) (a' := ?_) (bt 9 1) rfl rfl (by kernel_rfl) (fun _ _ _ h => h) (Or.inl ⟨by rfl, ?_⟩) ?_ ?_
        rotate_left
        · intro w'
          go_simp
          first | with_reducible rfl | (simp [Instr.field, go_sem]; rfl)
        rotate_left
        · simp only [Act.put, List.setIfInBounds_toArray, List.set_cons_zero, List.set_cons_succ]
          rfl
        refine pure_ (i := 1) (N := some 5) (v := ?_) (a' := ?_) (bt 9 3) rfl rfl (by kernel_rfl) (fun _ _ _ h => h) (Or.inl ⟨by rfl, ?_⟩) ?_ ?_
        rotate_left
        · intro w'
          go_simp
          first | with_reducible rfl | (simp [Instr.field, go_sem]; rfl)
        rotate_left
        · simp only [Act.put, List.setIfInBounds_toArray, List.set_cons_zero, List.set_cons_succ]
          rfl
        refine take_ (i := 2) (N := some 6) (v := ?_) (a' := ?_) (bt 9 7) rfl rfl (by kernel_rfl) (fun _ _ _ h => h) (Or.inl ⟨by rfl, ?_⟩) hHeld ?_ ?_
        rotate_left
        · intro w' hS
          have f_ := pw_cell_below hS (pw_cell_below HB.out HX.out)
          go_simp
          first | with_reducible rfl | (simp [Instr.field, go_sem]; rfl)
        rotate_left
        · simp only [Act.put, List.setIfInBounds_toArray, List.set_cons_zero, List.set_cons_succ]
          rfl
        refine pure_ (i := 3) (N := some 7) (v := ?_) (a' := ?_) (bt 9 15) rfl rfl (by kernel_rfl) (fun _ _ _ h => h) (Or.inl ⟨by rfl, ?_⟩) ?_ ?_
        rotate_left
        · intro w'
          go_simp
          first | with_reducible rfl | (simp [Instr.field, go_sem]; rfl)
        rotate_left
        · simp only [Act.put, List.setIfInBounds_toArray, List.set_cons_zero, List.set_cons_succ]
          rfl
        refine pure_ (i := 4) (N := some 8) (v := ?_) (a' := ?_) (bt 9 31) rfl rfl (by kernel_rfl) (fun _ _ _ h => h) (Or.inl ⟨by rfl, ?_⟩) ?_ ?_
        rotate_left
        · intro w'
          go_simp
          first | with_reducible rfl | (simp [Instr.field, go_sem]; rfl)
        rotate_left
        · simp only [Act.put, List.setIfInBounds_toArray, List.set_cons_zero, List.set_cons_succ]
          rfl
        refine join_ (σ := Nat) 1 (bt 9 255) (fun s_ => [(9, .int .i64 n1), (10, .agg #[.int .i64 (rd l 0), .int .i64 n1, .int .i64 0, .int .i64 0, .int .i64 0, .int .i64 0, .int .i64 0, .int .i64 0, .slice none 0 0, .slice none 0 0]), (3, .pointer (some ⟨s_, 0, none⟩))]) (fun s_ w' => w'.heap[s_]? = some (.cells As.Z 25 (0, 0)) ∧ Below w1.heap.size w1 w' ∧ w1.heap.size ≤ s_) ?_ ?_
        rotate_left
        · intro hJ
          refine two_ (i := 5) (j := 7) (Ni := some 9) (Nj := some 3) (bt 9 63) (bt 9 159) rfl rfl rfl rfl (by kernel_rfl) (by decide) (by decide) (fun K hK => ?_) (fun K hK => ?_)
          · skip
            refine goes_ Try.func75 (by kernel_rfl) rfl #[.slice (some ad) l.length c, .int .i64 1] (by rfl) rfl rfl (by (try simp only [List.map_toArray, List.map_cons, List.map_nil]); first | done | rfl) ?_
            refine ((As.nms (Kd.C_below HR.out (below_step HB.out hHeld)) HC.out H8.out HL.out (i := 1) (by decide) hn1.out)).mono ?_
            rintro e wp ⟨rfl, hb2⟩
            refine ⟨_, rfl, ?_⟩
            refine hK.out _ _ (below_step hHeld hb2) (fun hHeld2 => ?_)
            clear hK K
            refine norm_ (a' := ?_) ?_ ?_
            rotate_left
            · show Act.put _ (some 9) _ = _
              simp only [Act.put, List.setIfInBounds_toArray, List.set_cons_zero, List.set_cons_succ]
              rfl
            refine pure_ (i := 6) (N := some 10) (v := ?_) (a' := ?_) (bt 9 127) rfl rfl (by kernel_rfl) (fun _ _ _ h => h) (Or.inl ⟨by rfl, ?_⟩) ?_ ?_
            rotate_left
            · intro w'
              have hz1 := hz w'
              refine (?_ : Sem.run Try.prog (execOp _ _) w' = Result.ok (Next.value (Value.agg #[.int .i64 (rd l 0), .int .i64 n1, .int .i64 0, .int .i64 0, .int .i64 0, .int .i64 0, .int .i64 0, .int .i64 0, .slice none 0 0, .slice none 0 0])) w')
              first | (go_simp; done) | (go_simp; rfl)
            rotate_left
            · simp only [Act.put, List.setIfInBounds_toArray, List.set_cons_zero, List.set_cons_succ]
              rfl
            refine one_ (i := 7) (N := some 3) (bt 9 255) rfl rfl (by kernel_rfl) (by decide) (fun K hK => ?_)
            refine As.box_ev (by rfl) (N := 3) rfl (cs := As.Z) (t := 25) ?hr ?_
            case hr => first | (go_simp; done) | (go_simp; rfl)
            intro g3 hg3 w9 hbox hb9
            refine hK.out _ _ (below_step hHeld2 hb9) (fun hHeld3 => ?_)
            clear hK K
            refine norm_ (a' := ?_) ?_ ?_
            rotate_left
            · show Act.put _ (some 3) _ = _
              simp only [Act.put, List.setIfInBounds_toArray, List.set_cons_zero, List.set_cons_succ]
              rfl
            exact norm_ (by simp only [putAll, Act.put, List.setIfInBounds_toArray, List.set_cons_zero, List.set_cons_succ] <;> rfl) (hJ g3 _ ⟨hbox, hHeld3, (by rw [hg3]; exact hHeld2.size)⟩)
          · skip
            refine As.box_ev (by rfl) (N := 3) rfl (cs := As.Z) (t := 25) ?hr ?_
            case hr => first | (go_simp; done) | (go_simp; rfl)
            intro g3 hg3 w9 hbox hb9
            refine hK.out _ _ (below_step hHeld hb9) (fun hHeld2 => ?_)
            clear hK K
            refine norm_ (a' := ?_) ?_ ?_
            rotate_left
            · show Act.put _ (some 3) _ = _
              simp only [Act.put, List.setIfInBounds_toArray, List.set_cons_zero, List.set_cons_succ]
              rfl
            refine one_ (i := 5) (N := some 9) (bt 9 191) rfl rfl (by kernel_rfl) (by decide) (fun K hK => ?_)
            refine goes_ Try.func75 (by kernel_rfl) rfl #[.slice (some ad) l.length c, .int .i64 1] (by rfl) rfl rfl (by (try simp only [List.map_toArray, List.map_cons, List.map_nil]); first | done | rfl) ?_
            refine ((As.nms (Kd.C_below HR.out (below_step HB.out hHeld2)) HC.out H8.out HL.out (i := 1) (by decide) hn1.out)).mono ?_
            rintro e wp ⟨rfl, hb2⟩
            refine ⟨_, rfl, ?_⟩
            refine hK.out _ _ (below_step hHeld2 hb2) (fun hHeld3 => ?_)
            clear hK K
            refine norm_ (a' := ?_) ?_ ?_
            rotate_left
            · show Act.put _ (some 9) _ = _
              simp only [Act.put, List.setIfInBounds_toArray, List.set_cons_zero, List.set_cons_succ]
              rfl
            refine pure_ (i := 6) (N := some 10) (v := ?_) (a' := ?_) (bt 9 255) rfl rfl (by kernel_rfl) (fun _ _ _ h => h) (Or.inl ⟨by rfl, ?_⟩) ?_ ?_
            rotate_left
            · intro w'
              have hz1 := hz w'
              refine (?_ : Sem.run Try.prog (execOp _ _) w' = Result.ok (Next.value (Value.agg #[.int .i64 (rd l 0), .int .i64 n1, .int .i64 0, .int .i64 0, .int .i64 0, .int .i64 0, .int .i64 0, .int .i64 0, .slice none 0 0, .slice none 0 0])) w')
              first | (go_simp; done) | (go_simp; rfl)
            rotate_left
            · simp only [Act.put, List.setIfInBounds_toArray, List.set_cons_zero, List.set_cons_succ]
              rfl
            exact norm_ (by simp only [putAll, Act.put, List.setIfInBounds_toArray, List.set_cons_zero, List.set_cons_succ] <;> rfl) (hJ g3 _ ⟨blk_below hbox hb2, hHeld3, (by rw [hg3]; exact hHeld.size)⟩)
        clear hHeld
        rintro g3 w2 ⟨hbox, hHeld, hge⟩
        have LTg2g3 := Aside0.mk (show g2 < g3 from Nat.lt_of_lt_of_le (blk_lt BKg2.out) hge)
        have GEg3 := Aside0.mk (show w.heap.size ≤ g3 from Nat.le_trans HB.out.size hge)
        have BKg3 := Aside0.mk hbox
        clear hbox
        refine norm_ (a' := ?_) ?_ ?_
        rotate_left
        · simp only [putAll, Act.put, List.setIfInBounds_toArray, List.set_cons_zero, List.set_cons_succ]
          rfl
        refine one_ (i := 8) (N := none) (bt 9 511) rfl rfl (by kernel_rfl) (by decide) (fun K hK => ?_)
        refine As.store_ev (by rfl) rfl 25 _ _ rfl g3 #[.int .i64 (rd l 0), .int .i64 n1, .int .i64 0, .int .i64 0, .int .i64 0, .int .i64 0, .int .i64 0, .int .i64 0, .slice none 0 0, .slice none 0 0] rfl rfl 25 _ BKg3.out (by kernel_rfl) rfl (by first | kernel_rfl | simp [Value.oneCell']) ?_
        intro w3 hgb hgr
        have hS7 := hHeld.grown hgr hHeld.size (fun k hk => by cases hk; exact hge)
        have n0_ := Aside0.mk (blk_grown (blk_below BKg2.out hHeld) hgr (fun he => (Nat.ne_of_lt LTg2g3.out) (Option.some.inj he)))
        have n1_ := Aside0.mk (below_step HB.out hS7)
        clear BKg2 HB BKg3 hgr hHeld
        have HB := n1_
        have BKg2 := n0_
        have BKg3 := Aside0.mk hgb
        clear n0_ n1_ hgb
        refine hK.out _ _ hS7 (fun hHeld => ?_)
        clear hK K hHeld hS7
        refine done_ (by kernel_rfl) ?_
        (try clear cg3); have cg3 := fun i => blk_cell BKg3.out i
        go_wp2_with (first
          | (go_at_call 75; (with_reducible refine (As.nms (Kd.C_below HR.out HB.out) HC.out H8.out HL.out (i := 3) (by decide) hn3.out).mono ?_); rintro r wn ⟨rfl, hb⟩; have n0_ := Aside0.mk (below_step HB.out hb); have n1_ := Aside0.mk (blk_below BKg2.out hb); have n2_ := Aside0.mk (blk_below BKg3.out hb); clear HB BKg2 BKg3; have HB := n0_; have BKg2 := n1_; have BKg3 := n2_; clear n0_ n1_ n2_; clear hb; (try clear cg3); have cg3 := fun i => blk_cell BKg3.out i)
          | ((with_reducible refine gate_store rfl ?_); refine As.store_cell rfl rfl g3 ?_ ?_ 25 _ BKg3.out ?hr ?_; (case hr => (have hs_ := fun i => blk_cell BKg3.out i); (have hf_ := fun i => blk_frozen BKg3.out i); first | (go_simp; done) | (go_simp; rfl)); intro w5 hgb hgr; simp only [List.setIfInBounds_toArray, List.set_cons_zero, List.set_cons_succ] at hgb; have n0_ := Aside0.mk (HB.out.grown hgr HB.out.size (fun k hk => by cases hk; exact GEg3.out)); have n1_ := Aside0.mk (blk_grown BKg2.out hgr (fun he => (Nat.ne_of_lt LTg2g3.out) (Option.some.inj he))); clear HB BKg2; have HB := n0_; have BKg2 := n1_; clear n0_ n1_; clear BKg3 hgr; have BKg3 := Aside0.mk hgb; clear hgb; (try clear cg3); have cg3 := fun i => blk_cell BKg3.out i)
          | (go_at_call 67; (with_reducible refine (As.rsizes hI3.out).mono ?_); rintro r w4 ⟨rfl, hb⟩; have n0_ := Aside0.mk (below_step HB.out hb); have n1_ := Aside0.mk (blk_below BKg2.out hb); have n2_ := Aside0.mk (blk_below BKg3.out hb); clear HB BKg2 BKg3; have HB := n0_; have BKg2 := n1_; have BKg3 := n2_; clear n0_ n1_ n2_; clear hb; (try clear cg3); have cg3 := fun i => blk_cell BKg3.out i))
        refine start_ (n := 10) (S := fun w' => ∃ v8_ : Value, w'.heap[g3]? = some (.cells #[.int .i64 (rd l 0), .int .i64 n1, .int .i64 n3, .int .i64 0, .int .i64 0, .int .i64 0, .int .i64 0, .int .i64 0, v8_, .slice none 0 0] 25 (0, 0))) (ds := []) (bt 10 0) (by kernel_rfl) rfl (by kernel_rfl) ⟨_, (show w4.drew.heap[g3]? = _ from BKg3.out)⟩ (fun hHeld => ?_)
        have n1_ := Aside0.mk (show w4.drew.heap[g3]? = some (.cells #[.int .i64 (rd l 0), .int .i64 n1, .int .i64 n3, .int .i64 0, .int .i64 0, .int .i64 0, .int .i64 0, .int .i64 0, .slice none 0 0, .slice none 0 0] 25 (0, 0)) from BKg3.out)
        have n2_ := Aside0.mk (below_drew1 HB.out)
        have n3_ := Aside0.mk (show w4.drew.heap[g2]? = some (.cells As.Z 25 (0, 0)) from BKg2.out)
        clear BKg3 HB BKg2 cg3
        have BKg3 := n1_
        have HB := n2_
        have BKg2 := n3_
        clear n1_ n2_ n3_
        generalize w4.drew = v0_ at *
        refine pure_ (i := 0) (N := some 45) (v := ?_) (a' := ?_) (bt 10 1) rfl rfl (by kernel_rfl) (fun _ _ _ h => h) (Or.inl ⟨by rfl, ?_⟩) ?_ ?_
        rotate_left
        · intro w'
          go_simp
          first | with_reducible rfl | (simp [Instr.field, go_sem]; rfl)
        rotate_left
        · simp only [Act.put, List.setIfInBounds_toArray, List.set_cons_zero, List.set_cons_succ]
          rfl
        refine take_ (i := 1) (N := some 46) (v := ?_) (a' := ?_) (bt 10 3) rfl rfl (by kernel_rfl) (fun _ _ _ h => h) (Or.inl ⟨by rfl, ?_⟩) hHeld ?_ ?_
        rotate_left
        · intro w' hS
          go_simp
          rw [if_pos (show (6 : Int) ≤ (l.length : Int) by omega), if_neg (show ¬ c = 6 by omega)]
        rotate_left
        · simp only [Act.put, List.setIfInBounds_toArray, List.set_cons_zero, List.set_cons_succ]
          rfl
        refine pure_ (i := 2) (N := some 47) (v := ?_) (a' := ?_) (bt 10 7) rfl rfl (by kernel_rfl) (fun _ _ _ h => h) (Or.inl ⟨by rfl, ?_⟩) ?_ ?_
        rotate_left
        · intro w'
          go_simp
          first | with_reducible rfl | (simp [Instr.field, go_sem]; rfl)
        rotate_left
        · simp only [Act.put, List.setIfInBounds_toArray, List.set_cons_zero, List.set_cons_succ]
          rfl
        refine take_ (i := 3) (N := some 48) (v := ?_) (a' := ?_) (bt 10 15) rfl rfl (by kernel_rfl) (fun _ _ _ h => h) (Or.inl ⟨by rfl, ?_⟩) hHeld ?_ ?_
        rotate_left
        · intro w' hS
          obtain ⟨v8_, hS8⟩ := hS
          have f_ := fun i => blk_cell hS8 i
          go_simp
          first | with_reducible rfl | (simp [Instr.field, go_sem]; rfl)
        rotate_left
        · simp only [Act.put, List.setIfInBounds_toArray, List.set_cons_zero, List.set_cons_succ]
          rfl
        refine one_ (i := 4) (N := some 49) (bt 10 31) rfl rfl (by kernel_rfl) (by decide) (fun K hK => ?_)
        refine goes_ Try.func63 (by kernel_rfl) rfl #[.slice (some (ad.add 6)) (l.length - 6) (c - 6), .int .i64 n3] (by rfl) rfl rfl (by (try simp only [List.map_toArray, List.map_cons, List.map_nil]); first | done | rfl) ?_
        refine (As.runpacks HL7.out (Kd.C_below HC6.out HB.out) (by have := HC.out; have := HL7.out; omega) H86.out HL6.out hI3.out HUP.out).mono ?_
        rintro e w4 ⟨vr, rfl, ho, hb⟩
        refine ⟨_, rfl, ?_⟩
        have HRv := Aside0.mk (Kd.R_lower ho HB.out.size)
        have hi2 := blk_below BKg3.out hb
        have n1_ := Aside0.mk (blk_below BKg2.out hb)
        have n2_ := Aside0.mk (below_step HB.out hb)
        clear ho HB BKg2 BKg3 hb
        have HB := n2_
        have BKg2 := n1_
        have BKg3 := Aside0.mk hi2
        clear n1_ n2_
        obtain ⟨Av, cv, ev⟩ := Kd.R_slice HRv.out
        subst ev
        refine hK.out _ _ ⟨_, hi2⟩ (fun hHeld => ?_)
        clear hK K hi2
        refine norm_ (a' := ?_) ?_ ?_
        rotate_left
        · show Act.put _ (some 49) _ = _
          simp only [Act.put, List.setIfInBounds_toArray, List.set_cons_zero, List.set_cons_succ]
          rfl
        refine pure_ (i := 5) (N := some 44) (v := ?_) (a' := ?_) (bt 10 63) rfl rfl (by kernel_rfl) (fun _ _ _ h => h) (Or.inl ⟨by rfl, ?_⟩) ?_ ?_
        rotate_left
        · intro w'
          go_simp
          first | with_reducible rfl | (simp [Instr.field, go_sem]; rfl)
        rotate_left
        · simp only [Act.put, List.setIfInBounds_toArray, List.set_cons_zero, List.set_cons_succ]
          rfl
        refine pure_ (i := 6) (N := some 50) (v := ?_) (a' := ?_) (bt 10 127) rfl rfl (by kernel_rfl) (fun _ _ _ h => h) (Or.inl ⟨by rfl, ?_⟩) ?_ ?_
        rotate_left
        · intro w'
          go_simp
          first | with_reducible rfl | (simp [Instr.field, go_sem]; rfl)
        rotate_left
        · simp only [Act.put, List.setIfInBounds_toArray, List.set_cons_zero, List.set_cons_succ]
          rfl
        refine pure_ (i := 7) (N := some 51) (v := ?_) (a' := ?_) (bt 10 255) rfl rfl (by kernel_rfl) (fun _ _ _ h => h) (Or.inl ⟨by rfl, ?_⟩) ?_ ?_
        rotate_left
        · intro w'
          go_simp
          first | with_reducible rfl | (simp [Instr.field, go_sem]; rfl)
        rotate_left
        · simp only [Act.put, List.setIfInBounds_toArray, List.set_cons_zero, List.set_cons_succ]
          rfl
        refine pure_ (i := 8) (N := some 52) (v := ?_) (a' := ?_) (bt 10 511) rfl rfl (by kernel_rfl) (fun _ _ _ h => h) (Or.inl ⟨by rfl, ?_⟩) ?_ ?_
        rotate_left
        · intro w'
          go_simp
          first | with_reducible rfl | (simp [Instr.field, go_sem]; rfl)
        rotate_left
        · simp only [Act.put, List.setIfInBounds_toArray, List.set_cons_zero, List.set_cons_succ]
          rfl
        refine one_ (i := 9) (N := none) (bt 10 1023) rfl rfl (by kernel_rfl) (by decide) (fun K hK => ?_)
        refine skip_ (w1 := w4.setCell ⟨g3, 8, none⟩ (.slice Av bs.length cv)) (by rfl) rfl ?_ ?_
        · have hs_ := fun i => blk_cell BKg3.out i
          have hf_ := fun i => blk_frozen BKg3.out i
          go_simp
        have hgr := As.grown_set w4 g3 8 (.slice Av bs.length cv)
        have hgb := blk_set BKg3.out 8 (.slice Av bs.length cv)
        simp only [List.setIfInBounds_toArray, List.set_cons_zero, List.set_cons_succ] at hgb
        have hRn := Aside0.mk (As.R_ty HRv.out BKg3.out (by decide) hgr); clear HRv; have HRv := hRn; clear hRn
        have n0_ := Aside0.mk (HB.out.grown hgr HB.out.size (fun k hk => by cases hk; exact GEg3.out)); have n1_ := Aside0.mk (blk_grown BKg2.out hgr (fun he => (Nat.ne_of_lt LTg2g3.out) (Option.some.inj he))); clear HB BKg2; have HB := n0_; have BKg2 := n1_; clear n0_ n1_
        clear BKg3 hgr
        have BKg3 := Aside0.mk hgb
        clear hgb hHeld
        generalize w4.setCell ⟨g3, 8, none⟩ (.slice Av bs.length cv) = w5 at *
        refine hK.out _ _ ⟨_, BKg3.out⟩ (fun _ => ?_)
        clear hK K
        refine done_ (by kernel_rfl) ?_
        (try clear cg3); have cg3 := fun i => blk_cell BKg3.out i
        go_wp2_with (first
          | ((with_reducible refine gate_store rfl ?_); refine As.store_row rfl 25 _ _ rfl g2 _ rfl rfl 25 _ BKg2.out (by kernel_rfl) rfl (by first | kernel_rfl | simp [Value.oneCell']) ?_; intro w6 hgb hgr; have hRn := Aside0.mk (As.R_ty HRv.out BKg2.out (by decide) hgr); clear HRv; have HRv := hRn; clear hRn; have n0_ := Aside0.mk (HB.out.grown hgr HB.out.size (fun k hk => by cases hk; exact GEg2.out)); have n1_ := Aside0.mk (blk_grown BKg3.out hgr (fun he => (Nat.ne_of_gt LTg2g3.out) (Option.some.inj he))); clear HB BKg3; have HB := n0_; have BKg3 := n1_; clear n0_ n1_; clear BKg2 hgr; have BKg2 := Aside0.mk hgb; clear hgb; skip)
          | (refine wpList_load_row rfl 25 _ rfl g3 rfl 25 _ (0, 0) _ BKg3.out hu rfl (by kernel_rfl) ?_))
        refine bodyPost_ret (results_cell_row rfl _ _ g2 25 _ (0, 0) _ rfl BKg2.out hu rfl (by kernel_rfl)) rfl ?_
        exact ⟨_, rfl, As.mkVV HRv.out (As.n9R _ w.heap.size), HB.out⟩
      · rw [if_neg (fun h => qs h.2)] at he
        have qsb : ((l.length : Int) - 6 == szI n3) = false := by simpa using qs
        clear qs
        subst he
        go_enter Try.func53, Try.ntmps53
        go_wp2_with (first
          | ((with_reducible refine gate_dst (N := 2) rfl ?_); refine box_event ?hg (N := 2) ?hd (cs := As.Z) (t := 25) ?hr ?_; (case hd => rfl); (case hg => rfl); (case hr => first | (go_simp; done) | (go_simp; rfl)); intro g2 hg w1 hbox hb; have GEg2 := Aside0.mk ((by rw [hg]; exact HB.out.size) : w.heap.size ≤ g2); have BKg2 := Aside0.mk hbox; clear hbox hg; have n0_ := Aside0.mk (below_step HB.out hb); clear HB; have HB := n0_; clear n0_; skip; clear hb))
        have hb := below_drew1 (Below.refl w1.heap.size w1)
        refine start_ (n := 9) (S := fun w' => Below w1.heap.size w1 w') (ds := []) (bt 9 0) (by kernel_rfl) rfl (by kernel_rfl) hb (fun hHeld => ?_)
        clear hb
        refine pure_ (i := 0) (N := some 4) (v := ?_) (a' := ?_) (bt 9 1) rfl rfl (by kernel_rfl) (fun _ _ _ h => h) (Or.inl ⟨by rfl, ?_⟩) ?_ ?_
        rotate_left
        · intro w'
          go_simp
          first | with_reducible rfl | (simp [Instr.field, go_sem]; rfl)
        rotate_left
        · simp only [Act.put, List.setIfInBounds_toArray, List.set_cons_zero, List.set_cons_succ]
          rfl
        refine pure_ (i := 1) (N := some 5) (v := ?_) (a' := ?_) (bt 9 3) rfl rfl (by kernel_rfl) (fun _ _ _ h => h) (Or.inl ⟨by rfl, ?_⟩) ?_ ?_
        rotate_left
        · intro w'
          go_simp
          first | with_reducible rfl | (simp [Instr.field, go_sem]; rfl)
        rotate_left
        · simp only [Act.put, List.setIfInBounds_toArray, List.set_cons_zero, List.set_cons_succ]
          rfl
        refine take_ (i := 2) (N := some 6) (v := ?_) (a' := ?_) (bt 9 7) rfl rfl (by kernel_rfl) (fun _ _ _ h => h) (Or.inl ⟨by rfl, ?_⟩) hHeld ?_ ?_
        rotate_left
        · intro w' hS
          have f_ := pw_cell_below hS (pw_cell_below HB.out HX.out)
          go_simp
          first | with_reducible rfl | (simp [Instr.field, go_sem]; rfl)
        rotate_left
        · simp only [Act.put, List.setIfInBounds_toArray, List.set_cons_zero, List.set_cons_succ]
          rfl
        refine pure_ (i := 3) (N := some 7) (v := ?_) (a' := ?_) (bt 9 15) rfl rfl (by kernel_rfl) (fun _ _ _ h => h) (Or.inl ⟨by rfl, ?_⟩) ?_ ?_
        rotate_left
        · intro w'
          go_simp
          first | with_reducible rfl | (simp [Instr.field, go_sem]; rfl)
        rotate_left
        · simp only [Act.put, List.setIfInBounds_toArray, List.set_cons_zero, List.set_cons_succ]
          rfl
        refine pure_ (i := 4) (N := some 8) (v := ?_) (a' := ?_) (bt 9 31) rfl rfl (by kernel_rfl) (fun _ _ _ h => h) (Or.inl ⟨by rfl, ?_⟩) ?_ ?_
        rotate_left
        · intro w'
          go_simp
          first | with_reducible rfl | (simp [Instr.field, go_sem]; rfl)
        rotate_left
        · simp only [Act.put, List.setIfInBounds_toArray, List.set_cons_zero, List.set_cons_succ]
          rfl
        refine join_ (σ := Nat) 1 (bt 9 255) (fun s_ => [(9, .int .i64 n1), (10, .agg #[.int .i64 (rd l 0), .int .i64 n1, .int .i64 0, .int .i64 0, .int .i64 0, .int .i64 0, .int .i64 0, .int .i64 0, .slice none 0 0, .slice none 0 0]), (3, .pointer (some ⟨s_, 0, none⟩))]) (fun s_ w' => w'.heap[s_]? = some (.cells As.Z 25 (0, 0)) ∧ Below w1.heap.size w1 w' ∧ w1.heap.size ≤ s_) ?_ ?_
        rotate_left
        · intro hJ
          refine two_ (i := 5) (j := 7) (Ni := some 9) (Nj := some 3) (bt 9 63) (bt 9 159) rfl rfl rfl rfl (by kernel_rfl) (by decide) (by decide) (fun K hK => ?_) (fun K hK => ?_)
          · skip
            refine goes_ Try.func75 (by kernel_rfl) rfl #[.slice (some ad) l.length c, .int .i64 1] (by rfl) rfl rfl (by (try simp only [List.map_toArray, List.map_cons, List.map_nil]); first | done | rfl) ?_
            refine ((As.nms (Kd.C_below HR.out (below_step HB.out hHeld)) HC.out H8.out HL.out (i := 1) (by decide) hn1.out)).mono ?_
            rintro e wp ⟨rfl, hb2⟩
            refine ⟨_, rfl, ?_⟩
            refine hK.out _ _ (below_step hHeld hb2) (fun hHeld2 => ?_)
            clear hK K
            refine norm_ (a' := ?_) ?_ ?_
            rotate_left
            · show Act.put _ (some 9) _ = _
              simp only [Act.put, List.setIfInBounds_toArray, List.set_cons_zero, List.set_cons_succ]
              rfl
            refine pure_ (i := 6) (N := some 10) (v := ?_) (a' := ?_) (bt 9 127) rfl rfl (by kernel_rfl) (fun _ _ _ h => h) (Or.inl ⟨by rfl, ?_⟩) ?_ ?_
            rotate_left
            · intro w'
              have hz1 := hz w'
              refine (?_ : Sem.run Try.prog (execOp _ _) w' = Result.ok (Next.value (Value.agg #[.int .i64 (rd l 0), .int .i64 n1, .int .i64 0, .int .i64 0, .int .i64 0, .int .i64 0, .int .i64 0, .int .i64 0, .slice none 0 0, .slice none 0 0])) w')
              first | (go_simp; done) | (go_simp; rfl)
            rotate_left
            · simp only [Act.put, List.setIfInBounds_toArray, List.set_cons_zero, List.set_cons_succ]
              rfl
            refine one_ (i := 7) (N := some 3) (bt 9 255) rfl rfl (by kernel_rfl) (by decide) (fun K hK => ?_)
            refine As.box_ev (by rfl) (N := 3) rfl (cs := As.Z) (t := 25) ?hr ?_
            case hr => first | (go_simp; done) | (go_simp; rfl)
            intro g3 hg3 w9 hbox hb9
            refine hK.out _ _ (below_step hHeld2 hb9) (fun hHeld3 => ?_)
            clear hK K
            refine norm_ (a' := ?_) ?_ ?_
            rotate_left
            · show Act.put _ (some 3) _ = _
              simp only [Act.put, List.setIfInBounds_toArray, List.set_cons_zero, List.set_cons_succ]
              rfl
            exact norm_ (by simp only [putAll, Act.put, List.setIfInBounds_toArray, List.set_cons_zero, List.set_cons_succ] <;> rfl) (hJ g3 _ ⟨hbox, hHeld3, (by rw [hg3]; exact hHeld2.size)⟩)
          · skip
            refine As.box_ev (by rfl) (N := 3) rfl (cs := As.Z) (t := 25) ?hr ?_
            case hr => first | (go_simp; done) | (go_simp; rfl)
            intro g3 hg3 w9 hbox hb9
            refine hK.out _ _ (below_step hHeld hb9) (fun hHeld2 => ?_)
            clear hK K
            refine norm_ (a' := ?_) ?_ ?_
            rotate_left
            · show Act.put _ (some 3) _ = _
              simp only [Act.put, List.setIfInBounds_toArray, List.set_cons_zero, List.set_cons_succ]
              rfl
            refine one_ (i := 5) (N := some 9) (bt 9 191) rfl rfl (by kernel_rfl) (by decide) (fun K hK => ?_)
            refine goes_ Try.func75 (by kernel_rfl) rfl #[.slice (some ad) l.length c, .int .i64 1] (by rfl) rfl rfl (by (try simp only [List.map_toArray, List.map_cons, List.map_nil]); first | done | rfl) ?_
            refine ((As.nms (Kd.C_below HR.out (below_step HB.out hHeld2)) HC.out H8.out HL.out (i := 1) (by decide) hn1.out)).mono ?_
            rintro e wp ⟨rfl, hb2⟩
            refine ⟨_, rfl, ?_⟩
            refine hK.out _ _ (below_step hHeld2 hb2) (fun hHeld3 => ?_)
            clear hK K
            refine norm_ (a' := ?_) ?_ ?_
            rotate_left
            · show Act.put _ (some 9) _ = _
              simp only [Act.put, List.setIfInBounds_toArray, List.set_cons_zero, List.set_cons_succ]
              rfl
            refine pure_ (i := 6) (N := some 10) (v := ?_) (a' := ?_) (bt 9 255) rfl rfl (by kernel_rfl) (fun _ _ _ h => h) (Or.inl ⟨by rfl, ?_⟩) ?_ ?_
            rotate_left
            · intro w'
              have hz1 := hz w'
              refine (?_ : Sem.run Try.prog (execOp _ _) w' = Result.ok (Next.value (Value.agg #[.int .i64 (rd l 0), .int .i64 n1, .int .i64 0, .int .i64 0, .int .i64 0, .int .i64 0, .int .i64 0, .int .i64 0, .slice none 0 0, .slice none 0 0])) w')
              first | (go_simp; done) | (go_simp; rfl)
            rotate_left
            · simp only [Act.put, List.setIfInBounds_toArray, List.set_cons_zero, List.set_cons_succ]
              rfl
            exact norm_ (by simp only [putAll, Act.put, List.setIfInBounds_toArray, List.set_cons_zero, List.set_cons_succ] <;> rfl) (hJ g3 _ ⟨blk_below hbox hb2, hHeld3, (by rw [hg3]; exact hHeld.size)⟩)
        clear hHeld
        rintro g3 w2 ⟨hbox, hHeld, hge⟩
        have LTg2g3 := Aside0.mk (show g2 < g3 from Nat.lt_of_lt_of_le (blk_lt BKg2.out) hge)
        have GEg3 := Aside0.mk (show w.heap.size ≤ g3 from Nat.le_trans HB.out.size hge)
        have BKg3 := Aside0.mk hbox
        clear hbox
        refine norm_ (a' := ?_) ?_ ?_
        rotate_left
        · simp only [putAll, Act.put, List.setIfInBounds_toArray, List.set_cons_zero, List.set_cons_succ]
          rfl
        refine one_ (i := 8) (N := none) (bt 9 511) rfl rfl (by kernel_rfl) (by decide) (fun K hK => ?_)
        refine As.store_ev (by rfl) rfl 25 _ _ rfl g3 #[.int .i64 (rd l 0), .int .i64 n1, .int .i64 0, .int .i64 0, .int .i64 0, .int .i64 0, .int .i64 0, .int .i64 0, .slice none 0 0, .slice none 0 0] rfl rfl 25 _ BKg3.out (by kernel_rfl) rfl (by first | kernel_rfl | simp [Value.oneCell']) ?_
        intro w3 hgb hgr
        have hS7 := hHeld.grown hgr hHeld.size (fun k hk => by cases hk; exact hge)
        have n0_ := Aside0.mk (blk_grown (blk_below BKg2.out hHeld) hgr (fun he => (Nat.ne_of_lt LTg2g3.out) (Option.some.inj he)))
        have n1_ := Aside0.mk (below_step HB.out hS7)
        clear BKg2 HB BKg3 hgr hHeld
        have HB := n1_
        have BKg2 := n0_
        have BKg3 := Aside0.mk hgb
        clear n0_ n1_ hgb
        refine hK.out _ _ hS7 (fun hHeld => ?_)
        clear hK K hHeld hS7
        refine done_ (by kernel_rfl) ?_
        (try clear cg3); have cg3 := fun i => blk_cell BKg3.out i
        go_wp2_with (first
          | (go_at_call 75; (with_reducible refine (As.nms (Kd.C_below HR.out HB.out) HC.out H8.out HL.out (i := 3) (by decide) hn3.out).mono ?_); rintro r wn ⟨rfl, hb⟩; have n0_ := Aside0.mk (below_step HB.out hb); have n1_ := Aside0.mk (blk_below BKg2.out hb); have n2_ := Aside0.mk (blk_below BKg3.out hb); clear HB BKg2 BKg3; have HB := n0_; have BKg2 := n1_; have BKg3 := n2_; clear n0_ n1_ n2_; clear hb; (try clear cg3); have cg3 := fun i => blk_cell BKg3.out i)
          | ((with_reducible refine gate_store rfl ?_); refine As.store_cell rfl rfl g3 ?_ ?_ 25 _ BKg3.out ?hr ?_; (case hr => (have hs_ := fun i => blk_cell BKg3.out i); (have hf_ := fun i => blk_frozen BKg3.out i); first | (go_simp; done) | (go_simp; rfl)); intro w5 hgb hgr; simp only [List.setIfInBounds_toArray, List.set_cons_zero, List.set_cons_succ] at hgb; have n0_ := Aside0.mk (HB.out.grown hgr HB.out.size (fun k hk => by cases hk; exact GEg3.out)); have n1_ := Aside0.mk (blk_grown BKg2.out hgr (fun he => (Nat.ne_of_lt LTg2g3.out) (Option.some.inj he))); clear HB BKg2; have HB := n0_; have BKg2 := n1_; clear n0_ n1_; clear BKg3 hgr; have BKg3 := Aside0.mk hgb; clear hgb; (try clear cg3); have cg3 := fun i => blk_cell BKg3.out i)
          | (go_at_call 67; (with_reducible refine (As.rsizes hI3.out).mono ?_); rintro r w4 ⟨rfl, hb⟩; have n0_ := Aside0.mk (below_step HB.out hb); have n1_ := Aside0.mk (blk_below BKg2.out hb); have n2_ := Aside0.mk (blk_below BKg3.out hb); clear HB BKg2 BKg3; have HB := n0_; have BKg2 := n1_; have BKg3 := n2_; clear n0_ n1_ n2_; clear hb; (try clear cg3); have cg3 := fun i => blk_cell BKg3.out i)
          | ((with_reducible refine gate_store rfl ?_); refine As.store_row rfl 25 _ _ rfl g2 _ rfl rfl 25 _ BKg2.out (by kernel_rfl) rfl (by first | kernel_rfl | simp [Value.oneCell']) ?_; intro w6 hgb hgr; have n0_ := Aside0.mk (HB.out.grown hgr HB.out.size (fun k hk => by cases hk; exact GEg2.out)); have n1_ := Aside0.mk (blk_grown BKg3.out hgr (fun he => (Nat.ne_of_gt LTg2g3.out) (Option.some.inj he))); clear HB BKg3; have HB := n0_; have BKg3 := n1_; clear n0_ n1_; clear BKg2 hgr; have BKg2 := Aside0.mk hgb; clear hgb; skip)
          | (refine wpList_load_row rfl 25 _ rfl g3 rfl 25 _ (0, 0) _ BKg3.out hu rfl (by kernel_rfl) ?_))
        refine bodyPost_ret (results_cell_row rfl _ _ g2 25 _ (0, 0) _ rfl BKg2.out hu rfl (by kernel_rfl)) rfl ?_
        exact ⟨_, rfl, As.mkVV (As.n8R _ w.heap.size) (As.n9R _ _), HB.out⟩
    · rw [if_neg (fun h => q6 h.1)] at he
      have q6b : decide ((6 : Int) < (l.length : Int)) = false := decide_eq_false (by omega)
      have q6c : decide (6 < l.length) = false := decide_eq_false q6
      subst he
      go_enter Try.func53, Try.ntmps53
      go_wp2_with (first
        | ((with_reducible refine gate_dst (N := 2) rfl ?_); refine box_event ?hg (N := 2) ?hd (cs := As.Z) (t := 25) ?hr ?_; (case hd => rfl); (case hg => rfl); (case hr => first | (go_simp; done) | (go_simp; rfl)); intro g2 hg w1 hbox hb; have GEg2 := Aside0.mk ((by rw [hg]; exact HB.out.size) : w.heap.size ≤ g2); have BKg2 := Aside0.mk hbox; clear hbox hg; have n0_ := Aside0.mk (below_step HB.out hb); clear HB; have HB := n0_; clear n0_; skip; clear hb))
      have hb := below_drew1 (Below.refl w1.heap.size w1)
      refine start_ (n := 9) (S := fun w' => Below w1.heap.size w1 w') (ds := []) (bt 9 0) (by kernel_rfl) rfl (by kernel_rfl) hb (fun hHeld => ?_)
      clear hb
      refine pure_ (i := 0) (N := some 4) (v := ?_) (a' := ?_) (bt 9 1) rfl rfl (by kernel_rfl) (fun _ _ _ h => h) (Or.inl ⟨by rfl, ?_⟩) ?_ ?_
      rotate_left
      · intro w'
        go_simp
        first | with_reducible rfl | (simp [Instr.field, go_sem]; rfl)
      rotate_left
      · simp only [Act.put, List.setIfInBounds_toArray, List.set_cons_zero, List.set_cons_succ]
        rfl
      refine pure_ (i := 1) (N := some 5) (v := ?_) (a' := ?_) (bt 9 3) rfl rfl (by kernel_rfl) (fun _ _ _ h => h) (Or.inl ⟨by rfl, ?_⟩) ?_ ?_
      rotate_left
      · intro w'
        go_simp
        first | with_reducible rfl | (simp [Instr.field, go_sem]; rfl)
      rotate_left
      · simp only [Act.put, List.setIfInBounds_toArray, List.set_cons_zero, List.set_cons_succ]
        rfl
      refine take_ (i := 2) (N := some 6) (v := ?_) (a' := ?_) (bt 9 7) rfl rfl (by kernel_rfl) (fun _ _ _ h => h) (Or.inl ⟨by rfl, ?_⟩) hHeld ?_ ?_
      rotate_left
      · intro w' hS
        have f_ := pw_cell_below hS (pw_cell_below HB.out HX.out)
        go_simp
        first | with_reducible rfl | (simp [Instr.field, go_sem]; rfl)
      rotate_left
      · simp only [Act.put, List.setIfInBounds_toArray, List.set_cons_zero, List.set_cons_succ]
        rfl
      refine pure_ (i := 3) (N := some 7) (v := ?_) (a' := ?_) (bt 9 15) rfl rfl (by kernel_rfl) (fun _ _ _ h => h) (Or.inl ⟨by rfl, ?_⟩) ?_ ?_
      rotate_left
      · intro w'
        go_simp
        first | with_reducible rfl | (simp [Instr.field, go_sem]; rfl)
      rotate_left
      · simp only [Act.put, List.setIfInBounds_toArray, List.set_cons_zero, List.set_cons_succ]
        rfl
      refine pure_ (i := 4) (N := some 8) (v := ?_) (a' := ?_) (bt 9 31) rfl rfl (by kernel_rfl) (fun _ _ _ h => h) (Or.inl ⟨by rfl, ?_⟩) ?_ ?_
      rotate_left
      · intro w'
        go_simp
        first | with_reducible rfl | (simp [Instr.field, go_sem]; rfl)
      rotate_left
      · simp only [Act.put, List.setIfInBounds_toArray, List.set_cons_zero, List.set_cons_succ]
        rfl
      refine join_ (σ := Nat) 1 (bt 9 255) (fun s_ => [(9, .int .i64 n1), (10, .agg #[.int .i64 (rd l 0), .int .i64 n1, .int .i64 0, .int .i64 0, .int .i64 0, .int .i64 0, .int .i64 0, .int .i64 0, .slice none 0 0, .slice none 0 0]), (3, .pointer (some ⟨s_, 0, none⟩))]) (fun s_ w' => w'.heap[s_]? = some (.cells As.Z 25 (0, 0)) ∧ Below w1.heap.size w1 w' ∧ w1.heap.size ≤ s_) ?_ ?_
      rotate_left
      · intro hJ
        refine two_ (i := 5) (j := 7) (Ni := some 9) (Nj := some 3) (bt 9 63) (bt 9 159) rfl rfl rfl rfl (by kernel_rfl) (by decide) (by decide) (fun K hK => ?_) (fun K hK => ?_)
        · skip
          refine goes_ Try.func75 (by kernel_rfl) rfl #[.slice (some ad) l.length c, .int .i64 1] (by rfl) rfl rfl (by (try simp only [List.map_toArray, List.map_cons, List.map_nil]); first | done | rfl) ?_
          refine ((As.nms (Kd.C_below HR.out (below_step HB.out hHeld)) HC.out H8.out HL.out (i := 1) (by decide) hn1.out)).mono ?_
          rintro e wp ⟨rfl, hb2⟩
          refine ⟨_, rfl, ?_⟩
          refine hK.out _ _ (below_step hHeld hb2) (fun hHeld2 => ?_)
          clear hK K
          refine norm_ (a' := ?_) ?_ ?_
          rotate_left
          · show Act.put _ (some 9) _ = _
            simp only [Act.put, List.setIfInBounds_toArray, List.set_cons_zero, List.set_cons_succ]
            rfl
          refine pure_ (i := 6) (N := some 10) (v := ?_) (a' := ?_) (bt 9 127) rfl rfl (by kernel_rfl) (fun _ _ _ h => h) (Or.inl ⟨by rfl, ?_⟩) ?_ ?_
          rotate_left
          · intro w'
            have hz1 := hz w'
            refine (?_ : Sem.run Try.prog (execOp _ _) w' = Result.ok (Next.value (Value.agg #[.int .i64 (rd l 0), .int .i64 n1, .int .i64 0, .int .i64 0, .int .i64 0, .int .i64 0, .int .i64 0, .int .i64 0, .slice none 0 0, .slice none 0 0])) w')
            first | (go_simp; done) | (go_simp; rfl)
          rotate_left
          · simp only [Act.put, List.setIfInBounds_toArray, List.set_cons_zero, List.set_cons_succ]
            rfl
          refine one_ (i := 7) (N := some 3) (bt 9 255) rfl rfl (by kernel_rfl) (by decide) (fun K hK => ?_)
          refine As.box_ev (by rfl) (N := 3) rfl (cs := As.Z) (t := 25) ?hr ?_
          case hr => first | (go_simp; done) | (go_simp; rfl)
          intro g3 hg3 w9 hbox hb9
          refine hK.out _ _ (below_step hHeld2 hb9) (fun hHeld3 => ?_)
          clear hK K
          refine norm_ (a' := ?_) ?_ ?_
          rotate_left
          · show Act.put _ (some 3) _ = _
            simp only [Act.put, List.setIfInBounds_toArray, List.set_cons_zero, List.set_cons_succ]
            rfl
          exact norm_ (by simp only [putAll, Act.put, List.setIfInBounds_toArray, List.set_cons_zero, List.set_cons_succ] <;> rfl) (hJ g3 _ ⟨hbox, hHeld3, (by rw [hg3]; exact hHeld2.size)⟩)
        · skip
          refine As.box_ev (by rfl) (N := 3) rfl (cs := As.Z) (t := 25) ?hr ?_
          case hr => first | (go_simp; done) | (go_simp; rfl)
          intro g3 hg3 w9 hbox hb9
          refine hK.out _ _ (below_step hHeld hb9) (fun hHeld2 => ?_)
          clear hK K
          refine norm_ (a' := ?_) ?_ ?_
          rotate_left
          · show Act.put _ (some 3) _ = _
            simp only [Act.put, List.setIfInBounds_toArray, List.set_cons_zero, List.set_cons_succ]
            rfl
          refine one_ (i := 5) (N := some 9) (bt 9 191) rfl rfl (by kernel_rfl) (by decide) (fun K hK => ?_)
          refine goes_ Try.func75 (by kernel_rfl) rfl #[.slice (some ad) l.length c, .int .i64 1] (by rfl) rfl rfl (by (try simp only [List.map_toArray, List.map_cons, List.map_nil]); first | done | rfl) ?_
          refine ((As.nms (Kd.C_below HR.out (below_step HB.out hHeld2)) HC.out H8.out HL.out (i := 1) (by decide) hn1.out)).mono ?_
          rintro e wp ⟨rfl, hb2⟩
          refine ⟨_, rfl, ?_⟩
          refine hK.out _ _ (below_step hHeld2 hb2) (fun hHeld3 => ?_)
          clear hK K
          refine norm_ (a' := ?_) ?_ ?_
          rotate_left
          · show Act.put _ (some 9) _ = _
            simp only [Act.put, List.setIfInBounds_toArray, List.set_cons_zero, List.set_cons_succ]
            rfl
          refine pure_ (i := 6) (N := some 10) (v := ?_) (a' := ?_) (bt 9 255) rfl rfl (by kernel_rfl) (fun _ _ _ h => h) (Or.inl ⟨by rfl, ?_⟩) ?_ ?_
          rotate_left
          · intro w'
            have hz1 := hz w'
            refine (?_ : Sem.run Try.prog (execOp _ _) w' = Result.ok (Next.value (Value.agg #[.int .i64 (rd l 0), .int .i64 n1, .int .i64 0, .int .i64 0, .int .i64 0, .int .i64 0, .int .i64 0, .int .i64 0, .slice none 0 0, .slice none 0 0])) w')
            first | (go_simp; done) | (go_simp; rfl)
          rotate_left
          · simp only [Act.put, List.setIfInBounds_toArray, List.set_cons_zero, List.set_cons_succ]
            rfl
          exact norm_ (by simp only [putAll, Act.put, List.setIfInBounds_toArray, List.set_cons_zero, List.set_cons_succ] <;> rfl) (hJ g3 _ ⟨blk_below hbox hb2, hHeld3, (by rw [hg3]; exact hHeld.size)⟩)
      clear hHeld
      rintro g3 w2 ⟨hbox, hHeld, hge⟩
      have LTg2g3 := Aside0.mk (show g2 < g3 from Nat.lt_of_lt_of_le (blk_lt BKg2.out) hge)
      have GEg3 := Aside0.mk (show w.heap.size ≤ g3 from Nat.le_trans HB.out.size hge)
      have BKg3 := Aside0.mk hbox
      clear hbox
      refine norm_ (a' := ?_) ?_ ?_
      rotate_left
      · simp only [putAll, Act.put, List.setIfInBounds_toArray, List.set_cons_zero, List.set_cons_succ]
        rfl
      refine one_ (i := 8) (N := none) (bt 9 511) rfl rfl (by kernel_rfl) (by decide) (fun K hK => ?_)
      refine As.store_ev (by rfl) rfl 25 _ _ rfl g3 #[.int .i64 (rd l 0), .int .i64 n1, .int .i64 0, .int .i64 0, .int .i64 0, .int .i64 0, .int .i64 0, .int .i64 0, .slice none 0 0, .slice none 0 0] rfl rfl 25 _ BKg3.out (by kernel_rfl) rfl (by first | kernel_rfl | simp [Value.oneCell']) ?_
      intro w3 hgb hgr
      have hS7 := hHeld.grown hgr hHeld.size (fun k hk => by cases hk; exact hge)
      have n0_ := Aside0.mk (blk_grown (blk_below BKg2.out hHeld) hgr (fun he => (Nat.ne_of_lt LTg2g3.out) (Option.some.inj he)))
      have n1_ := Aside0.mk (below_step HB.out hS7)
      clear BKg2 HB BKg3 hgr hHeld
      have HB := n1_
      have BKg2 := n0_
      have BKg3 := Aside0.mk hgb
      clear n0_ n1_ hgb
      refine hK.out _ _ hS7 (fun hHeld => ?_)
      clear hK K hHeld hS7
      refine done_ (by kernel_rfl) ?_
      (try clear cg3); have cg3 := fun i => blk_cell BKg3.out i
      go_wp2_with (first
        | (go_at_call 75; (with_reducible refine (As.nms (Kd.C_below HR.out HB.out) HC.out H8.out HL.out (i := 3) (by decide) hn3.out).mono ?_); rintro r wn ⟨rfl, hb⟩; have n0_ := Aside0.mk (below_step HB.out hb); have n1_ := Aside0.mk (blk_below BKg2.out hb); have n2_ := Aside0.mk (blk_below BKg3.out hb); clear HB BKg2 BKg3; have HB := n0_; have BKg2 := n1_; have BKg3 := n2_; clear n0_ n1_ n2_; clear hb; (try clear cg3); have cg3 := fun i => blk_cell BKg3.out i)
        | ((with_reducible refine gate_store rfl ?_); refine As.store_cell rfl rfl g3 ?_ ?_ 25 _ BKg3.out ?hr ?_; (case hr => (have hs_ := fun i => blk_cell BKg3.out i); (have hf_ := fun i => blk_frozen BKg3.out i); first | (go_simp; done) | (go_simp; rfl)); intro w5 hgb hgr; simp only [List.setIfInBounds_toArray, List.set_cons_zero, List.set_cons_succ] at hgb; have n0_ := Aside0.mk (HB.out.grown hgr HB.out.size (fun k hk => by cases hk; exact GEg3.out)); have n1_ := Aside0.mk (blk_grown BKg2.out hgr (fun he => (Nat.ne_of_lt LTg2g3.out) (Option.some.inj he))); clear HB BKg2; have HB := n0_; have BKg2 := n1_; clear n0_ n1_; clear BKg3 hgr; have BKg3 := Aside0.mk hgb; clear hgb; (try clear cg3); have cg3 := fun i => blk_cell BKg3.out i)
        | ((with_reducible refine gate_store rfl ?_); refine As.store_row rfl 25 _ _ rfl g2 _ rfl rfl 25 _ BKg2.out (by kernel_rfl) rfl (by first | kernel_rfl | simp [Value.oneCell']) ?_; intro w6 hgb hgr; have n0_ := Aside0.mk (HB.out.grown hgr HB.out.size (fun k hk => by cases hk; exact GEg2.out)); have n1_ := Aside0.mk (blk_grown BKg3.out hgr (fun he => (Nat.ne_of_gt LTg2g3.out) (Option.some.inj he))); clear HB BKg3; have HB := n0_; have BKg3 := n1_; clear n0_ n1_; clear BKg2 hgr; have BKg2 := Aside0.mk hgb; clear hgb; skip)
        | (refine wpList_load_row rfl 25 _ rfl g3 rfl 25 _ (0, 0) _ BKg3.out hu rfl (by kernel_rfl) ?_))
      refine bodyPost_ret (results_cell_row rfl _ _ g2 25 _ (0, 0) _ rfl BKg2.out hu rfl (by kernel_rfl)) rfl ?_
      exact ⟨_, rfl, As.mkVV (As.n8R _ w.heap.size) (As.n9R _ _), HB.out⟩
  · by_cases q6 : 6 < l.length
    · rw [if_pos q6] at he
      have q6b : decide ((6 : Int) < (l.length : Int)) = true := decide_eq_true (by omega)
      have q6c : decide (6 < l.length) = true := decide_eq_true q6
      have hC6 := Kd.C_drop (m := 6) HR.out (by omega) HC.out
      rw [if_neg (show ¬ c = 6 by omega)] at hC6
      have HC6 := Aside0.mk hC6
      clear hC6
      obtain ⟨t6, ht6⟩ : ∃ t, l.drop 6 = t := ⟨_, rfl⟩
      have HL7 := Aside0.mk (show l.length - 6 = t6.length by rw [← ht6, List.length_drop])
      rw [ht6] at HC6 he
      have H86 := Aside0.mk (show ∀ x ∈ t6, U8 x from fun x hx => H8.out x (List.mem_of_mem_drop (ht6 ▸ hx)))
      have HL6 := Aside0.mk (show t6.length ≤ 1000000 by have := HL7.out; have := HL.out; omega)
      clear ht6
      obtain ⟨rg, hg_⟩ : ∃ rg, (getS t6).1 = rg := ⟨_, rfl⟩
      rw [hg_] at he
      subst he
      have HGE := Aside0.mk hg_
      clear hg_
      go_enter Try.func53, Try.ntmps53
      go_wp2_with (first
        | ((with_reducible refine gate_dst (N := 2) rfl ?_); refine box_event ?hg (N := 2) ?hd (cs := As.Z) (t := 25) ?hr ?_; (case hd => rfl); (case hg => rfl); (case hr => first | (go_simp; done) | (go_simp; rfl)); intro g2 hg w1 hbox hb; have GEg2 := Aside0.mk ((by rw [hg]; exact HB.out.size) : w.heap.size ≤ g2); have BKg2 := Aside0.mk hbox; clear hbox hg; have n0_ := Aside0.mk (below_step HB.out hb); clear HB; have HB := n0_; clear n0_; skip; clear hb))
      have hb := below_drew1 (Below.refl w1.heap.size w1)
      refine start_ (n := 9) (S := fun w' => Below w1.heap.size w1 w') (ds := []) (bt 9 0) (by kernel_rfl) rfl (by kernel_rfl) hb (fun hHeld => ?_)
      clear hb
      refine pure_ (i := 0) (N := some 4) (v := ?_) (a' := ?_) (bt 9 1) rfl rfl (by kernel_rfl) (fun _ _ _ h => h) (Or.inl ⟨by rfl, ?_⟩) ?_ ?_
      rotate_left
      · intro w'
        go_simp
        first | with_reducible rfl | (simp [Instr.field, go_sem]; rfl)
      rotate_left
      · simp only [Act.put, List.setIfInBounds_toArray, List.set_cons_zero, List.set_cons_succ]
        rfl
      refine pure_ (i := 1) (N := some 5) (v := ?_) (a' := ?_) (bt 9 3) rfl rfl (by kernel_rfl) (fun _ _ _ h => h) (Or.inl ⟨by rfl, ?_⟩) ?_ ?_
      rotate_left
      · intro w'
        go_simp
        first | with_reducible rfl | (simp [Instr.field, go_sem]; rfl)
      rotate_left
      · simp only [Act.put, List.setIfInBounds_toArray, List.set_cons_zero, List.set_cons_succ]
        rfl
      refine take_ (i := 2) (N := some 6) (v := ?_) (a' := ?_) (bt 9 7) rfl rfl (by kernel_rfl) (fun _ _ _ h => h) (Or.inl ⟨by rfl, ?_⟩) hHeld ?_ ?_
      rotate_left
      · intro w' hS
        have f_ := pw_cell_below hS (pw_cell_below HB.out HX.out)
        go_simp
        first | with_reducible rfl | (simp [Instr.field, go_sem]; rfl)
      rotate_left
      · simp only [Act.put, List.setIfInBounds_toArray, List.set_cons_zero, List.set_cons_succ]
        rfl
      refine pure_ (i := 3) (N := some 7) (v := ?_) (a' := ?_) (bt 9 15) rfl rfl (by kernel_rfl) (fun _ _ _ h => h) (Or.inl ⟨by rfl, ?_⟩) ?_ ?_
      rotate_left
      · intro w'
        go_simp
        first | with_reducible rfl | (simp [Instr.field, go_sem]; rfl)
      rotate_left
      · simp only [Act.put, List.setIfInBounds_toArray, List.set_cons_zero, List.set_cons_succ]
        rfl
      refine pure_ (i := 4) (N := some 8) (v := ?_) (a' := ?_) (bt 9 31) rfl rfl (by kernel_rfl) (fun _ _ _ h => h) (Or.inl ⟨by rfl, ?_⟩) ?_ ?_
      rotate_left
      · intro w'
        go_simp
        first | with_reducible rfl | (simp [Instr.field, go_sem]; rfl)
      rotate_left
      · simp only [Act.put, List.setIfInBounds_toArray, List.set_cons_zero, List.set_cons_succ]
        rfl
      refine join_ (σ := Nat) 1 (bt 9 255) (fun s_ => [(9, .int .i64 n1), (10, .agg #[.int .i64 (rd l 0), .int .i64 n1, .int .i64 0, .int .i64 0, .int .i64 0, .int .i64 0, .int .i64 0, .int .i64 0, .slice none 0 0, .slice none 0 0]), (3, .pointer (some ⟨s_, 0, none⟩))]) (fun s_ w' => w'.heap[s_]? = some (.cells As.Z 25 (0, 0)) ∧ Below w1.heap.size w1 w' ∧ w1.heap.size ≤ s_) ?_ ?_
      rotate_left
      · intro hJ
        refine two_ (i := 5) (j := 7) (Ni := some 9) (Nj := some 3) (bt 9 63) (bt 9 159) rfl rfl rfl rfl (by kernel_rfl) (by decide) (by decide) (fun K hK => ?_) (fun K hK => ?_)
        · skip
          refine goes_ Try.func75 (by kernel_rfl) rfl #[.slice (some ad) l.length c, .int .i64 1] (by rfl) rfl rfl (by (try simp only [List.map_toArray, List.map_cons, List.map_nil]); first | done | rfl) ?_
          refine ((As.nms (Kd.C_below HR.out (below_step HB.out hHeld)) HC.out H8.out HL.out (i := 1) (by decide) hn1.out)).mono ?_
          rintro e wp ⟨rfl, hb2⟩
          refine ⟨_, rfl, ?_⟩
          refine hK.out _ _ (below_step hHeld hb2) (fun hHeld2 => ?_)
          clear hK K
          refine norm_ (a' := ?_) ?_ ?_
          rotate_left
          · show Act.put _ (some 9) _ = _
            simp only [Act.put, List.setIfInBounds_toArray, List.set_cons_zero, List.set_cons_succ]
            rfl
          refine pure_ (i := 6) (N := some 10) (v := ?_) (a' := ?_) (bt 9 127) rfl rfl (by kernel_rfl) (fun _ _ _ h => h) (Or.inl ⟨by rfl, ?_⟩) ?_ ?_
          rotate_left
          · intro w'
            have hz1 := hz w'
            refine (?_ : Sem.run Try.prog (execOp _ _) w' = Result.ok (Next.value (Value.agg #[.int .i64 (rd l 0), .int .i64 n1, .int .i64 0, .int .i64 0, .int .i64 0, .int .i64 0, .int .i64 0, .int .i64 0, .slice none 0 0, .slice none 0 0])) w')
            first | (go_simp; done) | (go_simp; rfl)
          rotate_left
          · simp only [Act.put, List.setIfInBounds_toArray, List.set_cons_zero, List.set_cons_succ]
            rfl
          refine one_ (i := 7) (N := some 3) (bt 9 255) rfl rfl (by kernel_rfl) (by decide) (fun K hK => ?_)
          refine As.box_ev (by rfl) (N := 3) rfl (cs := As.Z) (t := 25) ?hr ?_
          case hr => first | (go_simp; done) | (go_simp; rfl)
          intro g3 hg3 w9 hbox hb9
          refine hK.out _ _ (below_step hHeld2 hb9) (fun hHeld3 => ?_)
          clear hK K
          refine norm_ (a' := ?_) ?_ ?_
          rotate_left
          · show Act.put _ (some 3) _ = _
            simp only [Act.put, List.setIfInBounds_toArray, List.set_cons_zero, List.set_cons_succ]
            rfl
          exact norm_ (by simp only [putAll, Act.put, List.setIfInBounds_toArray, List.set_cons_zero, List.set_cons_succ] <;> rfl) (hJ g3 _ ⟨hbox, hHeld3, (by rw [hg3]; exact hHeld2.size)⟩)
        · skip
          refine As.box_ev (by rfl) (N := 3) rfl (cs := As.Z) (t := 25) ?hr ?_
          case hr => first | (go_simp; done) | (go_simp; rfl)
          intro g3 hg3 w9 hbox hb9
          refine hK.out _ _ (below_step hHeld hb9) (fun hHeld2 => ?_)
          clear hK K
          refine norm_ (a' := ?_) ?_ ?_
          rotate_left
          · show Act.put _ (some 3) _ = _
            simp only [Act.put, List.setIfInBounds_toArray, List.set_cons_zero, List.set_cons_succ]
            rfl
          refine one_ (i := 5) (N := some 9) (bt 9 191) rfl rfl (by kernel_rfl) (by decide) (fun K hK => ?_)
          refine goes_ Try.func75 (by kernel_rfl) rfl #[.slice (some ad) l.length c, .int .i64 1] (by rfl) rfl rfl (by (try simp only [List.map_toArray, List.map_cons, List.map_nil]); first | done | rfl) ?_
          refine ((As.nms (Kd.C_below HR.out (below_step HB.out hHeld2)) HC.out H8.out HL.out (i := 1) (by decide) hn1.out)).mono ?_
          rintro e wp ⟨rfl, hb2⟩
          refine ⟨_, rfl, ?_⟩
          refine hK.out _ _ (below_step hHeld2 hb2) (fun hHeld3 => ?_)
          clear hK K
          refine norm_ (a' := ?_) ?_ ?_
          rotate_left
          · show Act.put _ (some 9) _ = _
            simp only [Act.put, List.setIfInBounds_toArray, List.set_cons_zero, List.set_cons_succ]
            rfl
          refine pure_ (i := 6) (N := some 10) (v := ?_) (a' := ?_) (bt 9 255) rfl rfl (by kernel_rfl) (fun _ _ _ h => h) (Or.inl ⟨by rfl, ?_⟩) ?_ ?_
          rotate_left
          · intro w'
            have hz1 := hz w'
            refine (?_ : Sem.run Try.prog (execOp _ _) w' = Result.ok (Next.value (Value.agg #[.int .i64 (rd l 0), .int .i64 n1, .int .i64 0, .int .i64 0, .int .i64 0, .int .i64 0, .int .i64 0, .int .i64 0, .slice none 0 0, .slice none 0 0])) w')
            first | (go_simp; done) | (go_simp; rfl)
          rotate_left
          · simp only [Act.put, List.setIfInBounds_toArray, List.set_cons_zero, List.set_cons_succ]
            rfl
          exact norm_ (by simp only [putAll, Act.put, List.setIfInBounds_toArray, List.set_cons_zero, List.set_cons_succ] <;> rfl) (hJ g3 _ ⟨blk_below hbox hb2, hHeld3, (by rw [hg3]; exact hHeld.size)⟩)
      clear hHeld
      rintro g3 w2 ⟨hbox, hHeld, hge⟩
      have LTg2g3 := Aside0.mk (show g2 < g3 from Nat.lt_of_lt_of_le (blk_lt BKg2.out) hge)
      have GEg3 := Aside0.mk (show w.heap.size ≤ g3 from Nat.le_trans HB.out.size hge)
      have BKg3 := Aside0.mk hbox
      clear hbox
      refine norm_ (a' := ?_) ?_ ?_
      rotate_left
      · simp only [putAll, Act.put, List.setIfInBounds_toArray, List.set_cons_zero, List.set_cons_succ]
        rfl
      refine one_ (i := 8) (N := none) (bt 9 511) rfl rfl (by kernel_rfl) (by decide) (fun K hK => ?_)
      refine As.store_ev (by rfl) rfl 25 _ _ rfl g3 #[.int .i64 (rd l 0), .int .i64 n1, .int .i64 0, .int .i64 0, .int .i64 0, .int .i64 0, .int .i64 0, .int .i64 0, .slice none 0 0, .slice none 0 0] rfl rfl 25 _ BKg3.out (by kernel_rfl) rfl (by first | kernel_rfl | simp [Value.oneCell']) ?_
      intro w3 hgb hgr
      have hS7 := hHeld.grown hgr hHeld.size (fun k hk => by cases hk; exact hge)
      have n0_ := Aside0.mk (blk_grown (blk_below BKg2.out hHeld) hgr (fun he => (Nat.ne_of_lt LTg2g3.out) (Option.some.inj he)))
      have n1_ := Aside0.mk (below_step HB.out hS7)
      clear BKg2 HB BKg3 hgr hHeld
      have HB := n1_
      have BKg2 := n0_
      have BKg3 := Aside0.mk hgb
      clear n0_ n1_ hgb
      refine hK.out _ _ hS7 (fun hHeld => ?_)
      clear hK K hHeld hS7
      refine done_ (by kernel_rfl) ?_
      (try clear cg3); have cg3 := fun i => blk_cell BKg3.out i
      go_wp2_with (first
        | (go_at_call 75; (with_reducible refine (As.nms (Kd.C_below HR.out HB.out) HC.out H8.out HL.out (i := 3) (by decide) hn3.out).mono ?_); rintro r wn ⟨rfl, hb⟩; have n0_ := Aside0.mk (below_step HB.out hb); have n1_ := Aside0.mk (blk_below BKg2.out hb); have n2_ := Aside0.mk (blk_below BKg3.out hb); clear HB BKg2 BKg3; have HB := n0_; have BKg2 := n1_; have BKg3 := n2_; clear n0_ n1_ n2_; clear hb; (try clear cg3); have cg3 := fun i => blk_cell BKg3.out i)
        | (go_at_call 64; refine (As.rgets HL7.out (Kd.C_below HC6.out HB.out) (by have := HC.out; have := HL7.out; omega) H86.out HL6.out HGE.out).mono ?_; rintro r w4 ⟨vr, br, rfl, ho, hb⟩; have HRv := Aside0.mk (Kd.R_lower ho HB.out.size); clear ho; have n0_ := Aside0.mk (below_step HB.out hb); have n1_ := Aside0.mk (blk_below BKg2.out hb); have n2_ := Aside0.mk (blk_below BKg3.out hb); clear HB BKg2 BKg3; have HB := n0_; have BKg2 := n1_; have BKg3 := n2_; clear n0_ n1_ n2_; clear hb; obtain ⟨Av, cv, ev⟩ := Kd.R_slice HRv.out; subst ev; (try clear cg3); have cg3 := fun i => blk_cell BKg3.out i)
        | ((with_reducible refine gate_store rfl ?_); refine As.store_cell rfl rfl g3 ?_ ?_ 25 _ BKg3.out ?hr ?_; (case hr => (have hs_ := fun i => blk_cell BKg3.out i); (have hf_ := fun i => blk_frozen BKg3.out i); first | (go_simp; done) | (go_simp; rfl)); intro w5 hgb hgr; have hRn := Aside0.mk (As.R_ty HRv.out BKg3.out (by decide) hgr); clear HRv; have HRv := hRn; clear hRn; simp only [List.setIfInBounds_toArray, List.set_cons_zero, List.set_cons_succ] at hgb; have n0_ := Aside0.mk (HB.out.grown hgr HB.out.size (fun k hk => by cases hk; exact GEg3.out)); have n1_ := Aside0.mk (blk_grown BKg2.out hgr (fun he => (Nat.ne_of_lt LTg2g3.out) (Option.some.inj he))); clear HB BKg2; have HB := n0_; have BKg2 := n1_; clear n0_ n1_; clear BKg3 hgr; have BKg3 := Aside0.mk hgb; clear hgb; (try clear cg3); have cg3 := fun i => blk_cell BKg3.out i)
        | ((with_reducible refine gate_store rfl ?_); refine As.store_cell rfl rfl g3 ?_ ?_ 25 _ BKg3.out ?hr ?_; (case hr => (have hs_ := fun i => blk_cell BKg3.out i); (have hf_ := fun i => blk_frozen BKg3.out i); first | (go_simp; done) | (go_simp; rfl)); intro w5 hgb hgr; simp only [List.setIfInBounds_toArray, List.set_cons_zero, List.set_cons_succ] at hgb; have n0_ := Aside0.mk (HB.out.grown hgr HB.out.size (fun k hk => by cases hk; exact GEg3.out)); have n1_ := Aside0.mk (blk_grown BKg2.out hgr (fun he => (Nat.ne_of_lt LTg2g3.out) (Option.some.inj he))); clear HB BKg2; have HB := n0_; have BKg2 := n1_; clear n0_ n1_; clear BKg3 hgr; have BKg3 := Aside0.mk hgb; clear hgb; (try clear cg3); have cg3 := fun i => blk_cell BKg3.out i)
        | ((with_reducible refine gate_store rfl ?_); refine As.store_row rfl 25 _ _ rfl g2 _ rfl rfl 25 _ BKg2.out (by kernel_rfl) rfl (by first | kernel_rfl | simp [Value.oneCell']) ?_; intro w6 hgb hgr; have hRn := Aside0.mk (As.R_ty HRv.out BKg2.out (by decide) hgr); clear HRv; have HRv := hRn; clear hRn; have n0_ := Aside0.mk (HB.out.grown hgr HB.out.size (fun k hk => by cases hk; exact GEg2.out)); have n1_ := Aside0.mk (blk_grown BKg3.out hgr (fun he => (Nat.ne_of_gt LTg2g3.out) (Option.some.inj he))); clear HB BKg3; have HB := n0_; have BKg3 := n1_; clear n0_ n1_; clear BKg2 hgr; have BKg2 := Aside0.mk hgb; clear hgb; skip)
        | ((with_reducible refine gate_store rfl ?_); refine As.store_row rfl 25 _ _ rfl g2 _ rfl rfl 25 _ BKg2.out (by kernel_rfl) rfl (by first | kernel_rfl | simp [Value.oneCell']) ?_; intro w6 hgb hgr; have n0_ := Aside0.mk (HB.out.grown hgr HB.out.size (fun k hk => by cases hk; exact GEg2.out)); have n1_ := Aside0.mk (blk_grown BKg3.out hgr (fun he => (Nat.ne_of_gt LTg2g3.out) (Option.some.inj he))); clear HB BKg3; have HB := n0_; have BKg3 := n1_; clear n0_ n1_; clear BKg2 hgr; have BKg2 := Aside0.mk hgb; clear hgb; skip)
        | (refine wpList_load_row rfl 25 _ rfl g3 rfl 25 _ (0, 0) _ BKg3.out hu rfl (by kernel_rfl) ?_))
      all_goals
        refine bodyPost_ret (results_cell_row rfl _ _ g2 25 _ (0, 0) _ rfl BKg2.out hu rfl (by kernel_rfl)) rfl ?_
        exact ⟨_, rfl, As.mkVV (As.n8R _ w.heap.size) HRv.out, HB.out⟩
    · rw [if_neg q6] at he
      have q6b : decide ((6 : Int) < (l.length : Int)) = false := decide_eq_false (by omega)
      have q6c : decide (6 < l.length) = false := decide_eq_false q6
      subst he
      go_enter Try.func53, Try.ntmps53
      go_wp2_with (first
        | ((with_reducible refine gate_dst (N := 2) rfl ?_); refine box_event ?hg (N := 2) ?hd (cs := As.Z) (t := 25) ?hr ?_; (case hd => rfl); (case hg => rfl); (case hr => first | (go_simp; done) | (go_simp; rfl)); intro g2 hg w1 hbox hb; have GEg2 := Aside0.mk ((by rw [hg]; exact HB.out.size) : w.heap.size ≤ g2); have BKg2 := Aside0.mk hbox; clear hbox hg; have n0_ := Aside0.mk (below_step HB.out hb); clear HB; have HB := n0_; clear n0_; skip; clear hb))
      have hb := below_drew1 (Below.refl w1.heap.size w1)
      refine start_ (n := 9) (S := fun w' => Below w1.heap.size w1 w') (ds := []) (bt 9 0) (by kernel_rfl) rfl (by kernel_rfl) hb (fun hHeld => ?_)
      clear hb
      refine pure_ (i := 0) (N := some 4) (v := ?_) (a' := ?_) (bt 9 1) rfl rfl (by kernel_rfl) (fun _ _ _ h => h) (Or.inl ⟨by rfl, ?_⟩) ?_ ?_
      rotate_left
      · intro w'
        go_simp
        first | with_reducible rfl | (simp [Instr.field, go_sem]; rfl)
      rotate_left
      · simp only [Act.put, List.setIfInBounds_toArray, List.set_cons_zero, List.set_cons_succ]
        rfl
      refine pure_ (i := 1) (N := some 5) (v := ?_) (a' := ?_) (bt 9 3) rfl rfl (by kernel_rfl) (fun _ _ _ h => h) (Or.inl ⟨by rfl, ?_⟩) ?_ ?_
      rotate_left
      · intro w'
        go_simp
        first | with_reducible rfl | (simp [Instr.field, go_sem]; rfl)
      rotate_left
      · simp only [Act.put, List.setIfInBounds_toArray, List.set_cons_zero, List.set_cons_succ]
        rfl
      refine take_ (i := 2) (N := some 6) (v := ?_) (a' := ?_) (bt 9 7) rfl rfl (by kernel_rfl) (fun _ _ _ h => h) (Or.inl ⟨by rfl, ?_⟩) hHeld ?_ ?_
      rotate_left
      · intro w' hS
        have f_ := pw_cell_below hS (pw_cell_below HB.out HX.out)
        go_simp
        first | with_reducible rfl | (simp [Instr.field, go_sem]; rfl)
      rotate_left
      · simp only [Act.put, List.setIfInBounds_toArray, List.set_cons_zero, List.set_cons_succ]
        rfl
      refine pure_ (i := 3) (N := some 7) (v := ?_) (a' := ?_) (bt 9 15) rfl rfl (by kernel_rfl) (fun _ _ _ h => h) (Or.inl ⟨by rfl, ?_⟩) ?_ ?_
      rotate_left
      · intro w'
        go_simp
        first | with_reducible rfl | (simp [Instr.field, go_sem]; rfl)
      rotate_left
      · simp only [Act.put, List.setIfInBounds_toArray, List.set_cons_zero, List.set_cons_succ]
        rfl
      refine pure_ (i := 4) (N := some 8) (v := ?_) (a' := ?_) (bt 9 31) rfl rfl (by kernel_rfl) (fun _ _ _ h => h) (Or.inl ⟨by rfl, ?_⟩) ?_ ?_
      rotate_left
      · intro w'
        go_simp
        first | with_reducible rfl | (simp [Instr.field, go_sem]; rfl)
      rotate_left
      · simp only [Act.put, List.setIfInBounds_toArray, List.set_cons_zero, List.set_cons_succ]
        rfl
      refine join_ (σ := Nat) 1 (bt 9 255) (fun s_ => [(9, .int .i64 n1), (10, .agg #[.int .i64 (rd l 0), .int .i64 n1, .int .i64 0, .int .i64 0, .int .i64 0, .int .i64 0, .int .i64 0, .int .i64 0, .slice none 0 0, .slice none 0 0]), (3, .pointer (some ⟨s_, 0, none⟩))]) (fun s_ w' => w'.heap[s_]? = some (.cells As.Z 25 (0, 0)) ∧ Below w1.heap.size w1 w' ∧ w1.heap.size ≤ s_) ?_ ?_
      rotate_left
      · intro hJ
        refine two_ (i := 5) (j := 7) (Ni := some 9) (Nj := some 3) (bt 9 63) (bt 9 159) rfl rfl rfl rfl (by kernel_rfl) (by decide) (by decide) (fun K hK => ?_) (fun K hK => ?_)
        · skip
          refine goes_ Try.func75 (by kernel_rfl) rfl #[.slice (some ad) l.length c, .int .i64 1] (by rfl) rfl rfl (by (try simp only [List.map_toArray, List.map_cons, List.map_nil]); first | done | rfl) ?_
          refine ((As.nms (Kd.C_below HR.out (below_step HB.out hHeld)) HC.out H8.out HL.out (i := 1) (by decide) hn1.out)).mono ?_
          rintro e wp ⟨rfl, hb2⟩
          refine ⟨_, rfl, ?_⟩
          refine hK.out _ _ (below_step hHeld hb2) (fun hHeld2 => ?_)
          clear hK K
          refine norm_ (a' := ?_) ?_ ?_
          rotate_left
          · show Act.put _ (some 9) _ = _
            simp only [Act.put, List.setIfInBounds_toArray, List.set_cons_zero, List.set_cons_succ]
            rfl
          refine pure_ (i := 6) (N := some 10) (v := ?_) (a' := ?_) (bt 9 127) rfl rfl (by kernel_rfl) (fun _ _ _ h => h) (Or.inl ⟨by rfl, ?_⟩) ?_ ?_
          rotate_left
          · intro w'
            have hz1 := hz w'
            refine (?_ : Sem.run Try.prog (execOp _ _) w' = Result.ok (Next.value (Value.agg #[.int .i64 (rd l 0), .int .i64 n1, .int .i64 0, .int .i64 0, .int .i64 0, .int .i64 0, .int .i64 0, .int .i64 0, .slice none 0 0, .slice none 0 0])) w')
            first | (go_simp; done) | (go_simp; rfl)
          rotate_left
          · simp only [Act.put, List.setIfInBounds_toArray, List.set_cons_zero, List.set_cons_succ]
            rfl
          refine one_ (i := 7) (N := some 3) (bt 9 255) rfl rfl (by kernel_rfl) (by decide) (fun K hK => ?_)
          refine As.box_ev (by rfl) (N := 3) rfl (cs := As.Z) (t := 25) ?hr ?_
          case hr => first | (go_simp; done) | (go_simp; rfl)
          intro g3 hg3 w9 hbox hb9
          refine hK.out _ _ (below_step hHeld2 hb9) (fun hHeld3 => ?_)
          clear hK K
          refine norm_ (a' := ?_) ?_ ?_
          rotate_left
          · show Act.put _ (some 3) _ = _
            simp only [Act.put, List.setIfInBounds_toArray, List.set_cons_zero, List.set_cons_succ]
            rfl
          exact norm_ (by simp only [putAll, Act.put, List.setIfInBounds_toArray, List.set_cons_zero, List.set_cons_succ] <;> rfl) (hJ g3 _ ⟨hbox, hHeld3, (by rw [hg3]; exact hHeld2.size)⟩)
        · skip
          refine As.box_ev (by rfl) (N := 3) rfl (cs := As.Z) (t := 25) ?hr ?_
          case hr => first | (go_simp; done) | (go_simp; rfl)
          intro g3 hg3 w9 hbox hb9
          refine hK.out _ _ (below_step hHeld hb9) (fun hHeld2 => ?_)
          clear hK K
          refine norm_ (a' := ?_) ?_ ?_
          rotate_left
          · show Act.put _ (some 3) _ = _
            simp only [Act.put, List.setIfInBounds_toArray, List.set_cons_zero, List.set_cons_succ]
            rfl
          refine one_ (i := 5) (N := some 9) (bt 9 191) rfl rfl (by kernel_rfl) (by decide) (fun K hK => ?_)
          refine goes_ Try.func75 (by kernel_rfl) rfl #[.slice (some ad) l.length c, .int .i64 1] (by rfl) rfl rfl (by (try simp only [List.map_toArray, List.map_cons, List.map_nil]); first | done | rfl) ?_
          refine ((As.nms (Kd.C_below HR.out (below_step HB.out hHeld2)) HC.out H8.out HL.out (i := 1) (by decide) hn1.out)).mono ?_
          rintro e wp ⟨rfl, hb2⟩
          refine ⟨_, rfl, ?_⟩
          refine hK.out _ _ (below_step hHeld2 hb2) (fun hHeld3 => ?_)
          clear hK K
          refine norm_ (a' := ?_) ?_ ?_
          rotate_left
          · show Act.put _ (some 9) _ = _
            simp only [Act.put, List.setIfInBounds_toArray, List.set_cons_zero, List.set_cons_succ]
            rfl
          refine pure_ (i := 6) (N := some 10) (v := ?_) (a' := ?_) (bt 9 255) rfl rfl (by kernel_rfl) (fun _ _ _ h => h) (Or.inl ⟨by rfl, ?_⟩) ?_ ?_
          rotate_left
          · intro w'
            have hz1 := hz w'
            refine (?_ : Sem.run Try.prog (execOp _ _) w' = Result.ok (Next.value (Value.agg #[.int .i64 (rd l 0), .int .i64 n1, .int .i64 0, .int .i64 0, .int .i64 0, .int .i64 0, .int .i64 0, .int .i64 0, .slice none 0 0, .slice none 0 0])) w')
            first | (go_simp; done) | (go_simp; rfl)
          rotate_left
          · simp only [Act.put, List.setIfInBounds_toArray, List.set_cons_zero, List.set_cons_succ]
            rfl
          exact norm_ (by simp only [putAll, Act.put, List.setIfInBounds_toArray, List.set_cons_zero, List.set_cons_succ] <;> rfl) (hJ g3 _ ⟨blk_below hbox hb2, hHeld3, (by rw [hg3]; exact hHeld.size)⟩)
      clear hHeld
      rintro g3 w2 ⟨hbox, hHeld, hge⟩
      have LTg2g3 := Aside0.mk (show g2 < g3 from Nat.lt_of_lt_of_le (blk_lt BKg2.out) hge)
      have GEg3 := Aside0.mk (show w.heap.size ≤ g3 from Nat.le_trans HB.out.size hge)
      have BKg3 := Aside0.mk hbox
      clear hbox
      refine norm_ (a' := ?_) ?_ ?_
      rotate_left
      · simp only [putAll, Act.put, List.setIfInBounds_toArray, List.set_cons_zero, List.set_cons_succ]
        rfl
      refine one_ (i := 8) (N := none) (bt 9 511) rfl rfl (by kernel_rfl) (by decide) (fun K hK => ?_)
      refine As.store_ev (by rfl) rfl 25 _ _ rfl g3 #[.int .i64 (rd l 0), .int .i64 n1, .int .i64 0, .int .i64 0, .int .i64 0, .int .i64 0, .int .i64 0, .int .i64 0, .slice none 0 0, .slice none 0 0] rfl rfl 25 _ BKg3.out (by kernel_rfl) rfl (by first | kernel_rfl | simp [Value.oneCell']) ?_
      intro w3 hgb hgr
      have hS7 := hHeld.grown hgr hHeld.size (fun k hk => by cases hk; exact hge)
      have n0_ := Aside0.mk (blk_grown (blk_below BKg2.out hHeld) hgr (fun he => (Nat.ne_of_lt LTg2g3.out) (Option.some.inj he)))
      have n1_ := Aside0.mk (below_step HB.out hS7)
      clear BKg2 HB BKg3 hgr hHeld
      have HB := n1_
      have BKg2 := n0_
      have BKg3 := Aside0.mk hgb
      clear n0_ n1_ hgb
      refine hK.out _ _ hS7 (fun hHeld => ?_)
      clear hK K hHeld hS7
      refine done_ (by kernel_rfl) ?_
      (try clear cg3); have cg3 := fun i => blk_cell BKg3.out i
      go_wp2_with (first
        | (go_at_call 75; (with_reducible refine (As.nms (Kd.C_below HR.out HB.out) HC.out H8.out HL.out (i := 3) (by decide) hn3.out).mono ?_); rintro r wn ⟨rfl, hb⟩; have n0_ := Aside0.mk (below_step HB.out hb); have n1_ := Aside0.mk (blk_below BKg2.out hb); have n2_ := Aside0.mk (blk_below BKg3.out hb); clear HB BKg2 BKg3; have HB := n0_; have BKg2 := n1_; have BKg3 := n2_; clear n0_ n1_ n2_; clear hb; (try clear cg3); have cg3 := fun i => blk_cell BKg3.out i)
        | ((with_reducible refine gate_store rfl ?_); refine As.store_cell rfl rfl g3 ?_ ?_ 25 _ BKg3.out ?hr ?_; (case hr => (have hs_ := fun i => blk_cell BKg3.out i); (have hf_ := fun i => blk_frozen BKg3.out i); first | (go_simp; done) | (go_simp; rfl)); intro w5 hgb hgr; simp only [List.setIfInBounds_toArray, List.set_cons_zero, List.set_cons_succ] at hgb; have n0_ := Aside0.mk (HB.out.grown hgr HB.out.size (fun k hk => by cases hk; exact GEg3.out)); have n1_ := Aside0.mk (blk_grown BKg2.out hgr (fun he => (Nat.ne_of_lt LTg2g3.out) (Option.some.inj he))); clear HB BKg2; have HB := n0_; have BKg2 := n1_; clear n0_ n1_; clear BKg3 hgr; have BKg3 := Aside0.mk hgb; clear hgb; (try clear cg3); have cg3 := fun i => blk_cell BKg3.out i)
        | ((with_reducible refine gate_store rfl ?_); refine As.store_row rfl 25 _ _ rfl g2 _ rfl rfl 25 _ BKg2.out (by kernel_rfl) rfl (by first | kernel_rfl | simp [Value.oneCell']) ?_; intro w6 hgb hgr; have n0_ := Aside0.mk (HB.out.grown hgr HB.out.size (fun k hk => by cases hk; exact GEg2.out)); have n1_ := Aside0.mk (blk_grown BKg3.out hgr (fun he => (Nat.ne_of_gt LTg2g3.out) (Option.some.inj he))); clear HB BKg3; have HB := n0_; have BKg3 := n1_; clear n0_ n1_; clear BKg2 hgr; have BKg2 := Aside0.mk hgb; clear hgb; skip)
        | (refine wpList_load_row rfl 25 _ rfl g3 rfl 25 _ (0, 0) _ BKg3.out hu rfl (by kernel_rfl) ?_))
      refine bodyPost_ret (results_cell_row rfl _ _ g2 25 _ (0, 0) _ rfl BKg2.out hu rfl (by kernel_rfl)) rfl ?_
      exact ⟨_, rfl, As.mkVV (As.n8R _ w.heap.size) (As.n9R _ _), HB.out⟩
  · subst he
    go_enter Try.func53, Try.ntmps53
    go_wp2_with (first
      | ((with_reducible refine gate_dst (N := 2) rfl ?_); refine box_event ?hg (N := 2) ?hd (cs := As.Z) (t := 25) ?hr ?_; (case hd => rfl); (case hg => rfl); (case hr => first | (go_simp; done) | (go_simp; rfl)); intro g2 hg w1 hbox hb; have GEg2 := Aside0.mk ((by rw [hg]; exact HB.out.size) : w.heap.size ≤ g2); have BKg2 := Aside0.mk hbox; clear hbox hg; have n0_ := Aside0.mk (below_step HB.out hb); clear HB; have HB := n0_; clear n0_; skip; clear hb))
    have hb := below_drew1 (Below.refl w1.heap.size w1)
    refine start_ (n := 9) (S := fun w' => Below w1.heap.size w1 w') (ds := []) (bt 9 0) (by kernel_rfl) rfl (by kernel_rfl) hb (fun hHeld => ?_)
    clear hb
    refine pure_ (i := 0) (N := some 4) (v := ?_) (a' := ?_) (bt 9 1) rfl rfl (by kernel_rfl) (fun _ _ _ h => h) (Or.inl ⟨by rfl, ?_⟩) ?_ ?_
    rotate_left
    · intro w'
      go_simp
      first | with_reducible rfl | (simp [Instr.field, go_sem]; rfl)
    rotate_left
    · simp only [Act.put, List.setIfInBounds_toArray, List.set_cons_zero, List.set_cons_succ]
      rfl
    refine pure_ (i := 1) (N := some 5) (v := ?_) (a' := ?_) (bt 9 3) rfl rfl (by kernel_rfl) (fun _ _ _ h => h) (Or.inl ⟨by rfl, ?_⟩) ?_ ?_
    rotate_left
    · intro w'
      go_simp
      first | with_reducible rfl | (simp [Instr.field, go_sem]; rfl)
    rotate_left
    · simp only [Act.put, List.setIfInBounds_toArray, List.set_cons_zero, List.set_cons_succ]
      rfl
    refine take_ (i := 2) (N := some 6) (v := ?_) (a' := ?_) (bt 9 7) rfl rfl (by kernel_rfl) (fun _ _ _ h => h) (Or.inl ⟨by rfl, ?_⟩) hHeld ?_ ?_
    rotate_left
    · intro w' hS
      have f_ := pw_cell_below hS (pw_cell_below HB.out HX.out)
      go_simp
      first | with_reducible rfl | (simp [Instr.field, go_sem]; rfl)
    rotate_left
    · simp only [Act.put, List.setIfInBounds_toArray, List.set_cons_zero, List.set_cons_succ]
      rfl
    refine pure_ (i := 3) (N := some 7) (v := ?_) (a' := ?_) (bt 9 15) rfl rfl (by kernel_rfl) (fun _ _ _ h => h) (Or.inl ⟨by rfl, ?_⟩) ?_ ?_
    rotate_left
    · intro w'
      go_simp
      first | with_reducible rfl | (simp [Instr.field, go_sem]; rfl)
    rotate_left
    · simp only [Act.put, List.setIfInBounds_toArray, List.set_cons_zero, List.set_cons_succ]
      rfl
    refine pure_ (i := 4) (N := some 8) (v := ?_) (a' := ?_) (bt 9 31) rfl rfl (by kernel_rfl) (fun _ _ _ h => h) (Or.inl ⟨by rfl, ?_⟩) ?_ ?_
    rotate_left
    · intro w'
      go_simp
      first | with_reducible rfl | (simp [Instr.field, go_sem]; rfl)
    rotate_left
    · simp only [Act.put, List.setIfInBounds_toArray, List.set_cons_zero, List.set_cons_succ]
      rfl
    refine join_ (σ := Nat) 1 (bt 9 255) (fun s_ => [(9, .int .i64 n1), (10, .agg #[.int .i64 (rd l 0), .int .i64 n1, .int .i64 0, .int .i64 0, .int .i64 0, .int .i64 0, .int .i64 0, .int .i64 0, .slice none 0 0, .slice none 0 0]), (3, .pointer (some ⟨s_, 0, none⟩))]) (fun s_ w' => w'.heap[s_]? = some (.cells As.Z 25 (0, 0)) ∧ Below w1.heap.size w1 w' ∧ w1.heap.size ≤ s_) ?_ ?_
    rotate_left
    · intro hJ
      refine two_ (i := 5) (j := 7) (Ni := some 9) (Nj := some 3) (bt 9 63) (bt 9 159) rfl rfl rfl rfl (by kernel_rfl) (by decide) (by decide) (fun K hK => ?_) (fun K hK => ?_)
      · skip
        refine goes_ Try.func75 (by kernel_rfl) rfl #[.slice (some ad) l.length c, .int .i64 1] (by rfl) rfl rfl (by (try simp only [List.map_toArray, List.map_cons, List.map_nil]); first | done | rfl) ?_
        refine ((As.nms (Kd.C_below HR.out (below_step HB.out hHeld)) HC.out H8.out HL.out (i := 1) (by decide) hn1.out)).mono ?_
        rintro e wp ⟨rfl, hb2⟩
        refine ⟨_, rfl, ?_⟩
        refine hK.out _ _ (below_step hHeld hb2) (fun hHeld2 => ?_)
        clear hK K
        refine norm_ (a' := ?_) ?_ ?_
        rotate_left
        · show Act.put _ (some 9) _ = _
          simp only [Act.put, List.setIfInBounds_toArray, List.set_cons_zero, List.set_cons_succ]
          rfl
        refine pure_ (i := 6) (N := some 10) (v := ?_) (a' := ?_) (bt 9 127) rfl rfl (by kernel_rfl) (fun _ _ _ h => h) (Or.inl ⟨by rfl, ?_⟩) ?_ ?_
        rotate_left
        · intro w'
          have hz1 := hz w'
          refine (?_ : Sem.run Try.prog (execOp _ _) w' = Result.ok (Next.value (Value.agg #[.int .i64 (rd l 0), .int .i64 n1, .int .i64 0, .int .i64 0, .int .i64 0, .int .i64 0, .int .i64 0, .int .i64 0, .slice none 0 0, .slice none 0 0])) w')
          first | (go_simp; done) | (go_simp; rfl)
        rotate_left
        · simp only [Act.put, List.setIfInBounds_toArray, List.set_cons_zero, List.set_cons_succ]
          rfl
        refine one_ (i := 7) (N := some 3) (bt 9 255) rfl rfl (by kernel_rfl) (by decide) (fun K hK => ?_)
        refine As.box_ev (by rfl) (N := 3) rfl (cs := As.Z) (t := 25) ?hr ?_
        case hr => first | (go_simp; done) | (go_simp; rfl)
        intro g3 hg3 w9 hbox hb9
        refine hK.out _ _ (below_step hHeld2 hb9) (fun hHeld3 => ?_)
        clear hK K
        refine norm_ (a' := ?_) ?_ ?_
        rotate_left
        · show Act.put _ (some 3) _ = _
          simp only [Act.put, List.setIfInBounds_toArray, List.set_cons_zero, List.set_cons_succ]
          rfl
        exact norm_ (by simp only [putAll, Act.put, List.setIfInBounds_toArray, List.set_cons_zero, List.set_cons_succ] <;> rfl) (hJ g3 _ ⟨hbox, hHeld3, (by rw [hg3]; exact hHeld2.size)⟩)
      · skip
        refine As.box_ev (by rfl) (N := 3) rfl (cs := As.Z) (t := 25) ?hr ?_
        case hr => first | (go_simp; done) | (go_simp; rfl)
        intro g3 hg3 w9 hbox hb9
        refine hK.out _ _ (below_step hHeld hb9) (fun hHeld2 => ?_)
        clear hK K
        refine norm_ (a' := ?_) ?_ ?_
        rotate_left
        · show Act.put _ (some 3) _ = _
          simp only [Act.put, List.setIfInBounds_toArray, List.set_cons_zero, List.set_cons_succ]
          rfl
        refine one_ (i := 5) (N := some 9) (bt 9 191) rfl rfl (by kernel_rfl) (by decide) (fun K hK => ?_)
        refine goes_ Try.func75 (by kernel_rfl) rfl #[.slice (some ad) l.length c, .int .i64 1] (by rfl) rfl rfl (by (try simp only [List.map_toArray, List.map_cons, List.map_nil]); first | done | rfl) ?_
        refine ((As.nms (Kd.C_below HR.out (below_step HB.out hHeld2)) HC.out H8.out HL.out (i := 1) (by decide) hn1.out)).mono ?_
        rintro e wp ⟨rfl, hb2⟩
        refine ⟨_, rfl, ?_⟩
        refine hK.out _ _ (below_step hHeld2 hb2) (fun hHeld3 => ?_)
        clear hK K
        refine norm_ (a' := ?_) ?_ ?_
        rotate_left
        · show Act.put _ (some 9) _ = _
          simp only [Act.put, List.setIfInBounds_toArray, List.set_cons_zero, List.set_cons_succ]
          rfl
        refine pure_ (i := 6) (N := some 10) (v := ?_) (a' := ?_) (bt 9 255) rfl rfl (by kernel_rfl) (fun _ _ _ h => h) (Or.inl ⟨by rfl, ?_⟩) ?_ ?_
        rotate_left
        · intro w'
          have hz1 := hz w'
          refine (?_ : Sem.run Try.prog (execOp _ _) w' = Result.ok (Next.value (Value.agg #[.int .i64 (rd l 0), .int .i64 n1, .int .i64 0, .int .i64 0, .int .i64 0, .int .i64 0, .int .i64 0, .int .i64 0, .slice none 0 0, .slice none 0 0])) w')
          first | (go_simp; done) | (go_simp; rfl)
        rotate_left
        · simp only [Act.put, List.setIfInBounds_toArray, List.set_cons_zero, List.set_cons_succ]
          rfl
        exact norm_ (by simp only [putAll, Act.put, List.setIfInBounds_toArray, List.set_cons_zero, List.set_cons_succ] <;> rfl) (hJ g3 _ ⟨blk_below hbox hb2, hHeld3, (by rw [hg3]; exact hHeld.size)⟩)
    clear hHeld
    rintro g3 w2 ⟨hbox, hHeld, hge⟩
    have LTg2g3 := Aside0.mk (show g2 < g3 from Nat.lt_of_lt_of_le (blk_lt BKg2.out) hge)
    have GEg3 := Aside0.mk (show w.heap.size ≤ g3 from Nat.le_trans HB.out.size hge)
    have BKg3 := Aside0.mk hbox
    clear hbox
    refine norm_ (a' := ?_) ?_ ?_
    rotate_left
    · simp only [putAll, Act.put, List.setIfInBounds_toArray, List.set_cons_zero, List.set_cons_succ]
      rfl
    refine one_ (i := 8) (N := none) (bt 9 511) rfl rfl (by kernel_rfl) (by decide) (fun K hK => ?_)
    refine As.store_ev (by rfl) rfl 25 _ _ rfl g3 #[.int .i64 (rd l 0), .int .i64 n1, .int .i64 0, .int .i64 0, .int .i64 0, .int .i64 0, .int .i64 0, .int .i64 0, .slice none 0 0, .slice none 0 0] rfl rfl 25 _ BKg3.out (by kernel_rfl) rfl (by first | kernel_rfl | simp [Value.oneCell']) ?_
    intro w3 hgb hgr
    have hS7 := hHeld.grown hgr hHeld.size (fun k hk => by cases hk; exact hge)
    have n0_ := Aside0.mk (blk_grown (blk_below BKg2.out hHeld) hgr (fun he => (Nat.ne_of_lt LTg2g3.out) (Option.some.inj he)))
    have n1_ := Aside0.mk (below_step HB.out hS7)
    clear BKg2 HB BKg3 hgr hHeld
    have HB := n1_
    have BKg2 := n0_
    have BKg3 := Aside0.mk hgb
    clear n0_ n1_ hgb
    refine hK.out _ _ hS7 (fun hHeld => ?_)
    clear hK K hHeld hS7
    refine done_ (by kernel_rfl) ?_
    (try clear cg3); have cg3 := fun i => blk_cell BKg3.out i
    go_wp2_with (first
      | (go_at_call 75; (with_reducible refine (As.nms (Kd.C_below HR.out HB.out) HC.out H8.out HL.out (i := 3) (by decide) hn3.out).mono ?_); rintro r wn ⟨rfl, hb⟩; have n0_ := Aside0.mk (below_step HB.out hb); have n1_ := Aside0.mk (blk_below BKg2.out hb); have n2_ := Aside0.mk (blk_below BKg3.out hb); clear HB BKg2 BKg3; have HB := n0_; have BKg2 := n1_; have BKg3 := n2_; clear n0_ n1_ n2_; clear hb; (try clear cg3); have cg3 := fun i => blk_cell BKg3.out i)
      | (go_at_call 75; (with_reducible refine (As.nms (Kd.C_below HR.out HB.out) HC.out H8.out HL.out (i := 5) (by decide) hn5.out).mono ?_); rintro r wn ⟨rfl, hb⟩; have n0_ := Aside0.mk (below_step HB.out hb); have n1_ := Aside0.mk (blk_below BKg2.out hb); have n2_ := Aside0.mk (blk_below BKg3.out hb); clear HB BKg2 BKg3; have HB := n0_; have BKg2 := n1_; have BKg3 := n2_; clear n0_ n1_ n2_; clear hb; (try clear cg3); have cg3 := fun i => blk_cell BKg3.out i)
      | ((with_reducible refine gate_store rfl ?_); refine As.store_cell rfl rfl g3 ?_ ?_ 25 _ BKg3.out ?hr ?_; (case hr => (have hs_ := fun i => blk_cell BKg3.out i); (have hf_ := fun i => blk_frozen BKg3.out i); first | (go_simp; done) | (go_simp; rfl)); intro w5 hgb hgr; simp only [List.setIfInBounds_toArray, List.set_cons_zero, List.set_cons_succ] at hgb; have n0_ := Aside0.mk (HB.out.grown hgr HB.out.size (fun k hk => by cases hk; exact GEg3.out)); have n1_ := Aside0.mk (blk_grown BKg2.out hgr (fun he => (Nat.ne_of_lt LTg2g3.out) (Option.some.inj he))); clear HB BKg2; have HB := n0_; have BKg2 := n1_; clear n0_ n1_; clear BKg3 hgr; have BKg3 := Aside0.mk hgb; clear hgb; (try clear cg3); have cg3 := fun i => blk_cell BKg3.out i)
      | ((with_reducible refine gate_store rfl ?_); refine As.store_row rfl 25 _ _ rfl g2 _ rfl rfl 25 _ BKg2.out (by kernel_rfl) rfl (by first | kernel_rfl | simp [Value.oneCell']) ?_; intro w6 hgb hgr; have n0_ := Aside0.mk (HB.out.grown hgr HB.out.size (fun k hk => by cases hk; exact GEg2.out)); have n1_ := Aside0.mk (blk_grown BKg3.out hgr (fun he => (Nat.ne_of_gt LTg2g3.out) (Option.some.inj he))); clear HB BKg3; have HB := n0_; have BKg3 := n1_; clear n0_ n1_; clear BKg2 hgr; have BKg2 := Aside0.mk hgb; clear hgb; skip)
      | (refine wpList_load_row rfl 25 _ rfl g3 rfl 25 _ (0, 0) _ BKg3.out hu rfl (by kernel_rfl) ?_))
    refine bodyPost_ret (results_cell_row rfl _ _ g2 25 _ (0, 0) _ rfl BKg2.out hu rfl (by kernel_rfl)) rfl ?_
    exact ⟨_, rfl, As.mkVV (As.n8R _ w.heap.size) (As.n9R _ _), HB.out⟩
  · by_cases q6 : 10 < l.length
    · rw [if_pos q6] at he
      have q6b : decide ((10 : Int) < (l.length : Int)) = true := decide_eq_true (by omega)
      have q6c : decide (10 < l.length) = true := decide_eq_true q6
      have hC6 := Kd.C_drop (m := 10) HR.out (by omega) HC.out
      rw [if_neg (show ¬ c = 10 by omega)] at hC6
      have HC6 := Aside0.mk hC6
      clear hC6
      obtain ⟨t6, ht6⟩ : ∃ t, l.drop 10 = t := ⟨_, rfl⟩
      have HL7 := Aside0.mk (show l.length - 10 = t6.length by rw [← ht6, List.length_drop])
      rw [ht6] at HC6 he
      have H86 := Aside0.mk (show ∀ x ∈ t6, U8 x from fun x hx => H8.out x (List.mem_of_mem_drop (ht6 ▸ hx)))
      have HL6 := Aside0.mk (show t6.length ≤ 1000000 by have := HL7.out; have := HL.out; omega)
      clear ht6
      obtain ⟨rg, hg_⟩ : ∃ rg, (getS t6).1 = rg := ⟨_, rfl⟩
      rw [hg_] at he
      subst he
      have HGE := Aside0.mk hg_
      clear hg_
      go_enter Try.func53, Try.ntmps53
      go_wp2_with (first
        | ((with_reducible refine gate_dst (N := 2) rfl ?_); refine box_event ?hg (N := 2) ?hd (cs := As.Z) (t := 25) ?hr ?_; (case hd => rfl); (case hg => rfl); (case hr => first | (go_simp; done) | (go_simp; rfl)); intro g2 hg w1 hbox hb; have GEg2 := Aside0.mk ((by rw [hg]; exact HB.out.size) : w.heap.size ≤ g2); have BKg2 := Aside0.mk hbox; clear hbox hg; have n0_ := Aside0.mk (below_step HB.out hb); clear HB; have HB := n0_; clear n0_; skip; clear hb))
      have hb := below_drew1 (Below.refl w1.heap.size w1)
      refine start_ (n := 9) (S := fun w' => Below w1.heap.size w1 w') (ds := []) (bt 9 0) (by kernel_rfl) rfl (by kernel_rfl) hb (fun hHeld => ?_)
      clear hb
      refine pure_ (i := 0) (N := some 4) (v := ?_) (a' := ?_) (bt 9 1) rfl rfl (by kernel_rfl) (fun _ _ _ h => h) (Or.inl ⟨by rfl, ?_⟩) ?_ ?_
      rotate_left
      · intro w'
        go_simp
        first | with_reducible rfl | (simp [Instr.field, go_sem]; rfl)
      rotate_left
      · simp only [Act.put, List.setIfInBounds_toArray, List.set_cons_zero, List.set_cons_succ]
        rfl
      refine pure_ (i := 1) (N := some 5) (v := ?_) (a' := ?_) (bt 9 3) rfl rfl (by kernel_rfl) (fun _ _ _ h => h) (Or.inl ⟨by rfl, ?_⟩) ?_ ?_
      rotate_left
      · intro w'
        go_simp
        first | with_reducible rfl | (simp [Instr.field, go_sem]; rfl)
      rotate_left
      · simp only [Act.put, List.setIfInBounds_toArray, List.set_cons_zero, List.set_cons_succ]
        rfl
      refine take_ (i := 2) (N := some 6) (v := ?_) (a' := ?_) (bt 9 7) rfl rfl (by kernel_rfl) (fun _ _ _ h => h) (Or.inl ⟨by rfl, ?_⟩) hHeld ?_ ?_
      rotate_left
      · intro w' hS
        have f_ := pw_cell_below hS (pw_cell_below HB.out HX.out)
        go_simp
        first | with_reducible rfl | (simp [Instr.field, go_sem]; rfl)
      rotate_left
      · simp only [Act.put, List.setIfInBounds_toArray, List.set_cons_zero, List.set_cons_succ]
        rfl
      refine pure_ (i := 3) (N := some 7) (v := ?_) (a' := ?_) (bt 9 15) rfl rfl (by kernel_rfl) (fun _ _ _ h => h) (Or.inl ⟨by rfl, ?_⟩) ?_ ?_
      rotate_left
      · intro w'
        go_simp
        first | with_reducible rfl | (simp [Instr.field, go_sem]; rfl)
      rotate_left
      · simp only [Act.put, List.setIfInBounds_toArray, List.set_cons_zero, List.set_cons_succ]
        rfl
      refine pure_ (i := 4) (N := some 8) (v := ?_) (a' := ?_) (bt 9 31) rfl rfl (by kernel_rfl) (fun _ _ _ h => h) (Or.inl ⟨by rfl, ?_⟩) ?_ ?_
      rotate_left
      · intro w'
        go_simp
        first | with_reducible rfl | (simp [Instr.field, go_sem]; rfl)
      rotate_left
      · simp only [Act.put, List.setIfInBounds_toArray, List.set_cons_zero, List.set_cons_succ]
        rfl
      refine join_ (σ := Nat) 1 (bt 9 255) (fun s_ => [(9, .int .i64 n1), (10, .agg #[.int .i64 (rd l 0), .int .i64 n1, .int .i64 0, .int .i64 0, .int .i64 0, .int .i64 0, .int .i64 0, .int .i64 0, .slice none 0 0, .slice none 0 0]), (3, .pointer (some ⟨s_, 0, none⟩))]) (fun s_ w' => w'.heap[s_]? = some (.cells As.Z 25 (0, 0)) ∧ Below w1.heap.size w1 w' ∧ w1.heap.size ≤ s_) ?_ ?_
      rotate_left
      · intro hJ
        refine two_ (i := 5) (j := 7) (Ni := some 9) (Nj := some 3) (bt 9 63) (bt 9 159) rfl rfl rfl rfl (by kernel_rfl) (by decide) (by decide) (fun K hK => ?_) (fun K hK => ?_)
        · skip
          refine goes_ Try.func75 (by kernel_rfl) rfl #[.slice (some ad) l.length c, .int .i64 1] (by rfl) rfl rfl (by (try simp only [List.map_toArray, List.map_cons, List.map_nil]); first | done | rfl) ?_
          refine ((As.nms (Kd.C_below HR.out (below_step HB.out hHeld)) HC.out H8.out HL.out (i := 1) (by decide) hn1.out)).mono ?_
          rintro e wp ⟨rfl, hb2⟩
          refine ⟨_, rfl, ?_⟩
          refine hK.out _ _ (below_step hHeld hb2) (fun hHeld2 => ?_)
          clear hK K
          refine norm_ (a' := ?_) ?_ ?_
          rotate_left
          · show Act.put _ (some 9) _ = _
            simp only [Act.put, List.setIfInBounds_toArray, List.set_cons_zero, List.set_cons_succ]
            rfl
          refine pure_ (i := 6) (N := some 10) (v := ?_) (a' := ?_) (bt 9 127) rfl rfl (by kernel_rfl) (fun _ _ _ h => h) (Or.inl ⟨by rfl, ?_⟩) ?_ ?_
          rotate_left
          · intro w'
            have hz1 := hz w'
            refine (?_ : Sem.run Try.prog (execOp _ _) w' = Result.ok (Next.value (Value.agg #[.int .i64 (rd l 0), .int .i64 n1, .int .i64 0, .int .i64 0, .int .i64 0, .int .i64 0, .int .i64 0, .int .i64 0, .slice none 0 0, .slice none 0 0])) w')
            first | (go_simp; done) | (go_simp; rfl)
          rotate_left
          · simp only [Act.put, List.setIfInBounds_toArray, List.set_cons_zero, List.set_cons_succ]
            rfl
          refine one_ (i := 7) (N := some 3) (bt 9 255) rfl rfl (by kernel_rfl) (by decide) (fun K hK => ?_)
          refine As.box_ev (by rfl) (N := 3) rfl (cs := As.Z) (t := 25) ?hr ?_
          case hr => first | (go_simp; done) | (go_simp; rfl)
          intro g3 hg3 w9 hbox hb9
          refine hK.out _ _ (below_step hHeld2 hb9) (fun hHeld3 => ?_)
          clear hK K
          refine norm_ (a' := ?_) ?_ ?_
          rotate_left
          · show Act.put _ (some 3) _ = _
            simp only [Act.put, List.setIfInBounds_toArray, List.set_cons_zero, List.set_cons_succ]
            rfl
          exact norm_ (by simp only [putAll, Act.put, List.setIfInBounds_toArray, List.set_cons_zero, List.set_cons_succ] <;> rfl) (hJ g3 _ ⟨hbox, hHeld3, (by rw [hg3]; exact hHeld2.size)⟩)
        · skip
          refine As.box_ev (by rfl) (N := 3) rfl (cs := As.Z) (t := 25) ?hr ?_
          case hr => first | (go_simp; done) | (go_simp; rfl)
          intro g3 hg3 w9 hbox hb9
          refine hK.out _ _ (below_step hHeld hb9) (fun hHeld2 => ?_)
          clear hK K
          refine norm_ (a' := ?_) ?_ ?_
          rotate_left
          · show Act.put _ (some 3) _ = _
            simp only [Act.put, List.setIfInBounds_toArray, List.set_cons_zero, List.set_cons_succ]
            rfl
          refine one_ (i := 5) (N := some 9) (bt 9 191) rfl rfl (by kernel_rfl) (by decide) (fun K hK => ?_)
          refine goes_ Try.func75 (by kernel_rfl) rfl #[.slice (some ad) l.length c, .int .i64 1] (by rfl) rfl rfl (by (try simp only [List.map_toArray, List.map_cons, List.map_nil]); first | done | rfl) ?_
          refine ((As.nms (Kd.C_below HR.out (below_step HB.out hHeld2)) HC.out H8.out HL.out (i := 1) (by decide) hn1.out)).mono ?_
          rintro e wp ⟨rfl, hb2⟩
          refine ⟨_, rfl, ?_⟩
          refine hK.out _ _ (below_step hHeld2 hb2) (fun hHeld3 => ?_)
          clear hK K
          refine norm_ (a' := ?_) ?_ ?_
          rotate_left
          · show Act.put _ (some 9) _ = _
            simp only [Act.put, List.setIfInBounds_toArray, List.set_cons_zero, List.set_cons_succ]
            rfl
          refine pure_ (i := 6) (N := some 10) (v := ?_) (a' := ?_) (bt 9 255) rfl rfl (by kernel_rfl) (fun _ _ _ h => h) (Or.inl ⟨by rfl, ?_⟩) ?_ ?_
          rotate_left
          · intro w'
            have hz1 := hz w'
            refine (?_ : Sem.run Try.prog (execOp _ _) w' = Result.ok (Next.value (Value.agg #[.int .i64 (rd l 0), .int .i64 n1, .int .i64 0, .int .i64 0, .int .i64 0, .int .i64 0, .int .i64 0, .int .i64 0, .slice none 0 0, .slice none 0 0])) w')
            first | (go_simp; done) | (go_simp; rfl)
          rotate_left
          · simp only [Act.put, List.setIfInBounds_toArray, List.set_cons_zero, List.set_cons_succ]
            rfl
          exact norm_ (by simp only [putAll, Act.put, List.setIfInBounds_toArray, List.set_cons_zero, List.set_cons_succ] <;> rfl) (hJ g3 _ ⟨blk_below hbox hb2, hHeld3, (by rw [hg3]; exact hHeld.size)⟩)
      clear hHeld
      rintro g3 w2 ⟨hbox, hHeld, hge⟩
      have LTg2g3 := Aside0.mk (show g2 < g3 from Nat.lt_of_lt_of_le (blk_lt BKg2.out) hge)
      have GEg3 := Aside0.mk (show w.heap.size ≤ g3 from Nat.le_trans HB.out.size hge)
      have BKg3 := Aside0.mk hbox
      clear hbox
      refine norm_ (a' := ?_) ?_ ?_
      rotate_left
      · simp only [putAll, Act.put, List.setIfInBounds_toArray, List.set_cons_zero, List.set_cons_succ]
        rfl
      refine one_ (i := 8) (N := none) (bt 9 511) rfl rfl (by kernel_rfl) (by decide) (fun K hK => ?_)
      refine As.store_ev (by rfl) rfl 25 _ _ rfl g3 #[.int .i64 (rd l 0), .int .i64 n1, .int .i64 0, .int .i64 0, .int .i64 0, .int .i64 0, .int .i64 0, .int .i64 0, .slice none 0 0, .slice none 0 0] rfl rfl 25 _ BKg3.out (by kernel_rfl) rfl (by first | kernel_rfl | simp [Value.oneCell']) ?_
      intro w3 hgb hgr
      have hS7 := hHeld.grown hgr hHeld.size (fun k hk => by cases hk; exact hge)
      have n0_ := Aside0.mk (blk_grown (blk_below BKg2.out hHeld) hgr (fun he => (Nat.ne_of_lt LTg2g3.out) (Option.some.inj he)))
      have n1_ := Aside0.mk (below_step HB.out hS7)
      clear BKg2 HB BKg3 hgr hHeld
      have HB := n1_
      have BKg2 := n0_
      have BKg3 := Aside0.mk hgb
      clear n0_ n1_ hgb
      refine hK.out _ _ hS7 (fun hHeld => ?_)
      clear hK K hHeld hS7
      refine done_ (by kernel_rfl) ?_
      (try clear cg3); have cg3 := fun i => blk_cell BKg3.out i
      go_wp2_with (first
        | (go_at_call 75; (with_reducible refine (As.nms (Kd.C_below HR.out HB.out) HC.out H8.out HL.out (i := 1) (by decide) hn1.out).mono ?_); rintro r wn ⟨rfl, hb⟩; have n0_ := Aside0.mk (below_step HB.out hb); have n1_ := Aside0.mk (blk_below BKg2.out hb); have n2_ := Aside0.mk (blk_below BKg3.out hb); clear HB BKg2 BKg3; have HB := n0_; have BKg2 := n1_; have BKg3 := n2_; clear n0_ n1_ n2_; clear hb; (try clear cg3); have cg3 := fun i => blk_cell BKg3.out i)
        | (go_at_call 75; (with_reducible refine (As.nms (Kd.C_below HR.out HB.out) HC.out H8.out HL.out (i := 3) (by decide) hn3.out).mono ?_); rintro r wn ⟨rfl, hb⟩; have n0_ := Aside0.mk (below_step HB.out hb); have n1_ := Aside0.mk (blk_below BKg2.out hb); have n2_ := Aside0.mk (blk_below BKg3.out hb); clear HB BKg2 BKg3; have HB := n0_; have BKg2 := n1_; have BKg3 := n2_; clear n0_ n1_ n2_; clear hb; (try clear cg3); have cg3 := fun i => blk_cell BKg3.out i)
        | (go_at_call 75; (with_reducible refine (As.nms (Kd.C_below HR.out HB.out) HC.out H8.out HL.out (i := 5) (by decide) hn5.out).mono ?_); rintro r wn ⟨rfl, hb⟩; have n0_ := Aside0.mk (below_step HB.out hb); have n1_ := Aside0.mk (blk_below BKg2.out hb); have n2_ := Aside0.mk (blk_below BKg3.out hb); clear HB BKg2 BKg3; have HB := n0_; have BKg2 := n1_; have BKg3 := n2_; clear n0_ n1_ n2_; clear hb; (try clear cg3); have cg3 := fun i => blk_cell BKg3.out i)
        | (go_at_call 75; (with_reducible refine (As.nms (Kd.C_below HR.out HB.out) HC.out H8.out HL.out (i := 7) (by decide) hn7.out).mono ?_); rintro r wn ⟨rfl, hb⟩; have n0_ := Aside0.mk (below_step HB.out hb); have n1_ := Aside0.mk (blk_below BKg2.out hb); have n2_ := Aside0.mk (blk_below BKg3.out hb); clear HB BKg2 BKg3; have HB := n0_; have BKg2 := n1_; have BKg3 := n2_; clear n0_ n1_ n2_; clear hb; (try clear cg3); have cg3 := fun i => blk_cell BKg3.out i)
        | (go_at_call 64; refine (As.rgets HL7.out (Kd.C_below HC6.out HB.out) (by have := HC.out; have := HL7.out; omega) H86.out HL6.out HGE.out).mono ?_; rintro r w4 ⟨vr, br, rfl, ho, hb⟩; have HRv := Aside0.mk (Kd.R_lower ho HB.out.size); clear ho; have n0_ := Aside0.mk (below_step HB.out hb); have n1_ := Aside0.mk (blk_below BKg2.out hb); have n2_ := Aside0.mk (blk_below BKg3.out hb); clear HB BKg2 BKg3; have HB := n0_; have BKg2 := n1_; have BKg3 := n2_; clear n0_ n1_ n2_; clear hb; obtain ⟨Av, cv, ev⟩ := Kd.R_slice HRv.out; subst ev; (try clear cg3); have cg3 := fun i => blk_cell BKg3.out i)
        | ((with_reducible refine gate_store rfl ?_); refine As.store_cell rfl rfl g3 ?_ ?_ 25 _ BKg3.out ?hr ?_; (case hr => (have hs_ := fun i => blk_cell BKg3.out i); (have hf_ := fun i => blk_frozen BKg3.out i); first | (go_simp; done) | (go_simp; rfl)); intro w5 hgb hgr; have hRn := Aside0.mk (As.R_ty HRv.out BKg3.out (by decide) hgr); clear HRv; have HRv := hRn; clear hRn; simp only [List.setIfInBounds_toArray, List.set_cons_zero, List.set_cons_succ] at hgb; have n0_ := Aside0.mk (HB.out.grown hgr HB.out.size (fun k hk => by cases hk; exact GEg3.out)); have n1_ := Aside0.mk (blk_grown BKg2.out hgr (fun he => (Nat.ne_of_lt LTg2g3.out) (Option.some.inj he))); clear HB BKg2; have HB := n0_; have BKg2 := n1_; clear n0_ n1_; clear BKg3 hgr; have BKg3 := Aside0.mk hgb; clear hgb; (try clear cg3); have cg3 := fun i => blk_cell BKg3.out i)
        | ((with_reducible refine gate_store rfl ?_); refine As.store_cell rfl rfl g3 ?_ ?_ 25 _ BKg3.out ?hr ?_; (case hr => (have hs_ := fun i => blk_cell BKg3.out i); (have hf_ := fun i => blk_frozen BKg3.out i); first | (go_simp; done) | (go_simp; rfl)); intro w5 hgb hgr; simp only [List.setIfInBounds_toArray, List.set_cons_zero, List.set_cons_succ] at hgb; have n0_ := Aside0.mk (HB.out.grown hgr HB.out.size (fun k hk => by cases hk; exact GEg3.out)); have n1_ := Aside0.mk (blk_grown BKg2.out hgr (fun he => (Nat.ne_of_lt LTg2g3.out) (Option.some.inj he))); clear HB BKg2; have HB := n0_; have BKg2 := n1_; clear n0_ n1_; clear BKg3 hgr; have BKg3 := Aside0.mk hgb; clear hgb; (try clear cg3); have cg3 := fun i => blk_cell BKg3.out i)
        | ((with_reducible refine gate_store rfl ?_); refine As.store_row rfl 25 _ _ rfl g2 _ rfl rfl 25 _ BKg2.out (by kernel_rfl) rfl (by first | kernel_rfl | simp [Value.oneCell']) ?_; intro w6 hgb hgr; have hRn := Aside0.mk (As.R_ty HRv.out BKg2.out (by decide) hgr); clear HRv; have HRv := hRn; clear hRn; have n0_ := Aside0.mk (HB.out.grown hgr HB.out.size (fun k hk => by cases hk; exact GEg2.out)); have n1_ := Aside0.mk (blk_grown BKg3.out hgr (fun he => (Nat.ne_of_gt LTg2g3.out) (Option.some.inj he))); clear HB BKg3; have HB := n0_; have BKg3 := n1_; clear n0_ n1_; clear BKg2 hgr; have BKg2 := Aside0.mk hgb; clear hgb; skip)
        | ((with_reducible refine gate_store rfl ?_); refine As.store_row rfl 25 _ _ rfl g2 _ rfl rfl 25 _ BKg2.out (by kernel_rfl) rfl (by first | kernel_rfl | simp [Value.oneCell']) ?_; intro w6 hgb hgr; have n0_ := Aside0.mk (HB.out.grown hgr HB.out.size (fun k hk => by cases hk; exact GEg2.out)); have n1_ := Aside0.mk (blk_grown BKg3.out hgr (fun he => (Nat.ne_of_gt LTg2g3.out) (Option.some.inj he))); clear HB BKg3; have HB := n0_; have BKg3 := n1_; clear n0_ n1_; clear BKg2 hgr; have BKg2 := Aside0.mk hgb; clear hgb; skip)
        | (refine wpList_load_row rfl 25 _ rfl g3 rfl 25 _ (0, 0) _ BKg3.out hu rfl (by kernel_rfl) ?_))
      all_goals
        refine bodyPost_ret (results_cell_row rfl _ _ g2 25 _ (0, 0) _ rfl BKg2.out hu rfl (by kernel_rfl)) rfl ?_
        exact ⟨_, rfl, As.mkVV (As.n8R _ w.heap.size) HRv.out, HB.out⟩
    · rw [if_neg q6] at he
      have q6b : decide ((10 : Int) < (l.length : Int)) = false := decide_eq_false (by omega)
      have q6c : decide (10 < l.length) = false := decide_eq_false q6
      subst he
      go_enter Try.func53, Try.ntmps53
      go_wp2_with (first
        | ((with_reducible refine gate_dst (N := 2) rfl ?_); refine box_event ?hg (N := 2) ?hd (cs := As.Z) (t := 25) ?hr ?_; (case hd => rfl); (case hg => rfl); (case hr => first | (go_simp; done) | (go_simp; rfl)); intro g2 hg w1 hbox hb; have GEg2 := Aside0.mk ((by rw [hg]; exact HB.out.size) : w.heap.size ≤ g2); have BKg2 := Aside0.mk hbox; clear hbox hg; have n0_ := Aside0.mk (below_step HB.out hb); clear HB; have HB := n0_; clear n0_; skip; clear hb))
      have hb := below_drew1 (Below.refl w1.heap.size w1)
      refine start_ (n := 9) (S := fun w' => Below w1.heap.size w1 w') (ds := []) (bt 9 0) (by kernel_rfl) rfl (by kernel_rfl) hb (fun hHeld => ?_)
      clear hb
      refine pure_ (i := 0) (N := some 4) (v := ?_) (a' := ?_) (bt 9 1) rfl rfl (by kernel_rfl) (fun _ _ _ h => h) (Or.inl ⟨by rfl, ?_⟩) ?_ ?_
      rotate_left
      · intro w'
        go_simp
        first | with_reducible rfl | (simp [Instr.field, go_sem]; rfl)
      rotate_left
      · simp only [Act.put, List.setIfInBounds_toArray, List.set_cons_zero, List.set_cons_succ]
        rfl
      refine pure_ (i := 1) (N := some 5) (v := ?_) (a' := ?_) (bt 9 3) rfl rfl (by kernel_rfl) (fun _ _ _ h => h) (Or.inl ⟨by rfl, ?_⟩) ?_ ?_
      rotate_left
      · intro w'
        go_simp
        first | with_reducible rfl | (simp [Instr.field, go_sem]; rfl)
      rotate_left
      · simp only [Act.put, List.setIfInBounds_toArray, List.set_cons_zero, List.set_cons_succ]
        rfl
      refine take_ (i := 2) (N := some 6) (v := ?_) (a' := ?_) (bt 9 7) rfl rfl (by kernel_rfl) (fun _ _ _ h => h) (Or.inl ⟨by rfl, ?_⟩) hHeld ?_ ?_
      rotate_left
      · intro w' hS
        have f_ := pw_cell_below hS (pw_cell_below HB.out HX.out)
        go_simp
        first | with_reducible rfl | (simp [Instr.field, go_sem]; rfl)
      rotate_left
      · simp only [Act.put, List.setIfInBounds_toArray, List.set_cons_zero, List.set_cons_succ]
        rfl
      refine pure_ (i := 3) (N := some 7) (v := ?_) (a' := ?_) (bt 9 15) rfl rfl (by kernel_rfl) (fun _ _ _ h => h) (Or.inl ⟨by rfl, ?_⟩) ?_ ?_
      rotate_left
      · intro w'
        go_simp
        first | with_reducible rfl | (simp [Instr.field, go_sem]; rfl)
      rotate_left
      · simp only [Act.put, List.setIfInBounds_toArray, List.set_cons_zero, List.set_cons_succ]
        rfl
      refine pure_ (i := 4) (N := some 8) (v := ?_) (a' := ?_) (bt 9 31) rfl rfl (by kernel_rfl) (fun _ _ _ h => h) (Or.inl ⟨by rfl, ?_⟩) ?_ ?_
      rotate_left
      · intro w'
        go_simp
        first | with_reducible rfl | (simp [Instr.field, go_sem]; rfl)
      rotate_left
      · simp only [Act.put, List.setIfInBounds_toArray, List.set_cons_zero, List.set_cons_succ]
        rfl
      refine join_ (σ := Nat) 1 (bt 9 255) (fun s_ => [(9, .int .i64 n1), (10, .agg #[.int .i64 (rd l 0), .int .i64 n1, .int .i64 0, .int .i64 0, .int .i64 0, .int .i64 0, .int .i64 0, .int .i64 0, .slice none 0 0, .slice none 0 0]), (3, .pointer (some ⟨s_, 0, none⟩))]) (fun s_ w' => w'.heap[s_]? = some (.cells As.Z 25 (0, 0)) ∧ Below w1.heap.size w1 w' ∧ w1.heap.size ≤ s_) ?_ ?_
      rotate_left
      · intro hJ
        refine two_ (i := 5) (j := 7) (Ni := some 9) (Nj := some 3) (bt 9 63) (bt 9 159) rfl rfl rfl rfl (by kernel_rfl) (by decide) (by decide) (fun K hK => ?_) (fun K hK => ?_)
        · skip
          refine goes_ Try.func75 (by kernel_rfl) rfl #[.slice (some ad) l.length c, .int .i64 1] (by rfl) rfl rfl (by (try simp only [List.map_toArray, List.map_cons, List.map_nil]); first | done | rfl) ?_
          refine ((As.nms (Kd.C_below HR.out (below_step HB.out hHeld)) HC.out H8.out HL.out (i := 1) (by decide) hn1.out)).mono ?_
          rintro e wp ⟨rfl, hb2⟩
          refine ⟨_, rfl, ?_⟩
          refine hK.out _ _ (below_step hHeld hb2) (fun hHeld2 => ?_)
          clear hK K
          refine norm_ (a' := ?_) ?_ ?_
          rotate_left
          · show Act.put _ (some 9) _ = _
            simp only [Act.put, List.setIfInBounds_toArray, List.set_cons_zero, List.set_cons_succ]
            rfl
          refine pure_ (i := 6) (N := some 10) (v := ?_) (a' := ?_) (bt 9 127) rfl rfl (by kernel_rfl) (fun _ _ _ h => h) (Or.inl ⟨by rfl, ?_⟩) ?_ ?_
          rotate_left
          · intro w'
            have hz1 := hz w'
            refine (?_ : Sem.run Try.prog (execOp _ _) w' = Result.ok (Next.value (Value.agg #[.int .i64 (rd l 0), .int .i64 n1, .int .i64 0, .int .i64 0, .int .i64 0, .int .i64 0, .int .i64 0, .int .i64 0, .slice none 0 0, .slice none 0 0])) w')
            first | (go_simp; done) | (go_simp; rfl)
          rotate_left
          · simp only [Act.put, List.setIfInBounds_toArray, List.set_cons_zero, List.set_cons_succ]
            rfl
          refine one_ (i := 7) (N := some 3) (bt 9 255) rfl rfl (by kernel_rfl) (by decide) (fun K hK => ?_)
          refine As.box_ev (by rfl) (N := 3) rfl (cs := As.Z) (t := 25) ?hr ?_
          case hr => first | (go_simp; done) | (go_simp; rfl)
          intro g3 hg3 w9 hbox hb9
          refine hK.out _ _ (below_step hHeld2 hb9) (fun hHeld3 => ?_)
          clear hK K
          refine norm_ (a' := ?_) ?_ ?_
          rotate_left
          · show Act.put _ (some 3) _ = _
            simp only [Act.put, List.setIfInBounds_toArray, List.set_cons_zero, List.set_cons_succ]
            rfl
          exact norm_ (by simp only [putAll, Act.put, List.setIfInBounds_toArray, List.set_cons_zero, List.set_cons_succ] <;> rfl) (hJ g3 _ ⟨hbox, hHeld3, (by rw [hg3]; exact hHeld2.size)⟩)
        · skip
          refine As.box_ev (by rfl) (N := 3) rfl (cs := As.Z) (t := 25) ?hr ?_
          case hr => first | (go_simp; done) | (go_simp; rfl)
          intro g3 hg3 w9 hbox hb9
          refine hK.out _ _ (below_step hHeld hb9) (fun hHeld2 => ?_)
          clear hK K
          refine norm_ (a' := ?_) ?_ ?_
          rotate_left
          · show Act.put _ (some 3) _ = _
            simp only [Act.put, List.setIfInBounds_toArray, List.set_cons_zero, List.set_cons_succ]
            rfl
          refine one_ (i := 5) (N := some 9) (bt 9 191) rfl rfl (by kernel_rfl) (by decide) (fun K hK => ?_)
          refine goes_ Try.func75 (by kernel_rfl) rfl #[.slice (some ad) l.length c, .int .i64 1] (by rfl) rfl rfl (by (try simp only [List.map_toArray, List.map_cons, List.map_nil]); first | done | rfl) ?_
          refine ((As.nms (Kd.C_below HR.out (below_step HB.out hHeld2)) HC.out H8.out HL.out (i := 1) (by decide) hn1.out)).mono ?_
          rintro e wp ⟨rfl, hb2⟩
          refine ⟨_, rfl, ?_⟩
          refine hK.out _ _ (below_step hHeld2 hb2) (fun hHeld3 => ?_)
          clear hK K
          refine norm_ (a' := ?_) ?_ ?_
          rotate_left
          · show Act.put _ (some 9) _ = _
            simp only [Act.put, List.setIfInBounds_toArray, List.set_cons_zero, List.set_cons_succ]
            rfl
          refine pure_ (i := 6) (N := some 10) (v := ?_) (a' := ?_) (bt 9 255) rfl rfl (by kernel_rfl) (fun _ _ _ h => h) (Or.inl ⟨by rfl, ?_⟩) ?_ ?_
          rotate_left
          · intro w'
            have hz1 := hz w'
            refine (?_ : Sem.run Try.prog (execOp _ _) w' = Result.ok (Next.value (Value.agg #[.int .i64 (rd l 0), .int .i64 n1, .int .i64 0, .int .i64 0, .int .i64 0, .int .i64 0, .int .i64 0, .int .i64 0, .slice none 0 0, .slice none 0 0])) w')
            first | (go_simp; done) | (go_simp; rfl)
          rotate_left
          · simp only [Act.put, List.setIfInBounds_toArray, List.set_cons_zero, List.set_cons_succ]
            rfl
          exact norm_ (by simp only [putAll, Act.put, List.setIfInBounds_toArray, List.set_cons_zero, List.set_cons_succ] <;> rfl) (hJ g3 _ ⟨blk_below hbox hb2, hHeld3, (by rw [hg3]; exact hHeld.size)⟩)
      clear hHeld
      rintro g3 w2 ⟨hbox, hHeld, hge⟩
      have LTg2g3 := Aside0.mk (show g2 < g3 from Nat.lt_of_lt_of_le (blk_lt BKg2.out) hge)
      have GEg3 := Aside0.mk (show w.heap.size ≤ g3 from Nat.le_trans HB.out.size hge)
      have BKg3 := Aside0.mk hbox
      clear hbox
      refine norm_ (a' := ?_) ?_ ?_
      rotate_left
      · simp only [putAll, Act.put, List.setIfInBounds_toArray, List.set_cons_zero, List.set_cons_succ]
        rfl
      refine one_ (i := 8) (N := none) (bt 9 511) rfl rfl (by kernel_rfl) (by decide) (fun K hK => ?_)
      refine As.store_ev (by rfl) rfl 25 _ _ rfl g3 #[.int .i64 (rd l 0), .int .i64 n1, .int .i64 0, .int .i64 0, .int .i64 0, .int .i64 0, .int .i64 0, .int .i64 0, .slice none 0 0, .slice none 0 0] rfl rfl 25 _ BKg3.out (by kernel_rfl) rfl (by first | kernel_rfl | simp [Value.oneCell']) ?_
      intro w3 hgb hgr
      have hS7 := hHeld.grown hgr hHeld.size (fun k hk => by cases hk; exact hge)
      have n0_ := Aside0.mk (blk_grown (blk_below BKg2.out hHeld) hgr (fun he => (Nat.ne_of_lt LTg2g3.out) (Option.some.inj he)))
      have n1_ := Aside0.mk (below_step HB.out hS7)
      clear BKg2 HB BKg3 hgr hHeld
      have HB := n1_
      have BKg2 := n0_
      have BKg3 := Aside0.mk hgb
      clear n0_ n1_ hgb
      refine hK.out _ _ hS7 (fun hHeld => ?_)
      clear hK K hHeld hS7
      refine done_ (by kernel_rfl) ?_
      (try clear cg3); have cg3 := fun i => blk_cell BKg3.out i
      go_wp2_with (first
        | (go_at_call 75; (with_reducible refine (As.nms (Kd.C_below HR.out HB.out) HC.out H8.out HL.out (i := 1) (by decide) hn1.out).mono ?_); rintro r wn ⟨rfl, hb⟩; have n0_ := Aside0.mk (below_step HB.out hb); have n1_ := Aside0.mk (blk_below BKg2.out hb); have n2_ := Aside0.mk (blk_below BKg3.out hb); clear HB BKg2 BKg3; have HB := n0_; have BKg2 := n1_; have BKg3 := n2_; clear n0_ n1_ n2_; clear hb; (try clear cg3); have cg3 := fun i => blk_cell BKg3.out i)
        | (go_at_call 75; (with_reducible refine (As.nms (Kd.C_below HR.out HB.out) HC.out H8.out HL.out (i := 3) (by decide) hn3.out).mono ?_); rintro r wn ⟨rfl, hb⟩; have n0_ := Aside0.mk (below_step HB.out hb); have n1_ := Aside0.mk (blk_below BKg2.out hb); have n2_ := Aside0.mk (blk_below BKg3.out hb); clear HB BKg2 BKg3; have HB := n0_; have BKg2 := n1_; have BKg3 := n2_; clear n0_ n1_ n2_; clear hb; (try clear cg3); have cg3 := fun i => blk_cell BKg3.out i)
        | (go_at_call 75; (with_reducible refine (As.nms (Kd.C_below HR.out HB.out) HC.out H8.out HL.out (i := 5) (by decide) hn5.out).mono ?_); rintro r wn ⟨rfl, hb⟩; have n0_ := Aside0.mk (below_step HB.out hb); have n1_ := Aside0.mk (blk_below BKg2.out hb); have n2_ := Aside0.mk (blk_below BKg3.out hb); clear HB BKg2 BKg3; have HB := n0_; have BKg2 := n1_; have BKg3 := n2_; clear n0_ n1_ n2_; clear hb; (try clear cg3); have cg3 := fun i => blk_cell BKg3.out i)
        | (go_at_call 75; (with_reducible refine (As.nms (Kd.C_below HR.out HB.out) HC.out H8.out HL.out (i := 7) (by decide) hn7.out).mono ?_); rintro r wn ⟨rfl, hb⟩; have n0_ := Aside0.mk (below_step HB.out hb); have n1_ := Aside0.mk (blk_below BKg2.out hb); have n2_ := Aside0.mk (blk_below BKg3.out hb); clear HB BKg2 BKg3; have HB := n0_; have BKg2 := n1_; have BKg3 := n2_; clear n0_ n1_ n2_; clear hb; (try clear cg3); have cg3 := fun i => blk_cell BKg3.out i)
        | ((with_reducible refine gate_store rfl ?_); refine As.store_cell rfl rfl g3 ?_ ?_ 25 _ BKg3.out ?hr ?_; (case hr => (have hs_ := fun i => blk_cell BKg3.out i); (have hf_ := fun i => blk_frozen BKg3.out i); first | (go_simp; done) | (go_simp; rfl)); intro w5 hgb hgr; simp only [List.setIfInBounds_toArray, List.set_cons_zero, List.set_cons_succ] at hgb; have n0_ := Aside0.mk (HB.out.grown hgr HB.out.size (fun k hk => by cases hk; exact GEg3.out)); have n1_ := Aside0.mk (blk_grown BKg2.out hgr (fun he => (Nat.ne_of_lt LTg2g3.out) (Option.some.inj he))); clear HB BKg2; have HB := n0_; have BKg2 := n1_; clear n0_ n1_; clear BKg3 hgr; have BKg3 := Aside0.mk hgb; clear hgb; (try clear cg3); have cg3 := fun i => blk_cell BKg3.out i)
        | ((with_reducible refine gate_store rfl ?_); refine As.store_row rfl 25 _ _ rfl g2 _ rfl rfl 25 _ BKg2.out (by kernel_rfl) rfl (by first | kernel_rfl | simp [Value.oneCell']) ?_; intro w6 hgb hgr; have n0_ := Aside0.mk (HB.out.grown hgr HB.out.size (fun k hk => by cases hk; exact GEg2.out)); have n1_ := Aside0.mk (blk_grown BKg3.out hgr (fun he => (Nat.ne_of_gt LTg2g3.out) (Option.some.inj he))); clear HB BKg3; have HB := n0_; have BKg3 := n1_; clear n0_ n1_; clear BKg2 hgr; have BKg2 := Aside0.mk hgb; clear hgb; skip)
        | (refine wpList_load_row rfl 25 _ rfl g3 rfl 25 _ (0, 0) _ BKg3.out hu rfl (by kernel_rfl) ?_))
      refine bodyPost_ret (results_cell_row rfl _ _ g2 25 _ (0, 0) _ rfl BKg2.out hu rfl (by kernel_rfl)) rfl ?_
      exact ⟨_, rfl, As.mkVV (As.n8R _ w.heap.size) (As.n9R _ _), HB.out⟩

theorem As.gs_fit {l : List Int} (h8 : ∀ x ∈ l, U8 x) (hl : l.length ≤ 1000000) : As.Fit (As.gs l) ∧ ∀ n ∈ (As.gs l).f9, 0 ≤ n ∧ n ≤ 65535 := by
  have hg : ∀ m : Nat, ((getS (l.drop m)).1).length ≤ 1000000 ∧ ∀ n ∈ (getS (l.drop m)).1, 0 ≤ n ∧ n ≤ 65535 := by
    intro m
    refine ⟨Nat.le_trans (As.getS_len _) (by rw [List.length_drop]; omega), ?_⟩
    unfold getS
    split
    · intro n hn
      have := getW_u16 (fun x hx => h8 x (List.mem_of_mem_drop hx)) n hn
      unfold U16 at this
      omega
    · intro n hn; cases hn
  have hu := As.upkS_len (l.drop 6) (As.at_val h8 3).2
  have hz : ∀ n ∈ ([] : List Int), 0 ≤ n ∧ n ≤ 65535 := by simp
  unfold As.gs
  split
  · exact ⟨⟨Nat.zero_le _, Nat.zero_le _⟩, hz⟩
  · split
    · exact ⟨⟨Nat.zero_le _, Nat.zero_le _⟩, hz⟩
    · split
      · refine ⟨⟨?_, Nat.zero_le _⟩, hz⟩
        simp only []
        split
        · omega
        · exact Nat.zero_le _
      · split
        · refine ⟨⟨Nat.zero_le _, ?_⟩, ?_⟩
          · simp only []
            split
            · exact (hg 6).1
            · exact Nat.zero_le _
          · simp only []
            split
            · exact (hg 6).2
            · exact hz
        · split
          · exact ⟨⟨Nat.zero_le _, Nat.zero_le _⟩, hz⟩
          · refine ⟨⟨Nat.zero_le _, ?_⟩, ?_⟩
            · simp only []
              split
              · exact (hg 10).1
              · exact Nat.zero_le _
            · simp only []
              split
              · exact (hg 10).2
              · exact hz
theorem As.gs_f0 (l : List Int) : (As.gs l).f0 = rd l 0 := by
  unfold As.gs
  split
  · rfl
  · split
    · rfl
    · split
      · rfl
      · split
        · rfl
        · split <;> rfl
set_option maxHeartbeats 16000000 in
set_option maxRecDepth 100000 in
theorem As.rparses {A : Option Addr} {c : Nat} {l : List Int} {w : World} (hr : (Kd.int .u8).C w A l.length l) (hc : l.length ≤ c) (h8 : ∀ x ∈ l, U8 x) (hl : l.length ≤ 1000000) {y : S25} {E : Int} (he : As.rparse l = (y, E)) : Calls Try.prog 22 #[.slice A l.length c] w fun e w' => ∃ cs', e = .returned (.tuple #[.agg cs', .int .i64 E]) ∧ As.V w' cs' y ∧ Below w.heap.size w w' := by
  have HR := Aside0.mk hr
  have HC := Aside0.mk hc
  have H8 := Aside0.mk h8
  have HL := Aside0.mk hl
  have hu := Try.underlying25
  have hu8 := Try.underlying28
  have hz := As.zero
  have HB := Aside0.mk (Below.refl w.heap.size w)
  clear hr h8 hl
  unfold As.rparse at he
  by_cases q0 : l.length = 0
  · rw [if_pos q0] at he
    obtain ⟨rfl, rfl⟩ := Prod.mk.inj he
    have d0 : decide ((l.length : Int) = 0) = true := decide_eq_true (by omega)
    have d0b : ((l.length : Int) == 0) = true := by simpa using q0
    go_enter Try.func22, Try.ntmps22
    go_wp2_with (first
      | ((with_reducible refine gate_dst (N := 2) rfl ?_); refine box_event ?hg (N := 2) ?hd (cs := As.Z) (t := 25) ?hr ?_; (case hd => rfl); (case hg => rfl); (case hr => first | (go_simp; done) | (go_simp; rfl)); intro g2 hg w1 hbox hb; have GEg2 := Aside0.mk ((by rw [hg]; exact HB.out.size) : w.heap.size ≤ g2); have BKg2 := Aside0.mk hbox; clear hbox hg; have n0_ := Aside0.mk (below_step HB.out hb); clear HB; have HB := n0_; clear n0_; skip; clear hb)
      | ((with_reducible refine gate_store rfl ?_); refine As.store_row rfl 25 _ _ rfl g2 _ rfl rfl 25 _ BKg2.out (by kernel_rfl) rfl (by first | kernel_rfl | simp [Value.oneCell']) ?_; intro w9 hgb hgr; have n0_ := Aside0.mk (HB.out.grown hgr HB.out.size (fun k hk => by cases hk; exact GEg2.out)); clear HB; have HB := n0_; clear n0_; clear BKg2 hgr; have BKg2 := Aside0.mk hgb; clear hgb; skip))
    refine bodyPost_ret (results_ct rfl _ _ g2 25 _ (0, 0) _ rfl BKg2.out hu rfl (by kernel_rfl)) rfl ?_
    exact ⟨_, rfl, As.V_zero _, HB.out⟩
  rw [if_neg q0] at he
  have d0b : ((l.length : Int) == 0) = false := by simpa using q0
  obtain ⟨ad, ea, hx⟩ := Kd.at_int HR.out 0 (by omega) (by omega)
  have HX := Aside0.mk (show w.cell? ad = some (.int .u8 (rd l 0)) from hx)
  clear hx
  have hpos : (0 : Int) < (l.length : Int) := by omega
  have hposn : 0 < l.length := by omega
  have hub := rd_all H8.out (i := 0) (by omega) (by omega)
  have hw0 : IntKind.i64.wrap (rd l 0) = rd l 0 := by rw [i64_w]; exact w64 (by unfold U8 at hub; omega)
  clear hub
  subst ea
  cases qk : As.known (rd l 0) with
  | false =>
    rw [if_pos qk] at he
    obtain ⟨rfl, rfl⟩ := Prod.mk.inj he
    go_enter Try.func22, Try.ntmps22
    go_wp2_with (first
      | ((with_reducible refine gate_dst (N := 2) rfl ?_); refine box_event ?hg (N := 2) ?hd (cs := As.Z) (t := 25) ?hr ?_; (case hd => rfl); (case hg => rfl); (case hr => first | (go_simp; done) | (go_simp; rfl)); intro g2 hg w1 hbox hb; have GEg2 := Aside0.mk ((by rw [hg]; exact HB.out.size) : w.heap.size ≤ g2); have BKg2 := Aside0.mk hbox; clear hbox hg; have n0_ := Aside0.mk (below_step HB.out hb); clear HB; have HB := n0_; clear n0_; have hx1 := pw_cell_below HB.out HX.out; clear hb)
      | (go_at_call 17; (with_reducible refine (As.rknows qk).mono ?_); rintro r w4 ⟨rfl, hb⟩; (try clear hx1); have n0_ := Aside0.mk (below_step HB.out hb); have n1_ := Aside0.mk (blk_below BKg2.out hb); clear HB BKg2; have HB := n0_; have BKg2 := n1_; clear n0_ n1_; clear hb)
      | ((with_reducible refine gate_store rfl ?_); refine As.store_row rfl 25 _ _ rfl g2 _ rfl rfl 25 _ BKg2.out (by kernel_rfl) rfl (by first | kernel_rfl | simp [Value.oneCell']) ?_; intro w9 hgb hgr; have n0_ := Aside0.mk (HB.out.grown hgr HB.out.size (fun k hk => by cases hk; exact GEg2.out)); clear HB; have HB := n0_; clear n0_; clear BKg2 hgr; have BKg2 := Aside0.mk hgb; clear hgb; skip))
    refine bodyPost_ret (results_ct rfl _ _ g2 25 _ (0, 0) _ rfl BKg2.out hu rfl (by kernel_rfl)) rfl ?_
    exact ⟨_, rfl, As.V_zero _, HB.out⟩
  | true =>
  rw [if_neg (by rw [qk]; decide)] at he
  obtain ⟨yg, hyg⟩ : ∃ yg, As.gs l = yg := ⟨_, rfl⟩
  have hfit := As.gs_fit H8.out HL.out
  have hf0 := As.gs_f0 l
  rw [hyg] at he hfit hf0
  have HG := Aside0.mk hyg
  have HF := Aside0.mk hfit.1
  have H16 := Aside0.mk hfit.2
  have HF0 := Aside0.mk hf0
  clear hyg hfit hf0
  cases hb0 : As.right yg with
  | false =>
    rw [if_neg (by rw [hb0]; simp)] at he
    obtain ⟨rfl, rfl⟩ := Prod.mk.inj he
    go_enter Try.func22, Try.ntmps22
    go_wp2_with (first
      | ((with_reducible refine gate_dst (N := 2) rfl ?_); refine box_event ?hg (N := 2) ?hd (cs := As.Z) (t := 25) ?hr ?_; (case hd => rfl); (case hg => rfl); (case hr => first | (go_simp; done) | (go_simp; rfl)); intro g2 hg w1 hbox hb; have GEg2 := Aside0.mk ((by rw [hg]; exact HB.out.size) : w.heap.size ≤ g2); have BKg2 := Aside0.mk hbox; clear hbox hg; have n0_ := Aside0.mk (below_step HB.out hb); clear HB; have HB := n0_; clear n0_; have hx1 := pw_cell_below HB.out HX.out; clear hb)
      | (go_at_call 17; (with_reducible refine (As.rknows qk).mono ?_); rintro r w4 ⟨rfl, hb⟩; (try clear hx1); have n0_ := Aside0.mk (below_step HB.out hb); have n1_ := Aside0.mk (blk_below BKg2.out hb); clear HB BKg2; have HB := n0_; have BKg2 := n1_; clear n0_ n1_; clear hb)
      | (go_at_call 53; (with_reducible refine (As.gss (Kd.C_below HR.out HB.out) HC.out H8.out HL.out hposn qk HG.out).mono ?_); rintro r w5 ⟨cs1, rfl, hV, hb⟩; obtain ⟨A8, c8, A9, c9, rfl, -, -, -, -⟩ := As.open hV.1; have n0_ := Aside0.mk (below_step HB.out hb); have n1_ := Aside0.mk (blk_below BKg2.out hb); clear HB BKg2; have HB := n0_; have BKg2 := n1_; clear n0_ n1_; clear hb; have HVV := Aside0.mk hV; have HV := Aside0.mk hV.1; have HB5 := Aside0.mk (Below.refl w5.heap.size w5); clear hV)
      | ((with_reducible refine gate_dst (N := 4) rfl ?_); refine box_event ?hg (N := 4) ?hd (cs := As.Z) (t := 25) ?hr ?_; (case hd => rfl); (case hg => rfl); (case hr => first | (go_simp; done) | (go_simp; rfl)); intro g4 hg w6 hbox hb; have LTg2g4 := Aside0.mk (show g2 < g4 by rw [hg]; exact blk_lt BKg2.out); have GX := Aside0.mk (Nat.le_of_eq hg.symm); have HX := Aside0.mk hb; have BKg4 := Aside0.mk hbox; clear hg hbox hb)
      | ((with_reducible refine gate_store rfl ?_); refine As.store_row rfl 25 _ _ rfl g4 #[.int .i64 yg.f0, .int .i64 yg.f1, .int .i64 yg.f2, .int .i64 yg.f3, .int .i64 yg.f4, .int .i64 yg.f5, .int .i64 yg.f6, .int .i64 yg.f7, .slice A8 yg.f8.length c8, .slice A9 yg.f9.length c9] rfl rfl 25 _ BKg4.out (by rw [As.V_size HV.out]; exact As.size) (by rw [As.V_size HV.out]; rfl) (As.V_one HV.out) ?_; intro w7 hgb hgr; have hb := HX.out.grown hgr HX.out.size (fun k hk => by cases hk; exact GX.out); have n0_ := Aside0.mk (below_step HB.out hb); have n1_ := Aside0.mk (blk_below BKg2.out hb); have n2_ := Aside0.mk (As.V_below HV.out hb); have n3_ := Aside0.mk (below_step HB5.out hb); clear HB BKg2 HV HB5; have HB := n0_; have BKg2 := n1_; have HV := n2_; have HB5 := n3_; clear n0_ n1_ n2_ n3_; clear BKg4 GX HX hb hgr; have BKg4 := Aside0.mk hgb; clear hgb; skip)
      | ((with_reducible refine gate_dst (N := 22) rfl ?_); refine wpList_load_row rfl 25 _ rfl g4 rfl 25 _ (0, 0) _ BKg4.out hu rfl (by kernel_rfl) ?_)
      | (go_at_call 13; (with_reducible refine (As.rprints HV.out HF.out H16.out hb0).mono ?_); rintro r w8 ⟨vx, rfl, ho, hb⟩; have HP := Aside0.mk (Kd.R_lower ho HB.out.size); clear ho; have n0_ := Aside0.mk (below_step HB.out hb); have n1_ := Aside0.mk (blk_below BKg2.out hb); have n2_ := Aside0.mk (As.V_below HV.out hb); have n3_ := Aside0.mk (below_step HB5.out hb); have n4_ := Aside0.mk (blk_below BKg4.out hb); clear HB BKg2 HV HB5 BKg4; have HB := n0_; have BKg2 := n1_; have HV := n2_; have HB5 := n3_; have BKg4 := n4_; clear n0_ n1_ n2_ n3_ n4_; clear hb; obtain ⟨Ax, cx, ex⟩ := Kd.R_slice HP.out; subst ex)
      | ((with_reducible refine gate_store rfl ?_); refine As.store_row rfl 25 _ _ rfl g2 _ rfl rfl 25 _ BKg2.out (by kernel_rfl) rfl (by first | kernel_rfl | simp [Value.oneCell']) ?_; intro w9 hgb hgr; have n0_ := Aside0.mk (HB.out.grown hgr HB.out.size (fun k hk => by cases hk; exact GEg2.out)); have n1_ := Aside0.mk (blk_grown BKg4.out hgr (fun he => (Nat.ne_of_gt LTg2g4.out) (Option.some.inj he))); clear HB BKg4; have HB := n0_; have BKg4 := n1_; clear n0_ n1_; clear BKg2 hgr; have BKg2 := Aside0.mk hgb; clear hgb; skip))
    refine bodyPost_ret (results_ct rfl _ _ g2 25 _ (0, 0) _ rfl BKg2.out hu rfl (by kernel_rfl)) rfl ?_
    exact ⟨_, rfl, As.V_zero _, HB.out⟩
  | true =>
  have hps : As.print yg = As.say yg := by unfold As.print; rw [if_pos hb0]
  obtain ⟨sb, hsb⟩ : ∃ sb, As.say yg = sb := ⟨_, rfl⟩
  rw [hsb] at hps he
  have HPS := Aside0.mk hps
  clear hps hsb
  by_cases ql : sb.length = l.length
  rotate_left
  · rw [if_neg (fun h => ql h.2.1)] at he
    obtain ⟨rfl, rfl⟩ := Prod.mk.inj he
    have qlb : ((sb.length : Int) != (l.length : Int)) = true := by simp; omega
    have qlc : (sb.length != l.length) = true := by simpa using ql
    go_enter Try.func22, Try.ntmps22
    go_wp2_with (first
      | ((with_reducible refine gate_dst (N := 2) rfl ?_); refine box_event ?hg (N := 2) ?hd (cs := As.Z) (t := 25) ?hr ?_; (case hd => rfl); (case hg => rfl); (case hr => first | (go_simp; done) | (go_simp; rfl)); intro g2 hg w1 hbox hb; have GEg2 := Aside0.mk ((by rw [hg]; exact HB.out.size) : w.heap.size ≤ g2); have BKg2 := Aside0.mk hbox; clear hbox hg; have n0_ := Aside0.mk (below_step HB.out hb); clear HB; have HB := n0_; clear n0_; have hx1 := pw_cell_below HB.out HX.out; clear hb)
      | (go_at_call 17; (with_reducible refine (As.rknows qk).mono ?_); rintro r w4 ⟨rfl, hb⟩; (try clear hx1); have n0_ := Aside0.mk (below_step HB.out hb); have n1_ := Aside0.mk (blk_below BKg2.out hb); clear HB BKg2; have HB := n0_; have BKg2 := n1_; clear n0_ n1_; clear hb)
      | (go_at_call 53; (with_reducible refine (As.gss (Kd.C_below HR.out HB.out) HC.out H8.out HL.out hposn qk HG.out).mono ?_); rintro r w5 ⟨cs1, rfl, hV, hb⟩; obtain ⟨A8, c8, A9, c9, rfl, -, -, -, -⟩ := As.open hV.1; have n0_ := Aside0.mk (below_step HB.out hb); have n1_ := Aside0.mk (blk_below BKg2.out hb); clear HB BKg2; have HB := n0_; have BKg2 := n1_; clear n0_ n1_; clear hb; have HVV := Aside0.mk hV; have HV := Aside0.mk hV.1; have HB5 := Aside0.mk (Below.refl w5.heap.size w5); clear hV)
      | ((with_reducible refine gate_dst (N := 4) rfl ?_); refine box_event ?hg (N := 4) ?hd (cs := As.Z) (t := 25) ?hr ?_; (case hd => rfl); (case hg => rfl); (case hr => first | (go_simp; done) | (go_simp; rfl)); intro g4 hg w6 hbox hb; have LTg2g4 := Aside0.mk (show g2 < g4 by rw [hg]; exact blk_lt BKg2.out); have GX := Aside0.mk (Nat.le_of_eq hg.symm); have HX := Aside0.mk hb; have BKg4 := Aside0.mk hbox; clear hg hbox hb)
      | ((with_reducible refine gate_store rfl ?_); refine As.store_row rfl 25 _ _ rfl g4 #[.int .i64 yg.f0, .int .i64 yg.f1, .int .i64 yg.f2, .int .i64 yg.f3, .int .i64 yg.f4, .int .i64 yg.f5, .int .i64 yg.f6, .int .i64 yg.f7, .slice A8 yg.f8.length c8, .slice A9 yg.f9.length c9] rfl rfl 25 _ BKg4.out (by rw [As.V_size HV.out]; exact As.size) (by rw [As.V_size HV.out]; rfl) (As.V_one HV.out) ?_; intro w7 hgb hgr; have hb := HX.out.grown hgr HX.out.size (fun k hk => by cases hk; exact GX.out); have n0_ := Aside0.mk (below_step HB.out hb); have n1_ := Aside0.mk (blk_below BKg2.out hb); have n2_ := Aside0.mk (As.V_below HV.out hb); have n3_ := Aside0.mk (below_step HB5.out hb); clear HB BKg2 HV HB5; have HB := n0_; have BKg2 := n1_; have HV := n2_; have HB5 := n3_; clear n0_ n1_ n2_ n3_; clear BKg4 GX HX hb hgr; have BKg4 := Aside0.mk hgb; clear hgb; skip)
      | ((with_reducible refine gate_dst (N := 22) rfl ?_); refine wpList_load_row rfl 25 _ rfl g4 rfl 25 _ (0, 0) _ BKg4.out hu rfl (by kernel_rfl) ?_)
      | (go_at_call 13; (with_reducible refine (As.rprints HV.out HF.out H16.out hb0).mono ?_); rintro r w8 ⟨vx, rfl, ho, hb⟩; rw [HPS.out] at ho; have HP := Aside0.mk (Kd.R_lower ho HB.out.size); clear ho; have n0_ := Aside0.mk (below_step HB.out hb); have n1_ := Aside0.mk (blk_below BKg2.out hb); have n2_ := Aside0.mk (As.V_below HV.out hb); have n3_ := Aside0.mk (below_step HB5.out hb); have n4_ := Aside0.mk (blk_below BKg4.out hb); clear HB BKg2 HV HB5 BKg4; have HB := n0_; have BKg2 := n1_; have HV := n2_; have HB5 := n3_; have BKg4 := n4_; clear n0_ n1_ n2_ n3_ n4_; clear hb; obtain ⟨Ax, cx, ex⟩ := Kd.R_slice HP.out; subst ex)
      | ((with_reducible refine gate_store rfl ?_); refine As.store_row rfl 25 _ _ rfl g2 _ rfl rfl 25 _ BKg2.out (by kernel_rfl) rfl (by first | kernel_rfl | simp [Value.oneCell']) ?_; intro w9 hgb hgr; have n0_ := Aside0.mk (HB.out.grown hgr HB.out.size (fun k hk => by cases hk; exact GEg2.out)); have n1_ := Aside0.mk (blk_grown BKg4.out hgr (fun he => (Nat.ne_of_gt LTg2g4.out) (Option.some.inj he))); clear HB BKg4; have HB := n0_; have BKg4 := n1_; clear n0_ n1_; clear BKg2 hgr; have BKg2 := Aside0.mk hgb; clear hgb; skip))
    refine bodyPost_ret (results_ct rfl _ _ g2 25 _ (0, 0) _ rfl BKg2.out hu rfl (by kernel_rfl)) rfl ?_
    exact ⟨_, rfl, As.V_zero _, HB.out⟩
  have he2 : (if As.near (rd l 0) sb l then (yg, (0 : Int)) else (z25, 3)) = (y, E) := by
    rw [← he]
    by_cases hn : As.near (rd l 0) sb l
    · rw [if_pos hn, if_pos ⟨hb0, ql, hn⟩]
    · rw [if_neg hn, if_neg (fun h => hn h.2.2)]
  have HE := Aside0.mk he2
  have QL := Aside0.mk ql
  have qlb : ((sb.length : Int) != (l.length : Int)) = false := by simp; omega
  have qlc : (sb.length != l.length) = false := by simpa using ql
  clear he he2 ql
  go_enter Try.func22, Try.ntmps22
  go_wp2_with (first
    | ((with_reducible refine gate_dst (N := 2) rfl ?_); refine box_event ?hg (N := 2) ?hd (cs := As.Z) (t := 25) ?hr ?_; (case hd => rfl); (case hg => rfl); (case hr => first | (go_simp; done) | (go_simp; rfl)); intro g2 hg w1 hbox hb; have GEg2 := Aside0.mk ((by rw [hg]; exact HB.out.size) : w.heap.size ≤ g2); have BKg2 := Aside0.mk hbox; clear hbox hg; have n0_ := Aside0.mk (below_step HB.out hb); clear HB; have HB := n0_; clear n0_; have hx1 := pw_cell_below HB.out HX.out; clear hb)
    | (go_at_call 17; (with_reducible refine (As.rknows qk).mono ?_); rintro r w4 ⟨rfl, hb⟩; (try clear hx1); have n0_ := Aside0.mk (below_step HB.out hb); have n1_ := Aside0.mk (blk_below BKg2.out hb); clear HB BKg2; have HB := n0_; have BKg2 := n1_; clear n0_ n1_; clear hb)
    | (go_at_call 53; (with_reducible refine (As.gss (Kd.C_below HR.out HB.out) HC.out H8.out HL.out hposn qk HG.out).mono ?_); rintro r w5 ⟨cs1, rfl, hV, hb⟩; obtain ⟨A8, c8, A9, c9, rfl, -, -, -, -⟩ := As.open hV.1; have n0_ := Aside0.mk (below_step HB.out hb); have n1_ := Aside0.mk (blk_below BKg2.out hb); clear HB BKg2; have HB := n0_; have BKg2 := n1_; clear n0_ n1_; clear hb; have HVV := Aside0.mk hV; have HV := Aside0.mk hV.1; have HB5 := Aside0.mk (Below.refl w5.heap.size w5); clear hV)
    | ((with_reducible refine gate_dst (N := 4) rfl ?_); refine box_event ?hg (N := 4) ?hd (cs := As.Z) (t := 25) ?hr ?_; (case hd => rfl); (case hg => rfl); (case hr => first | (go_simp; done) | (go_simp; rfl)); intro g4 hg w6 hbox hb; have LTg2g4 := Aside0.mk (show g2 < g4 by rw [hg]; exact blk_lt BKg2.out); have GX := Aside0.mk (Nat.le_of_eq hg.symm); have HX := Aside0.mk hb; have BKg4 := Aside0.mk hbox; clear hg hbox hb)
    | ((with_reducible refine gate_store rfl ?_); refine As.store_row rfl 25 _ _ rfl g4 #[.int .i64 yg.f0, .int .i64 yg.f1, .int .i64 yg.f2, .int .i64 yg.f3, .int .i64 yg.f4, .int .i64 yg.f5, .int .i64 yg.f6, .int .i64 yg.f7, .slice A8 yg.f8.length c8, .slice A9 yg.f9.length c9] rfl rfl 25 _ BKg4.out (by rw [As.V_size HV.out]; exact As.size) (by rw [As.V_size HV.out]; rfl) (As.V_one HV.out) ?_; intro w7 hgb hgr; have hb := HX.out.grown hgr HX.out.size (fun k hk => by cases hk; exact GX.out); have n0_ := Aside0.mk (below_step HB.out hb); have n1_ := Aside0.mk (blk_below BKg2.out hb); have n2_ := Aside0.mk (As.V_below HV.out hb); have n3_ := Aside0.mk (below_step HB5.out hb); clear HB BKg2 HV HB5; have HB := n0_; have BKg2 := n1_; have HV := n2_; have HB5 := n3_; clear n0_ n1_ n2_ n3_; clear BKg4 GX HX hb hgr; have BKg4 := Aside0.mk hgb; clear hgb; skip)
    | ((with_reducible refine gate_dst (N := 22) rfl ?_); refine wpList_load_row rfl 25 _ rfl g4 rfl 25 _ (0, 0) _ BKg4.out hu rfl (by kernel_rfl) ?_)
    | (go_at_call 13; (with_reducible refine (As.rprints HV.out HF.out H16.out hb0).mono ?_); rintro r w8 ⟨vx, rfl, ho, hb⟩; rw [HPS.out] at ho; have HP := Aside0.mk (Kd.R_lower ho HB.out.size); clear ho; have n0_ := Aside0.mk (below_step HB.out hb); have n1_ := Aside0.mk (blk_below BKg2.out hb); have n2_ := Aside0.mk (As.V_below HV.out hb); have n3_ := Aside0.mk (below_step HB5.out hb); have n4_ := Aside0.mk (blk_below BKg4.out hb); clear HB BKg2 HV HB5 BKg4; have HB := n0_; have BKg2 := n1_; have HV := n2_; have HB5 := n3_; have BKg4 := n4_; clear n0_ n1_ n2_ n3_ n4_; clear hb; obtain ⟨Ax, cx, ex⟩ := Kd.R_slice HP.out; subst ex))
  clear qlb qlc
  have HBL := Aside0.mk (Below.refl w8.heap.size w8)
  go_loopw [7, 36, 37, 38, 39, 40, 41, 42, 43, 44, 45, 46, 47, 48, 49, 50, 51, 52, 53, 54, 55, 56, 57, 58, 59, 60, 61, 62, 63] (fun v7 v36 v37 v38 v39 v40 v41 v42 v43 v44 v45 v46 v47 v48 v49 v50 v51 v52 v53 v54 v55 v56 v57 v58 v59 v60 v61 v62 v63 wr => ∃ k : Nat, k ≤ sb.length ∧ v7 = .int .i64 k ∧ Aside0 (∀ j, j < k → As.nearAt (rd l 0) sb l j = true) ∧ Aside0 (Below w8.heap.size w8 wr)) (fun v7 _ _ _ _ _ _ _ _ _ _ _ _ _ _ _ _ _ _ _ _ _ _ _ _ _ _ _ _ _ => sb.length + 1 - (intOf v7).toNat)
  case atStart => exact ⟨0, Nat.zero_le _, rfl, ⟨fun j hj => absurd hj (Nat.not_lt_zero _)⟩, HBL⟩
  case round =>
    clear HBL
    obtain ⟨k, hk, rfl, HN, HBL⟩ := hrel
    by_cases hlt : k < sb.length
    rotate_left
    · obtain rfl : k = sb.length := by omega
      have hn : As.near (rd l 0) sb l := HN.out
      have hE := HE.out
      rw [if_pos hn] at hE
      obtain ⟨rfl, rfl⟩ := Prod.mk.inj hE
      clear hE hn
      have n0_ := Aside0.mk (below_step HB.out HBL.out)
      have n1_ := Aside0.mk (blk_below BKg2.out HBL.out)
      have n2_ := Aside0.mk (blk_below BKg4.out HBL.out)
      have n3_ := Aside0.mk (below_step HB5.out HBL.out)
      clear HB BKg2 BKg4 HB5
      have HB := n0_
      have BKg2 := n1_
      have BKg4 := n2_
      have HB5 := n3_
      clear n0_ n1_ n2_ n3_
      go_wp2_with (first
        | ((with_reducible refine gate_dst (N := 64) rfl ?_); refine wpList_load_row rfl 25 _ rfl g4 rfl 25 _ (0, 0) _ BKg4.out hu rfl (by kernel_rfl) ?_)
        | ((with_reducible refine gate_store rfl ?_); refine As.store_row rfl 25 _ _ rfl g2 _ rfl rfl 25 _ BKg2.out (by kernel_rfl) rfl (by first | kernel_rfl | simp [Value.oneCell']) ?_; intro w9 hgb hgr; have HVn := Aside0.mk (HVV.out.2 _ _ _ _ HB5.out BKg2.out hgr); have n0_ := Aside0.mk (HB.out.grown hgr HB.out.size (fun k hk => by cases hk; exact GEg2.out)); have n1_ := Aside0.mk (blk_grown BKg4.out hgr (fun he => (Nat.ne_of_gt LTg2g4.out) (Option.some.inj he))); clear HB BKg4; have HB := n0_; have BKg4 := n1_; clear n0_ n1_; clear BKg2 hgr; have BKg2 := Aside0.mk hgb; clear hgb; skip))
      refine bodyPost_ret (results_ct rfl _ _ g2 25 _ (0, 0) _ rfl BKg2.out hu rfl (by kernel_rfl)) rfl ?_
      exact ⟨_, rfl, HVn.out, HB.out⟩
    · obtain ⟨ad1, ea1, hx1⟩ := Kd.at_int (Kd.C_below (Kd.R_reads' HP.out).2.2 HBL.out) (k : Int) (by omega) (by omega)
      subst ea1
      obtain ⟨ad2, ea2, hx2⟩ := Kd.at_int (Kd.C_below HR.out (below_step HB.out HBL.out)) (k : Int) (by omega) (by have := QL.out; omega)
      obtain rfl := Option.some.inj ea2
      rw [Int.toNat_natCast] at hx1 hx2
      have hlt2 : k < l.length := by have := QL.out; omega
      have hk1 : IntKind.i64.wrap ((k : Int) + 1) = (k : Int) + 1 := by rw [i64_w]; exact w64 (by have := QL.out; have := HL.out; constructor <;> omega)
      have hs1 : IntKind.i64.wrap ((sb.length : Int) - 1) = (sb.length : Int) - 1 := by rw [i64_w]; exact w64 (by have := QL.out; have := HL.out; constructor <;> omega)
      have hcf : wr.cell? ⟨g4, 0, none⟩ = some (.int .i64 yg.f0) := (blk_cell (blk_below BKg4.out HBL.out) 0).trans rfl
      by_cases q1 : rd sb (k : Int) = rd l (k : Int)
      · have d1 : (rd sb (k : Int) != rd l (k : Int)) = false := by simpa using q1
        have HQ1 := Aside0.mk q1
        clear q1
        have hnk : As.nearAt (rd l 0) sb l k = true := by simp [As.nearAt, HQ1.out]
        go_wp2
        go_quiet (fail)
        have hdn := pw_below_drewN (Below.refl wr.heap.size wr) nq
        have HD := Aside0.mk hdn
        clear hdn hx1 hx2 hcf
        generalize wr.drewN nq = w9q at *
        go_wp2
        go_roundw
        case rel => exact ⟨k + 1, by omega, by go_num, ⟨fun j hj => by rcases Nat.lt_or_eq_of_le (Nat.le_of_lt_succ hj) with h | rfl; exact HN.out j h; exact hnk⟩, ⟨below_step HBL.out HD.out⟩⟩
        case measure => simp [intOf]; omega
      · have d1 : (rd sb (k : Int) != rd l (k : Int)) = true := by simpa using q1
        have HQ1 := Aside0.mk q1
        clear q1
        by_cases q2 : rd l 0 = 15
        · have d2 : (yg.f0 != 15) = false := by rw [HF0.out]; simpa using q2
          have HQ2 := Aside0.mk q2
          clear q2
          by_cases q3 : k + 1 < sb.length
          · have d3 : decide ((k : Int) < (sb.length : Int) - 1) = true := decide_eq_true (by omega)
            have hnk : As.nearAt (rd l 0) sb l k = false := by simp [As.nearAt, HQ1.out, HQ2.out]; omega
            have hE := HE.out
            rw [if_neg (fun h => by have := h k hlt; rw [hnk] at this; cases this)] at hE
            obtain ⟨rfl, rfl⟩ := Prod.mk.inj hE
            clear hE hnk
            go_wp2
            go_quiet (fail)
            have hdn := pw_below_drewN (Below.refl wr.heap.size wr) nq
            have HD := Aside0.mk hdn
            clear hdn hx1 hx2 hcf
            generalize wr.drewN nq = w9q at *
            have n0_ := Aside0.mk (below_step HB.out (below_step HBL.out HD.out))
            have n1_ := Aside0.mk (blk_below BKg2.out (below_step HBL.out HD.out))
            have n2_ := Aside0.mk (blk_below BKg4.out (below_step HBL.out HD.out))
            have n3_ := Aside0.mk (below_step HB5.out (below_step HBL.out HD.out))
            clear HB BKg2 BKg4 HB5
            have HB := n0_
            have BKg2 := n1_
            have BKg4 := n2_
            have HB5 := n3_
            clear n0_ n1_ n2_ n3_
            go_wp2_with (first
              | ((with_reducible refine gate_store rfl ?_); refine As.store_row rfl 25 _ _ rfl g2 _ rfl rfl 25 _ BKg2.out (by kernel_rfl) rfl (by first | kernel_rfl | simp [Value.oneCell']) ?_; intro w9 hgb hgr; have n0_ := Aside0.mk (HB.out.grown hgr HB.out.size (fun k hk => by cases hk; exact GEg2.out)); have n1_ := Aside0.mk (blk_grown BKg4.out hgr (fun he => (Nat.ne_of_gt LTg2g4.out) (Option.some.inj he))); clear HB BKg4; have HB := n0_; have BKg4 := n1_; clear n0_ n1_; clear BKg2 hgr; have BKg2 := Aside0.mk hgb; clear hgb; skip))
            refine bodyPost_ret (results_ct rfl _ _ g2 25 _ (0, 0) _ rfl BKg2.out hu rfl (by kernel_rfl)) rfl ?_
            exact ⟨_, rfl, As.V_zero _, HB.out⟩
          · have d3 : decide ((k : Int) < (sb.length : Int) - 1) = false := decide_eq_false (by omega)
            have hnk : As.nearAt (rd l 0) sb l k = true := by simp [As.nearAt, HQ2.out]; omega
            go_wp2
            go_quiet (fail)
            have hdn := pw_below_drewN (Below.refl wr.heap.size wr) nq
            have HD := Aside0.mk hdn
            clear hdn hx1 hx2 hcf
            generalize wr.drewN nq = w9q at *
            go_wp2
            go_roundw
            case rel => exact ⟨k + 1, by omega, by go_num, ⟨fun j hj => by rcases Nat.lt_or_eq_of_le (Nat.le_of_lt_succ hj) with h | rfl; exact HN.out j h; exact hnk⟩, ⟨below_step HBL.out HD.out⟩⟩
            case measure => simp [intOf]; omega
        · have d2 : (yg.f0 != 15) = true := by rw [HF0.out]; simpa using q2
          have HQ2 := Aside0.mk q2
          clear q2
          have hnk : As.nearAt (rd l 0) sb l k = false := by simp [As.nearAt, HQ1.out, HQ2.out]
          have hE := HE.out
          rw [if_neg (fun h => by have := h k hlt; rw [hnk] at this; cases this)] at hE
          obtain ⟨rfl, rfl⟩ := Prod.mk.inj hE
          clear hE hnk
          go_wp2
          go_quiet (fail)
          have hdn := pw_below_drewN (Below.refl wr.heap.size wr) nq
          have HD := Aside0.mk hdn
          clear hdn hx1 hx2 hcf
          generalize wr.drewN nq = w9q at *
          have n0_ := Aside0.mk (below_step HB.out (below_step HBL.out HD.out))
          have n1_ := Aside0.mk (blk_below BKg2.out (below_step HBL.out HD.out))
          have n2_ := Aside0.mk (blk_below BKg4.out (below_step HBL.out HD.out))
          have n3_ := Aside0.mk (below_step HB5.out (below_step HBL.out HD.out))
          clear HB BKg2 BKg4 HB5
          have HB := n0_
          have BKg2 := n1_
          have BKg4 := n2_
          have HB5 := n3_
          clear n0_ n1_ n2_ n3_
          go_wp2_with (first
            | ((with_reducible refine gate_store rfl ?_); refine As.store_row rfl 25 _ _ rfl g2 _ rfl rfl 25 _ BKg2.out (by kernel_rfl) rfl (by first | kernel_rfl | simp [Value.oneCell']) ?_; intro w9 hgb hgr; have n0_ := Aside0.mk (HB.out.grown hgr HB.out.size (fun k hk => by cases hk; exact GEg2.out)); have n1_ := Aside0.mk (blk_grown BKg4.out hgr (fun he => (Nat.ne_of_gt LTg2g4.out) (Option.some.inj he))); clear HB BKg4; have HB := n0_; have BKg4 := n1_; clear n0_ n1_; clear BKg2 hgr; have BKg2 := Aside0.mk hgb; clear hgb; skip))
          refine bodyPost_ret (results_ct rfl _ _ g2 25 _ (0, 0) _ rfl BKg2.out hu rfl (by kernel_rfl)) rfl ?_
          exact ⟨_, rfl, As.V_zero _, HB.out⟩

theorem As.parse_fit {l : List Int} (h8 : ∀ x ∈ l, U8 x) (hl : l.length ≤ 1000000) : As.Fit (As.parse l).1 ∧ ∀ n ∈ (As.parse l).1.f9, 0 ≤ n ∧ n ≤ 65535 := by
  rw [As.parse_eq h8]
  have hz : As.Fit z25 ∧ ∀ n ∈ (z25).f9, 0 ≤ n ∧ n ≤ 65535 := ⟨⟨Nat.zero_le _, Nat.zero_le _⟩, by intro n hn; cases hn⟩
  have hg := As.gs_fit h8 hl
  unfold As.rparse
  split
  · exact hz
  · split
    · exact hz
    · split
      · exact hg
      · exact hz
set_option maxHeartbeats 16000000 in
set_option maxRecDepth 100000 in
theorem As.lawParses {A : Option Addr} {c : Nat} {l : List Int} {w : World} (hr : (Kd.int .u8).C w A l.length l) (hc : l.length ≤ c) (h8 : ∀ x ∈ l, U8 x) : Calls Try.prog 4 #[.slice A l.length c] w fun e w' => e = .returned (.bool true) ∧ Below w.heap.size w w' := by
  have HR := Aside0.mk hr
  have HC := Aside0.mk hc
  have H8 := Aside0.mk h8
  have hu := Try.underlying25
  have hz := As.zero
  have HB := Aside0.mk (Below.refl w.heap.size w)
  clear hr h8
  by_cases q : 600 < l.length
  · have q1 : decide ((600 : Int) < (l.length : Int)) = true := decide_eq_true (by omega)
    have q2 : decide (600 < l.length) = true := decide_eq_true q
    go_enter Try.func4, Try.ntmps4
    go_wp2_with (first
      | (go_at_call 11; (with_reducible refine (As.sure).mono ?_); rintro r w9 ⟨rfl, hb⟩; have n0_ := Aside0.mk (below_step HB.out hb); clear HB; have HB := n0_; clear n0_; skip; clear hb))
    go_ret
    exact ⟨rfl, HB.out⟩
  · have q1 : decide ((600 : Int) < (l.length : Int)) = false := decide_eq_false (by omega)
    have q2 : decide (600 < l.length) = false := decide_eq_false q
    have HL := Aside0.mk (show l.length ≤ 1000000 by omega)
    obtain ⟨y, E, he⟩ : ∃ y E, As.parse l = (y, E) := ⟨_, _, rfl⟩
    have hf := (As.parse_fit H8.out HL.out).1
    have he2 := As.parse_eq H8.out
    rw [he] at hf he2
    have HE := Aside0.mk he
    have HE2 := Aside0.mk he2.symm
    have HF := Aside0.mk (show As.Fit y from hf)
    clear he he2 hf q
    go_enter Try.func4, Try.ntmps4
    go_wp2_with (first
      | (go_at_call 21; (with_reducible refine (As.parses (Kd.C_below HR.out HB.out) HC.out H8.out HL.out HE.out).mono ?_); rintro r w1 ⟨cs1, rfl, hV, hb⟩; have n0_ := Aside0.mk (below_step HB.out hb); clear HB; have HB := n0_; clear n0_; have HV1 := Aside0.mk hV; clear hV hb)
      | ((with_reducible refine gate_dst (N := 3) rfl ?_); refine box_event ?hg (N := 3) ?hd (cs := As.Z) (t := 25) ?hr ?_; (case hd => rfl); (case hg => rfl); (case hr => first | (go_simp; done) | (go_simp; rfl)); intro g1 hg w2 hbox hb; have GX := Aside0.mk (Nat.le_of_eq hg.symm); have HX := Aside0.mk hb; have BKg1 := Aside0.mk hbox; clear hg hbox hb)
      | ((with_reducible refine gate_store rfl ?_); refine As.store_row rfl 25 _ _ rfl g1 cs1 rfl rfl 25 _ BKg1.out (by rw [As.V_size HV1.out]; exact As.size) (by rw [As.V_size HV1.out]; rfl) (As.V_one HV1.out) ?_; intro w3 hgb hgr; have hb := HX.out.grown hgr HX.out.size (fun k hk => by cases hk; exact GX.out); have n0_ := Aside0.mk (below_step HB.out hb); have n1_ := Aside0.mk (As.V_below HV1.out hb); clear HB HV1; have HB := n0_; have HV1 := n1_; clear n0_ n1_; clear BKg1 GX HX hb hgr; have BKg1 := Aside0.mk hgb; clear hgb; skip)
      | (go_at_call 22; (with_reducible refine (As.rparses (Kd.C_below HR.out HB.out) HC.out H8.out HL.out HE2.out).mono ?_); rintro r w4 ⟨cs2, rfl, hV, hb⟩; have n0_ := Aside0.mk (below_step HB.out hb); have n1_ := Aside0.mk (As.V_below HV1.out hb); have n2_ := Aside0.mk (blk_below BKg1.out hb); clear HB HV1 BKg1; have HB := n0_; have HV1 := n1_; have BKg1 := n2_; clear n0_ n1_ n2_; have HV2 := Aside0.mk hV; clear hV hb)
      | ((with_reducible refine gate_dst (N := 5) rfl ?_); refine box_event ?hg (N := 5) ?hd (cs := As.Z) (t := 25) ?hr ?_; (case hd => rfl); (case hg => rfl); (case hr => first | (go_simp; done) | (go_simp; rfl)); intro g2 hg w5 hbox hb; have GX := Aside0.mk (Nat.le_of_eq hg.symm); have HX := Aside0.mk hb; have BKg2 := Aside0.mk hbox; clear hg hbox hb)
      | ((with_reducible refine gate_store rfl ?_); refine As.store_row rfl 25 _ _ rfl g2 cs2 rfl rfl 25 _ BKg2.out (by rw [As.V_size HV2.out]; exact As.size) (by rw [As.V_size HV2.out]; rfl) (As.V_one HV2.out) ?_; intro w6 hgb hgr; have hb := HX.out.grown hgr HX.out.size (fun k hk => by cases hk; exact GX.out); have n0_ := Aside0.mk (below_step HB.out hb); have n1_ := Aside0.mk (As.V_below HV1.out hb); have n2_ := Aside0.mk (blk_below BKg1.out hb); have n3_ := Aside0.mk (As.V_below HV2.out hb); clear HB HV1 BKg1 HV2; have HB := n0_; have HV1 := n1_; have BKg1 := n2_; have HV2 := n3_; clear n0_ n1_ n2_ n3_; clear BKg2 GX HX hb hgr; have BKg2 := Aside0.mk hgb; clear hgb; skip)
      | ((with_reducible refine gate_dst (N := 21) rfl ?_); refine wpList_load_row rfl 25 _ rfl g1 rfl 25 _ (0, 0) _ BKg1.out hu rfl (by rw [As.V_size HV1.out]; exact As.size) ?_)
      | ((with_reducible refine gate_dst (N := 22) rfl ?_); refine wpList_load_row rfl 25 _ rfl g2 rfl 25 _ (0, 0) _ BKg2.out hu rfl (by rw [As.V_size HV2.out]; exact As.size) ?_)
      | (go_at_call 20; (with_reducible refine (As.rsame HV1.out HV2.out HF.out (As.eqb_self _)).mono ?_); rintro r w7 ⟨rfl, hb⟩; clear HV1 HV2 BKg1 BKg2; have n0_ := Aside0.mk (below_step HB.out hb); clear HB; have HB := n0_; clear n0_; clear hb)
      | (go_at_call 11; (with_reducible refine (As.sure).mono ?_); rintro r w9 ⟨rfl, hb⟩; have n0_ := Aside0.mk (below_step HB.out hb); clear HB; have HB := n0_; clear n0_; skip; clear hb))
    go_ret
    exact ⟨rfl, HB.out⟩

set_option maxHeartbeats 1000000 in
theorem bilgelaw15_AskParses.calls (A0 : Option Addr) (c0 : Nat) (l0 : List Int) (r : Bool) (w : World) (hr0 : Kd.C (Kd.int .u8) w A0 l0.length l0) (hc0 : l0.length ≤ c0) (h : bilgelaw15_AskParses.f l0 = some r) :
    Calls Try.prog 4 #[.slice A0 l0.length c0] w fun e w' => e = .returned (.bool r) ∧ Below w.heap.size w w' := by
  unfold bilgelaw15_AskParses.f at h
  split at h
  rotate_left
  · cases h
  rename_i hq
  obtain rfl := Option.some.inj h
  exact As.lawParses hr0 hc0 (fun x hx => by have := hq x hx; unfold U8; omega)

end Go.Proofs.Ytedfbemifigoeaa.P
