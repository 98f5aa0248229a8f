import Derived.Test.YtamcpmfimicnjaaX
import Derived.Test.YtamcpmfimicnjaaDo1
import Derived.Test.YtamcpmfimicnjaaFq
import Derived.Test.YtamcpmfimicnjaaFr1
import Derived.Test.YtamcpmfimicnjaaLFile
namespace Go.Proofs.Ytamcpmfimicnjaa.P
open Go.RowKit Go.Proofs.YtamcpmfimicnjaaW.PrintWords Go.Proofs.YtamcpmfimicnjaaW.PrintLast Go.Proofs.YtamcpmfimicnjaaW.PrintMore
attribute [local go_sem] max2_int min2_int max_two min_two max_three min_three max_four min_four   -- for this text's walks alone
set_option linter.unusedVariables false
set_option linter.unusedSimpArgs false
open Go.Proofs.Ytamcpmfimicnjaa.L

theorem Fi.rbitsE {w : World} {cs : Array Value} {x : S31} (h : Fi.V w cs x) (i : Bool) {p n : Int} (hp : I64 p) (hn : I64 n) {L : List Bool} {E : Int} (he : Fi.bits x i p n = (L, E)) : Calls Try.prog 25 #[.agg cs, .bool i, .int .i64 p, .int .i64 n] w fun e w' => ∃ v, e = .returned (.tuple #[v, .int .i64 E]) ∧ Kd.bool.R 4 w' w.heap.size (fun _ => True) v L ∧ Below w.heap.size w w' := by
  have hh := Fi.rbits h i hp hn
  rw [he] at hh
  exact hh
theorem Fi.rwordsE {w : World} {cs : Array Value} {x : S31} (h : Fi.V w cs x) (i : Bool) {p n : Int} (hp : I64 p) (hn : I64 n) {L : List Int} {E : Int} (he : Fi.words x i p n = (L, E)) : Calls Try.prog 26 #[.agg cs, .bool i, .int .i64 p, .int .i64 n] w fun e w' => ∃ v, e = .returned (.tuple #[v, .int .i64 E]) ∧ (Kd.int .u16).R 53 w' w.heap.size (fun _ => True) v L ∧ Below w.heap.size w w' := by
  have hh := Fi.rwords h i hp hn
  rw [he] at hh
  exact hh
theorem Fi.read_len {α : Type} {a b p n : Int} {l : List α} : (readS a b l p n).1.length ≤ l.length := by
  unfold readS
  split
  · split
    · simp only [List.length_take, List.length_drop]; omega
    · simp
  · simp
theorem Fi.bits_len {x : S31} {i : Bool} {p n : Int} {L : List Bool} {E : Int} (hP : Fi.P x) (h : Fi.bits x i p n = (L, E)) : L.length ≤ 1000000 := by
  have h1 := Fi.P_fit hP
  unfold Fi.bits at h
  rw [if_pos hP] at h
  split at h
  · have h2 := Fi.read_len (a := x.f0.f1.f0) (b := x.f0.f1.f1) (p := p) (n := n) (l := x.f2); rw [h] at h2; simp only at h2; omega
  · have h2 := Fi.read_len (a := x.f0.f0.f0) (b := x.f0.f0.f1) (p := p) (n := n) (l := x.f1); rw [h] at h2; simp only at h2; omega
theorem Fi.words_len {x : S31} {i : Bool} {p n : Int} {L : List Int} {E : Int} (hP : Fi.P x) (h : Fi.words x i p n = (L, E)) : L.length ≤ 1000000 := by
  have h1 := Fi.P_fit hP
  unfold Fi.words at h
  rw [if_pos hP] at h
  split at h
  · have h2 := Fi.read_len (a := x.f0.f3.f0) (b := x.f0.f3.f1) (p := p) (n := n) (l := x.f4); rw [h] at h2; simp only at h2; omega
  · split at h
    · injection h with h3 h4; rw [← h3]; simp
    · have h2 := Fi.read_len (a := x.f0.f2.f0) (b := x.f0.f2.f1) (p := p) (n := n) (l := x.f3); rw [h] at h2; simp only at h2; omega
theorem Fi.box_ev {ops : Array Oper} {oi : Oper} {a : Act} {w : World} {K : Act → World → Prop} {Q : Exit → Act → World → Prop} {N : Tmp} (hw : Region.wanted oi (yielded ops a.tmps) = true) (hd : oi.dst = some N) {cs : Array Value} {t : TypeId}
    (hrun : (execOp a.eval oi).run Try.prog w = .ok (.value (.pointer (some ⟨w.heap.size, 0, none⟩))) (w.alloc (.cells cs t (0, 0))))
    (h : ∀ g, g = w.heap.size → ∀ w1, w1.heap[g]? = some (.cells cs t (0, 0)) → Below w.heap.size w w1 → K (a.put (some N) (.pointer (some ⟨g, 0, none⟩))) w1) : if Region.wanted oi (yielded ops a.tmps) = true then Oper.wp Try.prog oi a w K Q else K (a.put (some N) undef) w :=
  value_ hw hd hrun (h _ rfl _ (blk_new w _) (below_alloc (Below.refl _ _) _))
set_option maxHeartbeats 8000000 in
set_option maxRecDepth 100000 in
theorem Fi.does {a0 a1 a2 a3 a4 a5 a6 a7 a8 a9 : Int} {A1 : Option Addr} {c1 : Nat} {l1 : List S37} {w : World} (hr1 : Kd.C k37 w A1 l1.length l1) (hc1 : l1.length ≤ c1) (ho : ∀ o ∈ l1, I64 o.f0 ∧ I64 o.f1 ∧ I64 o.f2 ∧ I64 o.f3 ∧ o.f4.length ≤ 140737488351232 ∧ o.f5.length ≤ 70368744175616) (d0 : decide ((60 : Int) < (l1.length : Int)) = false) (hd : decide (BankP a0 a1 a2 a3 a4 a5 a6 a7 a8 a9) = true) (d1 : decide ((Fi.new a0 a1 a2 a3 a4 a5 a6 a7 a8 a9).f1.length + (Fi.new a0 a1 a2 a3 a4 a5 a6 a7 a8 a9).f2.length + (Fi.new a0 a1 a2 a3 a4 a5 a6 a7 a8 a9).f3.length + (Fi.new a0 a1 a2 a3 a4 a5 a6 a7 a8 a9).f4.length ≤ 4000) = true) : Calls Try.prog 6 #[.agg #[.int .i64 a0, .int .i64 a1, .int .i64 a2, .int .i64 a3, .int .i64 a4, .int .i64 a5, .int .i64 a6, .int .i64 a7, .int .i64 a8, .int .i64 a9], .slice A1 l1.length c1] w fun e w' => e = .returned (.bool true) ∧ Below w.heap.size w w' := by
  have hu := Try.underlying31
  have hu25 := Try.underlying25
  have hz := Fi.zero
  have HB := Aside0.mk (Below.refl w.heap.size w)
  have HPX := Aside0.mk (Fi.new_P (of_decide_eq_true hd))
  have HPB := Aside0.mk (of_decide_eq_true hd)
  have HNE := Aside0.mk (show (if BankP a0 a1 a2 a3 a4 a5 a6 a7 a8 a9 then (0 : Int) else 11) = 0 from if_pos (of_decide_eq_true hd))
  obtain ⟨xn, hxn⟩ : ∃ x, Fi.new a0 a1 a2 a3 a4 a5 a6 a7 a8 a9 = x := ⟨_, rfl⟩
  rw [hxn] at d1 HPX
  have HXN := Aside0.mk hxn
  have HLN := Aside0.mk (show xn.f1.length ≤ 140737488351232 ∧ xn.f2.length ≤ 140737488351232 ∧ xn.f3.length ≤ 140737488351232 ∧ xn.f4.length ≤ 140737488351232 from by have h9 := Fi.P_Fit HPX.out; unfold Fi.Fit at h9; omega)
  clear hxn
  have HR1 := Aside0.mk hr1
  have HC1 := Aside0.mk hc1
  have HO1 := Aside0.mk ho
  clear hr1 hc1 ho
  go_enter Try.func6, Try.ntmps6
  go_wp2_with (first
    | ((with_reducible refine gate_dst (N := 2) rfl ?_); refine box_event ?hg (N := 2) ?hd (cs := #[.int .i64 a0, .int .i64 a1, .int .i64 a2, .int .i64 a3, .int .i64 a4, .int .i64 a5, .int .i64 a6, .int .i64 a7, .int .i64 a8, .int .i64 a9]) (t := 25) ?hr ?_; (case hd => rfl); (case hg => rfl); (case hr => first | (go_simp; done) | (go_simp; rfl)); intro gb hg w1 hbox hb; have GEgb := Aside0.mk ((by rw [hg]; exact HB.out.size) : w.heap.size ≤ gb); have BKgb := Aside0.mk hbox; clear hbox hg; have n0_ := Aside0.mk (below_step HB.out hb); clear HB; have HB := n0_; clear n0_; skip; clear hb)
    | ((with_reducible refine gate_dst (N := 25) rfl ?_); refine wpList_load_row rfl 25 _ rfl gb rfl 25 _ (0, 0) _ BKgb.out hu25 rfl (by kernel_rfl) ?_)
    | ((with_reducible refine gate_dst (N := 29) rfl ?_); refine wpList_load_row rfl 25 _ rfl gb rfl 25 _ (0, 0) _ BKgb.out hu25 rfl (by kernel_rfl) ?_)
    | ((with_reducible refine gate_dst (N := 42) rfl ?_); refine wpList_load_row rfl 25 _ rfl gb rfl 25 _ (0, 0) _ BKgb.out hu25 rfl (by kernel_rfl) ?_)
    | (go_at_call 8; (with_reducible refine (Fi.cnewE HXN.out HNE.out).mono ?_); rintro r w2 ⟨csf, rfl, hN, hb⟩; have HNf := Aside0.mk (Fi.N_lower hN HB.out.size); clear hN; have n0_ := Aside0.mk (below_step HB.out hb); have n1_ := Aside0.mk (blk_below BKgb.out hb); clear HB BKgb; have HB := n0_; have BKgb := n1_; clear n0_ n1_; clear hb)
    | ((with_reducible refine gate_dst (N := 5) rfl ?_); refine box_event ?hg (N := 5) ?hd (cs := Fi.Z) (t := 31) ?hr ?_; (case hd => rfl); (case hg => rfl); (case hr => first | (go_simp; done) | (go_simp; rfl)); intro g5 hg w3 hbox hb; have GX := Aside0.mk (Nat.le_of_eq hg.symm); have HX := Aside0.mk hb; have BKg5 := Aside0.mk hbox; clear hg hbox hb)
    | ((with_reducible refine gate_store rfl ?_); refine Fi.store_row rfl 31 _ _ rfl g5 csf rfl rfl 31 _ BKg5.out (by rw [Fi.V_size HNf.out.V]; exact Fi.size) (by rw [Fi.V_size HNf.out.V]; rfl) (Fi.V_one HNf.out.V) ?_; intro w4 hgb hgr; have hb := HX.out.grown hgr HX.out.size (fun k hk => by cases hk; exact GX.out); have n0_ := Aside0.mk (below_step HB.out hb); have n1_ := Aside0.mk (blk_below BKgb.out hb); have n2_ := Aside0.mk (Fi.N_below HNf.out hb); clear HB BKgb HNf; have HB := n0_; have BKgb := n1_; have HNf := n2_; clear n0_ n1_ n2_; clear BKg5 GX HX hb hgr; have BKg5 := Aside0.mk hgb; clear hgb)
    | (go_at_call 22; (with_reducible refine (Fi.rbank hd).mono ?_); rintro r wb ⟨rfl, hb⟩; have n0_ := Aside0.mk (below_step HB.out hb); have n1_ := Aside0.mk (blk_below BKgb.out hb); have n2_ := Aside0.mk (Fi.N_below HNf.out hb); have n3_ := Aside0.mk (blk_below BKg5.out hb); clear HB BKgb HNf BKg5; have HB := n0_; have BKgb := n1_; have HNf := n2_; have BKg5 := n3_; clear n0_ n1_ n2_ n3_; skip; clear hb)
    | (go_at_call 23; (with_reducible refine (Fi.rnewE HPB.out HXN.out).mono ?_); rintro r wn ⟨csr, rfl, hN, hb⟩; have HNr := Aside0.mk (Fi.N_lower hN HB.out.size); clear hN; have n0_ := Aside0.mk (below_step HB.out hb); have n1_ := Aside0.mk (blk_below BKgb.out hb); have n2_ := Aside0.mk (Fi.N_below HNf.out hb); have n3_ := Aside0.mk (blk_below BKg5.out hb); clear HB BKgb HNf BKg5; have HB := n0_; have BKgb := n1_; have HNf := n2_; have BKg5 := n3_; clear n0_ n1_ n2_ n3_; clear hb)
    | ((with_reducible refine gate_dst (N := 7) rfl ?_); refine box_event ?hg (N := 7) ?hd (cs := Fi.Z) (t := 31) ?hr ?_; (case hd => rfl); (case hg => rfl); (case hr => first | (go_simp; done) | (go_simp; rfl)); intro g7 hg w7 hbox hb; have GX := Aside0.mk (Nat.le_of_eq hg.symm); have HX := Aside0.mk hb; have BKg7 := Aside0.mk hbox; clear hg hbox hb)
    | ((with_reducible refine gate_store rfl ?_); refine Fi.store_row rfl 31 _ _ rfl g7 csr rfl rfl 31 _ BKg7.out (by rw [Fi.V_size HNr.out.V]; exact Fi.size) (by rw [Fi.V_size HNr.out.V]; rfl) (Fi.V_one HNr.out.V) ?_; intro w8 hgb hgr; have GEg7 := Aside0.mk (Nat.le_trans HB.out.size GX.out); have hb := HX.out.grown hgr HX.out.size (fun k hk => by cases hk; exact GX.out); have n0_ := Aside0.mk (below_step HB.out hb); have n1_ := Aside0.mk (blk_below BKgb.out hb); have n2_ := Aside0.mk (Fi.N_below HNf.out hb); have n3_ := Aside0.mk (blk_below BKg5.out hb); have n4_ := Aside0.mk (Fi.N_below HNr.out hb); clear HB BKgb HNf BKg5 HNr; have HB := n0_; have BKgb := n1_; have HNf := n2_; have BKg5 := n3_; have HNr := n4_; clear n0_ n1_ n2_ n3_ n4_; clear BKg7 GX HX hb hgr; have BKg7 := Aside0.mk hgb; clear hgb)
    | ((with_reducible refine gate_dst (N := 44) rfl ?_); refine wpList_load_row rfl 31 _ rfl g7 rfl 31 _ (0, 0) _ BKg7.out hu rfl (by rw [Fi.V_size HNr.out.V]; exact Fi.size) ?_)
    | (go_at_call 9; (with_reducible refine (Fi.few HNr.out.V HLN.out d1).mono ?_); rintro r wf ⟨rfl, hb⟩; have n0_ := Aside0.mk (below_step HB.out hb); have n1_ := Aside0.mk (blk_below BKgb.out hb); have n2_ := Aside0.mk (Fi.N_below HNf.out hb); have n3_ := Aside0.mk (blk_below BKg5.out hb); have n4_ := Aside0.mk (Fi.N_below HNr.out hb); have n5_ := Aside0.mk (blk_below BKg7.out hb); clear HB BKgb HNf BKg5 HNr BKg7; have HB := n0_; have BKgb := n1_; have HNf := n2_; have BKg5 := n3_; have HNr := n4_; have BKg7 := n5_; clear n0_ n1_ n2_ n3_ n4_ n5_; skip; clear hb)
    | ((with_reducible refine gate_dst (N := 51) rfl ?_); refine gate_guard (by rfl) ?_; dsimp only; refine wpList_load_row rfl 31 _ rfl g5 rfl 31 _ (0, 0) _ BKg5.out hu rfl (by rw [Fi.V_size HNf.out.V]; exact Fi.size) ?_)
    | ((with_reducible refine gate_dst (N := 52) rfl ?_); refine gate_guard (by rfl) ?_; dsimp only; refine wpList_load_row rfl 31 _ rfl g7 rfl 31 _ (0, 0) _ BKg7.out hu rfl (by rw [Fi.V_size HNr.out.V]; exact Fi.size) ?_)
    | (go_at_call 15; (with_reducible refine (Fi.rsame HNf.out.V HNr.out.V (Fi.P_Fit HPX.out) (Fi.eqb_self _)).mono ?_); rintro r wg ⟨rfl, hb⟩; have n0_ := Aside0.mk (below_step HB.out hb); have n1_ := Aside0.mk (blk_below BKgb.out hb); have n2_ := Aside0.mk (Fi.N_below HNf.out hb); have n3_ := Aside0.mk (blk_below BKg5.out hb); have n4_ := Aside0.mk (Fi.N_below HNr.out hb); have n5_ := Aside0.mk (blk_below BKg7.out hb); clear HB BKgb HNf BKg5 HNr BKg7; have HB := n0_; have BKgb := n1_; have HNf := n2_; have BKg5 := n3_; have HNr := n4_; have BKg7 := n5_; clear n0_ n1_ n2_ n3_ n4_ n5_; skip; clear hb))
  have HP := HPX
  clear HPX HXN HLN HPB HNE d1 d0 hd BKg5 HNf BKgb
  go_loopw [8, 9, 10, 11, 12, 13, 14, 15, 16, 17, 18, 19, 56, 57, 58, 59, 60, 61, 62, 63, 64, 65, 66, 67, 68, 69, 70, 71, 72, 73, 74, 75, 76, 77, 78, 79, 80, 81, 82, 83, 84, 85, 86, 87, 88, 89, 90, 91, 92, 93, 94, 95, 96, 97, 98, 99, 100, 101, 102, 103, 104, 105, 106, 107, 108, 109, 110, 111, 112, 113, 114, 115, 116, 117, 118, 119, 120, 121, 122, 123, 124, 125, 126, 127, 128, 129, 130, 131, 132, 133, 134, 135, 136, 137, 138, 139, 140, 141, 142, 143, 144, 145, 146, 147, 148, 149, 150, 151, 152, 153, 154, 155, 156, 157, 158, 159, 160, 161, 162, 163, 164, 165, 166, 167, 168, 169, 170, 171, 172, 173, 174, 175, 176, 177, 178, 179, 180, 181, 182, 183, 184, 185] (fun u8 u9 u10 u11 u12 u13 u14 u15 u16 u17 u18 u19 u56 u57 u58 u59 u60 u61 u62 u63 u64 u65 u66 u67 u68 u69 u70 u71 u72 u73 u74 u75 u76 u77 u78 u79 u80 u81 u82 u83 u84 u85 u86 u87 u88 u89 u90 u91 u92 u93 u94 u95 u96 u97 u98 u99 u100 u101 u102 u103 u104 u105 u106 u107 u108 u109 u110 u111 u112 u113 u114 u115 u116 u117 u118 u119 u120 u121 u122 u123 u124 u125 u126 u127 u128 u129 u130 u131 u132 u133 u134 u135 u136 u137 u138 u139 u140 u141 u142 u143 u144 u145 u146 u147 u148 u149 u150 u151 u152 u153 u154 u155 u156 u157 u158 u159 u160 u161 u162 u163 u164 u165 u166 u167 u168 u169 u170 u171 u172 u173 u174 u175 u176 u177 u178 u179 u180 u181 u182 u183 u184 u185 wr => ∃ (j : Int) (csr : Array Value) (xr : S31), (0 ≤ j ∧ j ≤ (l1.length : Int)) ∧ u8 = .int .i64 j ∧ Aside0 (wr.heap[g7]? = some (.cells csr 31 (0, 0))) ∧ Aside0 (Fi.N wr w.heap.size csr xr) ∧ Aside0 (Fi.P xr) ∧ Aside0 (Below w.heap.size w wr)) (fun u8 _ _ _ _ _ _ _ _ _ _ _ _ _ _ _ _ _ _ _ _ _ _ _ _ _ _ _ _ _ _ _ _ _ _ _ _ _ _ _ _ _ _ _ _ _ _ _ _ _ _ _ _ _ _ _ _ _ _ _ _ _ _ _ _ _ _ _ _ _ _ _ _ _ _ _ _ _ _ _ _ _ _ _ _ _ _ _ _ _ _ _ _ _ _ _ _ _ _ _ _ _ _ _ _ _ _ _ _ _ _ _ _ _ _ _ _ _ _ _ _ _ _ _ _ _ _ _ _ _ _ _ _ _ _ _ _ _ _ _ _ _ _ => l1.length + 1 - (intOf u8).toNat)
  case atStart => exact ⟨0, csr, xn, ⟨by omega, by omega⟩, rfl, BKg7, HNr, HP, HB⟩
  case round =>
    clear BKg7 HNr HP HB
    obtain ⟨j, csr, xr, ⟨hj0, hj2⟩, rfl, BKg7, HNr, HP, HB⟩ := hrel
    by_cases hj : j < (l1.length : Int)
    rotate_left
    · have dj : decide (j < (l1.length : Int)) = false := decide_eq_false hj
      go_wp2_with (first | (go_at_call 7; (with_reducible refine (Fi.sure).mono ?_); rintro r w9 ⟨rfl, hb⟩; have n0_ := Aside0.mk (below_step HB.out hb); clear HB; have HB := n0_; clear n0_; skip; clear hb))
      go_ret
      exact ⟨rfl, HB.out⟩
    have dj : decide (j < (l1.length : Int)) = true := decide_eq_true hj
    obtain ⟨ad, A4, c4, A5, c5, rfl, e0, e1, e2, e3, e4, e5, l4, g4, l5, g5x⟩ := at_T37 HR1.out j hj0 hj
    have hmem : rd_T37 l1 j ∈ l1 := by
      unfold rd_T37
      rw [List.getD_eq_getElem?_getD, List.getElem?_eq_getElem (by omega), Option.getD_some]
      exact List.getElem_mem _
    obtain ⟨_, i1, i2, i3, i4, i5⟩ := HO1.out _ hmem
    clear hmem
    generalize rd_T37 l1 j = o at *
    have HI4 := Aside0.mk i4
    have HI5 := Aside0.mk i5
    have HI1 := Aside0.mk i1
    have HI2 := Aside0.mk i2
    have HI3 := Aside0.mk i3
    have E1 := Aside0.mk e1
    have E2 := Aside0.mk e2
    have G4 := Aside0.mk (Kd.C_below g4 HB.out)
    have G5 := Aside0.mk (Kd.C_below g5x HB.out)
    have K4 := Aside0.mk l4
    have K5 := Aside0.mk l5
    replace e0 := pw_cell_below HB.out e0
    replace e1 := pw_cell_below HB.out e1
    replace e2 := pw_cell_below HB.out e2
    replace e3 := pw_cell_below HB.out e3
    replace e4 := pw_cell_below HB.out e4
    replace e5 := pw_cell_below HB.out e5
    have hw : IntKind.i64.wrap ((o.f4.length : Int) + (o.f5.length : Int)) = (o.f4.length : Int) + (o.f5.length : Int) := by rw [i64_w]; exact w64 (by omega)
    have hj1 : IntKind.i64.wrap (j + 1) = j + 1 := by rw [i64_w]; exact w64 (by have := HC1.out; have := HR1.out.2.1; omega)
    by_cases q3 : (300 : Int) < (o.f4.length : Int) + (o.f5.length : Int)
    · have d3 : decide ((300 : Int) < (o.f4.length : Int) + (o.f5.length : Int)) = true := decide_eq_true q3
      clear q3 i1 i2 i3 i4 i5 l4 l5 g4 g5x E1 E2 G4 G5 K4 K5 HI1 HI2 HI3
      go_wp2
      go_quiet (fail)
      go_wp2_with (first | (go_at_call 7; (with_reducible refine Fi.sure.mono ?_); rintro r w9 ⟨rfl, hb⟩; have HB2 := Aside0.mk (below_step (pw_below_drewN HB.out _) hb)))
      go_ret
      exact ⟨rfl, HB2.out⟩
    have d3 : decide ((300 : Int) < (o.f4.length : Int) + (o.f5.length : Int)) = false := decide_eq_false q3
    clear q3 i1 i2 i3 i4 i5 l4 l5 g4 g5x
    go_wp2
    go_quiet (fail)
    go_wp2
    refine start_ (n := 12) (S := fun w' => Below wr.heap.size wr w') (ds := []) (bt 12 0) (by kernel_rfl) rfl (by kernel_rfl) (below_drew1 (pw_below_drewN (Below.refl _ _) _)) (fun hHeld => ?_)
    refine take_ (i := 0) (N := some 78) (v := ?_) (a' := ?_) (bt 12 1) rfl rfl (by kernel_rfl) (fun _ _ _ h => h) (Or.inl ⟨by rfl, ?_⟩) hHeld ?_ ?_
    rotate_left
    · intro w' hS
      refine (?_ : Sem.run Try.prog (execOp _ _) w' = Result.ok (Next.value (Value.agg csr)) w')
      exact Fi.run_load (by rfl) (by rfl) (Fi.load31 (blk_below BKg7.out hS) (Fi.V_size HNr.out.V))
    rotate_left
    · simp only [Act.put, List.setIfInBounds_toArray, List.set_cons_zero, List.set_cons_succ]
      rfl
    refine pure_ (i := 1) (N := some 79) (v := ?_) (a' := ?_) (bt 12 3) rfl rfl (by kernel_rfl) (fun _ _ _ h => h) (Or.inl ⟨by rfl, ?_⟩) ?_ ?_
    rotate_left
    · intro w'
      go_simp
      first | with_reducible rfl | (simp [Instr.field, go_sem]; rfl)
    rotate_left
    · simp only [Act.put, List.setIfInBounds_toArray, List.set_cons_zero, List.set_cons_succ]
      rfl
    refine pure_ (i := 2) (N := some 80) (v := ?_) (a' := ?_) (bt 12 7) rfl rfl (by kernel_rfl) (fun _ _ _ h => h) (Or.inl ⟨by rfl, ?_⟩) ?_ ?_
    rotate_left
    · intro w'
      go_simp
      first | with_reducible rfl | (simp [Instr.field, go_sem]; rfl)
    rotate_left
    · simp only [Act.put, List.setIfInBounds_toArray, List.set_cons_zero, List.set_cons_succ]
      rfl
    refine pure_ (i := 3) (N := some 81) (v := ?_) (a' := ?_) (bt 12 15) rfl rfl (by kernel_rfl) (fun _ _ _ h => h) (Or.inl ⟨by rfl, ?_⟩) ?_ ?_
    rotate_left
    · intro w'
      go_simp
      first | with_reducible rfl | (simp [Instr.field, go_sem]; rfl)
    rotate_left
    · simp only [Act.put, List.setIfInBounds_toArray, List.set_cons_zero, List.set_cons_succ]
      rfl
    refine take_ (i := 4) (N := some 82) (v := ?_) (a' := ?_) (bt 12 31) rfl rfl (by kernel_rfl) (fun _ _ _ h => h) (Or.inl ⟨by rfl, ?_⟩) hHeld ?_ ?_
    rotate_left
    · intro w' hS
      have f0 := pw_cell_below hS e0
      have f1 := pw_cell_below hS e1
      have f2 := pw_cell_below hS e2
      have f3 := pw_cell_below hS e3
      have f4 := pw_cell_below hS e4
      have f5 := pw_cell_below hS e5
      go_simp
      first | with_reducible rfl | (simp [Instr.field, go_sem]; rfl)
    rotate_left
    · simp only [Act.put, List.setIfInBounds_toArray, List.set_cons_zero, List.set_cons_succ]
      rfl
    clear e0 e1 e2 e3 e4 e5
    have HX := Fi.opS_P (k := o.f0) (p := o.f1) (v := o.f3) (m := o.f4) (l := o.f5) HP.out
    have hb9 := blk_lt BKg7.out
    refine join_ (σ := Array Value × Nat) 2 (bt 12 1023) (fun s_ => [(83, .tuple #[.agg s_.1, .bool true]), (77, .tuple #[.agg s_.1, .bool true]), (84, .agg s_.1), (85, .bool true), (9, .pointer (some ⟨s_.2, 0, none⟩))]) (fun s_ w' => w'.heap[s_.2]? = some (.cells Fi.Z 31 (0, 0)) ∧ Fi.N w' w.heap.size s_.1 (Fi.opS xr o.f0 o.f1 o.f3 o.f4 o.f5) ∧ Below wr.heap.size wr w' ∧ wr.heap.size ≤ s_.2) ?_ ?_
    rotate_left
    · intro hJ
      refine two_ (i := 5) (j := 9) (Ni := some 83) (Nj := some 9) (bt 12 63) (bt 12 543) rfl rfl rfl rfl (by kernel_rfl) (by decide) (by decide) (fun K hK => ?_) (fun K hK => ?_)
      · skip
        refine goes_ Try.func24 (by kernel_rfl) rfl #[.agg csr, .agg #[.int .i64 o.f0, .int .i64 o.f1, .int .i64 o.f2, .int .i64 o.f3, .slice A4 o.f4.length c4, .slice A5 o.f5.length c5]] (by rfl) rfl rfl (by (try simp only [List.map_toArray, List.map_cons, List.map_nil]); first | done | rfl) ?_
        refine (Fi.op (Fi.N_below HNr.out hHeld) (Nat.le_trans HB.out.size hHeld.size) HP.out (Kd.C_below G4.out hHeld) K4.out (Kd.C_below G5.out hHeld) K5.out HI1.out HI3.out).mono ?_
        rintro e wa ⟨csn, rfl, hN, hb⟩
        refine ⟨_, rfl, ?_⟩
        have hN2 := hN
        refine hK.out _ _ (below_step hHeld hb) (fun hHeld2 => ?_)
        clear hK K
        refine norm_ (a' := ?_) ?_ ?_
        rotate_left
        · show Act.put _ (some 83) _ = _
          simp only [Act.put, List.setIfInBounds_toArray, List.set_cons_zero, List.set_cons_succ]
          rfl
        refine pure_ (i := 6) (N := some 77) (v := ?_) (a' := ?_) (bt 12 127) rfl rfl (by kernel_rfl) (fun _ _ _ h => h) (Or.inl ⟨by rfl, ?_⟩) ?_ ?_
        rotate_left
        · intro w'
          go_simp
          first | with_reducible rfl | (simp [Instr.field, go_sem]; rfl)
        rotate_left
        · simp only [Act.put, List.setIfInBounds_toArray, List.set_cons_zero, List.set_cons_succ]
          rfl
        refine pure_ (i := 7) (N := some 84) (v := ?_) (a' := ?_) (bt 12 255) rfl rfl (by kernel_rfl) (fun _ _ _ h => h) (Or.inl ⟨by rfl, ?_⟩) ?_ ?_
        rotate_left
        · intro w'
          go_simp
          first | with_reducible rfl | (simp [Instr.field, go_sem]; rfl)
        rotate_left
        · simp only [Act.put, List.setIfInBounds_toArray, List.set_cons_zero, List.set_cons_succ]
          rfl
        refine pure_ (i := 8) (N := some 85) (v := ?_) (a' := ?_) (bt 12 511) rfl rfl (by kernel_rfl) (fun _ _ _ h => h) (Or.inl ⟨by rfl, ?_⟩) ?_ ?_
        rotate_left
        · intro w'
          go_simp
          first | with_reducible rfl | (simp [Instr.field, go_sem]; rfl)
        rotate_left
        · simp only [Act.put, List.setIfInBounds_toArray, List.set_cons_zero, List.set_cons_succ]
          rfl
        refine one_ (i := 9) (N := some 9) (bt 12 1023) rfl rfl (by kernel_rfl) (by decide) (fun K hK => ?_)
        refine Fi.box_ev (by rfl) (N := 9) rfl (cs := Fi.Z) (t := 31) ?hr ?_
        case hr => first | (go_simp; done) | (go_simp; rfl)
        intro g9 hg9 w9 hbox hb9
        refine hK.out _ _ (below_step hHeld2 hb9) (fun hHeld3 => ?_)
        clear hK K
        refine norm_ (a' := ?_) ?_ ?_
        rotate_left
        · show Act.put _ (some 9) _ = _
          simp only [Act.put, List.setIfInBounds_toArray, List.set_cons_zero, List.set_cons_succ]
          rfl
        exact norm_ (by first | (simp only [putAll, Act.put, List.setIfInBounds_toArray, List.set_cons_zero, List.set_cons_succ]; done) | (simp only [putAll, Act.put, List.setIfInBounds_toArray, List.set_cons_zero, List.set_cons_succ]; rfl)) (hJ (csn, g9) _ ⟨hbox, Fi.N_below hN2 hb9, hHeld3, (by rw [hg9]; exact hHeld2.size)⟩)
      · skip
        refine Fi.box_ev (by rfl) (N := 9) rfl (cs := Fi.Z) (t := 31) ?hr ?_
        case hr => first | (go_simp; done) | (go_simp; rfl)
        intro g9 hg9 w9 hbox hb9
        refine hK.out _ _ (below_step hHeld hb9) (fun hHeld2 => ?_)
        clear hK K
        refine norm_ (a' := ?_) ?_ ?_
        rotate_left
        · show Act.put _ (some 9) _ = _
          simp only [Act.put, List.setIfInBounds_toArray, List.set_cons_zero, List.set_cons_succ]
          rfl
        refine one_ (i := 5) (N := some 83) (bt 12 575) rfl rfl (by kernel_rfl) (by decide) (fun K hK => ?_)
        refine goes_ Try.func24 (by kernel_rfl) rfl #[.agg csr, .agg #[.int .i64 o.f0, .int .i64 o.f1, .int .i64 o.f2, .int .i64 o.f3, .slice A4 o.f4.length c4, .slice A5 o.f5.length c5]] (by rfl) rfl rfl (by (try simp only [List.map_toArray, List.map_cons, List.map_nil]); first | done | rfl) ?_
        refine (Fi.op (Fi.N_below HNr.out hHeld2) (Nat.le_trans HB.out.size hHeld2.size) HP.out (Kd.C_below G4.out hHeld2) K4.out (Kd.C_below G5.out hHeld2) K5.out HI1.out HI3.out).mono ?_
        rintro e wa ⟨csn, rfl, hN, hb⟩
        refine ⟨_, rfl, ?_⟩
        refine hK.out _ _ (below_step hHeld2 hb) (fun hHeld3 => ?_)
        clear hK K
        refine norm_ (a' := ?_) ?_ ?_
        rotate_left
        · show Act.put _ (some 83) _ = _
          simp only [Act.put, List.setIfInBounds_toArray, List.set_cons_zero, List.set_cons_succ]
          rfl
        refine pure_ (i := 6) (N := some 77) (v := ?_) (a' := ?_) (bt 12 639) rfl rfl (by kernel_rfl) (fun _ _ _ h => h) (Or.inl ⟨by rfl, ?_⟩) ?_ ?_
        rotate_left
        · intro w'
          go_simp
          first | with_reducible rfl | (simp [Instr.field, go_sem]; rfl)
        rotate_left
        · simp only [Act.put, List.setIfInBounds_toArray, List.set_cons_zero, List.set_cons_succ]
          rfl
        refine pure_ (i := 7) (N := some 84) (v := ?_) (a' := ?_) (bt 12 767) rfl rfl (by kernel_rfl) (fun _ _ _ h => h) (Or.inl ⟨by rfl, ?_⟩) ?_ ?_
        rotate_left
        · intro w'
          go_simp
          first | with_reducible rfl | (simp [Instr.field, go_sem]; rfl)
        rotate_left
        · simp only [Act.put, List.setIfInBounds_toArray, List.set_cons_zero, List.set_cons_succ]
          rfl
        refine pure_ (i := 8) (N := some 85) (v := ?_) (a' := ?_) (bt 12 1023) rfl rfl (by kernel_rfl) (fun _ _ _ h => h) (Or.inl ⟨by rfl, ?_⟩) ?_ ?_
        rotate_left
        · intro w'
          go_simp
          first | with_reducible rfl | (simp [Instr.field, go_sem]; rfl)
        rotate_left
        · simp only [Act.put, List.setIfInBounds_toArray, List.set_cons_zero, List.set_cons_succ]
          rfl
        exact norm_ (by first | (simp only [putAll, Act.put, List.setIfInBounds_toArray, List.set_cons_zero, List.set_cons_succ]; done) | (simp only [putAll, Act.put, List.setIfInBounds_toArray, List.set_cons_zero, List.set_cons_succ]; rfl)) (hJ (csn, g9) _ ⟨blk_below hbox hb, hN, hHeld3, (by rw [hg9]; exact hHeld.size)⟩)
    clear hHeld hb9
    rintro ⟨csn, g9⟩ wj ⟨hbox, hN, hHeld, hge⟩
    have BKg9 := Aside0.mk hbox
    have HNn := Aside0.mk hN
    have GE9 := Aside0.mk hge
    clear hbox hN hge
    refine norm_ (a' := ?_) ?_ ?_
    rotate_left
    · simp only [putAll, Act.put, List.setIfInBounds_toArray, List.set_cons_zero, List.set_cons_succ]
      rfl
    refine one_ (i := 10) (N := none) (bt 12 2047) rfl rfl (by kernel_rfl) (by decide) (fun K hK => ?_)
    refine Fi.store_ev (by rfl) rfl 31 _ _ rfl g9 csn rfl rfl 31 _ BKg9.out (by rw [Fi.V_size HNn.out.V]; exact Fi.size) (by rw [Fi.V_size HNn.out.V]; rfl) (Fi.V_one HNn.out.V) ?_
    intro wk hgb hgr
    have n1_ := Aside0.mk (Fi.N_row HNn.out BKg9.out hgr)
    have hS7 := hHeld.grown hgr hHeld.size (fun k hk => by cases hk; exact GE9.out)
    clear BKg9 HNn hHeld hgr
    have HNn := n1_
    have BKg9 := Aside0.mk hgb
    clear n1_ hgb
    refine hK.out _ _ hS7 (fun hHeld => ?_)
    clear hK K hS7
    refine pure_ (i := 11) (N := some 10) (v := ?_) (a' := ?_) (bt 12 4095) rfl rfl (by kernel_rfl) (fun _ _ _ h => h) (Or.inl ⟨by rfl, ?_⟩) ?_ ?_
    rotate_left
    · intro w'
      go_simp
      first | with_reducible rfl | (simp [Instr.field, go_sem]; rfl)
    rotate_left
    · simp only [Act.put, List.setIfInBounds_toArray, List.set_cons_zero, List.set_cons_succ]
      rfl
    refine done_ (by kernel_rfl) ?_
    have hb := hHeld
    clear hHeld
    have n0_ := Aside0.mk (blk_below BKg7.out hb)
    have n1_ := Aside0.mk (below_step HB.out hb)
    have n2_ := Aside0.mk (Fi.N_below HNr.out hb)
    clear BKg7 HB HNr
    have BKg7 := n0_
    have HB := n1_
    have HNr := n2_
    clear n0_ n1_ n2_
    clear hb
    obtain ⟨xn, hxn⟩ : ∃ x, Fi.opS xr o.f0 o.f1 o.f3 o.f4 o.f5 = x := ⟨_, rfl⟩
    rw [hxn] at HNn HX
    have HPN := Aside0.mk HX
    clear HX hxn G4 G5 K4 K5 HI4 HI5 HI3 HP
    go_wp2_with (first
      | ((with_reducible refine gate_dst (N := 86) rfl ?_); refine wpList_load_row rfl 31 _ rfl g9 rfl 31 _ (0, 0) _ BKg9.out hu rfl (by rw [Fi.V_size HNn.out.V]; exact Fi.size) ?_)
      | ((with_reducible refine gate_store rfl ?_); refine Fi.store_row rfl 31 _ _ rfl g7 csn rfl rfl 31 _ BKg7.out (by rw [Fi.V_size HNn.out.V]; exact Fi.size) (by rw [Fi.V_size HNr.out.V, Fi.V_size HNn.out.V]) (Fi.V_one HNn.out.V) ?_; intro wl hgb hgr; have n0_ := Aside0.mk (HB.out.grown hgr HB.out.size (fun k hk => by cases hk; exact GEg7.out)); have n1_ := Aside0.mk (Fi.N_row HNn.out BKg7.out hgr); clear HB HNn BKg7 BKg9 HNr; have HB := n0_; have HNn := n1_; have BKg7 := Aside0.mk hgb; clear n0_ n1_ hgb hgr)
      | ((with_reducible refine gate_dst (N := 90) rfl ?_); refine gate_guard (by rfl) ?_; dsimp only; refine wpList_load_row rfl 31 _ rfl g7 rfl 31 _ (0, 0) _ BKg7.out hu rfl (by rw [Fi.V_size HNn.out.V]; exact Fi.size) ?_)
      | (go_at_call 19; (with_reducible refine (Fi.right HNn.out.V (decide_eq_true HPN.out)).mono ?_); rintro r wm ⟨rfl, hb⟩; have n0_ := Aside0.mk (below_step HB.out hb); have n1_ := Aside0.mk (Fi.N_below HNn.out hb); have n2_ := Aside0.mk (blk_below BKg7.out hb); clear HB HNn BKg7; have HB := n0_; have HNn := n1_; have BKg7 := n2_; clear n0_ n1_ n2_; skip; clear hb))
    go_loopw [11, 12, 13, 14, 15, 16, 17, 18, 19, 94, 95, 96, 97, 98, 99, 100, 101, 102, 103, 104, 105, 106, 107, 108, 109, 110, 111, 112, 113, 114, 115, 116, 117, 118, 119, 120, 121, 122, 123, 124, 125, 126, 127, 128, 129, 130, 131, 132, 133, 134, 135, 136, 137, 138, 139, 140, 141, 142, 143, 144, 145, 146, 147, 148, 149, 150, 151, 152, 153, 154, 155, 156, 157, 158, 159, 160, 161, 162, 163, 164, 165, 166, 167, 168, 169, 170, 171, 172, 173, 174, 175, 176, 177, 178, 179, 180, 181, 182, 183, 184, 185] (fun y11 y12 y13 y14 y15 y16 y17 y18 y19 y94 y95 y96 y97 y98 y99 y100 y101 y102 y103 y104 y105 y106 y107 y108 y109 y110 y111 y112 y113 y114 y115 y116 y117 y118 y119 y120 y121 y122 y123 y124 y125 y126 y127 y128 y129 y130 y131 y132 y133 y134 y135 y136 y137 y138 y139 y140 y141 y142 y143 y144 y145 y146 y147 y148 y149 y150 y151 y152 y153 y154 y155 y156 y157 y158 y159 y160 y161 y162 y163 y164 y165 y166 y167 y168 y169 y170 y171 y172 y173 y174 y175 y176 y177 y178 y179 y180 y181 y182 y183 y184 y185 wr2 => ∃ k : Int, (k = 0 ∨ k = 1 ∨ k = 2) ∧ y11 = .int .i64 k ∧ Aside0 (wr2.heap[g7]? = some (.cells csn 31 (0, 0))) ∧ Aside0 (Fi.N wr2 w.heap.size csn xn) ∧ Aside0 (Below w.heap.size w wr2)) (fun y11 _ _ _ _ _ _ _ _ _ _ _ _ _ _ _ _ _ _ _ _ _ _ _ _ _ _ _ _ _ _ _ _ _ _ _ _ _ _ _ _ _ _ _ _ _ _ _ _ _ _ _ _ _ _ _ _ _ _ _ _ _ _ _ _ _ _ _ _ _ _ _ _ _ _ _ _ _ _ _ _ _ _ _ _ _ _ _ _ _ _ _ _ _ _ _ _ _ _ _ _ _ => 3 - (intOf y11).toNat)
    case atStart => exact ⟨0, .inl rfl, rfl, BKg7, HNn, HB⟩
    case round =>
      clear BKg7 HNn HB
      obtain ⟨k, hk, rfl, BKg7, HNn, HB⟩ := hrel
      obtain h2 | h2 : k = 2 ∨ (k = 0 ∨ k = 1) := by omega
      · subst h2
        go_wp2
        go_roundw
        case rel => exact ⟨j + 1, csn, xn, ⟨by omega, by omega⟩, by first | rfl | go_num, BKg7, HNn, HPN, HB⟩
        case measure => simp [intOf]; omega
      have dk : decide (k < 2) = true := decide_eq_true (by omega)
      have hk1 : IntKind.i64.wrap (k + 1) = k + 1 := by rw [i64_w]; exact w64 (by omega)
      have HK := Aside0.mk h2
      clear h2 hk
      obtain ⟨b, hb1⟩ : ∃ b, decide (k = 1) = b := ⟨_, rfl⟩
      have hb2 : (k == 1) = b := hb1
      obtain ⟨LB, EB, eB⟩ : ∃ L E, Fi.bits xn b o.f1 o.f2 = (L, E) := ⟨_, _, rfl⟩
      obtain ⟨LW, EW, eW⟩ : ∃ L E, Fi.words xn b o.f1 o.f2 = (L, E) := ⟨_, _, rfl⟩
      have HLB := Aside0.mk (Fi.bits_len HPN.out eB)
      have HLW := Aside0.mk (Fi.words_len HPN.out eW)
      have HEB := Aside0.mk eB
      have HEW := Aside0.mk eW
      clear eB eW
      go_wp2
      refine start_ (n := 19) (S := fun w' => Below wr.heap.size wr w') (ds := []) (bt 19 0) (by kernel_rfl) rfl (by kernel_rfl) (below_drew1 (Below.refl _ _)) (fun hHeld => ?_)
      refine take_ (i := 0) (N := some 99) (v := ?_) (a' := ?_) (bt 19 1) rfl rfl (by kernel_rfl) (fun _ _ _ h => h) (Or.inl ⟨by rfl, ?_⟩) hHeld ?_ ?_
      rotate_left
      · intro w' hS
        refine (?_ : Sem.run Try.prog (execOp _ _) w' = Result.ok (Next.value (Value.agg csn)) w')
        exact Fi.run_load (by rfl) (by rfl) (Fi.load31 (blk_below BKg7.out hS) (Fi.V_size HNn.out.V))
      rotate_left
      · simp only [Act.put, List.setIfInBounds_toArray, List.set_cons_zero, List.set_cons_succ]
        rfl
      refine pure_ (i := 1) (N := some 100) (v := ?_) (a' := ?_) (bt 19 3) rfl rfl (by kernel_rfl) (fun _ _ _ h => h) (Or.inl ⟨by rfl, ?_⟩) ?_ ?_
      rotate_left
      · intro w'
        go_simp
        first | with_reducible rfl | (simp [Instr.field, go_sem]; rfl)
      rotate_left
      · simp only [Act.put, List.setIfInBounds_toArray, List.set_cons_zero, List.set_cons_succ]
        rfl
      refine pure_ (i := 2) (N := some 101) (v := ?_) (a' := ?_) (bt 19 7) rfl rfl (by kernel_rfl) (fun _ _ _ h => h) (Or.inl ⟨by rfl, ?_⟩) ?_ ?_
      rotate_left
      · intro w'
        go_simp
        first | with_reducible rfl | (simp [Instr.field, go_sem]; rfl)
      rotate_left
      · simp only [Act.put, List.setIfInBounds_toArray, List.set_cons_zero, List.set_cons_succ]
        rfl
      refine pure_ (i := 3) (N := some 102) (v := ?_) (a' := ?_) (bt 19 15) rfl rfl (by kernel_rfl) (fun _ _ _ h => h) (Or.inl ⟨by rfl, ?_⟩) ?_ ?_
      rotate_left
      · intro w'
        go_simp
        first | with_reducible rfl | (simp [Instr.field, go_sem]; rfl)
      rotate_left
      · simp only [Act.put, List.setIfInBounds_toArray, List.set_cons_zero, List.set_cons_succ]
        rfl
      refine pure_ (i := 4) (N := some 103) (v := ?_) (a' := ?_) (bt 19 31) rfl rfl (by kernel_rfl) (fun _ _ _ h => h) (Or.inl ⟨by rfl, ?_⟩) ?_ ?_
      rotate_left
      · intro w'
        go_simp
        first | with_reducible rfl | (simp [Instr.field, go_sem]; rfl)
      rotate_left
      · simp only [Act.put, List.setIfInBounds_toArray, List.set_cons_zero, List.set_cons_succ]
        rfl
      refine pure_ (i := 5) (N := some 104) (v := ?_) (a' := ?_) (bt 19 63) rfl rfl (by kernel_rfl) (fun _ _ _ h => h) (Or.inl ⟨by rfl, ?_⟩) ?_ ?_
      rotate_left
      · intro w'
        go_simp
        first | with_reducible rfl | (simp [Instr.field, go_sem]; rfl)
      rotate_left
      · simp only [Act.put, List.setIfInBounds_toArray, List.set_cons_zero, List.set_cons_succ]
        rfl
      refine pure_ (i := 6) (N := some 105) (v := ?_) (a' := ?_) (bt 19 127) rfl rfl (by kernel_rfl) (fun _ _ _ h => h) (Or.inl ⟨by rfl, ?_⟩) ?_ ?_
      rotate_left
      · intro w'
        go_simp
        first | with_reducible rfl | (simp [Instr.field, go_sem]; rfl)
      rotate_left
      · simp only [Act.put, List.setIfInBounds_toArray, List.set_cons_zero, List.set_cons_succ]
        rfl
      refine take_ (i := 7) (N := some 106) (v := ?_) (a' := ?_) (bt 19 255) rfl rfl (by kernel_rfl) (fun _ _ _ h => h) (Or.inl ⟨by rfl, ?_⟩) hHeld ?_ ?_
      rotate_left
      · intro w' hS
        have f1 := pw_cell_below hS (pw_cell_below HB.out E1.out)
        go_simp
        first | with_reducible rfl | (simp [Instr.field, go_sem]; rfl)
      rotate_left
      · simp only [Act.put, List.setIfInBounds_toArray, List.set_cons_zero, List.set_cons_succ]
        rfl
      refine pure_ (i := 8) (N := some 107) (v := ?_) (a' := ?_) (bt 19 511) rfl rfl (by kernel_rfl) (fun _ _ _ h => h) (Or.inl ⟨by rfl, ?_⟩) ?_ ?_
      rotate_left
      · intro w'
        go_simp
        first | with_reducible rfl | (simp [Instr.field, go_sem]; rfl)
      rotate_left
      · simp only [Act.put, List.setIfInBounds_toArray, List.set_cons_zero, List.set_cons_succ]
        rfl
      refine pure_ (i := 9) (N := some 108) (v := ?_) (a' := ?_) (bt 19 1023) rfl rfl (by kernel_rfl) (fun _ _ _ h => h) (Or.inl ⟨by rfl, ?_⟩) ?_ ?_
      rotate_left
      · intro w'
        go_simp
        first | with_reducible rfl | (simp [Instr.field, go_sem]; rfl)
      rotate_left
      · simp only [Act.put, List.setIfInBounds_toArray, List.set_cons_zero, List.set_cons_succ]
        rfl
      refine pure_ (i := 10) (N := some 109) (v := ?_) (a' := ?_) (bt 19 2047) rfl rfl (by kernel_rfl) (fun _ _ _ h => h) (Or.inl ⟨by rfl, ?_⟩) ?_ ?_
      rotate_left
      · intro w'
        go_simp
        first | with_reducible rfl | (simp [Instr.field, go_sem]; rfl)
      rotate_left
      · simp only [Act.put, List.setIfInBounds_toArray, List.set_cons_zero, List.set_cons_succ]
        rfl
      refine pure_ (i := 11) (N := some 110) (v := ?_) (a' := ?_) (bt 19 4095) rfl rfl (by kernel_rfl) (fun _ _ _ h => h) (Or.inl ⟨by rfl, ?_⟩) ?_ ?_
      rotate_left
      · intro w'
        go_simp
        first | with_reducible rfl | (simp [Instr.field, go_sem]; rfl)
      rotate_left
      · simp only [Act.put, List.setIfInBounds_toArray, List.set_cons_zero, List.set_cons_succ]
        rfl
      refine take_ (i := 12) (N := some 111) (v := ?_) (a' := ?_) (bt 19 8191) rfl rfl (by kernel_rfl) (fun _ _ _ h => h) (Or.inl ⟨by rfl, ?_⟩) hHeld ?_ ?_
      rotate_left
      · intro w' hS
        have f2 := pw_cell_below hS (pw_cell_below HB.out E2.out)
        go_simp
        first | with_reducible rfl | (simp [Instr.field, go_sem]; rfl)
      rotate_left
      · simp only [Act.put, List.setIfInBounds_toArray, List.set_cons_zero, List.set_cons_succ]
        rfl
      refine one_ (i := 13) (N := some 112) (bt 19 16383) rfl rfl (by kernel_rfl) (by decide) (fun K hK => ?_)
      refine goes_ Try.func12 (by kernel_rfl) rfl #[.agg csn, .bool b, .int .i64 o.f1, .int .i64 o.f2] (by rfl) rfl rfl (by (try simp only [List.map_toArray, List.map_cons, List.map_nil]); first | done | rfl) ?_
      refine (Fi.cbitsE (Fi.V_below HNn.out.V hHeld) b HI1.out HI2.out HEB.out).mono ?_
      rintro e wy ⟨v0, rfl, ho, hb⟩
      obtain ⟨A6, C6, ev⟩ := Kd.R_slice ho
      subst ev
      have R0 := Aside0.mk ho
      clear ho
      have hb2 := below_step hHeld hb
      refine ⟨_, rfl, ?_⟩
      refine hK.out _ _ hb2 (fun hHeld => ?_)
      clear hK K hb2 hb
      refine norm_ (a' := ?_) ?_ ?_
      rotate_left
      · show Act.put _ (some 112) _ = _
        simp only [Act.put, List.setIfInBounds_toArray, List.set_cons_zero, List.set_cons_succ]
        rfl
      refine pure_ (i := 14) (N := some 98) (v := ?_) (a' := ?_) (bt 19 32767) rfl rfl (by kernel_rfl) (fun _ _ _ h => h) (Or.inl ⟨by rfl, ?_⟩) ?_ ?_
      rotate_left
      · intro w'
        go_simp
        first | with_reducible rfl | (simp [Instr.field, go_sem]; rfl)
      rotate_left
      · simp only [Act.put, List.setIfInBounds_toArray, List.set_cons_zero, List.set_cons_succ]
        rfl
      refine pure_ (i := 15) (N := some 113) (v := ?_) (a' := ?_) (bt 19 65535) rfl rfl (by kernel_rfl) (fun _ _ _ h => h) (Or.inl ⟨by rfl, ?_⟩) ?_ ?_
      rotate_left
      · intro w'
        go_simp
        first | with_reducible rfl | (simp [Instr.field, go_sem]; rfl)
      rotate_left
      · simp only [Act.put, List.setIfInBounds_toArray, List.set_cons_zero, List.set_cons_succ]
        rfl
      refine pure_ (i := 16) (N := some 114) (v := ?_) (a' := ?_) (bt 19 131071) rfl rfl (by kernel_rfl) (fun _ _ _ h => h) (Or.inl ⟨by rfl, ?_⟩) ?_ ?_
      rotate_left
      · intro w'
        go_simp
        first | with_reducible rfl | (simp [Instr.field, go_sem]; rfl)
      rotate_left
      · simp only [Act.put, List.setIfInBounds_toArray, List.set_cons_zero, List.set_cons_succ]
        rfl
      refine pure_ (i := 17) (N := some 12) (v := ?_) (a' := ?_) (bt 19 262143) rfl rfl (by kernel_rfl) (fun _ _ _ h => h) (Or.inl ⟨by rfl, ?_⟩) ?_ ?_
      rotate_left
      · intro w'
        go_simp
        first | with_reducible rfl | (simp [Instr.field, go_sem]; rfl)
      rotate_left
      · simp only [Act.put, List.setIfInBounds_toArray, List.set_cons_zero, List.set_cons_succ]
        rfl
      refine pure_ (i := 18) (N := some 13) (v := ?_) (a' := ?_) (bt 19 524287) rfl rfl (by kernel_rfl) (fun _ _ _ h => h) (Or.inl ⟨by rfl, ?_⟩) ?_ ?_
      rotate_left
      · intro w'
        go_simp
        first | with_reducible rfl | (simp [Instr.field, go_sem]; rfl)
      rotate_left
      · simp only [Act.put, List.setIfInBounds_toArray, List.set_cons_zero, List.set_cons_succ]
        rfl
      refine done_ (by kernel_rfl) ?_
      have hb := hHeld
      clear hHeld
      have n0_ := Aside0.mk (blk_below BKg7.out hb)
      have n1_ := Aside0.mk (below_step HB.out hb)
      have n2_ := Aside0.mk (Fi.N_below HNn.out hb)
      clear BKg7 HB HNn
      have BKg7 := n0_
      have HB := n1_
      have HNn := n2_
      clear n0_ n1_ n2_
      clear hb
      generalize wy = wz0 at *
      go_wp2
      refine start_ (n := 19) (S := fun w' => Below wz0.heap.size wz0 w') (ds := []) (bt 19 0) (by kernel_rfl) rfl (by kernel_rfl) (below_drew1 (Below.refl _ _)) (fun hHeld => ?_)
      refine take_ (i := 0) (N := some 116) (v := ?_) (a' := ?_) (bt 19 1) rfl rfl (by kernel_rfl) (fun _ _ _ h => h) (Or.inl ⟨by rfl, ?_⟩) hHeld ?_ ?_
      rotate_left
      · intro w' hS
        refine (?_ : Sem.run Try.prog (execOp _ _) w' = Result.ok (Next.value (Value.agg csn)) w')
        exact Fi.run_load (by rfl) (by rfl) (Fi.load31 (blk_below BKg7.out hS) (Fi.V_size HNn.out.V))
      rotate_left
      · simp only [Act.put, List.setIfInBounds_toArray, List.set_cons_zero, List.set_cons_succ]
        rfl
      refine pure_ (i := 1) (N := some 117) (v := ?_) (a' := ?_) (bt 19 3) rfl rfl (by kernel_rfl) (fun _ _ _ h => h) (Or.inl ⟨by rfl, ?_⟩) ?_ ?_
      rotate_left
      · intro w'
        go_simp
        first | with_reducible rfl | (simp [Instr.field, go_sem]; rfl)
      rotate_left
      · simp only [Act.put, List.setIfInBounds_toArray, List.set_cons_zero, List.set_cons_succ]
        rfl
      refine pure_ (i := 2) (N := some 118) (v := ?_) (a' := ?_) (bt 19 7) rfl rfl (by kernel_rfl) (fun _ _ _ h => h) (Or.inl ⟨by rfl, ?_⟩) ?_ ?_
      rotate_left
      · intro w'
        go_simp
        first | with_reducible rfl | (simp [Instr.field, go_sem]; rfl)
      rotate_left
      · simp only [Act.put, List.setIfInBounds_toArray, List.set_cons_zero, List.set_cons_succ]
        rfl
      refine pure_ (i := 3) (N := some 119) (v := ?_) (a' := ?_) (bt 19 15) rfl rfl (by kernel_rfl) (fun _ _ _ h => h) (Or.inl ⟨by rfl, ?_⟩) ?_ ?_
      rotate_left
      · intro w'
        go_simp
        first | with_reducible rfl | (simp [Instr.field, go_sem]; rfl)
      rotate_left
      · simp only [Act.put, List.setIfInBounds_toArray, List.set_cons_zero, List.set_cons_succ]
        rfl
      refine pure_ (i := 4) (N := some 120) (v := ?_) (a' := ?_) (bt 19 31) rfl rfl (by kernel_rfl) (fun _ _ _ h => h) (Or.inl ⟨by rfl, ?_⟩) ?_ ?_
      rotate_left
      · intro w'
        go_simp
        first | with_reducible rfl | (simp [Instr.field, go_sem]; rfl)
      rotate_left
      · simp only [Act.put, List.setIfInBounds_toArray, List.set_cons_zero, List.set_cons_succ]
        rfl
      refine pure_ (i := 5) (N := some 121) (v := ?_) (a' := ?_) (bt 19 63) rfl rfl (by kernel_rfl) (fun _ _ _ h => h) (Or.inl ⟨by rfl, ?_⟩) ?_ ?_
      rotate_left
      · intro w'
        go_simp
        first | with_reducible rfl | (simp [Instr.field, go_sem]; rfl)
      rotate_left
      · simp only [Act.put, List.setIfInBounds_toArray, List.set_cons_zero, List.set_cons_succ]
        rfl
      refine pure_ (i := 6) (N := some 122) (v := ?_) (a' := ?_) (bt 19 127) rfl rfl (by kernel_rfl) (fun _ _ _ h => h) (Or.inl ⟨by rfl, ?_⟩) ?_ ?_
      rotate_left
      · intro w'
        go_simp
        first | with_reducible rfl | (simp [Instr.field, go_sem]; rfl)
      rotate_left
      · simp only [Act.put, List.setIfInBounds_toArray, List.set_cons_zero, List.set_cons_succ]
        rfl
      refine take_ (i := 7) (N := some 123) (v := ?_) (a' := ?_) (bt 19 255) rfl rfl (by kernel_rfl) (fun _ _ _ h => h) (Or.inl ⟨by rfl, ?_⟩) hHeld ?_ ?_
      rotate_left
      · intro w' hS
        have f1 := pw_cell_below hS (pw_cell_below HB.out E1.out)
        go_simp
        first | with_reducible rfl | (simp [Instr.field, go_sem]; rfl)
      rotate_left
      · simp only [Act.put, List.setIfInBounds_toArray, List.set_cons_zero, List.set_cons_succ]
        rfl
      refine pure_ (i := 8) (N := some 124) (v := ?_) (a' := ?_) (bt 19 511) rfl rfl (by kernel_rfl) (fun _ _ _ h => h) (Or.inl ⟨by rfl, ?_⟩) ?_ ?_
      rotate_left
      · intro w'
        go_simp
        first | with_reducible rfl | (simp [Instr.field, go_sem]; rfl)
      rotate_left
      · simp only [Act.put, List.setIfInBounds_toArray, List.set_cons_zero, List.set_cons_succ]
        rfl
      refine pure_ (i := 9) (N := some 125) (v := ?_) (a' := ?_) (bt 19 1023) rfl rfl (by kernel_rfl) (fun _ _ _ h => h) (Or.inl ⟨by rfl, ?_⟩) ?_ ?_
      rotate_left
      · intro w'
        go_simp
        first | with_reducible rfl | (simp [Instr.field, go_sem]; rfl)
      rotate_left
      · simp only [Act.put, List.setIfInBounds_toArray, List.set_cons_zero, List.set_cons_succ]
        rfl
      refine pure_ (i := 10) (N := some 126) (v := ?_) (a' := ?_) (bt 19 2047) rfl rfl (by kernel_rfl) (fun _ _ _ h => h) (Or.inl ⟨by rfl, ?_⟩) ?_ ?_
      rotate_left
      · intro w'
        go_simp
        first | with_reducible rfl | (simp [Instr.field, go_sem]; rfl)
      rotate_left
      · simp only [Act.put, List.setIfInBounds_toArray, List.set_cons_zero, List.set_cons_succ]
        rfl
      refine pure_ (i := 11) (N := some 127) (v := ?_) (a' := ?_) (bt 19 4095) rfl rfl (by kernel_rfl) (fun _ _ _ h => h) (Or.inl ⟨by rfl, ?_⟩) ?_ ?_
      rotate_left
      · intro w'
        go_simp
        first | with_reducible rfl | (simp [Instr.field, go_sem]; rfl)
      rotate_left
      · simp only [Act.put, List.setIfInBounds_toArray, List.set_cons_zero, List.set_cons_succ]
        rfl
      refine take_ (i := 12) (N := some 128) (v := ?_) (a' := ?_) (bt 19 8191) rfl rfl (by kernel_rfl) (fun _ _ _ h => h) (Or.inl ⟨by rfl, ?_⟩) hHeld ?_ ?_
      rotate_left
      · intro w' hS
        have f2 := pw_cell_below hS (pw_cell_below HB.out E2.out)
        go_simp
        first | with_reducible rfl | (simp [Instr.field, go_sem]; rfl)
      rotate_left
      · simp only [Act.put, List.setIfInBounds_toArray, List.set_cons_zero, List.set_cons_succ]
        rfl
      refine one_ (i := 13) (N := some 129) (bt 19 16383) rfl rfl (by kernel_rfl) (by decide) (fun K hK => ?_)
      refine goes_ Try.func25 (by kernel_rfl) rfl #[.agg csn, .bool b, .int .i64 o.f1, .int .i64 o.f2] (by rfl) rfl rfl (by (try simp only [List.map_toArray, List.map_cons, List.map_nil]); first | done | rfl) ?_
      refine (Fi.rbitsE (Fi.V_below HNn.out.V hHeld) b HI1.out HI2.out HEB.out).mono ?_
      rintro e wy ⟨v1, rfl, ho, hb⟩
      obtain ⟨A7, C7, ev⟩ := Kd.R_slice ho
      subst ev
      have R1 := Aside0.mk ho
      clear ho
      have hb2 := below_step hHeld hb
      refine ⟨_, rfl, ?_⟩
      refine hK.out _ _ hb2 (fun hHeld => ?_)
      clear hK K hb2 hb
      refine norm_ (a' := ?_) ?_ ?_
      rotate_left
      · show Act.put _ (some 129) _ = _
        simp only [Act.put, List.setIfInBounds_toArray, List.set_cons_zero, List.set_cons_succ]
        rfl
      refine pure_ (i := 14) (N := some 115) (v := ?_) (a' := ?_) (bt 19 32767) rfl rfl (by kernel_rfl) (fun _ _ _ h => h) (Or.inl ⟨by rfl, ?_⟩) ?_ ?_
      rotate_left
      · intro w'
        go_simp
        first | with_reducible rfl | (simp [Instr.field, go_sem]; rfl)
      rotate_left
      · simp only [Act.put, List.setIfInBounds_toArray, List.set_cons_zero, List.set_cons_succ]
        rfl
      refine pure_ (i := 15) (N := some 130) (v := ?_) (a' := ?_) (bt 19 65535) rfl rfl (by kernel_rfl) (fun _ _ _ h => h) (Or.inl ⟨by rfl, ?_⟩) ?_ ?_
      rotate_left
      · intro w'
        go_simp
        first | with_reducible rfl | (simp [Instr.field, go_sem]; rfl)
      rotate_left
      · simp only [Act.put, List.setIfInBounds_toArray, List.set_cons_zero, List.set_cons_succ]
        rfl
      refine pure_ (i := 16) (N := some 131) (v := ?_) (a' := ?_) (bt 19 131071) rfl rfl (by kernel_rfl) (fun _ _ _ h => h) (Or.inl ⟨by rfl, ?_⟩) ?_ ?_
      rotate_left
      · intro w'
        go_simp
        first | with_reducible rfl | (simp [Instr.field, go_sem]; rfl)
      rotate_left
      · simp only [Act.put, List.setIfInBounds_toArray, List.set_cons_zero, List.set_cons_succ]
        rfl
      refine pure_ (i := 17) (N := some 14) (v := ?_) (a' := ?_) (bt 19 262143) rfl rfl (by kernel_rfl) (fun _ _ _ h => h) (Or.inl ⟨by rfl, ?_⟩) ?_ ?_
      rotate_left
      · intro w'
        go_simp
        first | with_reducible rfl | (simp [Instr.field, go_sem]; rfl)
      rotate_left
      · simp only [Act.put, List.setIfInBounds_toArray, List.set_cons_zero, List.set_cons_succ]
        rfl
      refine pure_ (i := 18) (N := some 15) (v := ?_) (a' := ?_) (bt 19 524287) rfl rfl (by kernel_rfl) (fun _ _ _ h => h) (Or.inl ⟨by rfl, ?_⟩) ?_ ?_
      rotate_left
      · intro w'
        go_simp
        first | with_reducible rfl | (simp [Instr.field, go_sem]; rfl)
      rotate_left
      · simp only [Act.put, List.setIfInBounds_toArray, List.set_cons_zero, List.set_cons_succ]
        rfl
      refine done_ (by kernel_rfl) ?_
      have hb := hHeld
      clear hHeld
      have n0_ := Aside0.mk (blk_below BKg7.out hb)
      have n1_ := Aside0.mk (below_step HB.out hb)
      have n2_ := Aside0.mk (Fi.N_below HNn.out hb)
      have n3_ := Aside0.mk (Kd.R_below R0.out hb)
      clear BKg7 HB HNn R0
      have BKg7 := n0_
      have HB := n1_
      have HNn := n2_
      have R0 := n3_
      clear n0_ n1_ n2_ n3_
      clear hb
      generalize wy = wz1 at *
      go_wp2
      refine start_ (n := 19) (S := fun w' => Below wz1.heap.size wz1 w') (ds := []) (bt 19 0) (by kernel_rfl) rfl (by kernel_rfl) (below_drew1 (Below.refl _ _)) (fun hHeld => ?_)
      refine take_ (i := 0) (N := some 133) (v := ?_) (a' := ?_) (bt 19 1) rfl rfl (by kernel_rfl) (fun _ _ _ h => h) (Or.inl ⟨by rfl, ?_⟩) hHeld ?_ ?_
      rotate_left
      · intro w' hS
        refine (?_ : Sem.run Try.prog (execOp _ _) w' = Result.ok (Next.value (Value.agg csn)) w')
        exact Fi.run_load (by rfl) (by rfl) (Fi.load31 (blk_below BKg7.out hS) (Fi.V_size HNn.out.V))
      rotate_left
      · simp only [Act.put, List.setIfInBounds_toArray, List.set_cons_zero, List.set_cons_succ]
        rfl
      refine pure_ (i := 1) (N := some 134) (v := ?_) (a' := ?_) (bt 19 3) rfl rfl (by kernel_rfl) (fun _ _ _ h => h) (Or.inl ⟨by rfl, ?_⟩) ?_ ?_
      rotate_left
      · intro w'
        go_simp
        first | with_reducible rfl | (simp [Instr.field, go_sem]; rfl)
      rotate_left
      · simp only [Act.put, List.setIfInBounds_toArray, List.set_cons_zero, List.set_cons_succ]
        rfl
      refine pure_ (i := 2) (N := some 135) (v := ?_) (a' := ?_) (bt 19 7) rfl rfl (by kernel_rfl) (fun _ _ _ h => h) (Or.inl ⟨by rfl, ?_⟩) ?_ ?_
      rotate_left
      · intro w'
        go_simp
        first | with_reducible rfl | (simp [Instr.field, go_sem]; rfl)
      rotate_left
      · simp only [Act.put, List.setIfInBounds_toArray, List.set_cons_zero, List.set_cons_succ]
        rfl
      refine pure_ (i := 3) (N := some 136) (v := ?_) (a' := ?_) (bt 19 15) rfl rfl (by kernel_rfl) (fun _ _ _ h => h) (Or.inl ⟨by rfl, ?_⟩) ?_ ?_
      rotate_left
      · intro w'
        go_simp
        first | with_reducible rfl | (simp [Instr.field, go_sem]; rfl)
      rotate_left
      · simp only [Act.put, List.setIfInBounds_toArray, List.set_cons_zero, List.set_cons_succ]
        rfl
      refine pure_ (i := 4) (N := some 137) (v := ?_) (a' := ?_) (bt 19 31) rfl rfl (by kernel_rfl) (fun _ _ _ h => h) (Or.inl ⟨by rfl, ?_⟩) ?_ ?_
      rotate_left
      · intro w'
        go_simp
        first | with_reducible rfl | (simp [Instr.field, go_sem]; rfl)
      rotate_left
      · simp only [Act.put, List.setIfInBounds_toArray, List.set_cons_zero, List.set_cons_succ]
        rfl
      refine pure_ (i := 5) (N := some 138) (v := ?_) (a' := ?_) (bt 19 63) rfl rfl (by kernel_rfl) (fun _ _ _ h => h) (Or.inl ⟨by rfl, ?_⟩) ?_ ?_
      rotate_left
      · intro w'
        go_simp
        first | with_reducible rfl | (simp [Instr.field, go_sem]; rfl)
      rotate_left
      · simp only [Act.put, List.setIfInBounds_toArray, List.set_cons_zero, List.set_cons_succ]
        rfl
      refine pure_ (i := 6) (N := some 139) (v := ?_) (a' := ?_) (bt 19 127) rfl rfl (by kernel_rfl) (fun _ _ _ h => h) (Or.inl ⟨by rfl, ?_⟩) ?_ ?_
      rotate_left
      · intro w'
        go_simp
        first | with_reducible rfl | (simp [Instr.field, go_sem]; rfl)
      rotate_left
      · simp only [Act.put, List.setIfInBounds_toArray, List.set_cons_zero, List.set_cons_succ]
        rfl
      refine take_ (i := 7) (N := some 140) (v := ?_) (a' := ?_) (bt 19 255) rfl rfl (by kernel_rfl) (fun _ _ _ h => h) (Or.inl ⟨by rfl, ?_⟩) hHeld ?_ ?_
      rotate_left
      · intro w' hS
        have f1 := pw_cell_below hS (pw_cell_below HB.out E1.out)
        go_simp
        first | with_reducible rfl | (simp [Instr.field, go_sem]; rfl)
      rotate_left
      · simp only [Act.put, List.setIfInBounds_toArray, List.set_cons_zero, List.set_cons_succ]
        rfl
      refine pure_ (i := 8) (N := some 141) (v := ?_) (a' := ?_) (bt 19 511) rfl rfl (by kernel_rfl) (fun _ _ _ h => h) (Or.inl ⟨by rfl, ?_⟩) ?_ ?_
      rotate_left
      · intro w'
        go_simp
        first | with_reducible rfl | (simp [Instr.field, go_sem]; rfl)
      rotate_left
      · simp only [Act.put, List.setIfInBounds_toArray, List.set_cons_zero, List.set_cons_succ]
        rfl
      refine pure_ (i := 9) (N := some 142) (v := ?_) (a' := ?_) (bt 19 1023) rfl rfl (by kernel_rfl) (fun _ _ _ h => h) (Or.inl ⟨by rfl, ?_⟩) ?_ ?_
      rotate_left
      · intro w'
        go_simp
        first | with_reducible rfl | (simp [Instr.field, go_sem]; rfl)
      rotate_left
      · simp only [Act.put, List.setIfInBounds_toArray, List.set_cons_zero, List.set_cons_succ]
        rfl
      refine pure_ (i := 10) (N := some 143) (v := ?_) (a' := ?_) (bt 19 2047) rfl rfl (by kernel_rfl) (fun _ _ _ h => h) (Or.inl ⟨by rfl, ?_⟩) ?_ ?_
      rotate_left
      · intro w'
        go_simp
        first | with_reducible rfl | (simp [Instr.field, go_sem]; rfl)
      rotate_left
      · simp only [Act.put, List.setIfInBounds_toArray, List.set_cons_zero, List.set_cons_succ]
        rfl
      refine pure_ (i := 11) (N := some 144) (v := ?_) (a' := ?_) (bt 19 4095) rfl rfl (by kernel_rfl) (fun _ _ _ h => h) (Or.inl ⟨by rfl, ?_⟩) ?_ ?_
      rotate_left
      · intro w'
        go_simp
        first | with_reducible rfl | (simp [Instr.field, go_sem]; rfl)
      rotate_left
      · simp only [Act.put, List.setIfInBounds_toArray, List.set_cons_zero, List.set_cons_succ]
        rfl
      refine take_ (i := 12) (N := some 145) (v := ?_) (a' := ?_) (bt 19 8191) rfl rfl (by kernel_rfl) (fun _ _ _ h => h) (Or.inl ⟨by rfl, ?_⟩) hHeld ?_ ?_
      rotate_left
      · intro w' hS
        have f2 := pw_cell_below hS (pw_cell_below HB.out E2.out)
        go_simp
        first | with_reducible rfl | (simp [Instr.field, go_sem]; rfl)
      rotate_left
      · simp only [Act.put, List.setIfInBounds_toArray, List.set_cons_zero, List.set_cons_succ]
        rfl
      refine one_ (i := 13) (N := some 146) (bt 19 16383) rfl rfl (by kernel_rfl) (by decide) (fun K hK => ?_)
      refine goes_ Try.func18 (by kernel_rfl) rfl #[.agg csn, .bool b, .int .i64 o.f1, .int .i64 o.f2] (by rfl) rfl rfl (by (try simp only [List.map_toArray, List.map_cons, List.map_nil]); first | done | rfl) ?_
      refine (Fi.cwordsE (Fi.V_below HNn.out.V hHeld) b HI1.out HI2.out HEW.out).mono ?_
      rintro e wy ⟨v2, rfl, ho, hb⟩
      obtain ⟨A8, C8, ev⟩ := Kd.R_slice ho
      subst ev
      have R2 := Aside0.mk ho
      clear ho
      have hb2 := below_step hHeld hb
      refine ⟨_, rfl, ?_⟩
      refine hK.out _ _ hb2 (fun hHeld => ?_)
      clear hK K hb2 hb
      refine norm_ (a' := ?_) ?_ ?_
      rotate_left
      · show Act.put _ (some 146) _ = _
        simp only [Act.put, List.setIfInBounds_toArray, List.set_cons_zero, List.set_cons_succ]
        rfl
      refine pure_ (i := 14) (N := some 132) (v := ?_) (a' := ?_) (bt 19 32767) rfl rfl (by kernel_rfl) (fun _ _ _ h => h) (Or.inl ⟨by rfl, ?_⟩) ?_ ?_
      rotate_left
      · intro w'
        go_simp
        first | with_reducible rfl | (simp [Instr.field, go_sem]; rfl)
      rotate_left
      · simp only [Act.put, List.setIfInBounds_toArray, List.set_cons_zero, List.set_cons_succ]
        rfl
      refine pure_ (i := 15) (N := some 147) (v := ?_) (a' := ?_) (bt 19 65535) rfl rfl (by kernel_rfl) (fun _ _ _ h => h) (Or.inl ⟨by rfl, ?_⟩) ?_ ?_
      rotate_left
      · intro w'
        go_simp
        first | with_reducible rfl | (simp [Instr.field, go_sem]; rfl)
      rotate_left
      · simp only [Act.put, List.setIfInBounds_toArray, List.set_cons_zero, List.set_cons_succ]
        rfl
      refine pure_ (i := 16) (N := some 148) (v := ?_) (a' := ?_) (bt 19 131071) rfl rfl (by kernel_rfl) (fun _ _ _ h => h) (Or.inl ⟨by rfl, ?_⟩) ?_ ?_
      rotate_left
      · intro w'
        go_simp
        first | with_reducible rfl | (simp [Instr.field, go_sem]; rfl)
      rotate_left
      · simp only [Act.put, List.setIfInBounds_toArray, List.set_cons_zero, List.set_cons_succ]
        rfl
      refine pure_ (i := 17) (N := some 16) (v := ?_) (a' := ?_) (bt 19 262143) rfl rfl (by kernel_rfl) (fun _ _ _ h => h) (Or.inl ⟨by rfl, ?_⟩) ?_ ?_
      rotate_left
      · intro w'
        go_simp
        first | with_reducible rfl | (simp [Instr.field, go_sem]; rfl)
      rotate_left
      · simp only [Act.put, List.setIfInBounds_toArray, List.set_cons_zero, List.set_cons_succ]
        rfl
      refine pure_ (i := 18) (N := some 17) (v := ?_) (a' := ?_) (bt 19 524287) rfl rfl (by kernel_rfl) (fun _ _ _ h => h) (Or.inl ⟨by rfl, ?_⟩) ?_ ?_
      rotate_left
      · intro w'
        go_simp
        first | with_reducible rfl | (simp [Instr.field, go_sem]; rfl)
      rotate_left
      · simp only [Act.put, List.setIfInBounds_toArray, List.set_cons_zero, List.set_cons_succ]
        rfl
      refine done_ (by kernel_rfl) ?_
      have hb := hHeld
      clear hHeld
      have n0_ := Aside0.mk (blk_below BKg7.out hb)
      have n1_ := Aside0.mk (below_step HB.out hb)
      have n2_ := Aside0.mk (Fi.N_below HNn.out hb)
      have n3_ := Aside0.mk (Kd.R_below R0.out hb)
      have n4_ := Aside0.mk (Kd.R_below R1.out hb)
      clear BKg7 HB HNn R0 R1
      have BKg7 := n0_
      have HB := n1_
      have HNn := n2_
      have R0 := n3_
      have R1 := n4_
      clear n0_ n1_ n2_ n3_ n4_
      clear hb
      generalize wy = wz2 at *
      go_wp2
      refine start_ (n := 19) (S := fun w' => Below wz2.heap.size wz2 w') (ds := []) (bt 19 0) (by kernel_rfl) rfl (by kernel_rfl) (below_drew1 (Below.refl _ _)) (fun hHeld => ?_)
      refine take_ (i := 0) (N := some 150) (v := ?_) (a' := ?_) (bt 19 1) rfl rfl (by kernel_rfl) (fun _ _ _ h => h) (Or.inl ⟨by rfl, ?_⟩) hHeld ?_ ?_
      rotate_left
      · intro w' hS
        refine (?_ : Sem.run Try.prog (execOp _ _) w' = Result.ok (Next.value (Value.agg csn)) w')
        exact Fi.run_load (by rfl) (by rfl) (Fi.load31 (blk_below BKg7.out hS) (Fi.V_size HNn.out.V))
      rotate_left
      · simp only [Act.put, List.setIfInBounds_toArray, List.set_cons_zero, List.set_cons_succ]
        rfl
      refine pure_ (i := 1) (N := some 151) (v := ?_) (a' := ?_) (bt 19 3) rfl rfl (by kernel_rfl) (fun _ _ _ h => h) (Or.inl ⟨by rfl, ?_⟩) ?_ ?_
      rotate_left
      · intro w'
        go_simp
        first | with_reducible rfl | (simp [Instr.field, go_sem]; rfl)
      rotate_left
      · simp only [Act.put, List.setIfInBounds_toArray, List.set_cons_zero, List.set_cons_succ]
        rfl
      refine pure_ (i := 2) (N := some 152) (v := ?_) (a' := ?_) (bt 19 7) rfl rfl (by kernel_rfl) (fun _ _ _ h => h) (Or.inl ⟨by rfl, ?_⟩) ?_ ?_
      rotate_left
      · intro w'
        go_simp
        first | with_reducible rfl | (simp [Instr.field, go_sem]; rfl)
      rotate_left
      · simp only [Act.put, List.setIfInBounds_toArray, List.set_cons_zero, List.set_cons_succ]
        rfl
      refine pure_ (i := 3) (N := some 153) (v := ?_) (a' := ?_) (bt 19 15) rfl rfl (by kernel_rfl) (fun _ _ _ h => h) (Or.inl ⟨by rfl, ?_⟩) ?_ ?_
      rotate_left
      · intro w'
        go_simp
        first | with_reducible rfl | (simp [Instr.field, go_sem]; rfl)
      rotate_left
      · simp only [Act.put, List.setIfInBounds_toArray, List.set_cons_zero, List.set_cons_succ]
        rfl
      refine pure_ (i := 4) (N := some 154) (v := ?_) (a' := ?_) (bt 19 31) rfl rfl (by kernel_rfl) (fun _ _ _ h => h) (Or.inl ⟨by rfl, ?_⟩) ?_ ?_
      rotate_left
      · intro w'
        go_simp
        first | with_reducible rfl | (simp [Instr.field, go_sem]; rfl)
      rotate_left
      · simp only [Act.put, List.setIfInBounds_toArray, List.set_cons_zero, List.set_cons_succ]
        rfl
      refine pure_ (i := 5) (N := some 155) (v := ?_) (a' := ?_) (bt 19 63) rfl rfl (by kernel_rfl) (fun _ _ _ h => h) (Or.inl ⟨by rfl, ?_⟩) ?_ ?_
      rotate_left
      · intro w'
        go_simp
        first | with_reducible rfl | (simp [Instr.field, go_sem]; rfl)
      rotate_left
      · simp only [Act.put, List.setIfInBounds_toArray, List.set_cons_zero, List.set_cons_succ]
        rfl
      refine pure_ (i := 6) (N := some 156) (v := ?_) (a' := ?_) (bt 19 127) rfl rfl (by kernel_rfl) (fun _ _ _ h => h) (Or.inl ⟨by rfl, ?_⟩) ?_ ?_
      rotate_left
      · intro w'
        go_simp
        first | with_reducible rfl | (simp [Instr.field, go_sem]; rfl)
      rotate_left
      · simp only [Act.put, List.setIfInBounds_toArray, List.set_cons_zero, List.set_cons_succ]
        rfl
      refine take_ (i := 7) (N := some 157) (v := ?_) (a' := ?_) (bt 19 255) rfl rfl (by kernel_rfl) (fun _ _ _ h => h) (Or.inl ⟨by rfl, ?_⟩) hHeld ?_ ?_
      rotate_left
      · intro w' hS
        have f1 := pw_cell_below hS (pw_cell_below HB.out E1.out)
        go_simp
        first | with_reducible rfl | (simp [Instr.field, go_sem]; rfl)
      rotate_left
      · simp only [Act.put, List.setIfInBounds_toArray, List.set_cons_zero, List.set_cons_succ]
        rfl
      refine pure_ (i := 8) (N := some 158) (v := ?_) (a' := ?_) (bt 19 511) rfl rfl (by kernel_rfl) (fun _ _ _ h => h) (Or.inl ⟨by rfl, ?_⟩) ?_ ?_
      rotate_left
      · intro w'
        go_simp
        first | with_reducible rfl | (simp [Instr.field, go_sem]; rfl)
      rotate_left
      · simp only [Act.put, List.setIfInBounds_toArray, List.set_cons_zero, List.set_cons_succ]
        rfl
      refine pure_ (i := 9) (N := some 159) (v := ?_) (a' := ?_) (bt 19 1023) rfl rfl (by kernel_rfl) (fun _ _ _ h => h) (Or.inl ⟨by rfl, ?_⟩) ?_ ?_
      rotate_left
      · intro w'
        go_simp
        first | with_reducible rfl | (simp [Instr.field, go_sem]; rfl)
      rotate_left
      · simp only [Act.put, List.setIfInBounds_toArray, List.set_cons_zero, List.set_cons_succ]
        rfl
      refine pure_ (i := 10) (N := some 160) (v := ?_) (a' := ?_) (bt 19 2047) rfl rfl (by kernel_rfl) (fun _ _ _ h => h) (Or.inl ⟨by rfl, ?_⟩) ?_ ?_
      rotate_left
      · intro w'
        go_simp
        first | with_reducible rfl | (simp [Instr.field, go_sem]; rfl)
      rotate_left
      · simp only [Act.put, List.setIfInBounds_toArray, List.set_cons_zero, List.set_cons_succ]
        rfl
      refine pure_ (i := 11) (N := some 161) (v := ?_) (a' := ?_) (bt 19 4095) rfl rfl (by kernel_rfl) (fun _ _ _ h => h) (Or.inl ⟨by rfl, ?_⟩) ?_ ?_
      rotate_left
      · intro w'
        go_simp
        first | with_reducible rfl | (simp [Instr.field, go_sem]; rfl)
      rotate_left
      · simp only [Act.put, List.setIfInBounds_toArray, List.set_cons_zero, List.set_cons_succ]
        rfl
      refine take_ (i := 12) (N := some 162) (v := ?_) (a' := ?_) (bt 19 8191) rfl rfl (by kernel_rfl) (fun _ _ _ h => h) (Or.inl ⟨by rfl, ?_⟩) hHeld ?_ ?_
      rotate_left
      · intro w' hS
        have f2 := pw_cell_below hS (pw_cell_below HB.out E2.out)
        go_simp
        first | with_reducible rfl | (simp [Instr.field, go_sem]; rfl)
      rotate_left
      · simp only [Act.put, List.setIfInBounds_toArray, List.set_cons_zero, List.set_cons_succ]
        rfl
      refine one_ (i := 13) (N := some 163) (bt 19 16383) rfl rfl (by kernel_rfl) (by decide) (fun K hK => ?_)
      refine goes_ Try.func26 (by kernel_rfl) rfl #[.agg csn, .bool b, .int .i64 o.f1, .int .i64 o.f2] (by rfl) rfl rfl (by (try simp only [List.map_toArray, List.map_cons, List.map_nil]); first | done | rfl) ?_
      refine (Fi.rwordsE (Fi.V_below HNn.out.V hHeld) b HI1.out HI2.out HEW.out).mono ?_
      rintro e wy ⟨v3, rfl, ho, hb⟩
      obtain ⟨A9, C9, ev⟩ := Kd.R_slice ho
      subst ev
      have R3 := Aside0.mk ho
      clear ho
      have hb2 := below_step hHeld hb
      refine ⟨_, rfl, ?_⟩
      refine hK.out _ _ hb2 (fun hHeld => ?_)
      clear hK K hb2 hb
      refine norm_ (a' := ?_) ?_ ?_
      rotate_left
      · show Act.put _ (some 163) _ = _
        simp only [Act.put, List.setIfInBounds_toArray, List.set_cons_zero, List.set_cons_succ]
        rfl
      refine pure_ (i := 14) (N := some 149) (v := ?_) (a' := ?_) (bt 19 32767) rfl rfl (by kernel_rfl) (fun _ _ _ h => h) (Or.inl ⟨by rfl, ?_⟩) ?_ ?_
      rotate_left
      · intro w'
        go_simp
        first | with_reducible rfl | (simp [Instr.field, go_sem]; rfl)
      rotate_left
      · simp only [Act.put, List.setIfInBounds_toArray, List.set_cons_zero, List.set_cons_succ]
        rfl
      refine pure_ (i := 15) (N := some 164) (v := ?_) (a' := ?_) (bt 19 65535) rfl rfl (by kernel_rfl) (fun _ _ _ h => h) (Or.inl ⟨by rfl, ?_⟩) ?_ ?_
      rotate_left
      · intro w'
        go_simp
        first | with_reducible rfl | (simp [Instr.field, go_sem]; rfl)
      rotate_left
      · simp only [Act.put, List.setIfInBounds_toArray, List.set_cons_zero, List.set_cons_succ]
        rfl
      refine pure_ (i := 16) (N := some 165) (v := ?_) (a' := ?_) (bt 19 131071) rfl rfl (by kernel_rfl) (fun _ _ _ h => h) (Or.inl ⟨by rfl, ?_⟩) ?_ ?_
      rotate_left
      · intro w'
        go_simp
        first | with_reducible rfl | (simp [Instr.field, go_sem]; rfl)
      rotate_left
      · simp only [Act.put, List.setIfInBounds_toArray, List.set_cons_zero, List.set_cons_succ]
        rfl
      refine pure_ (i := 17) (N := some 18) (v := ?_) (a' := ?_) (bt 19 262143) rfl rfl (by kernel_rfl) (fun _ _ _ h => h) (Or.inl ⟨by rfl, ?_⟩) ?_ ?_
      rotate_left
      · intro w'
        go_simp
        first | with_reducible rfl | (simp [Instr.field, go_sem]; rfl)
      rotate_left
      · simp only [Act.put, List.setIfInBounds_toArray, List.set_cons_zero, List.set_cons_succ]
        rfl
      refine pure_ (i := 18) (N := some 19) (v := ?_) (a' := ?_) (bt 19 524287) rfl rfl (by kernel_rfl) (fun _ _ _ h => h) (Or.inl ⟨by rfl, ?_⟩) ?_ ?_
      rotate_left
      · intro w'
        go_simp
        first | with_reducible rfl | (simp [Instr.field, go_sem]; rfl)
      rotate_left
      · simp only [Act.put, List.setIfInBounds_toArray, List.set_cons_zero, List.set_cons_succ]
        rfl
      refine done_ (by kernel_rfl) ?_
      have hb := hHeld
      clear hHeld
      have n0_ := Aside0.mk (blk_below BKg7.out hb)
      have n1_ := Aside0.mk (below_step HB.out hb)
      have n2_ := Aside0.mk (Fi.N_below HNn.out hb)
      have n3_ := Aside0.mk (Kd.R_below R0.out hb)
      have n4_ := Aside0.mk (Kd.R_below R1.out hb)
      have n5_ := Aside0.mk (Kd.R_below R2.out hb)
      clear BKg7 HB HNn R0 R1 R2
      have BKg7 := n0_
      have HB := n1_
      have HNn := n2_
      have R0 := n3_
      have R1 := n4_
      have R2 := n5_
      clear n0_ n1_ n2_ n3_ n4_ n5_
      clear hb
      generalize wy = wz3 at *
      go_wp2_with (first
        | (go_at_call 13; (with_reducible refine (Fi.sameB (Kd.R_reads' R0.out).2.2 (Kd.R_reads' R0.out).2.1 (Kd.R_reads' R1.out).2.2 (Kd.R_reads' R1.out).2.1 rfl HLB.out).mono ?_); rintro r wp ⟨rfl, hb⟩; have n0_ := Aside0.mk (below_step HB.out hb); have n1_ := Aside0.mk (Fi.N_below HNn.out hb); have n2_ := Aside0.mk (blk_below BKg7.out hb); have n3_ := Aside0.mk (Kd.R_below R2.out hb); have n4_ := Aside0.mk (Kd.R_below R3.out hb); clear HB HNn BKg7 R2 R3; have HB := n0_; have HNn := n1_; have BKg7 := n2_; have R2 := n3_; have R3 := n4_; clear n0_ n1_ n2_ n3_ n4_; clear hb)
        | (go_at_call 14; (with_reducible refine (Fi.sameW (Kd.R_reads' R2.out).2.2 (Kd.R_reads' R2.out).2.1 (Kd.R_reads' R3.out).2.2 (Kd.R_reads' R3.out).2.1 rfl HLW.out).mono ?_); rintro r wq ⟨rfl, hb⟩; have n0_ := Aside0.mk (below_step HB.out hb); have n1_ := Aside0.mk (Fi.N_below HNn.out hb); have n2_ := Aside0.mk (blk_below BKg7.out hb); clear HB HNn BKg7; have HB := n0_; have HNn := n1_; have BKg7 := n2_; clear n0_ n1_ n2_; clear hb))
      go_roundw
      case rel => exact ⟨k + 1, by have := HK.out; omega, by first | rfl | go_num, BKg7, HNn, HB⟩
      case measure => have := HK.out; simp [intOf]; omega

end Go.Proofs.Ytamcpmfimicnjaa.P
