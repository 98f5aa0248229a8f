import Derived.Test.YtedfbemifigoeaaX
import Derived.Test.YtedfbemifigoeaaAa
import Derived.Test.YtedfbemifigoeaaPx0
import Derived.Test.YtedfbemifigoeaaLBase
import Derived.Test.YtedfbemifigoeaaLRefWord
import Derived.Test.YtedfbemifigoeaaLRefBits
import Derived.Test.YtedfbemifigoeaaLWord
import Derived.Test.YtedfbemifigoeaaLBits
namespace Go.Proofs.Ytedfbemifigoeaa.P
open Go.RowKit Go.Proofs.YtedfbemifigoeaaW.PrintWords Go.Proofs.YtedfbemifigoeaaW.PrintLast Go.Proofs.YtedfbemifigoeaaW.PrintMore
attribute [local go_sem] max2_int min2_int max_two min_two max_three min_three max_four min_four   -- for this text's walks alone
set_option linter.unusedVariables false
set_option linter.unusedSimpArgs false

open Go.Proofs.Ytedfbemifigoeaa.L

/-! ### Bytes one behind the other: slices.Grow, slices.Concat -/
theorem As.byte : (Try.prog.info? 5).map (fun i => (i.zero, i.size, i.bytes)) = some (some (.int .u8 0), 1, 1) := by kernel_rfl
theorem As.at_LL {w : World} {A : Option Addr} {n : Nat} {xs : List (List Int)} (h : Kd.C (Kd.slice 5 (Kd.int .u8)) w A n xs) (i : Int) (h0 : 0 ≤ i) (h1 : i < n) : ∃ ad A0 c0, A = some ad ∧ w.cell? (ad.add i.toNat) = some (.slice A0 (xs.getD i.toNat []).length c0) ∧ (xs.getD i.toNat []).length ≤ c0 ∧ (Kd.int .u8).C w A0 (xs.getD i.toNat []).length (xs.getD i.toNat []) := by
  obtain ⟨ad, c, e, _, hK, hc0⟩ := Kd.C_get h ([] : List Int) i h0 h1
  have hc : ∀ j u, c[j]? = some u → w.cell? (ad.add (i.toNat * 1 + j)) = some u := hc0
  obtain ⟨A0, c0, rfl, l0, g0⟩ := hK
  exact ⟨ad, A0, c0, e, by have hq := hc 0 _ rfl; rwa [Nat.mul_one, Nat.add_zero] at hq, l0, g0⟩
def As.upto (l : List (List Int)) (k : Nat) : List Int := (l.take k).flatten
theorem As.upto_all (l : List (List Int)) : As.upto l l.length = l.flatten := by unfold As.upto; rw [List.take_length]
theorem As.fl_snoc (l : List (List Int)) (k : Nat) (h : k < l.length) : As.upto l (k + 1) = As.upto l k ++ l.getD k [] := by
  unfold As.upto
  rw [List.take_succ_eq_append_getElem h, List.flatten_append]
  congr 1
  simp [List.getD, h]
theorem As.fl_le (l : List (List Int)) (k : Nat) : (As.upto l k).length ≤ l.flatten.length := by
  unfold As.upto
  conv => rhs; rw [← List.take_append_drop k l, List.flatten_append, List.length_append]
  omega
set_option maxHeartbeats 4000000 in
set_option maxRecDepth 100000 in
theorem As.grow {n : Int} {w : World} (h0 : 0 < n) (h1 : n ≤ 1000000) : Calls Try.prog 66 #[.slice none 0 0, .int .i64 n] w fun e w' => ∃ v, e = .returned v ∧ (Kd.int .u8).R 5 w' w.heap.size (fun _ => True) v [] ∧ Below w.heap.size w w' := by
  have hu := Try.underlying28
  have d0 : decide (n < 0) = false := decide_eq_false (by omega)
  have d1 : decide (0 < n) = true := decide_eq_true h0
  have hw : IntKind.i64.wrap n = n := by rw [i64_w]; exact w64 (by omega)
  have hn := Aside0.mk h1
  have hn0 := Aside0.mk h0
  have HB := Aside0.mk (Below.refl w.heap.size w)
  clear h0 h1
  go_enter Try.func66, Try.ntmps66
  go_wp2_with (first
    | ((with_reducible refine gate_dst (N := 22) rfl ?_); refine Kd.R_append_zeros (Kd.int .u8) (w0 := w) w.heap.size rfl (.tmp 20) (.tmp 21) 28 3 5 (.int .u8 0) 1 rfl Try.underlying28 Try.underlying3 As.byte rfl (by decide) (by omega) (.slice none 0 0) [] 0 n (fun _ => True) rfl rfl rfl (fun _ _ => trivial) (Kd.R_nil _ _ _ _ _) (by have := hn0.out; omega) HB.out (Nat.le_refl _) (by have := hn.out; simp; omega) ?_; intro v1 w1 ho hb _ _; obtain ⟨A, c, ev⟩ := Kd.R_slice ho; subst ev; have HO := Aside0.mk ho; clear ho HB; have HB := Aside0.mk hb; clear hb))
  go_ret
  exact ⟨_, rfl, Kd.R_take (m := 0) HO.out (Nat.zero_le _), HB.out⟩
set_option maxHeartbeats 8000000 in
set_option maxRecDepth 100000 in
theorem As.concat {A : Option Addr} {c : Nat} {ps : List (List Int)} {w : World} (hr : Kd.C (Kd.slice 5 (Kd.int .u8)) w A ps.length ps) (hc : ps.length ≤ c) (h0 : 0 < ps.flatten.length) (h1 : ps.flatten.length ≤ 1000000) : Calls Try.prog 39 #[.slice A ps.length c] w fun e w' => ∃ v, e = .returned v ∧ (Kd.int .u8).R 5 w' w.heap.size (fun _ => True) v ps.flatten ∧ Below w.heap.size w w' := by
  have hu := Try.underlying28
  have hu2 := Try.underlying98
  have HR := Aside0.mk hr
  have HM := Aside0.mk (Kd.C_max hr)
  have H0 := Aside0.mk h0
  have H1 := Aside0.mk h1
  have HB := Aside0.mk (Below.refl w.heap.size w)
  clear hr h0 h1
  go_enter Try.func39, Try.ntmps39
  go_wp2
  go_loopw [3, 5, 11, 12, 13, 14, 15, 16, 17, 18, 19, 20, 21, 22] (fun v3 v5 v11 v12 v13 v14 v15 v16 v17 v18 v19 v20 v21 v22 wr => ∃ k : Nat, k ≤ ps.length ∧ v11 = .int .i64 k ∧ v3 = .int .i64 ((As.upto ps k).length : Nat) ∧ Aside0 (Below w.heap.size w wr)) (fun _ _ v11 _ _ _ _ _ _ _ _ _ _ _ _ => ps.length + 1 - (intOf v11).toNat)
  case atStart => exact ⟨0, Nat.zero_le _, rfl, rfl, HB⟩
  case round =>
    clear HB
    obtain ⟨k, hk, rfl, rfl, HB⟩ := hrel
    by_cases hlt : k < ps.length
    · obtain ⟨ad, A0, c0, ea, hx, l0, g0⟩ := As.at_LL (Kd.C_below HR.out HB.out) (k : Int) (by omega) (by omega)
      subst ea
      rw [Int.toNat_natCast] at hx l0 g0
      have hs := As.fl_snoc ps k hlt
      have hl := As.fl_le ps (k + 1)
      rw [hs, List.length_append] at hl
      generalize ps.getD k [] = p at *
      have hw : IntKind.i64.wrap (((As.upto ps k).length : Int) + (p.length : Int)) = ((As.upto ps (k + 1)).length : Int) := by
        rw [hs, List.length_append, i64_w, w64 (by have := H1.out; omega)]
        omega
      have hn : decide (((As.upto ps (k + 1)).length : Int) < 0) = false := decide_eq_false (by omega)
      have hk1 : IntKind.i64.wrap ((k : Int) + 1) = (k : Int) + 1 := by rw [i64_w]; exact w64 (by have := HM.out; omega)
      clear hs hl l0 g0
      go_wp2
      go_roundw
      case rel => exact ⟨k + 1, by omega, by go_num, by first | rfl | go_num, HB⟩
      case measure => simp [intOf]; omega
    · obtain rfl : k = ps.length := by omega
      have HS0 := Aside0.mk (show (0 : Int) < ((As.upto ps ps.length).length : Nat) by rw [As.upto_all]; have := H0.out; omega)
      have HS1 := Aside0.mk (show (((As.upto ps ps.length).length : Nat) : Int) ≤ 1000000 by rw [As.upto_all]; have := H1.out; omega)
      go_wp2_with (first
        | (go_at_call 66; (with_reducible refine (As.grow HS0.out HS1.out).mono ?_); rintro r w2 ⟨v, rfl, ho, hb⟩; have HO := Aside0.mk (Kd.R_lower ho HB.out.size); have n0_ := Aside0.mk (below_step HB.out hb); clear HB hb ho; have HB := n0_; clear n0_))
      go_loopw [6, 8, 27, 28, 29, 30, 31, 32, 33, 34] (fun v6 v8 v27 v28 v29 v30 v31 v32 v33 v34 wr => ∃ k : Nat, k ≤ ps.length ∧ v27 = .int .i64 k ∧ Aside0 ((Kd.int .u8).R 5 wr w.heap.size (fun _ => True) v6 (As.upto ps k)) ∧ Aside0 (Below w.heap.size w wr)) (fun _ _ v27 _ _ _ _ _ _ _ _ => ps.length + 1 - (intOf v27).toNat)
      case atStart => exact ⟨0, Nat.zero_le _, rfl, HO, HB⟩
      case round =>
        clear HB HO HS0 HS1
        obtain ⟨k, hk, rfl, HO, HB⟩ := hrel
        obtain ⟨Av, cv, ev⟩ := Kd.R_slice HO.out
        subst ev
        by_cases hlt : k < ps.length
        · obtain ⟨ad, A0, c0, ea, hx, l0, g0⟩ := As.at_LL (Kd.C_below HR.out HB.out) (k : Int) (by omega) (by omega)
          subst ea
          rw [Int.toNat_natCast] at hx l0 g0
          have hs := As.fl_snoc ps k hlt
          have hl := As.fl_le ps (k + 1)
          rw [hs, List.length_append] at hl
          generalize ps.getD k [] = p at *
          have G0 := Aside0.mk g0
          have HL := Aside0.mk (show ((As.upto ps k).length + p.length) * 1 ≤ 140737488355328 by have := H1.out; omega)
          have HS := Aside0.mk hs
          have hk1 : IntKind.i64.wrap ((k : Int) + 1) = (k : Int) + 1 := by rw [i64_w]; exact w64 (by have := HM.out; omega)
          clear hs hl l0 g0
          go_wp2_with (first
            | ((with_reducible refine gate_builtin (b := .append) (xs := #[.tmp 31, .tmp 32]) rfl ?_); at_builtin; refine Kd.R_append_rows (Kd.int .u8) (w0 := w) w.heap.size rfl (.tmp 31) (.tmp 32) 28 5 (.int .u8 0) 1 rfl Try.underlying28 As.byte rfl (by decide) (by omega) _ (As.upto ps k) p _ _ _ (fun _ => True) (fun _ => False) rfl rfl HO.out G0.out (fun _ _ h => h) (fun _ h => h.elim) (fun _ _ => trivial) HB.out HB.out.size HL.out ?_; intro v1 w1 ho hb _ _; have HO2 := Aside0.mk ho; clear ho HB HO; have HB := Aside0.mk hb; clear hb; have HO := HO2; clear HO2))
          go_roundw
          case rel => exact ⟨k + 1, by omega, by go_num, ⟨by rw [HS.out]; exact HO.out⟩, HB⟩
          case measure => simp [intOf]; omega
        · obtain rfl : k = ps.length := by omega
          go_wp2
          go_ret
          exact ⟨_, rfl, by rw [← As.upto_all]; exact HO.out, HB.out⟩

/-! ### ask.Print's closure: numbers behind those that are there -/
theorem As.cell_of {w w1 : World} {a : Addr} (h : w1.heap[a.block]? = w.heap[a.block]?) : w1.cell? a = w.cell? a := by
  unfold World.cell?
  rw [h]
theorem As.add_block (a : Addr) (n : Nat) : (a.add n).block = a.block := by unfold Addr.add; split <;> rfl
theorem As.take_snoc {l : List Int} {k : Nat} (h : k < l.length) : l.take (k + 1) = l.take k ++ [rd l (k : Int)] := by
  rw [List.take_succ_eq_append_getElem h]
  simp [rd, List.getD, h]
theorem As.w16 : (Try.prog.info? 59).map (fun i => (i.zero, i.size, i.bytes)) = some (some (.int .u16 0), 1, 2) := by kernel_rfl
set_option maxHeartbeats 8000000 in
set_option maxRecDepth 100000 in
theorem As.num {A : Option Addr} {c : Nat} {ns xs : List Int} {w w0 : World} {g base : Nat} {v0 : Value} (hn : (Kd.int .i64).C w A ns.length ns) (hA : ∀ ad k, A = some ad → (ad.add k).block ≠ g ∧ some (ad.add k).block ≠ v0.ownBlock) (h16 : ∀ n ∈ ns, 0 ≤ n ∧ n ≤ 65535) (hl : xs.length + ns.length ≤ 1000)
    (hg : w.heap[g]? = some (.cells #[v0] 23 (0, 0))) (hR : (Kd.int .u16).R 59 w base (fun k => k ≠ g) v0 xs) (hb : Below base w0 w) (hbg : base ≤ g) :
    Calls Try.prog 35 #[.slice A ns.length c, .pointer (some ⟨g, 0, none⟩)] w fun e w' => e = .returned (.tuple #[]) ∧ ∃ v, w'.heap[g]? = some (.cells #[v] 23 (0, 0)) ∧ (Kd.int .u16).R 59 w' base (fun k => k ≠ g) v (xs ++ ns) ∧ Below base w0 w' ∧ (∀ q, q < w.heap.size → q ≠ g → some q ≠ v0.ownBlock → w'.heap[q]? = w.heap[q]?) ∧ w.heap.size ≤ w'.heap.size ∧ (v.ownBlock = v0.ownBlock ∨ ∃ b, v.ownBlock = some b ∧ w.heap.size ≤ b) := by
  have hu := Try.underlying23
  have HN := Aside0.mk hn
  have HM := Aside0.mk (Kd.C_max hn)
  have HA := Aside0.mk hA
  have H16 := Aside0.mk h16
  have HL := Aside0.mk hl
  have HBG := Aside0.mk hbg
  have HGW := Aside0.mk (blk_lt hg)
  have GG := Aside0.mk hg
  have HO := Aside0.mk hR
  have HB := Aside0.mk hb
  clear hn hA h16 hl hg hR hb hbg
  go_enter Try.func35, Try.ntmps35
  go_wp2
  go_loopw [4, 7, 8, 9, 10, 11, 12, 13, 14, 15, 16] (fun v4 v7 v8 v9 v10 v11 v12 v13 v14 v15 v16 wr => ∃ (k : Nat) (v : Value), k ≤ ns.length ∧ v7 = .int .i64 k ∧ Aside0 (wr.heap[g]? = some (.cells #[v] 23 (0, 0))) ∧ Aside0 ((Kd.int .u16).R 59 wr base (fun k => k ≠ g) v (xs ++ ns.take k)) ∧ Aside0 (Below base w0 wr) ∧ Aside0 (∀ q, q < w.heap.size → q ≠ g → some q ≠ v0.ownBlock → wr.heap[q]? = w.heap[q]?) ∧ Aside0 (w.heap.size ≤ wr.heap.size) ∧ Aside0 (v.ownBlock = v0.ownBlock ∨ ∃ b, v.ownBlock = some b ∧ w.heap.size ≤ b)) (fun _ v7 _ _ _ _ _ _ _ _ _ _ => ns.length + 1 - (intOf v7).toNat)
  case atStart => exact ⟨0, v0, Nat.zero_le _, rfl, GG, ⟨by simpa using HO.out⟩, HB, ⟨fun _ _ _ _ => rfl⟩, ⟨Nat.le_refl _⟩, ⟨.inl rfl⟩⟩
  case round =>
    clear GG HO HB
    obtain ⟨k, v, hk, rfl, GG, HO, HB, HK, HS, HW⟩ := hrel
    obtain ⟨L, hL⟩ : ∃ L, xs ++ ns.take k = L := ⟨_, rfl⟩
    rw [hL] at HO
    have HLen := Aside0.mk (show L.length = xs.length + k by rw [← hL, List.length_append, List.length_take]; omega)
    have HLD := Aside0.mk hL
    clear hL
    obtain ⟨Av, cv, ev⟩ := Kd.R_slice HO.out
    have HOB := Aside0.mk (HO.out.1)
    subst ev
    have hcell : wr.cell? ⟨g, 0, none⟩ = some _ := (blk_cell GG.out 0).trans rfl
    by_cases hlt : k < ns.length
    · obtain ⟨ad, ea, hx⟩ := Kd.at_int HN.out (k : Int) (by omega) (by omega)
      rw [Int.toNat_natCast] at hx
      have hblk := HA.out ad k ea
      replace hx := (As.cell_of (w := w) (w1 := wr) (a := ad.add k) (HK.out _ (World.block_lt_of_cell? w _ hx) hblk.1 hblk.2)).trans hx
      subst ea
      have hm := H16.out _ (rd_mem (l := ns) (i := (k : Int)) (by omega) (by omega))
      have hw16 : IntKind.u16.wrap (rd ns (k : Int)) = rd ns (k : Int) := by rw [u16w]; omega
      have hsn := Aside0.mk (As.take_snoc hlt)
      have HL2 := Aside0.mk (show (L.length + 1) * 2 ≤ 140737488355328 by have := HLen.out; have := HL.out; omega)
      have hk1 : IntKind.i64.wrap ((k : Int) + 1) = (k : Int) + 1 := by rw [i64_w]; exact w64 (by have := HM.out; omega)
      have HLT := Aside0.mk (blk_lt GG.out)
      clear hm hblk
      go_wp2_with (first
        | ((with_reducible refine gate_dst (N := 14) rfl ?_); (refine Kd.R_lit (Kd.int .u16) base 59 ?hg (N := 14) ?hd (xs := [rd ns (k : Int)]) (inner := [.int .u16 (rd ns (k : Int))]) (ok := fun k => k ≠ g) (okp := fun _ => False) ?hr ?hp (fun _ hk => hk.elim) ?hf HB.out (by have h1 := HLT.out; have h2 := HBG.out; omega) (by simp) ?_); (case hd => rfl); (case hg => rfl); (case hr => first | (go_simp; done) | (go_simp; rfl)); (case hp => exact (Reps.one (show Kd.M (Kd.int .u16) _ _ _ (rd ns (k : Int)) [.int .u16 (rd ns (k : Int))] from rfl) (Reps.none _ _))); (case hf => have := HLT.out; omega); intro v1 w1 ho hb hgr _; have n0_ := Aside0.mk ho; have n1_ := Aside0.mk hb; have n2_ := Aside0.mk (Kd.R_grown HO.out hgr (fun _ _ => by simp)); have n3_ := Aside0.mk (blk_grown GG.out hgr (by simp)); have n4_ := Aside0.mk (fun q h1 h2 h3 => (hgr.block q (Nat.lt_of_lt_of_le h1 HS.out) (by simp)).trans (HK.out q h1 h2 h3)); have n5_ := Aside0.mk (Nat.le_trans HS.out hgr.size); clear HO HB GG HK HS hcell hx; have HO := n2_; have HB := n1_; have GG := n3_; have H1 := n0_; have HK := n4_; have HS := n5_; clear n0_ n1_ n2_ n3_ n4_ n5_ ho hb hgr; obtain ⟨A1, c1, e1⟩ := Kd.R_slice H1.out; subst e1)
        | ((with_reducible refine gate_builtin (b := .append) (xs := #[.tmp 11, .tmp 14]) rfl ?_); at_builtin; refine Kd.R_append_rows (Kd.int .u16) (w0 := w0) base rfl (.tmp 11) (.tmp 14) 23 59 (.int .u16 0) 2 rfl Try.underlying23 As.w16 rfl (by decide) (by omega) _ L [rd ns (k : Int)] _ _ _ (fun k => k ≠ g) (fun _ => False) rfl rfl HO.out (Kd.R_reads' H1.out).2.2 (fun _ _ h => h) (fun _ h => h.elim) (fun q hq he => by have := blk_lt GG.out; omega) HB.out (by have h1 := blk_lt GG.out; have h2 := HBG.out; omega) HL2.out ?_; intro v2 w2 ho hb hgr hw2; replace hgr : w1.grownBy w2 (Value.slice Av L.length cv).ownBlock := hgr; replace hw2 : v2.ownBlock = (Value.slice Av L.length cv).ownBlock ∨ ∃ b, v2.ownBlock = some b ∧ w1.heap.size ≤ b := hw2; have n0_ := Aside0.mk ho; have n1_ := Aside0.mk hb; have n2_ := Aside0.mk (blk_grown GG.out hgr (fun h => (HOB.out g h.symm) rfl)); have n4_ := Aside0.mk (fun q h1 h2 h3 => (hgr.block q (Nat.lt_of_lt_of_le h1 HS.out) (fun he => HW.out.elim (fun e => h3 (he.trans e)) (fun ⟨b, e, hb⟩ => by rw [e] at he; injection he with he; omega))).trans (HK.out q h1 h2 h3)); have n5_ := Aside0.mk (Nat.le_trans HS.out hgr.size); have n6_ := Aside0.mk (show v2.ownBlock = v0.ownBlock ∨ ∃ b, v2.ownBlock = some b ∧ w.heap.size ≤ b from hw2.elim (fun e => HW.out.elim (fun e2 => .inl (e.trans e2)) (fun ⟨b, e2, hb⟩ => .inr ⟨b, e.trans e2, hb⟩)) (fun ⟨b, e, hb⟩ => .inr ⟨b, e, Nat.le_trans HS.out hb⟩)); clear HB GG HO HK HS HW H1; have HO := n0_; have HB := n1_; have GG := n2_; have HK := n4_; have HS := n5_; have HW := n6_; clear n0_ n1_ n2_ n4_ n5_ n6_ ho hb hgr hw2; have hcell2 := (blk_cell GG.out 0).trans rfl; have hfz2 := blk_frozen GG.out 0; obtain ⟨A2, c2, e2⟩ := Kd.R_slice HO.out; subst e2))
      have hgs := As.grown_set w2 g 0 (.slice A2 (L ++ [rd ns (k : Int)]).length c2)
      have HO2 : (Kd.int .u16).R 59 (w2.setCell ⟨g, 0, none⟩ (.slice A2 (L ++ [rd ns (k : Int)]).length c2)) base (fun k => k ≠ g) (.slice A2 (L ++ [rd ns (k : Int)]).length c2) (xs ++ ns.take (k + 1)) := by
        rw [hsn.out, ← List.append_assoc, HLD.out]
        exact Kd.R_far HO.out (fun k hk => hk) _
      have n0_ : Aside0 ((w2.setCell ⟨g, 0, none⟩ (.slice A2 (L ++ [rd ns (k : Int)]).length c2)).heap[g]? = some (.cells #[.slice A2 (L ++ [rd ns (k : Int)]).length c2] 23 (0, 0))) := ⟨blk_put GG.out 0 _ rfl⟩
      have n1_ : Aside0 (Below base w0 (w2.setCell ⟨g, 0, none⟩ (.slice A2 (L ++ [rd ns (k : Int)]).length c2))) := ⟨HB.out.setCell HBG.out _⟩
      have n2_ := Aside0.mk (fun q h1 h2 h3 => (hgs.block q (Nat.lt_of_lt_of_le h1 HS.out) (fun he => h2 (Option.some.inj he))).trans (HK.out q h1 h2 h3))
      have n3_ := Aside0.mk (Nat.le_trans HS.out hgs.size)
      have hle : (L ++ [rd ns (k : Int)]).length = L.length + 1 := by simp
      rw [hle] at HO2 n0_ n1_ n2_ n3_ HW
      clear hgs
      go_roundw
      case rel => exact ⟨k + 1, _, by omega, by go_num, n0_, ⟨HO2⟩, n1_, n2_, n3_, HW⟩
      case measure => simp [intOf]; omega
    · obtain rfl : k = ns.length := by omega
      go_wp2
      go_end0
      have hLe := HLD.out
      rw [List.take_length] at hLe
      subst hLe
      exact ⟨rfl, _, GG.out, HO.out, HB.out, HK.out, HS.out, HW.out⟩

/-! ### What a call makes of words, of bits; bytes with their number ahead -/
theorem As.puts {A : Option Addr} {c : Nat} {l : List Int} {w : World} (hr : (Kd.int .u16).C w A l.length l) (hc : l.length ≤ c) (h16 : ∀ n ∈ l, 0 ≤ n ∧ n ≤ 65535) (hl : l.length ≤ 1000000) : Calls Try.prog 37 #[.slice A l.length c] w fun e w' => ∃ v, e = .returned v ∧ (Kd.int .u8).R 5 w' w.heap.size (fun _ => True) v (putW l) ∧ Below w.heap.size w w' :=
  word_Put.calls A c l _ w hr hc (put_eq (fun x hx => by have := h16 x hx; exact ⟨this.1, by omega⟩) (by omega))
theorem As.packs {A : Option Addr} {c : Nat} {l : List Bool} {w : World} (hr : Kd.bool.C w A l.length l) (hc : l.length ≤ c) (hl : l.length ≤ 1000000) : Calls Try.prog 38 #[.slice A l.length c] w fun e w' => ∃ v, e = .returned v ∧ (Kd.int .u8).R 5 w' w.heap.size (fun _ => True) v (pk l) ∧ Below w.heap.size w w' :=
  bits_Pack.calls (l.length + 1) A c l _ w hr hc (pack_eq hl (by omega))
theorem As.rputs {A : Option Addr} {c : Nat} {l : List Int} {w : World} (hr : (Kd.int .u16).C w A l.length l) (hc : l.length ≤ c) (h16 : ∀ n ∈ l, 0 ≤ n ∧ n ≤ 65535) (hl : l.length ≤ 1000000) : Calls Try.prog 41 #[.slice A l.length c] w fun e w' => ∃ v, e = .returned v ∧ (Kd.int .u8).R 5 w' w.heap.size (fun _ => True) v (putW l) ∧ Below w.heap.size w w' :=
  bilgeref01_Put.calls (l.length + 1) A c l _ w hr hc (rput_eq (fun x hx => by have := h16 x hx; exact ⟨this.1, by omega⟩) (by omega) (by omega))
theorem As.rpacks {A : Option Addr} {c : Nat} {l : List Bool} {w : World} (hr : Kd.bool.C w A l.length l) (hc : l.length ≤ c) (hl : l.length ≤ 1000000) : Calls Try.prog 40 #[.slice A l.length c] w fun e w' => ∃ v, e = .returned v ∧ (Kd.int .u8).R 5 w' w.heap.size (fun _ => True) v (pk l) ∧ Below w.heap.size w w' :=
  bilgeref02_Pack.calls (l.length + 1) A c l _ w hr hc (rpack_eq hl (by omega))
set_option maxHeartbeats 4000000 in
set_option maxRecDepth 100000 in
theorem As.sizes {A : Option Addr} {c : Nat} {l : List Int} {w : World} (hr : (Kd.int .u8).C w A l.length l) (hc : l.length ≤ c) (hl : l.length ≤ 1000000) : Calls Try.prog 36 #[.slice A l.length c] w fun e w' => ∃ v, e = .returned v ∧ (Kd.int .u8).R 5 w' w.heap.size (fun _ => True) v (As.sized l) ∧ Below w.heap.size w w' := by
  have hu := Try.underlying28
  have HR := Aside0.mk hr
  have HL := Aside0.mk hl
  have HB := Aside0.mk (Below.refl w.heap.size w)
  have hw : IntKind.u8.wrap (l.length : Int) = (l.length : Int) % 256 := by simp [IntKind.wrap, IntKind.bits, IntKind.signed]
  clear hr hl
  go_enter Try.func36, Try.ntmps36
  go_wp2_with (first
    | ((with_reducible refine gate_dst (N := 6) rfl ?_); refine Kd.R_lit (Kd.int .u8) w.heap.size 5 ?hg (N := 6) ?hd (xs := [(l.length : Int) % 256]) (inner := [.int .u8 ((l.length : Int) % 256)]) (ok := fun _ => True) (okp := fun _ => False) ?hr ?hp (fun _ hk => hk.elim) trivial HB.out HB.out.size (by simp) ?_; (case hd => rfl); (case hg => rfl); (case hr => first | (go_simp; done) | (go_simp; rfl)); (case hp => exact (Reps.one (show Kd.M (Kd.int .u8) _ _ _ ((l.length : Int) % 256) [.int .u8 ((l.length : Int) % 256)] from rfl) (Reps.none _ _))); intro v1 w1 ho hb hgr _; have H1 := Aside0.mk ho; have HRn := Aside0.mk (Kd.C_below HR.out (show Below w.heap.size w w1 from hb)); clear HB HR ho hgr; have HB := Aside0.mk hb; have HR := HRn; clear hb HRn; obtain ⟨A1, c1, e1⟩ := Kd.R_slice H1.out; subst e1)
    | ((with_reducible refine gate_builtin (b := .append) (xs := #[.tmp 6, .tmp 7]) rfl ?_); at_builtin; refine Kd.R_append_rows (Kd.int .u8) (w0 := w) w.heap.size rfl (.tmp 6) (.tmp 7) 28 5 (.int .u8 0) 1 rfl Try.underlying28 As.byte rfl (by decide) (by omega) _ [(l.length : Int) % 256] l _ _ _ (fun _ => True) (fun _ => False) rfl rfl H1.out HR.out (fun _ _ h => h) (fun _ h => h.elim) (fun _ _ => trivial) HB.out HB.out.size (by have := HL.out; simp; omega) ?_; intro v2 w2 ho hb _ _; have HO := Aside0.mk ho; clear ho HB H1; have HB := Aside0.mk hb; clear hb))
  go_ret
  exact ⟨_, rfl, HO.out, HB.out⟩

theorem As.rel {x : S25} (h : As.right x = true) : As.known x.f0 = true ∧ As.in x.f1 0 65535 = true ∧ As.asked x = true := by
  simp only [As.right, Bool.and_eq_true] at h
  exact ⟨h.1.1.1, h.1.2, h.2⟩
theorem As.in_iff {n p q : Int} (h : As.in n p q = true) : p ≤ n ∧ n ≤ q := by
  simpa only [As.in, Bool.and_eq_true, decide_eq_true_eq] using h
theorem As.facts {x : S25} (h : As.right x = true) : IntKind.u8.wrap x.f0 = x.f0 ∧ (1 ≤ x.f0 ∧ x.f0 ≤ 23) ∧ (((x.f0 == 1) = true ∧ (x.f0 == 2) = false ∧ (x.f0 == 3) = false ∧ (x.f0 == 4) = false ∧ (x.f0 == 5) = false ∧ (x.f0 == 6) = false ∧ (x.f0 == 15) = false ∧ (x.f0 == 16) = false ∧ (x.f0 == 22) = false ∧ (x.f0 == 23) = false ∧ As.nums x = [x.f1, x.f2] ∧ As.rest x = [] ∧ ((0 ≤ x.f1 ∧ x.f1 ≤ 65535) ∧ (0 ≤ x.f2 ∧ x.f2 ≤ 65535)) ∧ True) ∨ ((x.f0 == 1) = false ∧ (x.f0 == 2) = true ∧ (x.f0 == 3) = false ∧ (x.f0 == 4) = false ∧ (x.f0 == 5) = false ∧ (x.f0 == 6) = false ∧ (x.f0 == 15) = false ∧ (x.f0 == 16) = false ∧ (x.f0 == 22) = false ∧ (x.f0 == 23) = false ∧ As.nums x = [x.f1, x.f2] ∧ As.rest x = [] ∧ ((0 ≤ x.f1 ∧ x.f1 ≤ 65535) ∧ (0 ≤ x.f2 ∧ x.f2 ≤ 65535)) ∧ True) ∨ ((x.f0 == 1) = false ∧ (x.f0 == 2) = false ∧ (x.f0 == 3) = true ∧ (x.f0 == 4) = false ∧ (x.f0 == 5) = false ∧ (x.f0 == 6) = false ∧ (x.f0 == 15) = false ∧ (x.f0 == 16) = false ∧ (x.f0 == 22) = false ∧ (x.f0 == 23) = false ∧ As.nums x = [x.f1, x.f2] ∧ As.rest x = [] ∧ ((0 ≤ x.f1 ∧ x.f1 ≤ 65535) ∧ (0 ≤ x.f2 ∧ x.f2 ≤ 65535)) ∧ True) ∨ ((x.f0 == 1) = false ∧ (x.f0 == 2) = false ∧ (x.f0 == 3) = false ∧ (x.f0 == 4) = true ∧ (x.f0 == 5) = false ∧ (x.f0 == 6) = false ∧ (x.f0 == 15) = false ∧ (x.f0 == 16) = false ∧ (x.f0 == 22) = false ∧ (x.f0 == 23) = false ∧ As.nums x = [x.f1, x.f2] ∧ As.rest x = [] ∧ ((0 ≤ x.f1 ∧ x.f1 ≤ 65535) ∧ (0 ≤ x.f2 ∧ x.f2 ≤ 65535)) ∧ True) ∨ ((x.f0 == 1) = false ∧ (x.f0 == 2) = false ∧ (x.f0 == 3) = false ∧ (x.f0 == 4) = false ∧ (x.f0 == 5) = true ∧ (x.f0 == 6) = false ∧ (x.f0 == 15) = false ∧ (x.f0 == 16) = false ∧ (x.f0 == 22) = false ∧ (x.f0 == 23) = false ∧ As.nums x = [x.f1, x.f3] ∧ As.rest x = [] ∧ ((0 ≤ x.f1 ∧ x.f1 ≤ 65535) ∧ (0 ≤ x.f3 ∧ x.f3 ≤ 65535)) ∧ True) ∨ ((x.f0 == 1) = false ∧ (x.f0 == 2) = false ∧ (x.f0 == 3) = false ∧ (x.f0 == 4) = false ∧ (x.f0 == 5) = false ∧ (x.f0 == 6) = true ∧ (x.f0 == 15) = false ∧ (x.f0 == 16) = false ∧ (x.f0 == 22) = false ∧ (x.f0 == 23) = false ∧ As.nums x = [x.f1, x.f3] ∧ As.rest x = [] ∧ ((0 ≤ x.f1 ∧ x.f1 ≤ 65535) ∧ (0 ≤ x.f3 ∧ x.f3 ≤ 65535)) ∧ True) ∨ ((x.f0 == 1) = false ∧ (x.f0 == 2) = false ∧ (x.f0 == 3) = false ∧ (x.f0 == 4) = false ∧ (x.f0 == 5) = false ∧ (x.f0 == 6) = false ∧ (x.f0 == 15) = true ∧ (x.f0 == 16) = false ∧ (x.f0 == 22) = false ∧ (x.f0 == 23) = false ∧ As.nums x = [x.f1, x.f2] ∧ As.rest x = As.sized (pk x.f8) ∧ ((0 ≤ x.f1 ∧ x.f1 ≤ 65535) ∧ (0 ≤ x.f2 ∧ x.f2 ≤ 65535)) ∧ x.f8.length ≤ 2000) ∨ ((x.f0 == 1) = false ∧ (x.f0 == 2) = false ∧ (x.f0 == 3) = false ∧ (x.f0 == 4) = false ∧ (x.f0 == 5) = false ∧ (x.f0 == 6) = false ∧ (x.f0 == 15) = false ∧ (x.f0 == 16) = true ∧ (x.f0 == 22) = false ∧ (x.f0 == 23) = false ∧ As.nums x = [x.f1, x.f2] ∧ As.rest x = As.sized (putW x.f9) ∧ ((0 ≤ x.f1 ∧ x.f1 ≤ 65535) ∧ (0 ≤ x.f2 ∧ x.f2 ≤ 65535)) ∧ (x.f9.length ≤ 1000 ∧ (x.f9.length : Int) = x.f2)) ∨ ((x.f0 == 1) = false ∧ (x.f0 == 2) = false ∧ (x.f0 == 3) = false ∧ (x.f0 == 4) = false ∧ (x.f0 == 5) = false ∧ (x.f0 == 6) = false ∧ (x.f0 == 15) = false ∧ (x.f0 == 16) = false ∧ (x.f0 == 22) = true ∧ (x.f0 == 23) = false ∧ As.nums x = [x.f1, x.f4, x.f5] ∧ As.rest x = [] ∧ ((0 ≤ x.f1 ∧ x.f1 ≤ 65535) ∧ (0 ≤ x.f4 ∧ x.f4 ≤ 65535) ∧ (0 ≤ x.f5 ∧ x.f5 ≤ 65535)) ∧ True) ∨ ((x.f0 == 1) = false ∧ (x.f0 == 2) = false ∧ (x.f0 == 3) = false ∧ (x.f0 == 4) = false ∧ (x.f0 == 5) = false ∧ (x.f0 == 6) = false ∧ (x.f0 == 15) = false ∧ (x.f0 == 16) = false ∧ (x.f0 == 22) = false ∧ (x.f0 == 23) = true ∧ As.nums x = [x.f6, x.f7, x.f1, x.f2] ∧ As.rest x = As.sized (putW x.f9) ∧ ((0 ≤ x.f6 ∧ x.f6 ≤ 65535) ∧ (0 ≤ x.f7 ∧ x.f7 ≤ 65535) ∧ (0 ≤ x.f1 ∧ x.f1 ≤ 65535) ∧ (0 ≤ x.f2 ∧ x.f2 ≤ 65535)) ∧ (x.f9.length ≤ 1000 ∧ (x.f9.length : Int) = x.f2))) := by
  obtain ⟨hk, hi, ha⟩ := As.rel h
  have hi2 := As.in_iff hi
  have h8 : ∀ n : Int, 1 ≤ n ∧ n ≤ 23 → IntKind.u8.wrap n = n := fun n hn => by
    have : IntKind.u8.wrap n = n % 256 := by simp [IntKind.wrap, IntKind.bits, IntKind.signed]
    rw [this]
    omega
  rcases As.cases x.f0 with ⟨dk, d1, d2, d3, d4, d5, d6, d15, d16, d22, d23⟩ | ⟨dk, d1, d2, d3, d4, d5, d6, d15, d16, d22, d23⟩ | ⟨dk, d1, d2, d3, d4, d5, d6, d15, d16, d22, d23⟩ | ⟨dk, d1, d2, d3, d4, d5, d6, d15, d16, d22, d23⟩ | ⟨dk, d1, d2, d3, d4, d5, d6, d15, d16, d22, d23⟩ | ⟨dk, d1, d2, d3, d4, d5, d6, d15, d16, d22, d23⟩ | ⟨dk, d1, d2, d3, d4, d5, d6, d15, d16, d22, d23⟩ | ⟨dk, d1, d2, d3, d4, d5, d6, d15, d16, d22, d23⟩ | ⟨dk, d1, d2, d3, d4, d5, d6, d15, d16, d22, d23⟩ | ⟨dk, d1, d2, d3, d4, d5, d6, d15, d16, d22, d23⟩ | ⟨dk, d1, d2, d3, d4, d5, d6, d15, d16, d22, d23⟩
  · have e0 : x.f0 = 1 := by simpa using d1
    simp only [As.asked, d1, d2, d3, d4, d5, d6, d15, d16, d22, d23, Bool.false_or, Bool.or_false, Bool.true_or, Bool.or_true, Bool.false_eq_true, if_true, if_false, Bool.and_eq_true, Bool.or_eq_true, beq_iff_eq] at ha
    have q1 := As.in_iff ha
    refine ⟨h8 _ (by omega), by omega, .inl ⟨d1, d2, d3, d4, d5, d6, d15, d16, d22, d23, by simp only [As.nums, d1, d2, d3, d4, d5, d6, d15, d16, d22, d23, Bool.false_or, Bool.or_false, Bool.true_or, Bool.or_true, Bool.false_eq_true, if_true, if_false], by simp only [As.rest, d1, d2, d3, d4, d5, d6, d15, d16, d22, d23, Bool.false_or, Bool.or_false, Bool.true_or, Bool.or_true, Bool.false_eq_true, if_true, if_false], ⟨by omega, by omega⟩, trivial⟩⟩
  · have e0 : x.f0 = 2 := by simpa using d2
    simp only [As.asked, d1, d2, d3, d4, d5, d6, d15, d16, d22, d23, Bool.false_or, Bool.or_false, Bool.true_or, Bool.or_true, Bool.false_eq_true, if_true, if_false, Bool.and_eq_true, Bool.or_eq_true, beq_iff_eq] at ha
    have q1 := As.in_iff ha
    refine ⟨h8 _ (by omega), by omega, .inr (.inl ⟨d1, d2, d3, d4, d5, d6, d15, d16, d22, d23, by simp only [As.nums, d1, d2, d3, d4, d5, d6, d15, d16, d22, d23, Bool.false_or, Bool.or_false, Bool.true_or, Bool.or_true, Bool.false_eq_true, if_true, if_false], by simp only [As.rest, d1, d2, d3, d4, d5, d6, d15, d16, d22, d23, Bool.false_or, Bool.or_false, Bool.true_or, Bool.or_true, Bool.false_eq_true, if_true, if_false], ⟨by omega, by omega⟩, trivial⟩)⟩
  · have e0 : x.f0 = 3 := by simpa using d3
    simp only [As.asked, d1, d2, d3, d4, d5, d6, d15, d16, d22, d23, Bool.false_or, Bool.or_false, Bool.true_or, Bool.or_true, Bool.false_eq_true, if_true, if_false, Bool.and_eq_true, Bool.or_eq_true, beq_iff_eq] at ha
    have q1 := As.in_iff ha
    refine ⟨h8 _ (by omega), by omega, .inr (.inr (.inl ⟨d1, d2, d3, d4, d5, d6, d15, d16, d22, d23, by simp only [As.nums, d1, d2, d3, d4, d5, d6, d15, d16, d22, d23, Bool.false_or, Bool.or_false, Bool.true_or, Bool.or_true, Bool.false_eq_true, if_true, if_false], by simp only [As.rest, d1, d2, d3, d4, d5, d6, d15, d16, d22, d23, Bool.false_or, Bool.or_false, Bool.true_or, Bool.or_true, Bool.false_eq_true, if_true, if_false], ⟨by omega, by omega⟩, trivial⟩))⟩
  · have e0 : x.f0 = 4 := by simpa using d4
    simp only [As.asked, d1, d2, d3, d4, d5, d6, d15, d16, d22, d23, Bool.false_or, Bool.or_false, Bool.true_or, Bool.or_true, Bool.false_eq_true, if_true, if_false, Bool.and_eq_true, Bool.or_eq_true, beq_iff_eq] at ha
    have q1 := As.in_iff ha
    refine ⟨h8 _ (by omega), by omega, .inr (.inr (.inr (.inl ⟨d1, d2, d3, d4, d5, d6, d15, d16, d22, d23, by simp only [As.nums, d1, d2, d3, d4, d5, d6, d15, d16, d22, d23, Bool.false_or, Bool.or_false, Bool.true_or, Bool.or_true, Bool.false_eq_true, if_true, if_false], by simp only [As.rest, d1, d2, d3, d4, d5, d6, d15, d16, d22, d23, Bool.false_or, Bool.or_false, Bool.true_or, Bool.or_true, Bool.false_eq_true, if_true, if_false], ⟨by omega, by omega⟩, trivial⟩)))⟩
  · have e0 : x.f0 = 5 := by simpa using d5
    simp only [As.asked, d1, d2, d3, d4, d5, d6, d15, d16, d22, d23, Bool.false_or, Bool.or_false, Bool.true_or, Bool.or_true, Bool.false_eq_true, if_true, if_false, Bool.and_eq_true, Bool.or_eq_true, beq_iff_eq] at ha
    have q1 : x.f3 = 0 ∨ x.f3 = 65280 := ha
    refine ⟨h8 _ (by omega), by omega, .inr (.inr (.inr (.inr (.inl ⟨d1, d2, d3, d4, d5, d6, d15, d16, d22, d23, by simp only [As.nums, d1, d2, d3, d4, d5, d6, d15, d16, d22, d23, Bool.false_or, Bool.or_false, Bool.true_or, Bool.or_true, Bool.false_eq_true, if_true, if_false], by simp only [As.rest, d1, d2, d3, d4, d5, d6, d15, d16, d22, d23, Bool.false_or, Bool.or_false, Bool.true_or, Bool.or_true, Bool.false_eq_true, if_true, if_false], ⟨by omega, by omega⟩, trivial⟩))))⟩
  · have e0 : x.f0 = 6 := by simpa using d6
    simp only [As.asked, d1, d2, d3, d4, d5, d6, d15, d16, d22, d23, Bool.false_or, Bool.or_false, Bool.true_or, Bool.or_true, Bool.false_eq_true, if_true, if_false, Bool.and_eq_true, Bool.or_eq_true, beq_iff_eq] at ha
    have q1 := As.in_iff ha
    refine ⟨h8 _ (by omega), by omega, .inr (.inr (.inr (.inr (.inr (.inl ⟨d1, d2, d3, d4, d5, d6, d15, d16, d22, d23, by simp only [As.nums, d1, d2, d3, d4, d5, d6, d15, d16, d22, d23, Bool.false_or, Bool.or_false, Bool.true_or, Bool.or_true, Bool.false_eq_true, if_true, if_false], by simp only [As.rest, d1, d2, d3, d4, d5, d6, d15, d16, d22, d23, Bool.false_or, Bool.or_false, Bool.true_or, Bool.or_true, Bool.false_eq_true, if_true, if_false], ⟨by omega, by omega⟩, trivial⟩)))))⟩
  · have e0 : x.f0 = 15 := by simpa using d15
    simp only [As.asked, d1, d2, d3, d4, d5, d6, d15, d16, d22, d23, Bool.false_or, Bool.or_false, Bool.true_or, Bool.or_true, Bool.false_eq_true, if_true, if_false, Bool.and_eq_true, Bool.or_eq_true, beq_iff_eq] at ha
    have q1 := As.in_iff ha.1
    have q2 := ha.2
    refine ⟨h8 _ (by omega), by omega, .inr (.inr (.inr (.inr (.inr (.inr (.inl ⟨d1, d2, d3, d4, d5, d6, d15, d16, d22, d23, by simp only [As.nums, d1, d2, d3, d4, d5, d6, d15, d16, d22, d23, Bool.false_or, Bool.or_false, Bool.true_or, Bool.or_true, Bool.false_eq_true, if_true, if_false], by simp only [As.rest, d1, d2, d3, d4, d5, d6, d15, d16, d22, d23, Bool.false_or, Bool.or_false, Bool.true_or, Bool.or_true, Bool.false_eq_true, if_true, if_false], ⟨by omega, by omega⟩, by omega⟩))))))⟩
  · have e0 : x.f0 = 16 := by simpa using d16
    simp only [As.asked, d1, d2, d3, d4, d5, d6, d15, d16, d22, d23, Bool.false_or, Bool.or_false, Bool.true_or, Bool.or_true, Bool.false_eq_true, if_true, if_false, Bool.and_eq_true, Bool.or_eq_true, beq_iff_eq] at ha
    have q1 := As.in_iff ha.1
    have q2 := ha.2
    refine ⟨h8 _ (by omega), by omega, .inr (.inr (.inr (.inr (.inr (.inr (.inr (.inl ⟨d1, d2, d3, d4, d5, d6, d15, d16, d22, d23, by simp only [As.nums, d1, d2, d3, d4, d5, d6, d15, d16, d22, d23, Bool.false_or, Bool.or_false, Bool.true_or, Bool.or_true, Bool.false_eq_true, if_true, if_false], by simp only [As.rest, d1, d2, d3, d4, d5, d6, d15, d16, d22, d23, Bool.false_or, Bool.or_false, Bool.true_or, Bool.or_true, Bool.false_eq_true, if_true, if_false], ⟨by omega, by omega⟩, ⟨by omega, q2⟩⟩)))))))⟩
  · have e0 : x.f0 = 22 := by simpa using d22
    simp only [As.asked, d1, d2, d3, d4, d5, d6, d15, d16, d22, d23, Bool.false_or, Bool.or_false, Bool.true_or, Bool.or_true, Bool.false_eq_true, if_true, if_false, Bool.and_eq_true, Bool.or_eq_true, beq_iff_eq] at ha
    have q1 := As.in_iff ha.1
    have q2 := As.in_iff ha.2
    refine ⟨h8 _ (by omega), by omega, .inr (.inr (.inr (.inr (.inr (.inr (.inr (.inr (.inl ⟨d1, d2, d3, d4, d5, d6, d15, d16, d22, d23, by simp only [As.nums, d1, d2, d3, d4, d5, d6, d15, d16, d22, d23, Bool.false_or, Bool.or_false, Bool.true_or, Bool.or_true, Bool.false_eq_true, if_true, if_false], by simp only [As.rest, d1, d2, d3, d4, d5, d6, d15, d16, d22, d23, Bool.false_or, Bool.or_false, Bool.true_or, Bool.or_true, Bool.false_eq_true, if_true, if_false], ⟨by omega, by omega, by omega⟩, trivial⟩))))))))⟩
  · have e0 : x.f0 = 23 := by simpa using d23
    simp only [As.asked, d1, d2, d3, d4, d5, d6, d15, d16, d22, d23, Bool.false_or, Bool.or_false, Bool.true_or, Bool.or_true, Bool.false_eq_true, if_true, if_false, Bool.and_eq_true, Bool.or_eq_true, beq_iff_eq] at ha
    have q1 := As.in_iff ha.1.1.1
    have q2 := As.in_iff ha.1.1.2
    have q3 := As.in_iff ha.1.2
    have q4 := ha.2
    refine ⟨h8 _ (by omega), by omega, .inr (.inr (.inr (.inr (.inr (.inr (.inr (.inr (.inr ⟨d1, d2, d3, d4, d5, d6, d15, d16, d22, d23, by simp only [As.nums, d1, d2, d3, d4, d5, d6, d15, d16, d22, d23, Bool.false_or, Bool.or_false, Bool.true_or, Bool.or_true, Bool.false_eq_true, if_true, if_false], by simp only [As.rest, d1, d2, d3, d4, d5, d6, d15, d16, d22, d23, Bool.false_or, Bool.or_false, Bool.true_or, Bool.or_true, Bool.false_eq_true, if_true, if_false], ⟨by omega, by omega, by omega, by omega⟩, ⟨by omega, q4⟩⟩))))))))⟩
  · exact absurd (dk.symm.trans hk) (by decide)

end Go.Proofs.Ytedfbemifigoeaa.P
