import Derived.Test.YtedfbemifigoeaaX
import Derived.Test.YtedfbemifigoeaaAa
import Derived.Test.YtedfbemifigoeaaPx0
import Derived.Test.YtedfbemifigoeaaLBase
namespace Go.Proofs.Ytedfbemifigoeaa.P
open Go.RowKit Go.Proofs.YtedfbemifigoeaaW.PrintWords Go.Proofs.YtedfbemifigoeaaW.PrintLast Go.Proofs.YtedfbemifigoeaaW.PrintMore
attribute [local go_sem] max2_int min2_int max_two min_two max_three min_three max_four min_four   -- for this text's walks alone
set_option linter.unusedVariables false
set_option linter.unusedSimpArgs false

open Go.Proofs.Ytedfbemifigoeaa.L

/-! ### ask.Print's closure: numbers behind those that are there -/
theorem As.cell_of {w w1 : World} {a : Addr} (h : w1.heap[a.block]? = w.heap[a.block]?) : w1.cell? a = w.cell? a := by
  unfold World.cell?
  rw [h]
theorem As.add_block (a : Addr) (n : Nat) : (a.add n).block = a.block := by unfold Addr.add; split <;> rfl
theorem As.take_snoc {l : List Int} {k : Nat} (h : k < l.length) : l.take (k + 1) = l.take k ++ [rd l (k : Int)] := by
  rw [List.take_succ_eq_append_getElem h]
  simp [rd, List.getD, h]
theorem As.w16 : (Try.prog.info? 59).map (fun i => (i.zero, i.size, i.bytes)) = some (some (.int .u16 0), 1, 2) := by kernel_rfl
set_option maxHeartbeats 8000000 in
set_option maxRecDepth 100000 in
theorem As.num {A : Option Addr} {c : Nat} {ns xs : List Int} {w w0 : World} {g base : Nat} {v0 : Value} (hn : (Kd.int .i64).C w A ns.length ns) (hA : ∀ ad k, A = some ad → (ad.add k).block ≠ g ∧ some (ad.add k).block ≠ v0.ownBlock) (h16 : ∀ n ∈ ns, 0 ≤ n ∧ n ≤ 65535) (hl : xs.length + ns.length ≤ 1000)
    (hg : w.heap[g]? = some (.cells #[v0] 23 (0, 0))) (hR : (Kd.int .u16).R 59 w base (fun k => k ≠ g) v0 xs) (hb : Below base w0 w) (hbg : base ≤ g) :
    Calls Try.prog 35 #[.slice A ns.length c, .pointer (some ⟨g, 0, none⟩)] w fun e w' => e = .returned (.tuple #[]) ∧ ∃ v, w'.heap[g]? = some (.cells #[v] 23 (0, 0)) ∧ (Kd.int .u16).R 59 w' base (fun k => k ≠ g) v (xs ++ ns) ∧ Below base w0 w' ∧ (∀ q, q < w.heap.size → q ≠ g → some q ≠ v0.ownBlock → w'.heap[q]? = w.heap[q]?) ∧ w.heap.size ≤ w'.heap.size ∧ (v.ownBlock = v0.ownBlock ∨ ∃ b, v.ownBlock = some b ∧ w.heap.size ≤ b) := by
  have hu := Try.underlying23
  have HN := Aside0.mk hn
  have HM := Aside0.mk (Kd.C_max hn)
  have HA := Aside0.mk hA
  have H16 := Aside0.mk h16
  have HL := Aside0.mk hl
  have HBG := Aside0.mk hbg
  have HGW := Aside0.mk (blk_lt hg)
  have GG := Aside0.mk hg
  have HO := Aside0.mk hR
  have HB := Aside0.mk hb
  clear hn hA h16 hl hg hR hb hbg
  go_enter Try.func35, Try.ntmps35
  go_wp2
  go_loopw [4, 7, 8, 9, 10, 11, 12, 13, 14, 15, 16] (fun v4 v7 v8 v9 v10 v11 v12 v13 v14 v15 v16 wr => ∃ (k : Nat) (v : Value), k ≤ ns.length ∧ v7 = .int .i64 k ∧ Aside0 (wr.heap[g]? = some (.cells #[v] 23 (0, 0))) ∧ Aside0 ((Kd.int .u16).R 59 wr base (fun k => k ≠ g) v (xs ++ ns.take k)) ∧ Aside0 (Below base w0 wr) ∧ Aside0 (∀ q, q < w.heap.size → q ≠ g → some q ≠ v0.ownBlock → wr.heap[q]? = w.heap[q]?) ∧ Aside0 (w.heap.size ≤ wr.heap.size) ∧ Aside0 (v.ownBlock = v0.ownBlock ∨ ∃ b, v.ownBlock = some b ∧ w.heap.size ≤ b)) (fun _ v7 _ _ _ _ _ _ _ _ _ _ => ns.length + 1 - (intOf v7).toNat)
  case atStart => exact ⟨0, v0, Nat.zero_le _, rfl, GG, ⟨by simpa using HO.out⟩, HB, ⟨fun _ _ _ _ => rfl⟩, ⟨Nat.le_refl _⟩, ⟨.inl rfl⟩⟩
  case round =>
    clear GG HO HB
    obtain ⟨k, v, hk, rfl, GG, HO, HB, HK, HS, HW⟩ := hrel
    obtain ⟨L, hL⟩ : ∃ L, xs ++ ns.take k = L := ⟨_, rfl⟩
    rw [hL] at HO
    have HLen := Aside0.mk (show L.length = xs.length + k by rw [← hL, List.length_append, List.length_take]; omega)
    have HLD := Aside0.mk hL
    clear hL
    obtain ⟨Av, cv, ev⟩ := Kd.R_slice HO.out
    have HOB := Aside0.mk (HO.out.1)
    subst ev
    have hcell : wr.cell? ⟨g, 0, none⟩ = some _ := (blk_cell GG.out 0).trans rfl
    by_cases hlt : k < ns.length
    · obtain ⟨ad, ea, hx⟩ := Kd.at_int HN.out (k : Int) (by omega) (by omega)
      rw [Int.toNat_natCast] at hx
      have hblk := HA.out ad k ea
      replace hx := (As.cell_of (w := w) (w1 := wr) (a := ad.add k) (HK.out _ (World.block_lt_of_cell? w _ hx) hblk.1 hblk.2)).trans hx
      subst ea
      have hm := H16.out _ (rd_mem (l := ns) (i := (k : Int)) (by omega) (by omega))
      have hw16 : IntKind.u16.wrap (rd ns (k : Int)) = rd ns (k : Int) := by rw [u16w]; omega
      have hsn := Aside0.mk (As.take_snoc hlt)
      have HL2 := Aside0.mk (show (L.length + 1) * 2 ≤ 140737488355328 by have := HLen.out; have := HL.out; omega)
      have hk1 : IntKind.i64.wrap ((k : Int) + 1) = (k : Int) + 1 := by rw [i64_w]; exact w64 (by have := HM.out; omega)
      have HLT := Aside0.mk (blk_lt GG.out)
      clear hm hblk
      go_wp2_with (first
        | ((with_reducible refine gate_dst (N := 14) rfl ?_); (refine Kd.R_lit (Kd.int .u16) base 59 ?hg (N := 14) ?hd (xs := [rd ns (k : Int)]) (inner := [.int .u16 (rd ns (k : Int))]) (ok := fun k => k ≠ g) (okp := fun _ => False) ?hr ?hp (fun _ hk => hk.elim) ?hf HB.out (by have h1 := HLT.out; have h2 := HBG.out; omega) (by simp) ?_); (case hd => rfl); (case hg => rfl); (case hr => first | (go_simp; done) | (go_simp; rfl)); (case hp => exact (Reps.one (show Kd.M (Kd.int .u16) _ _ _ (rd ns (k : Int)) [.int .u16 (rd ns (k : Int))] from rfl) (Reps.none _ _))); (case hf => have := HLT.out; omega); intro v1 w1 ho hb hgr _; have n0_ := Aside0.mk ho; have n1_ := Aside0.mk hb; have n2_ := Aside0.mk (Kd.R_grown HO.out hgr (fun _ _ => by simp)); have n3_ := Aside0.mk (blk_grown GG.out hgr (by simp)); have n4_ := Aside0.mk (fun q h1 h2 h3 => (hgr.block q (Nat.lt_of_lt_of_le h1 HS.out) (by simp)).trans (HK.out q h1 h2 h3)); have n5_ := Aside0.mk (Nat.le_trans HS.out hgr.size); clear HO HB GG HK HS hcell hx; have HO := n2_; have HB := n1_; have GG := n3_; have H1 := n0_; have HK := n4_; have HS := n5_; clear n0_ n1_ n2_ n3_ n4_ n5_ ho hb hgr; obtain ⟨A1, c1, e1⟩ := Kd.R_slice H1.out; subst e1)
        | ((with_reducible refine gate_builtin (b := .append) (xs := #[.tmp 11, .tmp 14]) rfl ?_); at_builtin; refine Kd.R_append_rows (Kd.int .u16) (w0 := w0) base rfl (.tmp 11) (.tmp 14) 23 59 (.int .u16 0) 2 rfl Try.underlying23 As.w16 rfl (by decide) (by omega) _ L [rd ns (k : Int)] _ _ _ (fun k => k ≠ g) (fun _ => False) rfl rfl HO.out (Kd.R_reads' H1.out).2.2 (fun _ _ h => h) (fun _ h => h.elim) (fun q hq he => by have := blk_lt GG.out; omega) HB.out (by have h1 := blk_lt GG.out; have h2 := HBG.out; omega) HL2.out ?_; intro v2 w2 ho hb hgr hw2; replace hgr : w1.grownBy w2 (Value.slice Av L.length cv).ownBlock := hgr; replace hw2 : v2.ownBlock = (Value.slice Av L.length cv).ownBlock ∨ ∃ b, v2.ownBlock = some b ∧ w1.heap.size ≤ b := hw2; have n0_ := Aside0.mk ho; have n1_ := Aside0.mk hb; have n2_ := Aside0.mk (blk_grown GG.out hgr (fun h => (HOB.out g h.symm) rfl)); have n4_ := Aside0.mk (fun q h1 h2 h3 => (hgr.block q (Nat.lt_of_lt_of_le h1 HS.out) (fun he => HW.out.elim (fun e => h3 (he.trans e)) (fun ⟨b, e, hb⟩ => by rw [e] at he; injection he with he; omega))).trans (HK.out q h1 h2 h3)); have n5_ := Aside0.mk (Nat.le_trans HS.out hgr.size); have n6_ := Aside0.mk (show v2.ownBlock = v0.ownBlock ∨ ∃ b, v2.ownBlock = some b ∧ w.heap.size ≤ b from hw2.elim (fun e => HW.out.elim (fun e2 => .inl (e.trans e2)) (fun ⟨b, e2, hb⟩ => .inr ⟨b, e.trans e2, hb⟩)) (fun ⟨b, e, hb⟩ => .inr ⟨b, e, Nat.le_trans HS.out hb⟩)); clear HB GG HO HK HS HW H1; have HO := n0_; have HB := n1_; have GG := n2_; have HK := n4_; have HS := n5_; have HW := n6_; clear n0_ n1_ n2_ n4_ n5_ n6_ ho hb hgr hw2; have hcell2 := (blk_cell GG.out 0).trans rfl; have hfz2 := blk_frozen GG.out 0; obtain ⟨A2, c2, e2⟩ := Kd.R_slice HO.out; subst e2))
      have hgs := As.grown_set w2 g 0 (.slice A2 (L ++ [rd ns (k : Int)]).length c2)
      have HO2 : (Kd.int .u16).R 59 (w2.setCell ⟨g, 0, none⟩ (.slice A2 (L ++ [rd ns (k : Int)]).length c2)) base (fun k => k ≠ g) (.slice A2 (L ++ [rd ns (k : Int)]).length c2) (xs ++ ns.take (k + 1)) := by
        rw [hsn.out, ← List.append_assoc, HLD.out]
        exact Kd.R_far HO.out (fun k hk => hk) _
      have n0_ : Aside0 ((w2.setCell ⟨g, 0, none⟩ (.slice A2 (L ++ [rd ns (k : Int)]).length c2)).heap[g]? = some (.cells #[.slice A2 (L ++ [rd ns (k : Int)]).length c2] 23 (0, 0))) := ⟨blk_put GG.out 0 _ rfl⟩
      have n1_ : Aside0 (Below base w0 (w2.setCell ⟨g, 0, none⟩ (.slice A2 (L ++ [rd ns (k : Int)]).length c2))) := ⟨HB.out.setCell HBG.out _⟩
      have n2_ := Aside0.mk (fun q h1 h2 h3 => (hgs.block q (Nat.lt_of_lt_of_le h1 HS.out) (fun he => h2 (Option.some.inj he))).trans (HK.out q h1 h2 h3))
      have n3_ := Aside0.mk (Nat.le_trans HS.out hgs.size)
      have hle : (L ++ [rd ns (k : Int)]).length = L.length + 1 := by simp
      rw [hle] at HO2 n0_ n1_ n2_ n3_ HW
      clear hgs
      go_roundw
      case rel => exact ⟨k + 1, _, by omega, by go_num, n0_, ⟨HO2⟩, n1_, n2_, n3_, HW⟩
      case measure => simp [intOf]; omega
    · obtain rfl : k = ns.length := by omega
      go_wp2
      go_end0
      have hLe := HLD.out
      rw [List.take_length] at hLe
      subst hLe
      exact ⟨rfl, _, GG.out, HO.out, HB.out, HK.out, HS.out, HW.out⟩

end Go.Proofs.Ytedfbemifigoeaa.P
