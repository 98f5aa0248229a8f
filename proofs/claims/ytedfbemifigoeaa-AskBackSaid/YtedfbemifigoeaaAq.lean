import Derived.Test.YtedfbemifigoeaaX
import Derived.Test.YtedfbemifigoeaaAp
import Derived.Test.YtedfbemifigoeaaAd
import Derived.Test.YtedfbemifigoeaaLWord
import Derived.Test.YtedfbemifigoeaaLBits
import Derived.Test.YtedfbemifigoeaaPx1
import Derived.Test.YtedfbemifigoeaaPx2
import Derived.Test.YtedfbemifigoeaaPx3
import Derived.Test.YtedfbemifigoeaaPx4
import Derived.Test.YtedfbemifigoeaaPx5
import Derived.Test.YtedfbemifigoeaaPx6
namespace Go.Proofs.Ytedfbemifigoeaa.P
open Go.RowKit Go.Proofs.YtedfbemifigoeaaW.PrintWords Go.Proofs.YtedfbemifigoeaaW.PrintLast Go.Proofs.YtedfbemifigoeaaW.PrintMore
attribute [local go_sem] max2_int min2_int max_two min_two max_three min_three max_four min_four   -- for this text's walks alone
set_option linter.unusedVariables false
set_option linter.unusedSimpArgs false

open Go.Proofs.Ytedfbemifigoeaa.L

theorem As.gets {A : Option Addr} {c : Nat} {l rg : List Int} {E : Int} {w : World} (hr : (Kd.int .u8).C w A l.length l) (hc : l.length ≤ c) (h8 : ∀ x ∈ l, U8 x) (hl : l.length ≤ 1000000) (he : getS l = (rg, E)) : Calls Try.prog 77 #[.slice A l.length c] w fun e w' => ∃ v, e = .returned (.tuple #[v, .int .i64 E]) ∧ (Kd.int .u16).R 59 w' w.heap.size (fun _ => True) v rg ∧ Below w.heap.size w w' :=
  word_Get.calls (l.length + 1) A c l rg E w hr hc ((get_eq h8 (by omega) (by omega)).trans (congrArg some he))
theorem As.unpacks {A : Option Addr} {c : Nat} {l : List Int} {bs : List Bool} {n E : Int} {w : World} (hr : (Kd.int .u8).C w A l.length l) (hc : l.length ≤ c) (h8 : ∀ x ∈ l, U8 x) (hl : l.length ≤ 1000000) (hn : I64 n) (he : upkS l n = (bs, E)) : Calls Try.prog 76 #[.slice A l.length c, .int .i64 n] w fun e w' => ∃ v, e = .returned (.tuple #[v, .int .i64 E]) ∧ Kd.bool.R 4 w' w.heap.size (fun _ => True) v bs ∧ Below w.heap.size w w' :=
  bits_Unpack.calls (8 * l.length + 1) A c l n bs E w hr hc ((unpack_eq h8 hn hl (by omega)).trans (congrArg some he))
theorem As.R_ty {α : Type} {d : Kd α} {e : Nat} {w w1 : World} {b g t : Nat} {v : Value} {xs : List α} {ds : Array Value} (h : d.R e w b (fun _ => True) v xs) (hb : w.heap[g]? = some (.cells ds t (0, 0))) (he : ∀ q, q ∈ e :: d.E → q ≠ t) (hgr : w.grownBy w1 (some g)) : d.R e w1 b (fun _ => True) v xs :=
  Kd.R_mono (Kd.R_grown (Kd.R_types h hb he) hgr (fun k hk he => hk.2 (Option.some.inj he))) (fun _ _ => trivial)
set_option maxHeartbeats 4000000 in
set_option maxRecDepth 100000 in
theorem As.wordsG {w0 w : World} {g gi : Nat} {l : List Int} {ok : Bool} {a0 a1 a2 a3 a4 a5 a6 a7 : Int} {v8 v9 : Value} (hg : As.Rd w0 w g l ok) (hi : w.heap[gi]? = some (.cells #[.int .i64 a0, .int .i64 a1, .int .i64 a2, .int .i64 a3, .int .i64 a4, .int .i64 a5, .int .i64 a6, .int .i64 a7, v8, v9] 74 (0, 0))) (hb : Below w0.heap.size w0 w) (hbg : w0.heap.size ≤ g) (hbi : w0.heap.size ≤ gi) (hne : gi ≠ g) (h8 : ∀ x ∈ l, U8 x) (hl : l.length ≤ 1000000) {p1 p2 E : Int} {l1 l2 l3 out rg : List Int} {k1 k2 k3 : Bool} (hp : As.rn l ok = (p1, l1, k1)) (hq : As.rn l1 k1 = (p2, l2, k2)) (hs : As.rs l2 k2 = (out, l3, k3)) (hgw : getS out = (rg, E)) : Calls Try.prog 71 #[.pointer (some ⟨gi, 0, none⟩), .func (.func 52) #[.pointer (some ⟨g, 0, none⟩)] #[], .pointer (some ⟨g, 0, none⟩)] w fun e w' => e = .returned (.tuple #[]) ∧ As.Rd w0 w' g l3 (k3 && (E == 0)) ∧ (∃ v, w'.heap[gi]? = some (.cells #[.int .i64 a0, .int .i64 p1, .int .i64 p2, .int .i64 a3, .int .i64 a4, .int .i64 a5, .int .i64 a6, .int .i64 a7, v8, v] 74 (0, 0)) ∧ (Kd.int .u16).R 59 w' w0.heap.size (fun _ => True) v rg) ∧ Below w0.heap.size w0 w' ∧ (∀ q, q < w.heap.size → q ≠ g → q ≠ gi → w'.heap[q]? = w.heap[q]?) ∧ w.heap.size ≤ w'.heap.size := by
  have e1 := As.rn_u8 (ok := ok) h8
  rw [hp] at e1
  have e2 := As.rn_u8 (ok := k1) e1
  rw [hq] at e2
  have e3 := As.rs_u8 (ok := k2) e2
  rw [hs] at e3
  have n1 := As.rn_len (l := l) (ok := ok)
  rw [hp] at n1
  have n2 := As.rn_len (l := l1) (ok := k1)
  rw [hq] at n2
  have n3 := As.rs_len (l := l2) (ok := k2)
  rw [hs] at n3
  simp only [] at n1 n2 n3
  have H82 := Aside0.mk (show ∀ x ∈ l2, U8 x from e2)
  have H8o := Aside0.mk (show ∀ x ∈ out, U8 x from e3)
  have HL2 := Aside0.mk (show l2.length ≤ 1000000 by omega)
  have HLo := Aside0.mk (show out.length ≤ 1000000 by omega)
  clear e1 e2 e3 n1 n2 n3
  have HG := Aside0.mk hg
  have BKgi := Aside0.mk hi
  have HB := Aside0.mk hb
  have HBG := Aside0.mk hbg
  have HBI := Aside0.mk hbi
  have HNE := Aside0.mk hne
  have H8 := Aside0.mk h8
  have HL := Aside0.mk hl
  have HK := Aside0.mk (show ∀ q, q < w.heap.size → q ≠ g → q ≠ gi → w.heap[q]? = w.heap[q]? from fun _ _ _ _ => rfl)
  have HS := Aside0.mk (Nat.le_refl w.heap.size)
  have hu := Try.underlying74
  clear hg hi hb hbg hbi hne h8 hl
  have hur := Try.underlying77
  cases k3
  all_goals
    go_enter Try.func71, Try.ntmps71
    go_wp2_with (first
      | (go_at_call 68; refine (As.placeG HG.out BKgi.out HB.out HBG.out HBI.out HNE.out H8.out HL.out).mono ?_; rintro r w2 ⟨rfl, hg, hi, hb, hk, hs_⟩; rw [hp] at hg hi; simp only [] at hg hi; rw [hq] at hg hi; simp only [] at hg hi; clear HG BKgi HB HK HS; have HG := Aside0.mk hg; have BKgi := Aside0.mk hi; have HB := Aside0.mk hb; have HK := Aside0.mk (show ∀ q, q < w.heap.size → q ≠ g → q ≠ gi → w2.heap[q]? = w.heap[q]? from hk); have HS := Aside0.mk hs_; clear hg hi hb hk hs_)
      | (go_at_call 79; refine (As.rest1 HG.out HB.out HBG.out H82.out HL2.out).mono ?_; rintro r w3 ⟨⟨Ao, co, he_, hco, hCo⟩, hg, hb, hk, hs_⟩; simp only [hs] at he_ hco hCo hg; subst he_; obtain ⟨Ar, cr, hrd, hcr, hCr⟩ := hg; have n0_ := Aside0.mk ((hk gi (blk_lt BKgi.out) HNE.out).trans BKgi.out); have n1_ := Aside0.mk (fun q h1 h2 h3 => (hk q (Nat.lt_of_lt_of_le h1 HS.out) h2).trans (HK.out q h1 h2 h3)); have n2_ := Aside0.mk (Nat.le_trans HS.out hs_); clear HG BKgi HB HK HS; have HB := Aside0.mk hb; have BKgi := n0_; have HK := n1_; have HS := n2_; have BKg := Aside0.mk hrd; have HCR := Aside0.mk hcr; have HCr := Aside0.mk hCr; have HCO := Aside0.mk hco; have HCo := Aside0.mk hCo; clear n0_ n1_ n2_ hb hk hs_ hrd hcr hCr hco hCo)
      | (go_at_call 77; (with_reducible refine (As.gets (Kd.C_below HCo.out HB.out) HCO.out H8o.out HLo.out hgw).mono ?_); rintro r w4 ⟨vr, rfl, ho, hb⟩; have HRv := Aside0.mk (Kd.R_lower ho HB.out.size); have n0_ := Aside0.mk (blk_below BKgi.out hb); have n1_ := Aside0.mk (fun q h1 h2 h3 => (hb.block q (Nat.lt_of_lt_of_le h1 HS.out)).trans (HK.out q h1 h2 h3)); have n2_ := Aside0.mk (Nat.le_trans HS.out hb.size); have n3_ := Aside0.mk (blk_below BKg.out hb); have n4_ := Aside0.mk (below_step HB.out hb); clear ho HB BKgi HK HS BKg hb; have HB := n4_; have BKgi := n0_; have HK := n1_; have HS := n2_; have BKg := n3_; clear n0_ n1_ n2_ n3_ n4_; obtain ⟨Av, cv, ev⟩ := Kd.R_slice HRv.out; subst ev; have cg := fun i => blk_cell BKg.out i)
      | ((with_reducible refine gate_store rfl ?_); refine As.store_cell rfl rfl gi ?_ ?_ 74 _ BKgi.out ?hr ?_; (case hr => (have hs_ := fun i => blk_cell BKgi.out i); (have hf_ := fun i => blk_frozen BKgi.out i); first | (go_simp; done) | (go_simp; rfl)); intro w5 hgb hgr; simp only [List.setIfInBounds_toArray, List.set_cons_zero, List.set_cons_succ] at hgb; have n0_ := Aside0.mk (HB.out.grown hgr HB.out.size (fun k hk => by cases hk; exact HBI.out)); have n1_ := Aside0.mk (fun q h1 h2 h3 => (hgr.block q (Nat.lt_of_lt_of_le h1 HS.out) (fun he => h3 (Option.some.inj he))).trans (HK.out q h1 h2 h3)); have n2_ := Aside0.mk (Nat.le_trans HS.out hgr.size); have n3_ := Aside0.mk (blk_grown BKg.out hgr (fun he => (Ne.symm HNE.out) (Option.some.inj he))); have n4_ := Aside0.mk (As.R_ty HRv.out BKgi.out (by decide) hgr); clear HB HK HS HRv BKg; have HB := n0_; have HK := n1_; have HS := n2_; have BKg := n3_; have HRv := n4_; clear n0_ n1_ n2_ n3_ n4_; clear BKgi hgr; have BKgi := Aside0.mk hgb; clear hgb; skip)
      | ((with_reducible refine gate_store rfl ?_); refine As.store_cell rfl rfl g ?_ ?_ 77 _ BKg.out ?hr ?_; (case hr => (have hs_ := fun i => blk_cell BKg.out i); (have hf_ := fun i => blk_frozen BKg.out i); first | (go_simp; done) | (go_simp; rfl)); intro w6 hgb hgr; simp only [List.setIfInBounds_toArray, List.set_cons_zero, List.set_cons_succ] at hgb; have n0_ := Aside0.mk (HB.out.grown hgr HB.out.size (fun k hk => by cases hk; exact HBG.out)); have n1_ := Aside0.mk (fun q h1 h2 h3 => (hgr.block q (Nat.lt_of_lt_of_le h1 HS.out) (fun he => h2 (Option.some.inj he))).trans (HK.out q h1 h2 h3)); have n2_ := Aside0.mk (Nat.le_trans HS.out hgr.size); have n3_ := Aside0.mk (blk_grown BKgi.out hgr (fun he => HNE.out (Option.some.inj he))); have n4_ := Aside0.mk (As.R_ty HRv.out BKg.out (by decide) hgr); clear HB HK HS HRv BKgi; have HB := n0_; have HK := n1_; have HS := n2_; have BKgi := n3_; have HRv := n4_; clear n0_ n1_ n2_ n3_ n4_; clear BKg hgr; have BKg := Aside0.mk hgb; clear hgb; skip))
    go_end0
    exact ⟨rfl, ⟨Ar, cr, BKg.out, HCR.out, HCr.out⟩, ⟨_, BKgi.out, HRv.out⟩, HB.out, HK.out, HS.out⟩

theorem As.rn_val {l : List Int} {ok : Bool} (h : ∀ x ∈ l, U8 x) : 0 ≤ (As.rn l ok).1 ∧ (As.rn l ok).1 ≤ 65535 := by
  unfold As.rn
  split
  · have a1 := rd_all h (i := 0) (by omega) (by omega)
    have a2 := rd_all h (i := 1) (by omega) (by omega)
    unfold U8 at a1 a2
    simp only []
    omega
  · simp
set_option maxHeartbeats 4000000 in
set_option maxRecDepth 100000 in
theorem As.coilsG {w0 w : World} {g gi : Nat} {l : List Int} {ok : Bool} {a0 a1 a2 a3 a4 a5 a6 a7 : Int} {v8 v9 : Value} (hg : As.Rd w0 w g l ok) (hi : w.heap[gi]? = some (.cells #[.int .i64 a0, .int .i64 a1, .int .i64 a2, .int .i64 a3, .int .i64 a4, .int .i64 a5, .int .i64 a6, .int .i64 a7, v8, v9] 74 (0, 0))) (hb : Below w0.heap.size w0 w) (hbg : w0.heap.size ≤ g) (hbi : w0.heap.size ≤ gi) (hne : gi ≠ g) (h8 : ∀ x ∈ l, U8 x) (hl : l.length ≤ 1000000) {p1 p2 E : Int} {l1 l2 l3 out : List Int} {bs : List Bool} {k1 k2 k3 : Bool} (hp : As.rn l ok = (p1, l1, k1)) (hq : As.rn l1 k1 = (p2, l2, k2)) (hs : As.rs l2 k2 = (out, l3, k3)) (hgw : upkS out p2 = (bs, E)) : Calls Try.prog 70 #[.pointer (some ⟨gi, 0, none⟩), .func (.func 52) #[.pointer (some ⟨g, 0, none⟩)] #[], .pointer (some ⟨g, 0, none⟩)] w fun e w' => e = .returned (.tuple #[]) ∧ As.Rd w0 w' g l3 (k3 && (E == 0)) ∧ (∃ v, w'.heap[gi]? = some (.cells #[.int .i64 a0, .int .i64 p1, .int .i64 p2, .int .i64 a3, .int .i64 a4, .int .i64 a5, .int .i64 a6, .int .i64 a7, v, v9] 74 (0, 0)) ∧ Kd.bool.R 4 w' w0.heap.size (fun _ => True) v bs) ∧ Below w0.heap.size w0 w' ∧ (∀ q, q < w.heap.size → q ≠ g → q ≠ gi → w'.heap[q]? = w.heap[q]?) ∧ w.heap.size ≤ w'.heap.size := by
  have e1 := As.rn_u8 (ok := ok) h8
  rw [hp] at e1
  have e2 := As.rn_u8 (ok := k1) e1
  rw [hq] at e2
  have e3 := As.rs_u8 (ok := k2) e2
  rw [hs] at e3
  have n1 := As.rn_len (l := l) (ok := ok)
  rw [hp] at n1
  have n2 := As.rn_len (l := l1) (ok := k1)
  rw [hq] at n2
  have n3 := As.rs_len (l := l2) (ok := k2)
  rw [hs] at n3
  have m2 := As.rn_val (ok := k1) e1
  rw [hq] at m2
  simp only [] at n1 n2 n3 m2
  have HI2 := Aside0.mk (show I64 p2 from ⟨by omega, by omega⟩)
  have H82 := Aside0.mk (show ∀ x ∈ l2, U8 x from e2)
  have H8o := Aside0.mk (show ∀ x ∈ out, U8 x from e3)
  have HL2 := Aside0.mk (show l2.length ≤ 1000000 by omega)
  have HLo := Aside0.mk (show out.length ≤ 1000000 by omega)
  clear e1 e2 e3 n1 n2 n3 m2
  have HG := Aside0.mk hg
  have BKgi := Aside0.mk hi
  have HB := Aside0.mk hb
  have HBG := Aside0.mk hbg
  have HBI := Aside0.mk hbi
  have HNE := Aside0.mk hne
  have H8 := Aside0.mk h8
  have HL := Aside0.mk hl
  have HK := Aside0.mk (show ∀ q, q < w.heap.size → q ≠ g → q ≠ gi → w.heap[q]? = w.heap[q]? from fun _ _ _ _ => rfl)
  have HS := Aside0.mk (Nat.le_refl w.heap.size)
  have hu := Try.underlying74
  clear hg hi hb hbg hbi hne h8 hl
  have hur := Try.underlying77
  cases k3
  all_goals
    go_enter Try.func70, Try.ntmps70
    go_wp2_with (first
      | (go_at_call 68; refine (As.placeG HG.out BKgi.out HB.out HBG.out HBI.out HNE.out H8.out HL.out).mono ?_; rintro r w2 ⟨rfl, hg, hi, hb, hk, hs_⟩; rw [hp] at hg hi; simp only [] at hg hi; rw [hq] at hg hi; simp only [] at hg hi; clear HG BKgi HB HK HS; have HG := Aside0.mk hg; have BKgi := Aside0.mk hi; have HB := Aside0.mk hb; have HK := Aside0.mk (show ∀ q, q < w.heap.size → q ≠ g → q ≠ gi → w2.heap[q]? = w.heap[q]? from hk); have HS := Aside0.mk hs_; clear hg hi hb hk hs_))
    refine start_ (n := 12) (S := fun w' => w'.heap[gi]? = some (.cells #[.int .i64 a0, .int .i64 p1, .int .i64 p2, .int .i64 a3, .int .i64 a4, .int .i64 a5, .int .i64 a6, .int .i64 a7, v8, v9] 74 (0, 0))) (ds := []) (bt 12 0) (by kernel_rfl) rfl (by kernel_rfl) (show w2.drew.heap[gi]? = _ from BKgi.out) (fun hHeld => ?_)
    have n0_ := Aside0.mk (show As.Rd w0 w2.drew g l2 k2 from HG.out)
    have n1_ := Aside0.mk (show w2.drew.heap[gi]? = some (.cells #[.int .i64 a0, .int .i64 p1, .int .i64 p2, .int .i64 a3, .int .i64 a4, .int .i64 a5, .int .i64 a6, .int .i64 a7, v8, v9] 74 (0, 0)) from BKgi.out)
    have n2_ := Aside0.mk (below_drew1 HB.out)
    have n3_ := Aside0.mk (show ∀ q, q < w.heap.size → q ≠ g → q ≠ gi → w2.drew.heap[q]? = w.heap[q]? from HK.out)
    have n4_ := Aside0.mk (show w.heap.size ≤ w2.drew.heap.size from HS.out)
    clear HG BKgi HB HK HS
    have HG := n0_
    have BKgi := n1_
    have HB := n2_
    have HK := n3_
    have HS := n4_
    clear n0_ n1_ n2_ n3_ n4_
    generalize w2.drew = v0_ at *
    refine pure_ (i := 0) (N := some 13) (v := ?_) (a' := ?_) (bt 12 1) rfl rfl (by kernel_rfl) (fun _ _ _ h => h) (Or.inl ⟨by rfl, ?_⟩) ?_ ?_
    rotate_left
    · intro w'
      go_simp
      first | with_reducible rfl | (simp [Instr.field, go_sem]; rfl)
    rotate_left
    · simp only [Act.put, List.setIfInBounds_toArray, List.set_cons_zero, List.set_cons_succ]
      rfl
    refine pure_ (i := 2) (N := some 15) (v := ?_) (a' := ?_) (bt 12 5) rfl rfl (by kernel_rfl) (fun _ _ _ h => h) (Or.inl ⟨by rfl, ?_⟩) ?_ ?_
    rotate_left
    · intro w'
      go_simp
      first | with_reducible rfl | (simp [Instr.field, go_sem]; rfl)
    rotate_left
    · simp only [Act.put, List.setIfInBounds_toArray, List.set_cons_zero, List.set_cons_succ]
      rfl
    refine pure_ (i := 3) (N := some 16) (v := ?_) (a' := ?_) (bt 12 13) rfl rfl (by kernel_rfl) (fun _ _ _ h => h) (Or.inl ⟨by rfl, ?_⟩) ?_ ?_
    rotate_left
    · intro w'
      go_simp
      first | with_reducible rfl | (simp [Instr.field, go_sem]; rfl)
    rotate_left
    · simp only [Act.put, List.setIfInBounds_toArray, List.set_cons_zero, List.set_cons_succ]
      rfl
    refine pure_ (i := 4) (N := some 17) (v := ?_) (a' := ?_) (bt 12 29) rfl rfl (by kernel_rfl) (fun _ _ _ h => h) (Or.inl ⟨by rfl, ?_⟩) ?_ ?_
    rotate_left
    · intro w'
      go_simp
      first | with_reducible rfl | (simp [Instr.field, go_sem]; rfl)
    rotate_left
    · simp only [Act.put, List.setIfInBounds_toArray, List.set_cons_zero, List.set_cons_succ]
      rfl
    refine take_ (i := 5) (N := some 18) (v := ?_) (a' := ?_) (bt 12 61) rfl rfl (by kernel_rfl) (fun _ _ _ h => h) (Or.inl ⟨by rfl, ?_⟩) hHeld ?_ ?_
    rotate_left
    · intro w' hS
      have f_ := fun i => blk_cell hS i
      go_simp
      first | with_reducible rfl | (simp [Instr.field, go_sem]; rfl)
    rotate_left
    · simp only [Act.put, List.setIfInBounds_toArray, List.set_cons_zero, List.set_cons_succ]
      rfl
    refine one_ (i := 1) (N := some 14) (bt 12 63) rfl rfl (by kernel_rfl) (by decide) (fun K hK => ?_)
    refine goes_ Try.func79 (by kernel_rfl) rfl #[.pointer (some ⟨g, 0, none⟩)] (by rfl) rfl rfl (by (try simp only [List.map_toArray, List.map_cons, List.map_nil]); first | done | rfl) ?_
    refine (As.rest1 HG.out HB.out HBG.out H82.out HL2.out).mono ?_
    rintro e w3 ⟨⟨Ao, co, he_, hco, hCo⟩, hg, hb, hk, hs_⟩
    simp only [hs] at he_ hco hCo hg
    subst he_
    refine ⟨_, rfl, ?_⟩
    obtain ⟨Ar, cr, hrd, hcr, hCr⟩ := hg
    have hi2 := (hk gi (blk_lt BKgi.out) HNE.out).trans BKgi.out
    have n1_ := Aside0.mk (fun q h1 h2 h3 => (hk q (Nat.lt_of_lt_of_le h1 HS.out) h2).trans (HK.out q h1 h2 h3))
    have n2_ := Aside0.mk (Nat.le_trans HS.out hs_)
    clear HG BKgi HB HK HS
    have HB := Aside0.mk hb
    have BKgi := Aside0.mk hi2
    have HK := n1_
    have HS := n2_
    have BKg := Aside0.mk hrd
    have HCR := Aside0.mk hcr
    have HCr := Aside0.mk hCr
    have HCO := Aside0.mk hco
    have HCo := Aside0.mk hCo
    clear n1_ n2_ hb hk hs_ hrd hcr hCr hco hCo
    refine hK.out _ _ hi2 (fun hHeld => ?_)
    clear hK K hi2
    refine norm_ (a' := ?_) ?_ ?_
    rotate_left
    · show Act.put _ (some 14) _ = _
      simp only [Act.put, List.setIfInBounds_toArray, List.set_cons_zero, List.set_cons_succ]
      rfl
    refine one_ (i := 6) (N := some 19) (bt 12 127) rfl rfl (by kernel_rfl) (by decide) (fun K hK => ?_)
    refine goes_ Try.func76 (by kernel_rfl) rfl #[.slice Ao out.length co, .int .i64 p2] (by rfl) rfl rfl (by (try simp only [List.map_toArray, List.map_cons, List.map_nil]); first | done | rfl) ?_
    refine (As.unpacks (Kd.C_below HCo.out HB.out) HCO.out H8o.out HLo.out HI2.out hgw).mono ?_
    rintro e w4 ⟨vr, rfl, ho, hb⟩
    refine ⟨_, rfl, ?_⟩
    have HRv := Aside0.mk (Kd.R_lower ho HB.out.size)
    have hi2 := blk_below BKgi.out hb
    have n1_ := Aside0.mk (fun q h1 h2 h3 => (hb.block q (Nat.lt_of_lt_of_le h1 HS.out)).trans (HK.out q h1 h2 h3))
    have n2_ := Aside0.mk (Nat.le_trans HS.out hb.size)
    have n3_ := Aside0.mk (blk_below BKg.out hb)
    have n4_ := Aside0.mk (below_step HB.out hb)
    clear ho HB BKgi HK HS BKg hb
    have HB := n4_
    have BKgi := Aside0.mk hi2
    have HK := n1_
    have HS := n2_
    have BKg := n3_
    clear n1_ n2_ n3_ n4_
    obtain ⟨Av, cv, ev⟩ := Kd.R_slice HRv.out
    subst ev
    refine hK.out _ _ hi2 (fun hHeld => ?_)
    clear hK K hi2
    refine norm_ (a' := ?_) ?_ ?_
    rotate_left
    · show Act.put _ (some 19) _ = _
      simp only [Act.put, List.setIfInBounds_toArray, List.set_cons_zero, List.set_cons_succ]
      rfl
    refine pure_ (i := 7) (N := some 12) (v := ?_) (a' := ?_) (bt 12 255) rfl rfl (by kernel_rfl) (fun _ _ _ h => h) (Or.inl ⟨by rfl, ?_⟩) ?_ ?_
    rotate_left
    · intro w'
      go_simp
      first | with_reducible rfl | (simp [Instr.field, go_sem]; rfl)
    rotate_left
    · simp only [Act.put, List.setIfInBounds_toArray, List.set_cons_zero, List.set_cons_succ]
      rfl
    refine pure_ (i := 8) (N := some 20) (v := ?_) (a' := ?_) (bt 12 511) rfl rfl (by kernel_rfl) (fun _ _ _ h => h) (Or.inl ⟨by rfl, ?_⟩) ?_ ?_
    rotate_left
    · intro w'
      go_simp
      first | with_reducible rfl | (simp [Instr.field, go_sem]; rfl)
    rotate_left
    · simp only [Act.put, List.setIfInBounds_toArray, List.set_cons_zero, List.set_cons_succ]
      rfl
    refine pure_ (i := 9) (N := some 21) (v := ?_) (a' := ?_) (bt 12 1023) rfl rfl (by kernel_rfl) (fun _ _ _ h => h) (Or.inl ⟨by rfl, ?_⟩) ?_ ?_
    rotate_left
    · intro w'
      go_simp
      first | with_reducible rfl | (simp [Instr.field, go_sem]; rfl)
    rotate_left
    · simp only [Act.put, List.setIfInBounds_toArray, List.set_cons_zero, List.set_cons_succ]
      rfl
    refine pure_ (i := 10) (N := some 6) (v := ?_) (a' := ?_) (bt 12 2047) rfl rfl (by kernel_rfl) (fun _ _ _ h => h) (Or.inl ⟨by rfl, ?_⟩) ?_ ?_
    rotate_left
    · intro w'
      go_simp
      first | with_reducible rfl | (simp [Instr.field, go_sem]; rfl)
    rotate_left
    · simp only [Act.put, List.setIfInBounds_toArray, List.set_cons_zero, List.set_cons_succ]
      rfl
    refine pure_ (i := 11) (N := some 7) (v := ?_) (a' := ?_) (bt 12 4095) rfl rfl (by kernel_rfl) (fun _ _ _ h => h) (Or.inl ⟨by rfl, ?_⟩) ?_ ?_
    rotate_left
    · intro w'
      go_simp
      first | with_reducible rfl | (simp [Instr.field, go_sem]; rfl)
    rotate_left
    · simp only [Act.put, List.setIfInBounds_toArray, List.set_cons_zero, List.set_cons_succ]
      rfl
    refine done_ (by kernel_rfl) ?_
    have cg := fun i => blk_cell BKg.out i
    go_wp2_with (first
      | ((with_reducible refine gate_store rfl ?_); refine As.store_cell rfl rfl gi ?_ ?_ 74 _ BKgi.out ?hr ?_; (case hr => (have hs_ := fun i => blk_cell BKgi.out i); (have hf_ := fun i => blk_frozen BKgi.out i); first | (go_simp; done) | (go_simp; rfl)); intro w5 hgb hgr; simp only [List.setIfInBounds_toArray, List.set_cons_zero, List.set_cons_succ] at hgb; have n0_ := Aside0.mk (HB.out.grown hgr HB.out.size (fun k hk => by cases hk; exact HBI.out)); have n1_ := Aside0.mk (fun q h1 h2 h3 => (hgr.block q (Nat.lt_of_lt_of_le h1 HS.out) (fun he => h3 (Option.some.inj he))).trans (HK.out q h1 h2 h3)); have n2_ := Aside0.mk (Nat.le_trans HS.out hgr.size); have n3_ := Aside0.mk (blk_grown BKg.out hgr (fun he => (Ne.symm HNE.out) (Option.some.inj he))); have n4_ := Aside0.mk (As.R_ty HRv.out BKgi.out (by decide) hgr); clear HB HK HS HRv BKg; have HB := n0_; have HK := n1_; have HS := n2_; have BKg := n3_; have HRv := n4_; clear n0_ n1_ n2_ n3_ n4_; clear BKgi hgr; have BKgi := Aside0.mk hgb; clear hgb; skip)
      | ((with_reducible refine gate_store rfl ?_); refine As.store_cell rfl rfl g ?_ ?_ 77 _ BKg.out ?hr ?_; (case hr => (have hs_ := fun i => blk_cell BKg.out i); (have hf_ := fun i => blk_frozen BKg.out i); first | (go_simp; done) | (go_simp; rfl)); intro w6 hgb hgr; simp only [List.setIfInBounds_toArray, List.set_cons_zero, List.set_cons_succ] at hgb; have n0_ := Aside0.mk (HB.out.grown hgr HB.out.size (fun k hk => by cases hk; exact HBG.out)); have n1_ := Aside0.mk (fun q h1 h2 h3 => (hgr.block q (Nat.lt_of_lt_of_le h1 HS.out) (fun he => h2 (Option.some.inj he))).trans (HK.out q h1 h2 h3)); have n2_ := Aside0.mk (Nat.le_trans HS.out hgr.size); have n3_ := Aside0.mk (blk_grown BKgi.out hgr (fun he => HNE.out (Option.some.inj he))); have n4_ := Aside0.mk (As.R_ty HRv.out BKg.out (by decide) hgr); clear HB HK HS HRv BKgi; have HB := n0_; have HK := n1_; have HS := n2_; have BKgi := n3_; have HRv := n4_; clear n0_ n1_ n2_ n3_ n4_; clear BKg hgr; have BKg := Aside0.mk hgb; clear hgb; skip))
    go_end0
    exact ⟨rfl, ⟨Ar, cr, BKg.out, HCR.out, HCr.out⟩, ⟨_, BKgi.out, HRv.out⟩, HB.out, HK.out, HS.out⟩

set_option maxHeartbeats 4000000 in
set_option maxRecDepth 100000 in
theorem As.bothG {w0 w : World} {g gi : Nat} {l : List Int} {ok : Bool} {a0 a1 a2 a3 a4 a5 a6 a7 : Int} {v8 v9 : Value} (hg : As.Rd w0 w g l ok) (hi : w.heap[gi]? = some (.cells #[.int .i64 a0, .int .i64 a1, .int .i64 a2, .int .i64 a3, .int .i64 a4, .int .i64 a5, .int .i64 a6, .int .i64 a7, v8, v9] 74 (0, 0))) (hb : Below w0.heap.size w0 w) (hbg : w0.heap.size ≤ g) (hbi : w0.heap.size ≤ gi) (hne : gi ≠ g) (h8 : ∀ x ∈ l, U8 x) (hl : l.length ≤ 1000000) {p1 p2 p3 p4 E : Int} {l1 l2 l3 l4 l5 out rg : List Int} {k1 k2 k3 k4 k5 : Bool} (hp : As.rn l ok = (p1, l1, k1)) (hq : As.rn l1 k1 = (p2, l2, k2)) (hp3 : As.rn l2 k2 = (p3, l3, k3)) (hq4 : As.rn l3 k3 = (p4, l4, k4)) (hs : As.rs l4 k4 = (out, l5, k5)) (hgw : getS out = (rg, E)) : Calls Try.prog 73 #[.pointer (some ⟨gi, 0, none⟩), .func (.func 52) #[.pointer (some ⟨g, 0, none⟩)] #[], .pointer (some ⟨g, 0, none⟩)] w fun e w' => e = .returned (.tuple #[]) ∧ As.Rd w0 w' g l5 (k5 && (E == 0)) ∧ (∃ v, w'.heap[gi]? = some (.cells #[.int .i64 a0, .int .i64 p3, .int .i64 p4, .int .i64 a3, .int .i64 a4, .int .i64 a5, .int .i64 p1, .int .i64 p2, v8, v] 74 (0, 0)) ∧ (Kd.int .u16).R 59 w' w0.heap.size (fun _ => True) v rg) ∧ Below w0.heap.size w0 w' ∧ (∀ q, q < w.heap.size → q ≠ g → q ≠ gi → w'.heap[q]? = w.heap[q]?) ∧ w.heap.size ≤ w'.heap.size := by
  have e1 := As.rn_u8 (ok := ok) h8
  rw [hp] at e1
  have e2 := As.rn_u8 (ok := k1) e1
  rw [hq] at e2
  have n1 := As.rn_len (l := l) (ok := ok)
  rw [hp] at n1
  have n2 := As.rn_len (l := l1) (ok := k1)
  rw [hq] at n2
  simp only [] at n1 n2
  have H81 := Aside0.mk (show ∀ x ∈ l1, U8 x from e1)
  have H82 := Aside0.mk (show ∀ x ∈ l2, U8 x from e2)
  have HL1 := Aside0.mk (show l1.length ≤ 1000000 by omega)
  have HL2 := Aside0.mk (show l2.length ≤ 1000000 by omega)
  clear e1 e2 n1 n2
  have HG := Aside0.mk hg
  have BKgi := Aside0.mk hi
  have HB := Aside0.mk hb
  have HBG := Aside0.mk hbg
  have HBI := Aside0.mk hbi
  have HNE := Aside0.mk hne
  have H8 := Aside0.mk h8
  have HL := Aside0.mk hl
  have HK := Aside0.mk (show ∀ q, q < w.heap.size → q ≠ g → q ≠ gi → w.heap[q]? = w.heap[q]? from fun _ _ _ _ => rfl)
  have HS := Aside0.mk (Nat.le_refl w.heap.size)
  have hu := Try.underlying74
  clear hg hi hb hbg hbi hne h8 hl
  go_enter Try.func73, Try.ntmps73
  go_wp2_with (first
    | (go_at_call 52; (with_reducible refine (As.num1 HG.out HB.out HBG.out H8.out HL.out).mono ?_); rintro r w2 ⟨he_, hg, hb, hk, hs_⟩; rw [hp] at he_ hg; simp only [] at he_ hg; subst he_; have n0_ := Aside0.mk ((hk gi (blk_lt BKgi.out) HNE.out).trans BKgi.out); have n1_ := Aside0.mk (fun q h1 h2 h3 => (hk q (Nat.lt_of_lt_of_le h1 HS.out) h2).trans (HK.out q h1 h2 h3)); have n2_ := Aside0.mk (Nat.le_trans HS.out hs_); clear HG HB HK HS BKgi hs_ hk; have HG := Aside0.mk hg; have HB := Aside0.mk hb; have BKgi := n0_; have HK := n1_; have HS := n2_; clear n0_ n1_ n2_ hg hb)
    | (go_at_call 52; (with_reducible refine (As.num1 HG.out HB.out HBG.out H81.out HL1.out).mono ?_); rintro r w2 ⟨he_, hg, hb, hk, hs_⟩; rw [hq] at he_ hg; simp only [] at he_ hg; subst he_; have n0_ := Aside0.mk ((hk gi (blk_lt BKgi.out) HNE.out).trans BKgi.out); have n1_ := Aside0.mk (fun q h1 h2 h3 => (hk q (Nat.lt_of_lt_of_le h1 HS.out) h2).trans (HK.out q h1 h2 h3)); have n2_ := Aside0.mk (Nat.le_trans HS.out hs_); clear HG HB HK HS BKgi hs_ hk; have HG := Aside0.mk hg; have HB := Aside0.mk hb; have BKgi := n0_; have HK := n1_; have HS := n2_; clear n0_ n1_ n2_ hg hb)
    | ((with_reducible refine gate_store rfl ?_); refine As.store_cell rfl rfl gi ?_ ?_ 74 _ BKgi.out ?hr ?_; (case hr => (have hs_ := fun i => blk_cell BKgi.out i); (have hf_ := fun i => blk_frozen BKgi.out i); first | (go_simp; done) | (go_simp; rfl)); intro w3 hgb hgr; simp only [List.setIfInBounds_toArray, List.set_cons_zero, List.set_cons_succ] at hgb; have n0_ := Aside0.mk (HB.out.grown hgr HB.out.size (fun k hk => by cases hk; exact HBI.out)); have n1_ := Aside0.mk (fun q h1 h2 h3 => (hgr.block q (Nat.lt_of_lt_of_le h1 HS.out) (fun he => h3 (Option.some.inj he))).trans (HK.out q h1 h2 h3)); have n2_ := Aside0.mk (Nat.le_trans HS.out hgr.size); have n3_ := Aside0.mk (As.Rd_grown HG.out hgr HNE.out); clear HB HK HS HG; have HB := n0_; have HK := n1_; have HS := n2_; have HG := n3_; clear n0_ n1_ n2_ n3_; clear BKgi hgr; have BKgi := Aside0.mk hgb; clear hgb; skip)
    | (go_at_call 71; refine (As.wordsG HG.out BKgi.out HB.out HBG.out HBI.out HNE.out H82.out HL2.out hp3 hq4 hs hgw).mono ?_; rintro r w4 ⟨rfl, hg, ⟨v, hi, hv⟩, hb, hk, hs_⟩; have n1_ := Aside0.mk (fun q h1 h2 h3 => (hk q (Nat.lt_of_lt_of_le h1 HS.out) h2 h3).trans (HK.out q h1 h2 h3)); have n2_ := Aside0.mk (Nat.le_trans HS.out hs_)))
  go_end0
  exact ⟨rfl, hg, ⟨v, hi, hv⟩, hb, n1_.out, n2_.out⟩

def As.read (f : Int) (t : List Int) : S25 × List Int × Bool :=
  if (f == 1 || f == 2 || f == 3 || f == 4) = true then (⟨f, (As.rn t true).1, (As.rn (As.rn t true).2.1 (As.rn t true).2.2).1, 0, 0, 0, 0, 0, [], []⟩, (As.rn (As.rn t true).2.1 (As.rn t true).2.2).2.1, (As.rn (As.rn t true).2.1 (As.rn t true).2.2).2.2)
  else if (f == 5 || f == 6) = true then (⟨f, (As.rn t true).1, 0, (As.rn (As.rn t true).2.1 (As.rn t true).2.2).1, 0, 0, 0, 0, [], []⟩, (As.rn (As.rn t true).2.1 (As.rn t true).2.2).2.1, (As.rn (As.rn t true).2.1 (As.rn t true).2.2).2.2)
  else
    let a := As.rn t true
    let b := As.rn a.2.1 a.2.2
    if (f == 15) = true then
      let r := As.rs b.2.1 b.2.2
      let u := upkS r.1 b.1
      (⟨f, a.1, b.1, 0, 0, 0, 0, 0, u.1, []⟩, r.2.1, r.2.2 && (u.2 == 0))
    else if (f == 16) = true then
      let r := As.rs b.2.1 b.2.2
      let u := getS r.1
      (⟨f, a.1, b.1, 0, 0, 0, 0, 0, [], u.1⟩, r.2.1, r.2.2 && (u.2 == 0))
    else
      let c := As.rn b.2.1 b.2.2
      if (f == 22) = true then (⟨f, a.1, 0, 0, b.1, c.1, 0, 0, [], []⟩, c.2.1, c.2.2)
      else
        let d := As.rn c.2.1 c.2.2
        let r := As.rs d.2.1 d.2.2
        let u := getS r.1
        (⟨f, c.1, d.1, 0, 0, 0, a.1, b.1, [], u.1⟩, r.2.1, r.2.2 && (u.2 == 0))
/-- What any bytes say, and the error. -/
def As.parse (l : List Int) : S25 × Int := if l.length = 0 then (z25, 12) else if As.known (rd l 0) = false then (z25, 1) else if (As.read (rd l 0) (l.drop 1)).2.2 = true ∧ (As.read (rd l 0) (l.drop 1)).2.1.length = 0 ∧ As.right (As.read (rd l 0) (l.drop 1)).1 = true then ((As.read (rd l 0) (l.drop 1)).1, 0) else (z25, 3)
/-- The same, and so it stays when another's memory is written. -/
abbrev As.VV (w : World) (cs : Array Value) (y : S25) : Prop := As.V w cs y ∧ ∀ (w7 w8 : World) (g1 : Nat) (ds : Array Value), Below w.heap.size w w7 → w7.heap[g1]? = some (.cells ds 25 (0, 0)) → w7.grownBy w8 (some g1) → As.V w8 cs y
theorem As.mkR {w : World} {b : Nat} {a0 a1 a2 a3 a4 a5 a6 a7 : Int} {v8 v9 : Value} {l8 : List Bool} {l9 : List Int} (h8 : Kd.bool.R 4 w b (fun _ => True) v8 l8) (h9 : (Kd.int .u16).R 59 w b (fun _ => True) v9 l9) : As.V w #[.int .i64 a0, .int .i64 a1, .int .i64 a2, .int .i64 a3, .int .i64 a4, .int .i64 a5, .int .i64 a6, .int .i64 a7, v8, v9] (⟨a0, a1, a2, a3, a4, a5, a6, a7, l8, l9⟩ : S25) := by
  obtain ⟨A, c, e⟩ := Kd.R_slice h8
  subst e
  obtain ⟨B, d, e⟩ := Kd.R_slice h9
  subst e
  exact As.mk (Kd.R_reads' h8).2.1 (Kd.R_reads' h8).2.2 (Kd.R_reads' h9).2.1 (Kd.R_reads' h9).2.2
theorem As.mkVV {w : World} {b : Nat} {a0 a1 a2 a3 a4 a5 a6 a7 : Int} {v8 v9 : Value} {l8 : List Bool} {l9 : List Int} (h8 : Kd.bool.R 4 w b (fun _ => True) v8 l8) (h9 : (Kd.int .u16).R 59 w b (fun _ => True) v9 l9) : As.VV w #[.int .i64 a0, .int .i64 a1, .int .i64 a2, .int .i64 a3, .int .i64 a4, .int .i64 a5, .int .i64 a6, .int .i64 a7, v8, v9] (⟨a0, a1, a2, a3, a4, a5, a6, a7, l8, l9⟩ : S25) :=
  ⟨As.mkR h8 h9, fun _ _ _ _ hb hg hgr => As.mkR (As.R_ty (Kd.R_below h8 hb) hg (by decide) hgr) (As.R_ty (Kd.R_below h9 hb) hg (by decide) hgr)⟩
theorem As.n8R (w : World) (b : Nat) : Kd.bool.R 4 w b (fun _ => True) (.slice none 0 0) [] := Kd.R_nil _ _ _ _ _
theorem As.n9R (w : World) (b : Nat) : (Kd.int .u16).R 59 w b (fun _ => True) (.slice none 0 0) [] := Kd.R_nil _ _ _ _ _
theorem As.getS_len (l : List Int) : (getS l).1.length ≤ l.length := by
  unfold getS
  split
  · simp only []
    rw [getW_length]
    omega
  · exact Nat.zero_le _
theorem As.upkS_len (l : List Int) {n : Int} (hn : n ≤ 65535) : (upkS l n).1.length ≤ 65535 := by
  unfold upkS
  split
  · exact Nat.zero_le _
  · split
    · exact Nat.zero_le _
    · split
      · exact Nat.zero_le _
      · simp only []
        rw [upk_len]
        omega
theorem As.read_fit {f : Int} {t : List Int} (h8 : ∀ x ∈ t, U8 x) (hl : t.length ≤ 1000000) : As.Fit (As.read f t).1 := by
  have n1 := As.rn_len (l := t) (ok := true)
  have h1 := As.rn_u8 (ok := true) h8
  unfold As.read
  generalize As.rn t true = a at *
  obtain ⟨a1, a2, a3⟩ := a
  simp only [] at *
  have n2 := As.rn_len (l := a2) (ok := a3)
  have m2 := (As.rn_val (ok := a3) h1).2
  generalize As.rn a2 a3 = b at *
  obtain ⟨b1, b2, b3⟩ := b
  simp only [] at *
  have n3 := As.rn_len (l := b2) (ok := b3)
  have r3 := As.rs_len (l := b2) (ok := b3)
  generalize As.rn b2 b3 = c at *
  generalize As.rs b2 b3 = r at *
  obtain ⟨c1, c2, c3⟩ := c
  obtain ⟨r1, r2, r3'⟩ := r
  simp only [] at *
  have n4 := As.rn_len (l := c2) (ok := c3)
  generalize As.rn c2 c3 = d at *
  obtain ⟨d1, d2, d3⟩ := d
  simp only [] at *
  have r4 := As.rs_len (l := d2) (ok := d3)
  generalize As.rs d2 d3 = s at *
  obtain ⟨s1, s2, s3⟩ := s
  simp only [] at *
  have g1 := As.getS_len r1
  have g2 := As.getS_len s1
  have u1 := As.upkS_len r1 m2
  generalize getS r1 = x1 at *
  generalize getS s1 = x2 at *
  generalize upkS r1 b1 = x3 at *
  split
  · exact ⟨Nat.zero_le _, Nat.zero_le _⟩
  · split
    · exact ⟨Nat.zero_le _, Nat.zero_le _⟩
    · split
      · exact ⟨Nat.le_trans u1 (by decide), Nat.zero_le _⟩
      · split
        · exact ⟨Nat.zero_le _, show x1.1.length ≤ 1000000 by omega⟩
        · split
          · exact ⟨Nat.zero_le _, Nat.zero_le _⟩
          · exact ⟨Nat.zero_le _, show x2.1.length ≤ 1000000 by omega⟩
theorem As.tk_places {w0 w : World} {g gi : Nat} {l lx : List Int} {f : Int} {kx : Bool} {y : S25} (hg : As.Rd w0 w g l true) (hi : w.heap[gi]? = some (.cells #[.int .i64 f, .int .i64 0, .int .i64 0, .int .i64 0, .int .i64 0, .int .i64 0, .int .i64 0, .int .i64 0, .slice none 0 0, .slice none 0 0] 74 (0, 0))) (hb : Below w0.heap.size w0 w) (hbg : w0.heap.size ≤ g) (hbi : w0.heap.size ≤ gi) (hne : gi ≠ g) (h8 : ∀ x ∈ l, U8 x) (hl : l.length ≤ 1000000) (he : As.read f l = (y, lx, kx)) (h0 : (f == 1 || f == 2 || f == 3 || f == 4) = true) : Calls Try.prog 68 #[.pointer (some ⟨gi, 0, none⟩), .func (.func 52) #[.pointer (some ⟨g, 0, none⟩)] #[], .pointer (some ⟨g, 0, none⟩)] w fun e w' => e = .returned (.tuple #[]) ∧ As.Rd w0 w' g lx kx ∧ (∃ cs, w'.heap[gi]? = some (.cells cs 74 (0, 0)) ∧ As.VV w' cs y) ∧ Below w0.heap.size w0 w' ∧ (∀ q, q < w.heap.size → q ≠ g → q ≠ gi → w'.heap[q]? = w.heap[q]?) ∧ w.heap.size ≤ w'.heap.size := by
  unfold As.read at he
  rw [if_pos h0] at he
  obtain ⟨rfl, he2⟩ := Prod.mk.inj he
  obtain ⟨rfl, rfl⟩ := Prod.mk.inj he2
  exact (As.placeG hg hi hb hbg hbi hne h8 hl).mono (fun e w' hh => ⟨hh.1, hh.2.1, ⟨_, hh.2.2.1, As.mkVV (As.n8R _ w0.heap.size) (As.n9R _ _)⟩, hh.2.2.2⟩)
theorem As.tk_value {w0 w : World} {g gi : Nat} {l lx : List Int} {f : Int} {kx : Bool} {y : S25} (hg : As.Rd w0 w g l true) (hi : w.heap[gi]? = some (.cells #[.int .i64 f, .int .i64 0, .int .i64 0, .int .i64 0, .int .i64 0, .int .i64 0, .int .i64 0, .int .i64 0, .slice none 0 0, .slice none 0 0] 74 (0, 0))) (hb : Below w0.heap.size w0 w) (hbg : w0.heap.size ≤ g) (hbi : w0.heap.size ≤ gi) (hne : gi ≠ g) (h8 : ∀ x ∈ l, U8 x) (hl : l.length ≤ 1000000) (he : As.read f l = (y, lx, kx)) (h0 : (f == 1 || f == 2 || f == 3 || f == 4) = false) (h1 : (f == 5 || f == 6) = true) : Calls Try.prog 69 #[.pointer (some ⟨gi, 0, none⟩), .func (.func 52) #[.pointer (some ⟨g, 0, none⟩)] #[], .pointer (some ⟨g, 0, none⟩)] w fun e w' => e = .returned (.tuple #[]) ∧ As.Rd w0 w' g lx kx ∧ (∃ cs, w'.heap[gi]? = some (.cells cs 74 (0, 0)) ∧ As.VV w' cs y) ∧ Below w0.heap.size w0 w' ∧ (∀ q, q < w.heap.size → q ≠ g → q ≠ gi → w'.heap[q]? = w.heap[q]?) ∧ w.heap.size ≤ w'.heap.size := by
  unfold As.read at he
  rw [if_neg (by rw [h0]; decide), if_pos h1] at he
  obtain ⟨rfl, he2⟩ := Prod.mk.inj he
  obtain ⟨rfl, rfl⟩ := Prod.mk.inj he2
  exact (As.valueG hg hi hb hbg hbi hne h8 hl).mono (fun e w' hh => ⟨hh.1, hh.2.1, ⟨_, hh.2.2.1, As.mkVV (As.n8R _ w0.heap.size) (As.n9R _ _)⟩, hh.2.2.2⟩)
theorem As.tk_mask {w0 w : World} {g gi : Nat} {l lx : List Int} {f : Int} {kx : Bool} {y : S25} (hg : As.Rd w0 w g l true) (hi : w.heap[gi]? = some (.cells #[.int .i64 f, .int .i64 0, .int .i64 0, .int .i64 0, .int .i64 0, .int .i64 0, .int .i64 0, .int .i64 0, .slice none 0 0, .slice none 0 0] 74 (0, 0))) (hb : Below w0.heap.size w0 w) (hbg : w0.heap.size ≤ g) (hbi : w0.heap.size ≤ gi) (hne : gi ≠ g) (h8 : ∀ x ∈ l, U8 x) (hl : l.length ≤ 1000000) (he : As.read f l = (y, lx, kx)) (h0 : (f == 1 || f == 2 || f == 3 || f == 4) = false) (h1 : (f == 5 || f == 6) = false) (h2 : (f == 15) = false) (h3 : (f == 16) = false) (h4 : (f == 22) = true) : Calls Try.prog 72 #[.pointer (some ⟨gi, 0, none⟩), .func (.func 52) #[.pointer (some ⟨g, 0, none⟩)] #[], .pointer (some ⟨g, 0, none⟩)] w fun e w' => e = .returned (.tuple #[]) ∧ As.Rd w0 w' g lx kx ∧ (∃ cs, w'.heap[gi]? = some (.cells cs 74 (0, 0)) ∧ As.VV w' cs y) ∧ Below w0.heap.size w0 w' ∧ (∀ q, q < w.heap.size → q ≠ g → q ≠ gi → w'.heap[q]? = w.heap[q]?) ∧ w.heap.size ≤ w'.heap.size := by
  unfold As.read at he
  rw [if_neg (by rw [h0]; decide), if_neg (by rw [h1]; decide)] at he
  simp only [h2, h3, h4, Bool.false_eq_true, if_false, if_true] at he
  obtain ⟨rfl, he2⟩ := Prod.mk.inj he
  obtain ⟨rfl, rfl⟩ := Prod.mk.inj he2
  exact (As.maskG hg hi hb hbg hbi hne h8 hl).mono (fun e w' hh => ⟨hh.1, hh.2.1, ⟨_, hh.2.2.1, As.mkVV (As.n8R _ w0.heap.size) (As.n9R _ _)⟩, hh.2.2.2⟩)
theorem As.tk_coils {w0 w : World} {g gi : Nat} {l lx : List Int} {f : Int} {kx : Bool} {y : S25} (hg : As.Rd w0 w g l true) (hi : w.heap[gi]? = some (.cells #[.int .i64 f, .int .i64 0, .int .i64 0, .int .i64 0, .int .i64 0, .int .i64 0, .int .i64 0, .int .i64 0, .slice none 0 0, .slice none 0 0] 74 (0, 0))) (hb : Below w0.heap.size w0 w) (hbg : w0.heap.size ≤ g) (hbi : w0.heap.size ≤ gi) (hne : gi ≠ g) (h8 : ∀ x ∈ l, U8 x) (hl : l.length ≤ 1000000) (he : As.read f l = (y, lx, kx)) (h0 : (f == 1 || f == 2 || f == 3 || f == 4) = false) (h1 : (f == 5 || f == 6) = false) (h2 : (f == 15) = true) : Calls Try.prog 70 #[.pointer (some ⟨gi, 0, none⟩), .func (.func 52) #[.pointer (some ⟨g, 0, none⟩)] #[], .pointer (some ⟨g, 0, none⟩)] w fun e w' => e = .returned (.tuple #[]) ∧ As.Rd w0 w' g lx kx ∧ (∃ cs, w'.heap[gi]? = some (.cells cs 74 (0, 0)) ∧ As.VV w' cs y) ∧ Below w0.heap.size w0 w' ∧ (∀ q, q < w.heap.size → q ≠ g → q ≠ gi → w'.heap[q]? = w.heap[q]?) ∧ w.heap.size ≤ w'.heap.size := by
  unfold As.read at he
  rw [if_neg (by rw [h0]; decide), if_neg (by rw [h1]; decide)] at he
  simp only [h2, if_true] at he
  obtain ⟨p1, l1, k1, hp⟩ : ∃ p l' k, As.rn l true = (p, l', k) := ⟨_, _, _, rfl⟩
  rw [hp] at he
  simp only [] at he
  obtain ⟨p2, l2, k2, hq⟩ : ∃ p l' k, As.rn l1 k1 = (p, l', k) := ⟨_, _, _, rfl⟩
  rw [hq] at he
  simp only [] at he
  obtain ⟨out, lr, kr, hs⟩ : ∃ p l' k, As.rs l2 k2 = (p, l', k) := ⟨_, _, _, rfl⟩
  rw [hs] at he
  simp only [] at he
  obtain ⟨xs, E, hgw⟩ : ∃ p k, upkS out p2 = (p, k) := ⟨_, _, rfl⟩
  rw [hgw] at he
  simp only [] at he
  obtain ⟨rfl, he2⟩ := Prod.mk.inj he
  obtain ⟨rfl, rfl⟩ := Prod.mk.inj he2
  refine (As.coilsG hg hi hb hbg hbi hne h8 hl hp hq hs hgw).mono ?_
  rintro e w' ⟨h1_, h2_, ⟨v, hv, hR⟩, h3_⟩
  exact ⟨h1_, h2_, ⟨_, hv, As.mkVV hR (As.n9R _ _)⟩, h3_⟩
theorem As.tk_words {w0 w : World} {g gi : Nat} {l lx : List Int} {f : Int} {kx : Bool} {y : S25} (hg : As.Rd w0 w g l true) (hi : w.heap[gi]? = some (.cells #[.int .i64 f, .int .i64 0, .int .i64 0, .int .i64 0, .int .i64 0, .int .i64 0, .int .i64 0, .int .i64 0, .slice none 0 0, .slice none 0 0] 74 (0, 0))) (hb : Below w0.heap.size w0 w) (hbg : w0.heap.size ≤ g) (hbi : w0.heap.size ≤ gi) (hne : gi ≠ g) (h8 : ∀ x ∈ l, U8 x) (hl : l.length ≤ 1000000) (he : As.read f l = (y, lx, kx)) (h0 : (f == 1 || f == 2 || f == 3 || f == 4) = false) (h1 : (f == 5 || f == 6) = false) (h2 : (f == 15) = false) (h3 : (f == 16) = true) : Calls Try.prog 71 #[.pointer (some ⟨gi, 0, none⟩), .func (.func 52) #[.pointer (some ⟨g, 0, none⟩)] #[], .pointer (some ⟨g, 0, none⟩)] w fun e w' => e = .returned (.tuple #[]) ∧ As.Rd w0 w' g lx kx ∧ (∃ cs, w'.heap[gi]? = some (.cells cs 74 (0, 0)) ∧ As.VV w' cs y) ∧ Below w0.heap.size w0 w' ∧ (∀ q, q < w.heap.size → q ≠ g → q ≠ gi → w'.heap[q]? = w.heap[q]?) ∧ w.heap.size ≤ w'.heap.size := by
  unfold As.read at he
  rw [if_neg (by rw [h0]; decide), if_neg (by rw [h1]; decide)] at he
  simp only [h2, h3, Bool.false_eq_true, if_false, if_true] at he
  obtain ⟨p1, l1, k1, hp⟩ : ∃ p l' k, As.rn l true = (p, l', k) := ⟨_, _, _, rfl⟩
  rw [hp] at he
  simp only [] at he
  obtain ⟨p2, l2, k2, hq⟩ : ∃ p l' k, As.rn l1 k1 = (p, l', k) := ⟨_, _, _, rfl⟩
  rw [hq] at he
  simp only [] at he
  obtain ⟨out, lr, kr, hs⟩ : ∃ p l' k, As.rs l2 k2 = (p, l', k) := ⟨_, _, _, rfl⟩
  rw [hs] at he
  simp only [] at he
  obtain ⟨xs, E, hgw⟩ : ∃ p k, getS out = (p, k) := ⟨_, _, rfl⟩
  rw [hgw] at he
  simp only [] at he
  obtain ⟨rfl, he2⟩ := Prod.mk.inj he
  obtain ⟨rfl, rfl⟩ := Prod.mk.inj he2
  refine (As.wordsG hg hi hb hbg hbi hne h8 hl hp hq hs hgw).mono ?_
  rintro e w' ⟨h1_, h2_, ⟨v, hv, hR⟩, h3_⟩
  exact ⟨h1_, h2_, ⟨_, hv, As.mkVV (As.n8R _ _) hR⟩, h3_⟩
theorem As.tk_both {w0 w : World} {g gi : Nat} {l lx : List Int} {f : Int} {kx : Bool} {y : S25} (hg : As.Rd w0 w g l true) (hi : w.heap[gi]? = some (.cells #[.int .i64 f, .int .i64 0, .int .i64 0, .int .i64 0, .int .i64 0, .int .i64 0, .int .i64 0, .int .i64 0, .slice none 0 0, .slice none 0 0] 74 (0, 0))) (hb : Below w0.heap.size w0 w) (hbg : w0.heap.size ≤ g) (hbi : w0.heap.size ≤ gi) (hne : gi ≠ g) (h8 : ∀ x ∈ l, U8 x) (hl : l.length ≤ 1000000) (he : As.read f l = (y, lx, kx)) (h0 : (f == 1 || f == 2 || f == 3 || f == 4) = false) (h1 : (f == 5 || f == 6) = false) (h2 : (f == 15) = false) (h3 : (f == 16) = false) (h4 : (f == 22) = false) : Calls Try.prog 73 #[.pointer (some ⟨gi, 0, none⟩), .func (.func 52) #[.pointer (some ⟨g, 0, none⟩)] #[], .pointer (some ⟨g, 0, none⟩)] w fun e w' => e = .returned (.tuple #[]) ∧ As.Rd w0 w' g lx kx ∧ (∃ cs, w'.heap[gi]? = some (.cells cs 74 (0, 0)) ∧ As.VV w' cs y) ∧ Below w0.heap.size w0 w' ∧ (∀ q, q < w.heap.size → q ≠ g → q ≠ gi → w'.heap[q]? = w.heap[q]?) ∧ w.heap.size ≤ w'.heap.size := by
  unfold As.read at he
  rw [if_neg (by rw [h0]; decide), if_neg (by rw [h1]; decide)] at he
  simp only [h2, h3, h4, Bool.false_eq_true, if_false] at he
  obtain ⟨p1, l1, k1, hp⟩ : ∃ p l' k, As.rn l true = (p, l', k) := ⟨_, _, _, rfl⟩
  rw [hp] at he
  simp only [] at he
  obtain ⟨p2, l2, k2, hq⟩ : ∃ p l' k, As.rn l1 k1 = (p, l', k) := ⟨_, _, _, rfl⟩
  rw [hq] at he
  simp only [] at he
  obtain ⟨p3, l3, k3, hp3⟩ : ∃ p l' k, As.rn l2 k2 = (p, l', k) := ⟨_, _, _, rfl⟩
  rw [hp3] at he
  simp only [] at he
  obtain ⟨p4, l4, k4, hq4⟩ : ∃ p l' k, As.rn l3 k3 = (p, l', k) := ⟨_, _, _, rfl⟩
  rw [hq4] at he
  simp only [] at he
  obtain ⟨out, lr, kr, hs⟩ : ∃ p l' k, As.rs l4 k4 = (p, l', k) := ⟨_, _, _, rfl⟩
  rw [hs] at he
  simp only [] at he
  obtain ⟨xs, E, hgw⟩ : ∃ p k, getS out = (p, k) := ⟨_, _, rfl⟩
  rw [hgw] at he
  simp only [] at he
  obtain ⟨rfl, he2⟩ := Prod.mk.inj he
  obtain ⟨rfl, rfl⟩ := Prod.mk.inj he2
  refine (As.bothG hg hi hb hbg hbi hne h8 hl hp hq hp3 hq4 hs hgw).mono ?_
  rintro e w' ⟨h1_, h2_, ⟨v, hv, hR⟩, h3_⟩
  exact ⟨h1_, h2_, ⟨_, hv, As.mkVV (As.n8R _ _) hR⟩, h3_⟩

end Go.Proofs.Ytedfbemifigoeaa.P
