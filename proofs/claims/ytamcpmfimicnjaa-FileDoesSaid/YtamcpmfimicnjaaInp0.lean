import Derived.Test.YtamcpmfimicnjaaX
import Derived.Test.YtamcpmfimicnjaaKep0
import Derived.Test.YtamcpmfimicnjaaLFile
namespace Go.Proofs.Ytamcpmfimicnjaa.P
open Go.RowKit Go.Proofs.YtamcpmfimicnjaaW.PrintWords Go.Proofs.YtamcpmfimicnjaaW.PrintLast Go.Proofs.YtamcpmfimicnjaaW.PrintMore
attribute [local go_sem] max2_int min2_int max_two min_two max_three min_three max_four min_four   -- for this text's walks alone
set_option linter.unusedVariables false
set_option linter.unusedSimpArgs false
open Go.Proofs.Ytamcpmfimicnjaa.L

theorem Fi.put1 {α : Type} {a b p : Int} {l : List α} (v : α) (h1 : RightP a b) (h2 : (l.length : Int) = b) (h3 : HoldsP a b p 1) : writeS a b l p [v] = (l.set (p - a).toNat v, 0) := by
  unfold writeS
  rw [if_pos ⟨h1, h2, by simp⟩, if_pos (show HoldsP a b p (([v] : List α).length : Int) from h3)]
  unfold HoldsP at h3
  refine Prod.ext ?_ rfl
  simp only [List.length_cons, List.length_nil]
  rw [List.set_eq_take_append_cons_drop, if_pos (by omega)]
  simp
theorem Fi.put1_of {α : Type} {a b p : Int} {l L : List α} {v : α} (h : writeS a b l p [v] = (L, 0)) : HoldsP a b p 1 := by
  unfold writeS at h
  split at h
  · split at h
    · rename_i h2; exact h2
    · injection h with h3 h4; cases h4
  · injection h with h3 h4; cases h4
theorem Fi.sense_w {x : S31} {p v : Int} (hP : Fi.P x) (h3 : HoldsP x.f0.f3.f0 x.f0.f3.f1 p 1) : Fi.sense x true p v = ({ x with f4 := x.f4.set (p - x.f0.f3.f0).toNat (v % 65536) }, 0) := by
  unfold Fi.sense
  rw [if_pos hP, if_pos rfl, Fi.put1 _ hP.1.2.2.2.1 hP.2.2.2.2 h3, if_pos rfl]
theorem Fi.sense_wof {x y : S31} {p v : Int} (h : Fi.sense x true p v = (y, 0)) : Fi.P x ∧ HoldsP x.f0.f3.f0 x.f0.f3.f1 p 1 := by
  unfold Fi.sense at h
  by_cases hP : Fi.P x
  · rw [if_pos hP, if_pos rfl] at h
    obtain ⟨L, E, hw⟩ : ∃ L E, writeS x.f0.f3.f0 x.f0.f3.f1 x.f4 p [v % 65536] = (L, E) := ⟨_, _, rfl⟩
    simp only [hw] at h
    by_cases hE : E = 0
    · subst hE
      exact ⟨hP, Fi.put1_of hw⟩
    · rw [if_neg hE] at h; injection h with h1 h2; exact absurd h2 hE
  · rw [if_neg hP] at h; injection h with h1 h2; cases h2
theorem Fi.sense_b {x : S31} {p v : Int} (hP : Fi.P x) (h3 : HoldsP x.f0.f1.f0 x.f0.f1.f1 p 1) : Fi.sense x false p v = ({ x with f2 := x.f2.set (p - x.f0.f1.f0).toNat (v != 0) }, 0) := by
  unfold Fi.sense
  rw [if_pos hP, if_neg Bool.false_ne_true, Fi.put1 _ hP.1.2.1 hP.2.2.1 h3, if_pos rfl]
theorem Fi.sense_bof {x y : S31} {p v : Int} (h : Fi.sense x false p v = (y, 0)) : Fi.P x ∧ HoldsP x.f0.f1.f0 x.f0.f1.f1 p 1 := by
  unfold Fi.sense at h
  by_cases hP : Fi.P x
  · rw [if_pos hP, if_neg Bool.false_ne_true] at h
    obtain ⟨L, E, hw⟩ : ∃ L E, writeS x.f0.f1.f0 x.f0.f1.f1 x.f2 p [v != 0] = (L, E) := ⟨_, _, rfl⟩
    simp only [hw] at h
    by_cases hE : E = 0
    · subst hE
      exact ⟨hP, Fi.put1_of hw⟩
    · rw [if_neg hE] at h; injection h with h1 h2; exact absurd h2 hE
  · rw [if_neg hP] at h; injection h with h1 h2; cases h2
theorem Fi.P_f4 {x : S31} (h : Fi.P x) {L : List Int} (hl : L.length = x.f4.length) : Fi.P { x with f4 := L } := by
  obtain ⟨h1, h2, h3, h4, h5⟩ := h
  exact ⟨h1, h2, h3, h4, by show (L.length : Int) = x.f0.f3.f1; omega⟩
theorem Fi.P_f2 {x : S31} (h : Fi.P x) {L : List Bool} (hl : L.length = x.f2.length) : Fi.P { x with f2 := L } := by
  obtain ⟨h1, h2, h3, h4, h5⟩ := h
  exact ⟨h1, h2, by show (L.length : Int) = x.f0.f1.f1; omega, h4, h5⟩
theorem Fi.two_w {x sx sy : S31} {p q v u : Int} (h1 : Fi.sense x true p v = (sx, 0)) (h2 : Fi.sense x true q u = (sy, 0)) : ∃ xy yx, Fi.sense sx true q u = (xy, 0) ∧ Fi.sense sy true p v = (yx, 0) ∧ (p ≠ q → xy = yx) ∧ Fi.words xy true q 1 = ([u % 65536], 0) ∧ Fi.P sx ∧ Fi.P sy ∧ Fi.P xy := by
  obtain ⟨hP, hp⟩ := Fi.sense_wof h1
  obtain ⟨_, hq⟩ := Fi.sense_wof h2
  obtain rfl : _ = sx := (Prod.mk.inj ((Fi.sense_w hP hp).symm.trans h1)).1
  obtain rfl : _ = sy := (Prod.mk.inj ((Fi.sense_w hP hq).symm.trans h2)).1
  have hPx := Fi.P_f4 hP (L := x.f4.set (p - x.f0.f3.f0).toNat (v % 65536)) (by simp)
  have hPy := Fi.P_f4 hP (L := x.f4.set (q - x.f0.f3.f0).toNat (u % 65536)) (by simp)
  have hPxy := Fi.P_f4 hP (L := (x.f4.set (p - x.f0.f3.f0).toNat (v % 65536)).set (q - x.f0.f3.f0).toNat (u % 65536)) (by simp)
  refine ⟨_, _, Fi.sense_w hPx hq, Fi.sense_w hPy hp, fun hne => ?_, ?_, hPx, hPy, hPxy⟩
  · have g1 := hp; have g2 := hq
    unfold HoldsP at g1 g2
    show ({ x with f4 := (x.f4.set (p - x.f0.f3.f0).toNat (v % 65536)).set (q - x.f0.f3.f0).toNat (u % 65536) } : S31) = { x with f4 := (x.f4.set (q - x.f0.f3.f0).toNat (u % 65536)).set (p - x.f0.f3.f0).toNat (v % 65536) }
    rw [List.set_comm _ _ (show (p - x.f0.f3.f0).toNat ≠ (q - x.f0.f3.f0).toNat by omega)]
  · unfold Fi.words
    rw [if_pos hPxy, if_pos rfl]
    exact Fi.write_back (m := [u % 65536]) (Fi.put1 (l := x.f4.set (p - x.f0.f3.f0).toNat (v % 65536)) (u % 65536) hP.1.2.2.2.1 hPx.2.2.2.2 hq)
theorem Fi.two_b {x sx sy : S31} {p q v u : Int} (h1 : Fi.sense x false p v = (sx, 0)) (h2 : Fi.sense x false q u = (sy, 0)) : ∃ xy yx, Fi.sense sx false q u = (xy, 0) ∧ Fi.sense sy false p v = (yx, 0) ∧ (p ≠ q → xy = yx) ∧ Fi.bits xy true q 1 = ([u != 0], 0) ∧ Fi.P sx ∧ Fi.P sy ∧ Fi.P xy := by
  obtain ⟨hP, hp⟩ := Fi.sense_bof h1
  obtain ⟨_, hq⟩ := Fi.sense_bof h2
  obtain rfl : _ = sx := (Prod.mk.inj ((Fi.sense_b hP hp).symm.trans h1)).1
  obtain rfl : _ = sy := (Prod.mk.inj ((Fi.sense_b hP hq).symm.trans h2)).1
  have hPx := Fi.P_f2 hP (L := x.f2.set (p - x.f0.f1.f0).toNat (v != 0)) (by simp)
  have hPy := Fi.P_f2 hP (L := x.f2.set (q - x.f0.f1.f0).toNat (u != 0)) (by simp)
  have hPxy := Fi.P_f2 hP (L := (x.f2.set (p - x.f0.f1.f0).toNat (v != 0)).set (q - x.f0.f1.f0).toNat (u != 0)) (by simp)
  refine ⟨_, _, Fi.sense_b hPx hq, Fi.sense_b hPy hp, fun hne => ?_, ?_, hPx, hPy, hPxy⟩
  · have g1 := hp; have g2 := hq
    unfold HoldsP at g1 g2
    show ({ x with f2 := (x.f2.set (p - x.f0.f1.f0).toNat (v != 0)).set (q - x.f0.f1.f0).toNat (u != 0) } : S31) = { x with f2 := (x.f2.set (q - x.f0.f1.f0).toNat (u != 0)).set (p - x.f0.f1.f0).toNat (v != 0) }
    rw [List.set_comm _ _ (show (p - x.f0.f1.f0).toNat ≠ (q - x.f0.f1.f0).toNat by omega)]
  · unfold Fi.bits
    rw [if_pos hPxy, if_pos rfl]
    exact Fi.write_back (m := [u != 0]) (Fi.put1 (l := x.f2.set (p - x.f0.f1.f0).toNat (v != 0)) (u != 0) hP.1.2.1 hPx.2.2.1 hq)
theorem Fi.u64mod (v : Int) : IntKind.i64.wrap ((IntKind.u64.wrap v).tmod 65536) = v % 65536 := by
  have h1 : IntKind.u64.wrap v = v % 18446744073709551616 := by simp [IntKind.wrap, IntKind.bits, IntKind.signed]
  rw [h1, Int.tmod_eq_emod_of_nonneg (by omega), i64_w, w64 (by omega)]
  omega

end Go.Proofs.Ytamcpmfimicnjaa.P
