/- Bits as bytes and back: what was packed is unpacked; what is tidy, unpacked and packed again, is those bytes; whole bytes ahead of others. -/
import Derived.Test.YtedfbemifigoeaaLBits
namespace Go.Proofs.Ytedfbemifigoeaa.L
open Go.RowKit Go.Proofs.Ytedfbemifigoeaa.P Go.Proofs.YtedfbemifigoeaaW.PrintWords Go.Proofs.YtedfbemifigoeaaW.PrintLast Go.Proofs.YtedfbemifigoeaaW.PrintMore
set_option linter.unusedVariables false
set_option linter.unusedSimpArgs false

theorem pk_u8 (l : List Bool) : ∀ x ∈ pk l, U8 x := by
  intro x hx
  simp only [pk, pkTo, List.mem_map] at hx
  obtain ⟨j, _, rfl⟩ := hx
  have := pkAt_lt l l.length j
  constructor <;> omega
theorem btAt_pk (l : List Bool) {i : Nat} (h : i < 8 * szN l.length) : btAt (pk l) i = l.getD i false := by
  unfold btAt
  rw [pk_at l (by omega), Int.toNat_natCast, bvN_bit _ (by omega), show 8 * (i / 8) + i % 8 = i by omega]
theorem upk_pk (l : List Bool) : upk (pk l) l.length = l := by
  apply List.ext_getElem
  · rw [upk_len]
  · intro i h1 h2
    simp only [upk, List.getElem_map, List.getElem_range]
    rw [btAt_pk l (by unfold szN; omega)]
    simp [List.getD, h2]
theorem upkS_pk (l : List Bool) : upkS (pk l) (l.length : Int) = (l, 0) := by
  unfold upkS
  rw [szI_nat, pk_len, if_neg (by omega), if_neg (by omega), if_neg (by omega), Int.toNat_natCast, upk_pk]
theorem tdP_pk (l : List Bool) : tdP (pk l) (l.length : Int) := by
  refine ⟨by omega, by rw [szI_nat, pk_len], ?_⟩
  intro i h1 h2
  rw [Int.toNat_natCast] at h1
  rw [pk_len] at h2
  rw [btAt_pk l h2, getD_over h1]
theorem upk_getD (b : List Int) {n i : Nat} (h : i < n) : (upk b n).getD i false = btAt b i := by
  rw [List.getD_eq_getElem?_getD, List.getElem?_eq_getElem (by rw [upk_len]; exact h)]
  simp [upk]
theorem btAt_rd {b : List Int} {j r : Nat} (hr : r < 8) : btAt b (8 * j + r) = (rd b (j : Int)).toNat.testBit r := by
  unfold btAt
  rw [show (8 * j + r) / 8 = j by omega, show (8 * j + r) % 8 = r by omega]
theorem list_rd {a b : List Int} (hl : a.length = b.length) (h : ∀ j, j < a.length → rd a (j : Int) = rd b (j : Int)) : a = b := by
  apply List.ext_getElem hl
  intro j h1 h2
  have := h j h1
  rwa [rd_lt h1, rd_lt h2] at this
theorem pk_upk {b : List Int} (hb : ∀ x ∈ b, U8 x) {n : Nat} (hn : b.length = szN n) : pk (upk b n) = b ↔ tdP b (n : Int) := by
  constructor
  · intro h
    have := tdP_pk (upk b n)
    rw [upk_len, h] at this
    exact this
  · rintro ⟨_, _, h⟩
    rw [Int.toNat_natCast] at h
    have hl : (pk (upk b n)).length = b.length := by rw [pk_len, upk_len, hn]
    apply list_rd hl
    intro j hj
    obtain ⟨m, hm⟩ := rd_byte hb (j := j) (by omega)
    rw [pk_at _ (by rw [pk_len] at hj; exact hj), hm]
    refine congrArg Int.ofNat ?_
    apply bvN_ext m.isLt
    intro r hr
    have e : m.val.testBit r = btAt b (8 * j + r) := by rw [btAt_rd hr, hm, Int.toNat_natCast]
    rw [e]
    by_cases h3 : 8 * j + r < n
    · rw [upk_getD b h3]
    · rw [getD_over (by rw [upk_len]; omega)]
      exact h _ (by omega) (by omega)
theorem szN_more (a n : Nat) : szN (8 * a + n) = a + szN n := by unfold szN; omega
theorem pk_parts {b : List Int} (hb : ∀ x ∈ b, U8 x) (l : List Bool) : pk (upk b (8 * b.length) ++ l) = b ++ pk l := by
  have hlen : (upk b (8 * b.length) ++ l).length = 8 * b.length + l.length := by rw [List.length_append, upk_len]
  have hl : (pk (upk b (8 * b.length) ++ l)).length = (b ++ pk l).length := by rw [pk_len, hlen, szN_more, List.length_append, pk_len]
  apply list_rd hl
  intro j hj
  rw [pk_len] at hj
  rw [pk_at _ hj]
  rw [hlen, szN_more] at hj
  by_cases h : j < b.length
  · obtain ⟨m, hm⟩ := rd_byte hb h
    have e : rd (b ++ pk l) (j : Int) = (m.val : Int) := by
      rw [← hm, rd_nat, rd_nat, List.getD_eq_getElem?_getD, List.getD_eq_getElem?_getD, List.getElem?_append_left h]
    rw [e]
    refine congrArg Int.ofNat ?_
    apply bvN_ext m.isLt
    intro r hr
    have e : m.val.testBit r = btAt b (8 * j + r) := by rw [btAt_rd hr, hm, Int.toNat_natCast]
    rw [e, ← upk_getD b (n := 8 * b.length) (by omega), List.getD_eq_getElem?_getD, List.getD_eq_getElem?_getD, List.getElem?_append_left (by rw [upk_len]; omega)]
  · have e : rd (b ++ pk l) (j : Int) = rd (pk l) ((j - b.length : Nat) : Int) := by
      rw [rd_nat, rd_nat, List.getD_eq_getElem?_getD, List.getD_eq_getElem?_getD, List.getElem?_append_right (by omega)]
    rw [e, pk_at _ (by omega)]
    refine congrArg Int.ofNat ?_
    apply bvN_congr
    intro r hr
    rw [List.getD_eq_getElem?_getD, List.getD_eq_getElem?_getD, List.getElem?_append_right (by rw [upk_len]; omega), upk_len, show 8 * j + r - 8 * b.length = 8 * (j - b.length) + r by omega]
end Go.Proofs.Ytedfbemifigoeaa.L
