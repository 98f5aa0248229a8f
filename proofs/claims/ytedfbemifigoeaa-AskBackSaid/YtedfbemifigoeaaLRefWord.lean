/- What the reference's words come to, and package word's Low and Unlow. -/
import Derived.Test.YtedfbemifigoeaaLWord
import Derived.Test.YtedfbemifigoeaaPx3
import Derived.Test.YtedfbemifigoeaaPx1
import Derived.Test.YtedfbemifigoeaaPx0
namespace Go.Proofs.Ytedfbemifigoeaa.L
open Go.RowKit Go.Proofs.Ytedfbemifigoeaa.P Go.Proofs.YtedfbemifigoeaaW.PrintWords Go.Proofs.YtedfbemifigoeaaW.PrintLast Go.Proofs.YtedfbemifigoeaaW.PrintMore
set_option linter.unusedVariables false
set_option linter.unusedSimpArgs false

theorem rput_loop {l : List Int} (h : ∀ x ∈ l, U16 x) (hl : l.length ≤ 70368744177000) : ∀ (d k : Nat) (i : Int) (acc : List Int), 0 ≤ i → (l.length : Int) - i = d → d < k → acc.length + 2 * d ≤ 140737488355320 → bilgeref01_Put.l0 k l acc i = some (acc ++ putW (l.drop i.toNat)) := by
  intro d
  induction d with
  | zero =>
    intro k i acc h0 h1 hk hc
    obtain ⟨k, rfl⟩ : ∃ m, k = m + 1 := ⟨k - 1, by omega⟩
    simp only [bilgeref01_Put.l0]
    rw [if_neg (by omega), List.drop_eq_nil_of_le (by omega), putW_nil, List.append_nil]
  | succ d ih =>
    intro k i acc h0 h1 hk hc
    obtain ⟨k, rfl⟩ : ∃ m, k = m + 1 := ⟨k - 1, by omega⟩
    have hu := rd_all h (i := i) h0 (by omega)
    simp only [bilgeref01_Put.l0]
    rw [if_pos (by omega), if_pos h0, Option.bind_some, if_pos (by simp; omega), w64 (by constructor <;> omega), ih k (i + 1) _ (by omega) (by omega) (by omega) (by simp; omega), rd_drop h0 (by omega), putW_cons, show (i + 1).toNat = i.toNat + 1 by omega]
    rw [Int.tdiv_eq_ediv_of_nonneg hu.1, Int.tmod_eq_emod_of_nonneg hu.1, u16w_id (by constructor <;> omega)]
    rw [List.append_assoc]
    congr 2
    simp only [List.cons_append, List.nil_append]
    congr 1
    · omega
    · congr 1; omega
theorem rput_eq {l : List Int} (h : ∀ x ∈ l, U16 x) (hl : l.length ≤ 70368744177000) {k : Nat} (hk : l.length < k) : bilgeref01_Put.f k l = some (putW l) := by
  unfold bilgeref01_Put.f
  rw [rput_loop h hl l.length k 0 [] (by omega) (by omega) hk (by simp; omega)]
  simp

theorem rat_eq {l : List Int} (h : ∀ x ∈ l, U8 x) (hl : l.length ≤ 4611686018427387904) {i : Int} (hi : I64 i) : bilgeref01_At.f l i = some (atS l i) := by
  unfold bilgeref01_At.f atS
  by_cases h0 : i < 0
  · rw [if_pos h0, if_neg (by omega)]
  · rw [if_neg h0, w64 (x := (l.length : Int) - 1) (by omega)]
    by_cases h1 : i ≥ (l.length : Int) - 1
    · rw [if_pos h1, if_neg (by omega)]
    · rw [if_neg h1, if_pos (by omega), if_pos (by omega), w64 (x := i + 1) (by omega), if_pos (by omega), if_pos (by omega), if_pos (by omega)]
      have a := rd_all h (i := i) (by omega) (by omega)
      have b := rd_all h (i := i + 1) (by omega) (by omega)
      rw [u16w_id (n := rd l i) (by constructor <;> omega), u16w_id (n := rd l (i + 1)) (by constructor <;> omega), u16w_id (n := rd l i * 256) (by constructor <;> omega), u16w_id (by constructor <;> omega)]

theorem rget_loop {l : List Int} (h : ∀ x ∈ l, U8 x) (h2 : l.length ≤ 140737488351232) : ∀ (d k : Nat) (i : Int) (acc : List Int), 0 ≤ i → (l.length : Int) - i = 2 * d → d < k → acc.length + d ≤ 70368744177660 → bilgeref01_Get.l0 k l acc i = some (acc ++ getW (l.drop i.toNat), true) := by
  intro d
  induction d with
  | zero =>
    intro k i acc h0 h1 hk hc
    obtain ⟨k, rfl⟩ : ∃ m, k = m + 1 := ⟨k - 1, by omega⟩
    simp only [bilgeref01_Get.l0]
    rw [if_neg (by omega), List.drop_eq_nil_of_le (by omega)]
    simp [getW]
  | succ d ih =>
    intro k i acc h0 h1 hk hc
    obtain ⟨k, rfl⟩ : ∃ m, k = m + 1 := ⟨k - 1, by omega⟩
    have a := rd_all h (i := i) (by omega) (by omega)
    have b := rd_all h (i := i + 1) (by omega) (by omega)
    simp only [bilgeref01_Get.l0]
    rw [if_pos (by omega), if_pos h0, w64 (x := i + 1) (by constructor <;> omega), if_pos (by omega), if_pos (by omega), if_pos (by omega), w64 (x := i + 2) (by constructor <;> omega)]
    rw [u16w_id (n := rd l i) (by constructor <;> omega), u16w_id (n := rd l (i + 1)) (by constructor <;> omega), u16w_id (n := rd l i * 256) (by constructor <;> omega), u16w_id (by constructor <;> omega)]
    rw [ih k (i + 2) _ (by omega) (by omega) (by omega) (by simp; omega), getW_drop h0 (by omega)]
    simp
theorem rget_eq {l : List Int} (h : ∀ x ∈ l, U8 x) (hl : l.length ≤ 140737488351232) {k : Nat} (hk : l.length < k) : bilgeref01_Get.f k l = some (if l.length % 2 = 0 then (getW l, true) else ([], false)) := by
  unfold bilgeref01_Get.f
  by_cases h2 : l.length % 2 = 0
  · rw [if_neg (by omega), if_pos h2, rget_loop h hl (l.length / 2) k 0 [] (by omega) (by omega) (by omega) (by simp; omega)]
    simp
  · rw [if_pos (by omega), if_neg h2]

end Go.Proofs.Ytedfbemifigoeaa.L
