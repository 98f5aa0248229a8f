/- What the functions of package word, and those of its reference, come to: words of 16 bits as bytes, and turned. -/
import Derived.Test.YtedfbemifigoeaaLSame
import Derived.Test.YtedfbemifigoeaaPx1
import Derived.Test.YtedfbemifigoeaaPx5
import Derived.Test.YtedfbemifigoeaaPx0
namespace Go.Proofs.Ytedfbemifigoeaa.L
open Go.RowKit Go.Proofs.Ytedfbemifigoeaa.P Go.Proofs.YtedfbemifigoeaaW.PrintWords Go.Proofs.YtedfbemifigoeaaW.PrintLast Go.Proofs.YtedfbemifigoeaaW.PrintMore
set_option linter.unusedVariables false
set_option linter.unusedSimpArgs false

/-- Words as bytes. -/
def putW (l : List Int) : List Int := l.flatMap fun x => [x / 256, x % 256]
/-- Bytes as words. -/
def getW : List Int → List Int
  | a :: b :: t => (a * 256 + b) :: getW t
  | _ => []
theorem putW_nil : putW [] = [] := rfl
theorem putW_cons (a : Int) (l : List Int) : putW (a :: l) = a / 256 :: a % 256 :: putW l := rfl
theorem putW_append (a b : List Int) : putW (a ++ b) = putW a ++ putW b := by unfold putW; rw [List.flatMap_append]
theorem putW_length (l : List Int) : (putW l).length = 2 * l.length := by
  induction l with
  | nil => rfl
  | cons a l ih => rw [putW_cons]; simp only [List.length_cons]; omega
theorem putW_u8 {l : List Int} (h : ∀ x ∈ l, U16 x) : ∀ x ∈ putW l, U8 x := by
  induction l with
  | nil => intro x hx; simp [putW_nil] at hx
  | cons a l ih =>
    intro x hx
    rw [putW_cons] at hx
    have ha := h a List.mem_cons_self
    rcases List.mem_cons.1 hx with rfl | hx
    · constructor <;> omega
    rcases List.mem_cons.1 hx with rfl | hx
    · constructor <;> omega
    exact ih (fun x hx => h x (List.mem_cons_of_mem _ hx)) x hx
theorem getW_putW {l : List Int} : getW (putW l) = l := by
  induction l with
  | nil => rfl
  | cons a l ih => rw [putW_cons]; simp only [getW]; rw [ih]; congr 1; omega
theorem getW_length : ∀ (l : List Int), (getW l).length = l.length / 2
  | [] => rfl
  | [_] => by simp [getW]
  | a :: b :: t => by simp only [getW, List.length_cons]; rw [getW_length t]; omega
theorem getW_u16 : ∀ {l : List Int}, (∀ x ∈ l, U8 x) → ∀ x ∈ getW l, U16 x
  | [], _, x, hx => by simp [getW] at hx
  | [_], _, x, hx => by simp [getW] at hx
  | a :: b :: t, h, x, hx => by
    simp only [getW] at hx
    rcases List.mem_cons.1 hx with rfl | hx
    · have h1 := h a (by simp)
      have h2 := h b (by simp)
      constructor <;> omega
    · exact getW_u16 (fun x hx => h x (by simp [hx])) x hx
theorem putW_getW : ∀ {l : List Int}, (∀ x ∈ l, U8 x) → l.length % 2 = 0 → putW (getW l) = l
  | [], _, _ => rfl
  | [_], _, h => by simp at h
  | a :: b :: t, h, h2 => by
    have h1 := h a (by simp)
    have h3 := h b (by simp)
    simp only [getW]
    rw [putW_cons, putW_getW (fun x hx => h x (by simp [hx])) (by simp only [List.length_cons] at h2; omega)]
    congr 1
    · omega
    · congr 1; omega

theorem put_bs {x : Int} (h : U16 x) : word_Put.bs x = [x / 256, x % 256] := by
  unfold word_Put.bs
  rw [u16_lo h]
  congr 1
  · omega
  · congr 1; omega
theorem put_eq {l : List Int} (h : ∀ x ∈ l, U16 x) (hl : l.length ≤ 70368744177660) : word_Put.f l = some (putW l) := by
  unfold word_Put.f
  rw [if_pos (by omega)]
  congr 1
  clear hl
  induction l with
  | nil => rfl
  | cons a l ih =>
    rw [List.flatMap_cons, ih (fun x hx => h x (List.mem_cons_of_mem _ hx)), put_bs (h a List.mem_cons_self), putW_cons]
    rfl

def atS (l : List Int) (i : Int) : Int × Bool := if 0 ≤ i ∧ i + 1 < (l.length : Int) then (rd l i * 256 + rd l (i + 1), true) else (0, false)
theorem at_eq {l : List Int} (h : ∀ x ∈ l, U8 x) (hl : l.length ≤ 4611686018427387904) {i : Int} (hi : I64 i) : word_At.f l i = some (atS l i) := by
  unfold word_At.f atS
  by_cases h0 : i < 0
  · rw [if_pos h0, if_neg (by omega)]
  · rw [if_neg h0, w64 (x := (l.length : Int) - 2) (by omega)]
    by_cases h1 : i > (l.length : Int) - 2
    · rw [if_pos h1, if_neg (by omega)]
    · rw [if_neg h1, if_pos (by omega), if_pos (by omega), w64 (x := i + 1) (by omega), if_pos (by omega), if_pos (by omega), if_pos (by omega)]
      have a := rd_all h (i := i) (by omega) (by omega)
      have b := rd_all h (i := i + 1) (by omega) (by omega)
      rw [u16w_id (n := rd l i) (by constructor <;> omega), u16w_id (n := rd l (i + 1)) (by constructor <;> omega), u16w_id (n := rd l i * 256) (by constructor <;> omega), u16_join a b]

theorem getW_drop {l : List Int} {i : Int} (h0 : 0 ≤ i) (h1 : i + 1 < (l.length : Int)) : getW (l.drop i.toNat) = (rd l i * 256 + rd l (i + 1)) :: getW (l.drop (i + 2).toNat) := by
  rw [rd_drop h0 (by omega), show i.toNat + 1 = (i + 1).toNat by omega, rd_drop (i := i + 1) (by omega) h1, show (i + 1).toNat + 1 = (i + 2).toNat by omega]
  rfl
theorem get_loop {l : List Int} (h : ∀ x ∈ l, U8 x) (hl : l.length ≤ 4611686018427387904) (h2 : l.length ≤ 140737488351232) : ∀ (d k : Nat) (i : Int) (acc : List Int), 0 ≤ i → (l.length : Int) - i = 2 * d → d < k → acc.length + d ≤ 70368744177660 → word_Get.l0 k l acc i = some (acc ++ getW (l.drop i.toNat), 0) := by
  intro d
  induction d with
  | zero =>
    intro k i acc h0 h1 hk hc
    obtain ⟨k, rfl⟩ : ∃ m, k = m + 1 := ⟨k - 1, by omega⟩
    simp only [word_Get.l0]
    rw [if_neg (by omega), List.drop_eq_nil_of_le (by omega)]
    simp [getW]
  | succ d ih =>
    intro k i acc h0 h1 hk hc
    obtain ⟨k, rfl⟩ : ∃ m, k = m + 1 := ⟨k - 1, by omega⟩
    simp only [word_Get.l0]
    rw [if_pos (by omega), at_eq h hl (by constructor <;> omega), Option.bind_some, if_pos (by omega), w64 (by omega)]
    unfold atS
    rw [if_pos (by omega), ih k (i + 2) _ (by omega) (by omega) (by omega) (by simp; omega), getW_drop h0 (by omega)]
    simp
/-- The words, and the error's number. -/
def getS (l : List Int) : List Int × Int := if l.length % 2 = 0 then (getW l, 0) else ([], 12)
theorem get_eq {l : List Int} (h : ∀ x ∈ l, U8 x) (hl : l.length ≤ 140737488351232) {k : Nat} (hk : l.length < k) : word_Get.f k l = some (getS l) := by
  unfold word_Get.f getS
  by_cases h2 : l.length % 2 = 0
  · rw [if_pos (by omega), if_pos h2, get_loop h (by omega) hl (l.length / 2) k 0 [] (by omega) (by omega) (by omega) (by simp; omega)]
    simp
  · rw [if_neg (by omega), if_neg h2]

/-! ### a word turned -/
def rvN : Nat → Nat → Nat
  | 0, _ => 0
  | m + 1, x => 2 * rvN m x + x / 2 ^ m % 2
theorem rvN_lt (m x : Nat) : rvN m x < 2 ^ m := by
  induction m with
  | zero => simp [rvN]
  | succ m ih => simp only [rvN]; rw [Nat.pow_succ]; omega
theorem rvN_bit (m x j : Nat) : (rvN m x).testBit j = (decide (j < m) && x.testBit (m - 1 - j)) := by
  induction m generalizing j with
  | zero => simp [rvN]
  | succ m ih =>
    simp only [rvN]
    cases j with
    | zero =>
      rw [Nat.testBit_zero, show m + 1 - 1 - 0 = m by omega, Nat.testBit_eq_decide_div_mod_eq]
      simp only [Nat.zero_lt_succ, decide_true, Bool.true_and, decide_eq_decide]
      omega
    | succ j =>
      rw [Nat.testBit_succ, show (2 * rvN m x + x / 2 ^ m % 2) / 2 = rvN m x by omega, ih]
      rw [show m + 1 - 1 - (j + 1) = m - 1 - j by omega]
      congr 1
      simp
theorem rvN_join (x : Nat) : rvN 16 x = 2 ^ 8 * rvN 8 (x % 256) + rvN 8 (x / 256) := by
  apply Nat.eq_of_testBit_eq
  intro j
  rw [Nat.testBit_two_pow_mul_add _ (rvN_lt 8 (x / 256)), rvN_bit, rvN_bit, rvN_bit]
  by_cases h : j < 8
  · rw [if_pos h, show x / 256 = x / 2 ^ 8 by rfl, Nat.testBit_div_two_pow]
    have e : 8 - 1 - j + 8 = 16 - 1 - j := by omega
    rw [e]
    simp [h, show j < 16 by omega]
  · rw [if_neg h, show x % 256 = x % 2 ^ 8 by rfl, Nat.testBit_mod_two_pow]
    by_cases h2 : j < 16
    · have e : 8 - 1 - (j - 8) = 16 - 1 - j := by omega
      rw [e]
      simp [h2, show j - 8 < 8 by omega, show 16 - 1 - j < 8 by omega]
    · simp [h2, show ¬ j - 8 < 8 by omega]
theorem rvN_rvN {x : Nat} (h : x < 65536) : rvN 16 (rvN 16 x) = x := by
  apply Nat.eq_of_testBit_eq
  intro j
  rw [rvN_bit, rvN_bit]
  by_cases h2 : j < 16
  · rw [show 16 - 1 - (16 - 1 - j) = j by omega]
    simp [h2, show 16 - 1 - j < 16 by omega]
  · have : x.testBit j = false := Nat.testBit_lt_two_pow (Nat.lt_of_lt_of_le h (Nat.pow_le_pow_right (n := 2) (by decide) (show 16 ≤ j by omega)))
    simp [h2, this]
theorem rvN_xor (x y : Nat) : rvN 16 (x ^^^ y) = rvN 16 x ^^^ rvN 16 y := by
  apply Nat.eq_of_testBit_eq
  intro j
  rw [Nat.testBit_xor, rvN_bit, rvN_bit, rvN_bit, Nat.testBit_xor]
  cases decide (j < 16) <;> simp
theorem rvN_and (x y : Nat) : rvN 16 (x &&& y) = rvN 16 x &&& rvN 16 y := by
  apply Nat.eq_of_testBit_eq
  intro j
  rw [Nat.testBit_and, rvN_bit, rvN_bit, rvN_bit, Nat.testBit_and]
  cases decide (j < 16) <;> simp
theorem rvN_or (x y : Nat) : rvN 16 (x ||| y) = rvN 16 x ||| rvN 16 y := by
  apply Nat.eq_of_testBit_eq
  intro j
  rw [Nat.testBit_or, rvN_bit, rvN_bit, rvN_bit, Nat.testBit_or]
  cases decide (j < 16) <;> simp

end Go.Proofs.Ytedfbemifigoeaa.L
