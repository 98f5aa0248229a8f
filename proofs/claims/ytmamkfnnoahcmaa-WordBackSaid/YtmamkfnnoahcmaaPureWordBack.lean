/- The pure statement of WordBack: what was put is got, word by word at its place; what is got, put again, is those bytes; what is turned twice is as it was. -/
import Derived.Test.YtmamkfnnoahcmaaPx6
import Derived.Test.YtmamkfnnoahcmaaPx3
import Derived.Test.YtmamkfnnoahcmaaLRefWord
namespace Go.Proofs.Ytmamkfnnoahcmaa.Pure
open Go.RowKit Go.Proofs.Ytmamkfnnoahcmaa.P Go.Proofs.YtmamkfnnoahcmaaW.PrintWords Go.Proofs.YtmamkfnnoahcmaaW.PrintLast Go.Proofs.Ytmamkfnnoahcmaa.L
set_option maxRecDepth 100000 in
theorem sure01k : ∃ K, ∀ k, K ≤ k → bilgelaw01_sure.f k = some true :=
  Ev.of (g := fun k => bilgelaw01_sure.f k) (fun k => bilgelaw01_sure.mono k) (k := 20) (by decide +kernel)

theorem putW_at : ∀ (l : List Int) (i : Nat), i < l.length → (putW l).getD (2 * i) 0 = l.getD i 0 / 256 ∧ (putW l).getD (2 * i + 1) 0 = l.getD i 0 % 256
  | [], _, h => by simp at h
  | a :: l, 0, _ => by rw [putW_cons]; simp
  | a :: l, i + 1, h => by
    have := putW_at l i (by simpa using h)
    rw [putW_cons, show 2 * (i + 1) = 2 * i + 1 + 1 by omega]
    simpa using this

theorem back_loop {l b : List Int} {s : Nat} (hs : ∀ k, s ≤ k → bilgelaw01_sure.f k = some true) (hl : ∀ x ∈ l, U16 x) (hl1 : l.length ≤ 300) (hb : ∀ x ∈ b, U8 x) (hb1 : b.length ≤ 600) :
    ∀ (d k : Nat) (i : Int), 0 ≤ i → (l.length : Int) - i = d → d + s + 2000 ≤ k → bilgelaw01_WordBack.l0 k l b (putW l) i = some true := by
  intro d
  induction d with
  | zero =>
    intro k i h0 h1 hk
    obtain ⟨k, rfl⟩ : ∃ m, k = m + 1 := ⟨k - 1, by omega⟩
    simp only [bilgelaw01_WordBack.l0]
    rw [if_neg (by omega), get_eq hb (by omega) (by omega), Option.bind_some]
    unfold getS
    by_cases h2 : b.length % 2 = 0
    · simp only [h2, if_true]
      rw [put_eq (getW_u16 hb) (by rw [getW_length]; omega), Option.bind_some, putW_getW hb h2, bytes_eq (by omega) (by omega), Option.bind_some, if_pos (by simp), hs _ (by omega)]
      rfl
    · simp only [h2, if_false]
      rw [if_neg (by decide), if_pos (by simp), if_pos (by omega), hs _ (by omega)]
      rfl
  | succ d ih =>
    intro k i h0 h1 hk
    obtain ⟨k, rfl⟩ : ∃ m, k = m + 1 := ⟨k - 1, by omega⟩
    have hi := ih k (i + 1) (by omega) (by omega) (by omega)
    have hu := rd_all hl (i := i) h0 (by omega)
    simp only [bilgelaw01_WordBack.l0]
    rw [if_pos (by omega), w64 (x := 2 * i) (by constructor <;> omega), at_eq (putW_u8 hl) (by rw [putW_length]; omega) (by constructor <;> omega), Option.bind_some, if_pos h0, low_eq hu, Option.bind_some,
      unlow_eq (by constructor <;> omega) (by constructor <;> omega), Option.bind_some]
    have hat : atS (putW l) (2 * i) = (rd l i, true) := by
      obtain ⟨n, rfl⟩ := Int.eq_ofNat_of_zero_le h0
      have h3 := putW_at l n (by omega)
      unfold atS
      rw [if_pos (by rw [putW_length]; omega)]
      congr 1
      rw [show (2 : Int) * (n : Int) = ((2 * n : Nat) : Int) by omega, show ((2 * n : Nat) : Int) + 1 = ((2 * n + 1 : Nat) : Int) by omega, rd_nat, rd_nat, rd_nat, h3.1, h3.2]
      omega
    rw [hat]
    simp only
    rw [if_pos trivial, if_pos trivial, if_pos (by omega), if_pos trivial, turn_eq hu, Option.bind_some, turn_nat (rvN_lt 16 _), Option.bind_some, rvN_rvN (by omega), if_pos (by omega), w64 (by constructor <;> omega)]
    exact hi

theorem WordBack : bilgelaw01_WordBack.Pure := by
  rintro l b ⟨_, _, hl⟩ ⟨_, _, hb⟩
  replace hl : ∀ x ∈ l, U16 x := fun x hx => u16_of (hl x hx)
  replace hb : ∀ x ∈ b, U8 x := fun x hx => u8_of (hb x hx)
  obtain ⟨K, hK⟩ := sure01k
  refine ⟨K + 3000, ?_⟩
  have hs : bilgelaw01_sure.f (K + 2999) = some true := hK _ (by omega)
  have fin : bilgelaw01_WordBack.j0 (K + 3000) l b true = some true := by
    simp only [bilgelaw01_WordBack.j0, if_true]
    rw [hs]; rfl
  unfold bilgelaw01_WordBack.f
  by_cases h1 : (l.length : Int) > 300
  · rw [if_pos h1]; exact fin
  · rw [if_neg h1]
    by_cases h2 : (b.length : Int) > 600
    · simp only [h2, decide_true]; exact fin
    · simp only [h2, decide_false, bilgelaw01_WordBack.j0, Bool.false_eq_true, if_false]
      rw [put_eq hl (by omega), Option.bind_some, get_eq (putW_u8 hl) (by rw [putW_length]; omega) (by rw [putW_length]; omega), Option.bind_some]
      have e0 : getS (putW l) = (l, 0) := by
        unfold getS
        rw [if_pos (by rw [putW_length]; omega), getW_putW]
      rw [e0]
      simp only
      rw [if_pos trivial, words_eq (by omega) (by omega), Option.bind_some, if_pos (by simp)]
      have e : (((putW l).length : Int) != wrap64 (2 * (l.length : Int))) = false := by
        rw [w64 (by constructor <;> omega), putW_length]
        simp
      rw [e]
      simp only [bilgelaw01_WordBack.j1, Bool.false_eq_true, if_false]
      exact back_loop hK hl (by omega) hb (by omega) l.length _ 0 (by omega) (by omega) (by omega)
end Go.Proofs.Ytmamkfnnoahcmaa.Pure
