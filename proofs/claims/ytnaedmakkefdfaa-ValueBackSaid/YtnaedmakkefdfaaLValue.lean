/- What package value's registers come to, and the reference's: numbers in one to four words, in four orders. -/
import Derived.Test.YtnaedmakkefdfaaLBase
import Derived.Test.YtnaedmakkefdfaaPx2
import Derived.Test.YtnaedmakkefdfaaPx1
import Derived.Test.YtnaedmakkefdfaaPx3
import Derived.Test.YtnaedmakkefdfaaPx4
namespace Go.Proofs.Ytnaedmakkefdfaa.L
open Go.RowKit Go.Proofs.Ytnaedmakkefdfaa.P Go.Proofs.YtnaedmakkefdfaaW.PrintWords Go.Proofs.YtnaedmakkefdfaaW.PrintLast Go.Proofs.YtnaedmakkefdfaaW.PrintMore
set_option linter.unusedVariables false
set_option linter.unusedSimpArgs false

theorem or_comm16 (a b : Int) : bits .or .u16 a b = bits .or .u16 b a := by
  simp only [bits, BitVec.or_comm]
theorem rev_eq {x : Int} (h : U16 x) : value_laid.rev x = x % 256 * 256 + x / 256 := by
  unfold value_laid.rev
  rw [or_comm16, u16w, show x * 256 % 65536 = (x % 256) * 256 by omega]
  exact u16_join (a := x % 256) (b := x / 256) (by omega) (by omega)
theorem rev_u16 {x : Int} (h : U16 x) : U16 (value_laid.rev x) := by rw [rev_eq h]; omega
theorem rev_rev {x : Int} (h : U16 x) : value_laid.rev (value_laid.rev x) = x := by
  rw [rev_eq (rev_u16 h), rev_eq h]; omega
theorem turn_eq {x : Int} (h : U16 x) : bilgeref40_turn.f x = some (value_laid.rev x) := by
  unfold bilgeref40_turn.f
  rw [rev_eq h, Int.tdiv_eq_ediv_of_nonneg h.1, Int.tmod_eq_emod_of_nonneg h.1, u16w, u16w, u16w]
  refine congrArg some ?_
  omega

/-- Words in an order. -/
def laidS (l : List Int) (o : Int) : List Int := if o = 1 then l.reverse else if o = 2 then l.map value_laid.rev else if o = 3 then l.reverse.map value_laid.rev else l
theorem few {α : Type} {l : List α} (h : l.length ≤ 4) : l = [] ∨ (∃ a, l = [a]) ∨ (∃ a b, l = [a, b]) ∨ (∃ a b c, l = [a, b, c]) ∨ ∃ a b c d, l = [a, b, c, d] := by
  match l, h with
  | [], _ => exact .inl rfl
  | [a], _ => exact .inr (.inl ⟨a, rfl⟩)
  | [a, b], _ => exact .inr (.inr (.inl ⟨a, b, rfl⟩))
  | [a, b, c], _ => exact .inr (.inr (.inr (.inl ⟨a, b, c, rfl⟩)))
  | [a, b, c, d], _ => exact .inr (.inr (.inr (.inr ⟨a, b, c, d, rfl⟩)))
theorem low_eq {l : List Int} (h : l.length ≤ 4) (k : Nat) : value_words_low.f (k + 4) l = some l.reverse := by
  rcases few h with rfl | ⟨a, rfl⟩ | ⟨a, b, rfl⟩ | ⟨a, b, c, rfl⟩ | ⟨a, b, c, d, rfl⟩ <;> simp [value_words_low.f, value_words_uint16.f, value_words_uint16.l0, wrap64, rd]
theorem laid_eq {l : List Int} (h : l.length ≤ 4) (o : Int) (k : Nat) : value_laid.f (k + 4) l o = some (laidS l o) := by
  unfold value_laid.f slices_Clone_uint16_uint16.f laidS
  rw [if_pos (by omega), Option.bind_some, if_pos (by omega), low_eq h]
  by_cases h1 : o = 1
  · rw [if_pos h1, if_pos h1]
  · rw [if_neg h1, if_neg h1]
    by_cases h2 : o = 2
    · rw [if_pos h2, if_pos h2]; rfl
    · rw [if_neg h2, if_neg h2]
      by_cases h3 : o = 3
      · rw [if_pos h3, if_pos h3, Option.bind_some, if_pos (by rw [List.length_reverse]; omega)]; rfl
      · rw [if_neg h3, if_neg h3]
theorem laidS_len (l : List Int) (o : Int) : (laidS l o).length = l.length := by
  unfold laidS
  split
  · simp
  · split
    · simp
    · split <;> simp
theorem laidS_u16 {l : List Int} (h : ∀ x ∈ l, U16 x) (o : Int) : ∀ x ∈ laidS l o, U16 x := by
  unfold laidS
  intro x hx
  split at hx
  · exact h x (by simpa using hx)
  · split at hx
    · obtain ⟨y, hy, rfl⟩ := List.mem_map.mp hx
      exact rev_u16 (h y hy)
    · split at hx
      · obtain ⟨y, hy, rfl⟩ := List.mem_map.mp hx
        exact rev_u16 (h y (by simpa using hy))
      · exact h x hx
theorem map_rev_rev {l : List Int} (h : ∀ x ∈ l, U16 x) : (l.map value_laid.rev).map value_laid.rev = l := by
  rw [List.map_map]
  conv => rhs; rw [← List.map_id l]
  exact List.map_congr_left fun x hx => rev_rev (h x hx)
theorem laidS_laidS {l : List Int} (h : ∀ x ∈ l, U16 x) (o : Int) : laidS (laidS l o) o = l := by
  unfold laidS
  by_cases h1 : o = 1
  · simp [h1]
  · by_cases h2 : o = 2
    · subst h2
      simp only [show ¬ (2 : Int) = 1 by decide, if_false, if_true]
      exact map_rev_rev h
    · by_cases h3 : o = 3
      · subst h3
        simp only [show ¬ (3 : Int) = 1 by decide, show ¬ (3 : Int) = 2 by decide, if_false, if_true]
        rw [← List.map_reverse, List.reverse_reverse]
        exact map_rev_rev h
      · simp [h1, h2, h3]
theorem rlaid_loop {l : List Int} (h : l.length ≤ 1000000) (hu : ∀ x ∈ l, U16 x) {o : Int} (ho : 0 ≤ o ∧ o ≤ 3) : ∀ (d k i : Nat), i + d = l.length → d < k → bilgeref40_laid.l0 k l o ((laidS l o).take i) (i : Int) = some (laidS l o) := by
  have hlen := laidS_len l o
  intro d
  induction d with
  | zero =>
    intro k i h1 hk
    obtain ⟨k, rfl⟩ : ∃ m, k = m + 1 := ⟨k - 1, by omega⟩
    simp only [bilgeref40_laid.l0]
    rw [if_neg (by omega), List.take_of_length_le (by omega)]
  | succ d ih =>
    intro k i h1 hk
    obtain ⟨k, rfl⟩ : ∃ m, k = m + 1 := ⟨k - 1, by omega⟩
    have hi := ih k (i + 1) (by omega) (by omega)
    have e2 : rd l ((l.length - 1 - i : Nat) : Int) = l[l.length - 1 - i] := rd_lt (by omega)
    have e3 : rd l (i : Int) = l[i] := rd_lt (by omega)
    have t2 := turn_eq (hu _ (List.getElem_mem (show l.length - 1 - i < l.length by omega)))
    have t3 := turn_eq (hu _ (List.getElem_mem (show i < l.length by omega)))
    rw [List.take_succ_eq_append_getElem (by omega)] at hi
    have a1 : (i : Int) < (l.length : Int) := by omega
    have a2 : 0 ≤ (i : Int) := Int.natCast_nonneg _
    have a3 : (0 : Int) ≤ ((l.length - 1 - i : Nat) : Int) := Int.natCast_nonneg _
    have a4 : ((l.length - 1 - i : Nat) : Int) < (l.length : Int) := by omega
    have e5 : ((laidS l o).take i).length < 70368744177664 := by rw [List.length_take]; omega
    clear ih
    have e1 : wrap64 (wrap64 ((l.length : Int) - 1) - (i : Int)) = ((l.length - 1 - i : Nat) : Int) := by
      rw [w64 (x := (l.length : Int) - 1) (by constructor <;> omega), w64 (by constructor <;> omega)]; clear hi t2 t3 e2 e3; omega
    have e6 : wrap64 ((i : Int) + 1) = ((i + 1 : Nat) : Int) := by rw [w64 (by constructor <;> (clear e1; omega))]; clear e1; omega
    simp only [bilgeref40_laid.l0]
    simp only [e1, e2, e3, e6, t2, t3, Option.bind_some, a1, a2, a3, a4, e5, if_true]
    obtain rfl | rfl | rfl | rfl : o = 0 ∨ o = 1 ∨ o = 2 ∨ o = 3 := by omega
    · simp only [show ¬ Int.tmod 0 2 = 1 by decide, show ¬ (0 : Int) ≥ 2 by decide, if_false]
      exact hi
    · simp only [show Int.tmod 1 2 = 1 by decide, show ¬ (1 : Int) ≥ 2 by decide, if_false, if_true]
      have e : (laidS l 1)[i]'(by omega) = l[l.length - 1 - i] := by simp [laidS]
      rw [e] at hi
      exact hi
    · simp only [show ¬ Int.tmod 2 2 = 1 by decide, show (2 : Int) ≥ 2 by decide, if_false, if_true]
      have e : (laidS l 2)[i]'(by omega) = value_laid.rev l[i] := by simp [laidS]
      rw [e] at hi
      exact hi
    · simp only [show Int.tmod 3 2 = 1 by decide, show (3 : Int) ≥ 2 by decide, if_false, if_true]
      have e : (laidS l 3)[i]'(by omega) = value_laid.rev l[l.length - 1 - i] := by simp [laidS]
      rw [e] at hi
      exact hi
theorem rlaid_eq {l : List Int} (h : l.length ≤ 4) (hu : ∀ x ∈ l, U16 x) {o : Int} (ho : 0 ≤ o ∧ o ≤ 3) {k : Nat} (hk : 6 ≤ k) : bilgeref40_laid.f k l o = some (laidS l o) := by
  unfold bilgeref40_laid.f
  exact rlaid_loop (by omega) hu ho l.length k 0 (by omega) (by omega)

/-! ### numbers -/
abbrev N64 (n : Int) : Prop := I64 n
/-- The words of a number, the highest first. -/
def wds (n : Int) (w : Int) : List Int := if w = 1 then [n % 65536] else if w = 2 then [n / 65536 % 65536, n % 65536] else if w = 3 then [n / 65536 / 65536 % 65536, n / 65536 % 65536, n % 65536] else [n / 65536 / 65536 / 65536 % 65536, n / 65536 / 65536 % 65536, n / 65536 % 65536, n % 65536]
theorem wds_u16 (n w : Int) : ∀ x ∈ wds n w, U16 x := by
  intro x hx
  unfold wds at hx
  split at hx
  · simp only [List.mem_cons, List.not_mem_nil, or_false] at hx; subst hx; omega
  · split at hx
    · simp only [List.mem_cons, List.not_mem_nil, or_false] at hx; rcases hx with rfl | rfl <;> omega
    · split at hx
      · simp only [List.mem_cons, List.not_mem_nil, or_false] at hx; rcases hx with rfl | rfl | rfl <;> omega
      · simp only [List.mem_cons, List.not_mem_nil, or_false] at hx; rcases hx with rfl | rfl | rfl | rfl <;> omega
theorem wds_len (n : Int) {w : Int} (hw : 1 ≤ w ∧ w ≤ 4) : ((wds n w).length : Int) = w := by
  obtain rfl | rfl | rfl | rfl : w = 1 ∨ w = 2 ∨ w = 3 ∨ w = 4 := by omega
  all_goals simp [wds]
/-- Whether a number has room. -/
def fits (n w : Int) : Prop := (w = 1 → -32768 ≤ n ∧ n ≤ 65535) ∧ (w = 2 → -2147483648 ≤ n ∧ n ≤ 4294967295) ∧ (w = 3 → -140737488355328 ≤ n ∧ n ≤ 281474976710655)
instance (n w : Int) : Decidable (fits n w) := by unfold fits; infer_instance
/-- A number as registers. -/
def putS (n w o : Int) : List Int × Int := if 1 ≤ w ∧ w ≤ 4 ∧ 0 ≤ o ∧ o ≤ 3 then (if fits n w then (laidS (wds n w) o, 0) else ([], 13)) else ([], 11)
theorem s0 (n : Int) : shr .i64 n 0 = n := by simp [shr]
theorem s15 (n : Int) : shr .i64 n 15 = n / 32768 := rfl
theorem s16 (n : Int) : shr .i64 n 16 = n / 65536 := rfl
theorem s31 (n : Int) : shr .i64 n 31 = n / 2147483648 := rfl
theorem s32 (n : Int) : shr .i64 n 32 = n / 4294967296 := rfl
theorem s47 (n : Int) : shr .i64 n 47 = n / 140737488355328 := rfl
theorem s48 (n : Int) : shr .i64 n 48 = n / 281474976710656 := rfl
theorem d2 (n : Int) : n / 65536 / 65536 = n / 4294967296 := by rw [Int.ediv_ediv_of_nonneg (by decide)]; rfl
theorem d3 (n : Int) : n / 4294967296 / 65536 = n / 281474976710656 := by rw [Int.ediv_ediv_of_nonneg (by decide)]; rfl
theorem may_eq (w o : Int) : value_may.f w o = some (decide (1 ≤ w ∧ w ≤ 4 ∧ 0 ≤ o ∧ o ≤ 3)) := by
  unfold value_may.f
  by_cases h1 : w ≥ 1
  · rw [if_pos h1]
    by_cases h2 : w ≤ 4
    · rw [if_pos h2]
      by_cases h3 : o ≥ 0
      · rw [if_pos h3]
        refine congrArg some ?_
        apply decide_eq_decide.mpr
        omega
      · rw [if_neg h3, decide_eq_false (by omega)]
    · rw [if_neg h2, decide_eq_false (by omega)]
  · rw [if_neg h1, decide_eq_false (by omega)]
theorem put1 (k : Nat) (n o : Int) : value_Put.j0 (k + 20) n 1 o false = some (laidS (wds n 1) o, 0) := by
  simp [value_Put.j0, value_Put.l0, wrap64, s0, u16w, laid_eq, wds]
theorem put2 (k : Nat) (n o : Int) : value_Put.j0 (k + 20) n 2 o false = some (laidS (wds n 2) o, 0) := by
  simp [value_Put.j0, value_Put.l0, wrap64, s0, s16, u16w, laid_eq, wds]
theorem put3 (k : Nat) (n o : Int) : value_Put.j0 (k + 20) n 3 o false = some (laidS (wds n 3) o, 0) := by
  simp [value_Put.j0, value_Put.l0, wrap64, s0, s16, s32, u16w, laid_eq, wds, d2]
theorem put4 (k : Nat) (n o : Int) : value_Put.j0 (k + 20) n 4 o false = some (laidS (wds n 4) o, 0) := by
  simp [value_Put.j0, value_Put.l0, wrap64, s0, s16, s32, s48, u16w, laid_eq, wds, d2, d3]
theorem putX (k : Nat) (n w o : Int) : value_Put.j0 (k + 20) n w o true = some ([], 13) := by
  simp [value_Put.j0]
theorem put_eq (k : Nat) (n w o : Int) : value_Put.f (k + 20) n w o = some (putS n w o) := by
  unfold value_Put.f putS
  rw [may_eq, Option.bind_some]
  by_cases h : 1 ≤ w ∧ w ≤ 4 ∧ 0 ≤ o ∧ o ≤ 3
  · rw [if_pos (decide_eq_true h), if_pos h]
    obtain rfl | rfl | rfl | rfl : w = 1 ∨ w = 2 ∨ w = 3 ∨ w = 4 := by omega
    · rw [show wrap64 (16 * 1) = 16 by decide +kernel, show wrap64 (16 - 1) = 15 by decide +kernel, s16, s15, if_pos (by decide), if_pos (by decide), if_pos (show (0 : Int) ≤ 15 by decide)]
      by_cases h1 : n / 65536 = 0
      · rw [if_pos h1, put1, if_pos (by unfold fits; omega)]
      · rw [if_neg h1]
        by_cases h2 : n / 32768 = -1
        · rw [show (n / 32768 != -1) = false by simp [h2], put1, if_pos (by unfold fits; omega)]
        · rw [show (n / 32768 != -1) = true by simp [h2], putX, if_neg (by unfold fits; omega)]
    · rw [show wrap64 (16 * 2) = 32 by decide +kernel, show wrap64 (32 - 1) = 31 by decide +kernel, s32, s31, if_pos (by decide), if_pos (by decide), if_pos (show (0 : Int) ≤ 31 by decide)]
      by_cases h1 : n / 4294967296 = 0
      · rw [if_pos h1, put2, if_pos (by unfold fits; omega)]
      · rw [if_neg h1]
        by_cases h2 : n / 2147483648 = -1
        · rw [show (n / 2147483648 != -1) = false by simp [h2], put2, if_pos (by unfold fits; omega)]
        · rw [show (n / 2147483648 != -1) = true by simp [h2], putX, if_neg (by unfold fits; omega)]
    · rw [show wrap64 (16 * 3) = 48 by decide +kernel, show wrap64 (48 - 1) = 47 by decide +kernel, s48, s47, if_pos (by decide), if_pos (by decide), if_pos (show (0 : Int) ≤ 47 by decide)]
      by_cases h1 : n / 281474976710656 = 0
      · rw [if_pos h1, put3, if_pos (by unfold fits; omega)]
      · rw [if_neg h1]
        by_cases h2 : n / 140737488355328 = -1
        · rw [show (n / 140737488355328 != -1) = false by simp [h2], put3, if_pos (by unfold fits; omega)]
        · rw [show (n / 140737488355328 != -1) = true by simp [h2], putX, if_neg (by unfold fits; omega)]
    · rw [if_neg (by decide), put4, if_pos (by unfold fits; omega)]
  · rw [decide_eq_false h, if_neg h, if_neg (by decide)]

theorem t0 (n : Int) : shr .u64 n 0 = n := by simp [shr]
theorem t16 (n : Int) : shr .u64 n 16 = n / 65536 := rfl
theorem t32 (n : Int) : shr .u64 n 32 = n / 4294967296 := rfl
theorem t48 (n : Int) : shr .u64 n 48 = n / 281474976710656 := rfl
theorem u64w (n : Int) : IntKind.u64.wrap n = n % 18446744073709551616 := by simp [IntKind.wrap, IntKind.bits, IntKind.signed]
theorem v0 (n : Int) : Int.tmod (n % 18446744073709551616) 65536 % 65536 = n % 65536 := by
  rw [Int.tmod_eq_emod_of_nonneg (by omega)]; omega
theorem v16 (n : Int) : Int.tmod (n % 18446744073709551616 / 65536) 65536 % 65536 = n / 65536 % 65536 := by
  rw [Int.tmod_eq_emod_of_nonneg (by omega)]; omega
theorem v32 (n : Int) : Int.tmod (n % 18446744073709551616 / 4294967296) 65536 % 65536 = n / 4294967296 % 65536 := by
  rw [Int.tmod_eq_emod_of_nonneg (by omega)]; omega
theorem v48 (n : Int) : Int.tmod (n % 18446744073709551616 / 281474976710656) 65536 % 65536 = n / 281474976710656 % 65536 := by
  rw [Int.tmod_eq_emod_of_nonneg (by omega)]; omega
theorem rput (k : Nat) (n : Int) {w o : Int} (hw : 1 ≤ w ∧ w ≤ 4) (ho : 0 ≤ o ∧ o ≤ 3) : bilgeref40_Put.j1 (k + 20) n w o = some (laidS (wds n w) o, 0) := by
  have hu := wds_u16 n w
  have hl := wds_len n hw
  have key : ∀ q, 6 ≤ q → bilgeref40_laid.f q (wds n w) o = some (laidS (wds n w) o) := fun q hq => rlaid_eq (by omega) hu ho hq
  obtain rfl | rfl | rfl | rfl : w = 1 ∨ w = 2 ∨ w = 3 ∨ w = 4 := by omega
  all_goals
    simp only [wds, d2, d3, show ¬ (2 : Int) = 1 by decide, show ¬ (3 : Int) = 1 by decide, show ¬ (3 : Int) = 2 by decide, show ¬ (4 : Int) = 1 by decide, show ¬ (4 : Int) = 2 by decide, show ¬ (4 : Int) = 3 by decide, if_true, if_false] at key ⊢
    simp [bilgeref40_Put.j1, bilgeref40_Put.l0, wrap64, t0, t16, t32, t48, u16w, u64w, v0, v16, v32, v48, key]
theorem rput_eq (k : Nat) (n w o : Int) : bilgeref40_Put.f (k + 21) n w o = some (putS n w o) := by
  unfold bilgeref40_Put.f putS
  by_cases h1 : w < 1
  · rw [if_pos h1, if_neg (by omega)]; simp [bilgeref40_Put.j0]
  · rw [if_neg h1]
    by_cases h2 : w > 4
    · rw [if_pos h2, if_neg (by omega)]; simp [bilgeref40_Put.j0]
    · rw [if_neg h2]
      by_cases h3 : o < 0
      · rw [if_pos h3, if_neg (by omega)]; simp [bilgeref40_Put.j0]
      · rw [if_neg h3]
        by_cases h4 : o > 3
        · rw [decide_eq_true h4, if_neg (by omega)]; simp [bilgeref40_Put.j0]
        · rw [decide_eq_false h4, if_pos (by omega)]
          have key := rput k n (w := w) (o := o) (by omega) (by omega)
          simp only [bilgeref40_Put.j0, Bool.false_eq_true, if_false]
          obtain rfl | rfl | rfl | rfl : w = 1 ∨ w = 2 ∨ w = 3 ∨ w = 4 := by omega
          · rw [if_pos (by decide), show wrap64 (wrap64 (16 * 1) - 1) = 15 by decide +kernel, show shl .i64 1 15 = 32768 by decide +kernel, show wrap64 (-32768) = -32768 by decide +kernel, show wrap64 (wrap64 (2 * 32768) - 1) = 65535 by decide +kernel, if_pos (by decide)]
            by_cases g1 : n < -32768
            · rw [if_pos g1, if_neg (by unfold fits; omega)]
            · rw [if_neg g1]
              by_cases g2 : n > 65535
              · rw [if_pos g2, if_neg (by unfold fits; omega)]
              · rw [if_neg g2, if_pos (by unfold fits; omega)]
                exact key
          · rw [if_pos (by decide), show wrap64 (wrap64 (16 * 2) - 1) = 31 by decide +kernel, show shl .i64 1 31 = 2147483648 by decide +kernel, show wrap64 (-2147483648) = -2147483648 by decide +kernel, show wrap64 (wrap64 (2 * 2147483648) - 1) = 4294967295 by decide +kernel, if_pos (by decide)]
            by_cases g1 : n < -2147483648
            · rw [if_pos g1, if_neg (by unfold fits; omega)]
            · rw [if_neg g1]
              by_cases g2 : n > 4294967295
              · rw [if_pos g2, if_neg (by unfold fits; omega)]
              · rw [if_neg g2, if_pos (by unfold fits; omega)]
                exact key
          · rw [if_pos (by decide), show wrap64 (wrap64 (16 * 3) - 1) = 47 by decide +kernel, show shl .i64 1 47 = 140737488355328 by decide +kernel, show wrap64 (-140737488355328) = -140737488355328 by decide +kernel, show wrap64 (wrap64 (2 * 140737488355328) - 1) = 281474976710655 by decide +kernel, if_pos (by decide)]
            by_cases g1 : n < -140737488355328
            · rw [if_pos g1, if_neg (by unfold fits; omega)]
            · rw [if_neg g1]
              by_cases g2 : n > 281474976710655
              · rw [if_pos g2, if_neg (by unfold fits; omega)]
              · rw [if_neg g2, if_pos (by unfold fits; omega)]
                exact key
          · rw [if_neg (by decide), if_pos (by unfold fits; omega)]
            exact key

/-! ### numbers out of registers -/
/-- The number of words. -/
def horner (x : Int) : List Int → Int
  | [] => x
  | w :: l => horner (x * 65536 + w) l
theorem or_step {x w : Int} (hw : U16 w) : bits .or .i64 (wrap64 (x * 65536)) w = wrap64 (x * 65536 + w) := by
  obtain ⟨n, rfl⟩ := Int.eq_ofNat_of_zero_le hw.1
  have hA : (BitVec.ofInt 64 (wrap64 (x * 65536))).toNat = 2 ^ 16 * (x % 281474976710656).toNat := by
    rw [BitVec.toNat_ofInt]
    unfold wrap64
    omega
  have hB : (BitVec.ofInt 64 (n : Int)).toNat = n := by
    rw [BitVec.toNat_ofInt]
    omega
  have hC : (BitVec.ofInt 64 (wrap64 (x * 65536)) ||| BitVec.ofInt 64 (n : Int)).toNat = 2 ^ 16 * (x % 281474976710656).toNat + n := by
    rw [BitVec.toNat_or, hA, hB, Nat.two_pow_add_eq_or_of_lt (by omega)]
  have e : bits .or .i64 (wrap64 (x * 65536)) (n : Int) = IntKind.i64.wrap ((BitVec.ofInt 64 (wrap64 (x * 65536)) ||| BitVec.ofInt 64 (n : Int)).toNat : Int) := rfl
  rw [e, hC, i64_w]
  clear e hC hB hA
  unfold wrap64
  omega
theorem wrap_in (x w : Int) : wrap64 (wrap64 x * 65536 + w) = wrap64 (x * 65536 + w) := by
  unfold wrap64
  omega
/-- The number that registers are, or the error. -/
def getS (l : List Int) (o : Int) (s : Bool) : Int × Int := if 1 ≤ (l.length : Int) ∧ (l.length : Int) ≤ 4 ∧ 0 ≤ o ∧ o ≤ 3 then (wrap64 (horner (if s = true ∧ 32768 ≤ rd (laidS l o) 0 then -1 else 0) (laidS l o)), 0) else (0, 11)
theorem get_loop {l : List Int} (hu : ∀ x ∈ l, U16 x) (hl : l.length ≤ 1000000) : ∀ (d k i : Nat) (x : Int), i + d = l.length → d < k → value_Get.l0 k (wrap64 x) l (l.length : Int) (i : Int) = some (wrap64 (horner x (l.drop i)), 0) := by
  intro d
  induction d with
  | zero =>
    intro k i x h1 hk
    obtain ⟨k, rfl⟩ : ∃ m, k = m + 1 := ⟨k - 1, by omega⟩
    simp only [value_Get.l0]
    rw [if_neg (by omega), List.drop_of_length_le (by omega)]; rfl
  | succ d ih =>
    intro k i x h1 hk
    obtain ⟨k, rfl⟩ : ∃ m, k = m + 1 := ⟨k - 1, by omega⟩
    have hd := rd_drop (l := l) (i := (i : Int)) (by omega) (by omega)
    rw [Int.toNat_natCast] at hd
    have hr : U16 (rd l (i : Int)) := rd_all hu (by omega) (by omega)
    have a1 : (i : Int) < (l.length : Int) := by omega
    have a2 : 0 ≤ (i : Int) := by omega
    have hi := ih k (i + 1) (x * 65536 + rd l (i : Int)) (by omega) (by omega)
    have e1 : wrap64 ((i : Int) + 1) = ((i + 1 : Nat) : Int) := by rw [w64 (by constructor <;> omega)]; omega
    have e2 : wrap64 (rd l (i : Int)) = rd l (i : Int) := w64 (by constructor <;> (clear e1 hi; omega))
    simp only [value_Get.l0, a1, a2, if_true, e1, e2]
    rw [or_step hr, wrap_in, hd]
    exact hi
theorem get_eq {l : List Int} (hu : ∀ x ∈ l, U16 x) (o : Int) (s : Bool) (k : Nat) : value_Get.f (k + 20) l o s = some (getS l o s) := by
  unfold value_Get.f getS
  rw [may_eq, Option.bind_some]
  by_cases h : 1 ≤ (l.length : Int) ∧ (l.length : Int) ≤ 4 ∧ 0 ≤ o ∧ o ≤ 3
  · have hlen := laidS_len l o
    have hu2 := laidS_u16 hu o
    have h0 : U16 (rd (laidS l o) 0) := rd_all hu2 (by omega) (by omega)
    have key : ∀ x, value_Get.l0 (k + 18) (wrap64 x) (laidS l o) ((laidS l o).length : Int) 0 = some (wrap64 (horner x (laidS l o)), 0) := fun x => get_loop hu2 (by omega) (laidS l o).length (k + 18) 0 x (by omega) (by omega)
    have k0 := key 0
    have k1 := key (-1)
    rw [show wrap64 0 = 0 by decide +kernel] at k0
    rw [show wrap64 (-1) = -1 by decide +kernel] at k1
    rw [if_pos (decide_eq_true h), if_pos h, laid_eq (by omega), Option.bind_some]
    cases s with
    | false =>
      simp only [value_Get.j0, value_Get.j1, Bool.false_eq_true, if_false, false_and]
      exact k0
    | true =>
      rw [if_pos rfl, if_pos (by omega)]
      by_cases g : 32768 ≤ rd (laidS l o) 0
      · rw [show (rd (laidS l o) 0 / 32768 == 1) = true by rw [beq_iff_eq]; clear key k0 k1; omega]
        simp only [value_Get.j0, value_Get.j1, if_true, g, and_self]
        exact k1
      · rw [show (rd (laidS l o) 0 / 32768 == 1) = false by rw [beq_eq_false_iff_ne]; clear key k0 k1; omega]
        simp only [value_Get.j0, value_Get.j1, Bool.false_eq_true, if_false, g, and_false]
        exact k0
  · rw [decide_eq_false h, if_neg h, if_neg (by decide)]
theorem u_step (x w : Int) : IntKind.u64.wrap (IntKind.u64.wrap (x % 18446744073709551616 * 65536) + IntKind.u64.wrap w) = (x * 65536 + w) % 18446744073709551616 := by
  rw [u64w, u64w, u64w]
  omega
/-- What the reference ends with. -/
def fin (s : Bool) (l : List Int) (u : Int) : Option (Int × Int) := bilgeref40_Get.l0 1 s l u (l.length : Int)
theorem rget_loop {l : List Int} (s : Bool) (hl : l.length ≤ 1000000) : ∀ (d k i : Nat) (x : Int), i + d = l.length → d < k → bilgeref40_Get.l0 k s l (x % 18446744073709551616) (i : Int) = fin s l (horner x (l.drop i) % 18446744073709551616) := by
  intro d
  induction d with
  | zero =>
    intro k i x h1 hk
    obtain ⟨k, rfl⟩ : ∃ m, k = m + 1 := ⟨k - 1, by omega⟩
    rw [show i = l.length by omega, List.drop_of_length_le (by omega)]
    have e : ¬ ((l.length : Int) < (l.length : Int)) := by omega
    simp only [fin, bilgeref40_Get.l0, horner, e, if_false]
  | succ d ih =>
    intro k i x h1 hk
    obtain ⟨k, rfl⟩ : ∃ m, k = m + 1 := ⟨k - 1, by omega⟩
    have hd := rd_drop (l := l) (i := (i : Int)) (by omega) (by omega)
    rw [Int.toNat_natCast] at hd
    have a1 : (i : Int) < (l.length : Int) := by omega
    have a2 : 0 ≤ (i : Int) := by omega
    have hi := ih k (i + 1) (x * 65536 + rd l (i : Int)) (by omega) (by omega)
    have e1 : wrap64 ((i : Int) + 1) = ((i + 1 : Nat) : Int) := by rw [w64 (by constructor <;> omega)]; omega
    simp only [bilgeref40_Get.l0, a1, a2, if_true, e1]
    rw [u_step, hd]
    exact hi
theorem rget_eq {l : List Int} (hu : ∀ x ∈ l, U16 x) (hl : l.length ≤ 100) (o : Int) (s : Bool) (k : Nat) : bilgeref40_Get.f (k + 20) l o s = some (getS l o s) := by
  unfold bilgeref40_Get.f getS
  by_cases h1 : (l.length : Int) < 1
  · rw [if_pos h1, if_neg (by omega)]; simp [bilgeref40_Get.j0]
  · rw [if_neg h1]
    by_cases h2 : (l.length : Int) > 4
    · rw [if_pos h2, if_neg (by omega)]; simp [bilgeref40_Get.j0]
    · rw [if_neg h2]
      by_cases h3 : o < 0
      · rw [if_pos h3, if_neg (by omega)]; simp [bilgeref40_Get.j0]
      · rw [if_neg h3]
        by_cases h4 : o > 3
        · rw [decide_eq_true h4, if_neg (by omega)]; simp [bilgeref40_Get.j0]
        · rw [decide_eq_false h4, if_pos (by omega)]
          have hlen := laidS_len l o
          have hu2 := laidS_u16 hu o
          have h0 := rget_loop (l := laidS l o) s (by omega) (laidS l o).length (k + 19) 0 0 (by omega) (by omega)
          simp only [bilgeref40_Get.j0, Bool.false_eq_true, if_false]
          rw [rlaid_eq (by omega) hu ⟨by omega, by omega⟩ (by omega), Option.bind_some]
          refine Eq.trans h0 ?_
          rw [List.drop_zero]
          have hl4 : (laidS l o).length ≤ 4 := by omega
          have hl1 : 1 ≤ (laidS l o).length := by omega
          clear h0
          generalize laidS l o = q at *
          rcases few hl4 with rfl | ⟨a, rfl⟩ | ⟨a, b, rfl⟩ | ⟨a, b, c, rfl⟩ | ⟨a, b, c, d, rfl⟩
          · exact absurd hl1 (by decide)
          · have ha := hu2 a (by simp)
            cases s <;> by_cases g : 32768 ≤ a <;> simp [fin, bilgeref40_Get.l0, horner, rd, g, show shl .i64 1 (wrap64 16) = 65536 by decide +kernel] <;> unfold wrap64 <;> omega
          · have ha := hu2 a (by simp)
            have hb := hu2 b (by simp)
            cases s <;> by_cases g : 32768 ≤ a <;> simp [fin, bilgeref40_Get.l0, horner, rd, g, show shl .i64 1 (wrap64 (16 * 2)) = 4294967296 by decide +kernel, show shl .i64 1 (wrap64 32) = 4294967296 by decide +kernel] <;> unfold wrap64 <;> omega
          · have ha := hu2 a (by simp)
            have hb := hu2 b (by simp)
            have hc := hu2 c (by simp)
            cases s <;> by_cases g : 32768 ≤ a <;> simp [fin, bilgeref40_Get.l0, horner, rd, g, show shl .i64 1 (wrap64 48) = 281474976710656 by decide +kernel] <;> unfold wrap64 <;> omega
          · have ha := hu2 a (by simp)
            have hb := hu2 b (by simp)
            have hc := hu2 c (by simp)
            have hd := hu2 d (by simp)
            cases s <;> by_cases g : 32768 ≤ a <;> simp [fin, bilgeref40_Get.l0, horner, rd, g] <;> unfold wrap64 <;> omega
end Go.Proofs.Ytnaedmakkefdfaa.L
