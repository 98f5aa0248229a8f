/- The pure statement of ValueBack: what was put is got with its sign, or without one; what is got, put again, is those registers; the order turned, they are turned. -/
import Derived.Test.YtnaedmakkefdfaaPx6
import Derived.Test.YtnaedmakkefdfaaPx3
import Derived.Test.YtnaedmakkefdfaaLValue
import Derived.Test.YtnaedmakkefdfaaLSameW
namespace Go.Proofs.Ytnaedmakkefdfaa.Pure
open Go.RowKit Go.Proofs.Ytnaedmakkefdfaa.P Go.Proofs.YtnaedmakkefdfaaW.PrintWords Go.Proofs.YtnaedmakkefdfaaW.PrintLast Go.Proofs.Ytnaedmakkefdfaa.L
set_option maxRecDepth 100000 in
theorem sure40b : ∃ K, ∀ k, K ≤ k → bilgelaw40_sure.f k = some true :=
  Ev.of (g := fun k => bilgelaw40_sure.f k) (fun k => bilgelaw40_sure.mono k) (k := 40) (by decide +kernel)
/-- The words of a number that has room, got with its sign, are that number. -/
theorem wds_back {n w : Int} (hn : I64 n) (hw : 1 ≤ w ∧ w ≤ 4) (hf : fits n w) : wrap64 (horner (if decide (n < 0) = true ∧ 32768 ≤ rd (wds n w) 0 then -1 else 0) (wds n w)) = n := by
  unfold fits at hf
  have h1 := Int.emod_add_mul_ediv n 65536
  have h2 := Int.emod_add_mul_ediv (n / 65536) 65536
  have h3 := Int.emod_add_mul_ediv (n / 65536 / 65536) 65536
  have h4 := Int.emod_add_mul_ediv (n / 65536 / 65536 / 65536) 65536
  have b1 := Int.emod_nonneg n (show (65536 : Int) ≠ 0 by decide)
  have b2 := Int.emod_nonneg (n / 65536) (show (65536 : Int) ≠ 0 by decide)
  have b3 := Int.emod_nonneg (n / 65536 / 65536) (show (65536 : Int) ≠ 0 by decide)
  have b4 := Int.emod_nonneg (n / 65536 / 65536 / 65536) (show (65536 : Int) ≠ 0 by decide)
  have c1 := Int.emod_lt_of_pos n (show (0 : Int) < 65536 by decide)
  have c2 := Int.emod_lt_of_pos (n / 65536) (show (0 : Int) < 65536 by decide)
  have c3 := Int.emod_lt_of_pos (n / 65536 / 65536) (show (0 : Int) < 65536 by decide)
  have c4 := Int.emod_lt_of_pos (n / 65536 / 65536 / 65536) (show (0 : Int) < 65536 by decide)
  obtain rfl | rfl | rfl | rfl : w = 1 ∨ w = 2 ∨ w = 3 ∨ w = 4 := by omega
  all_goals
    simp only [wds, rd, decide_eq_true_eq, show ¬ (2 : Int) = 1 by decide, show ¬ (3 : Int) = 1 by decide, show ¬ (3 : Int) = 2 by decide, show ¬ (4 : Int) = 1 by decide, show ¬ (4 : Int) = 2 by decide, show ¬ (4 : Int) = 3 by decide, if_true, if_false]
    generalize n / 65536 / 65536 / 65536 / 65536 = q4 at *
    generalize n / 65536 / 65536 / 65536 % 65536 = r3 at *
    generalize n / 65536 / 65536 / 65536 = q3 at *
    generalize n / 65536 / 65536 % 65536 = r2 at *
    generalize n / 65536 / 65536 = q2 at *
    generalize n / 65536 % 65536 = r1 at *
    generalize n / 65536 = q1 at *
    generalize n % 65536 = r0 at *
    simp only [Int.toNat_zero, List.getD_cons_zero]
    split
    · simp only [horner]
      unfold wrap64
      omega
    · simp only [horner]
      unfold wrap64
      omega
/-- Registers got, and put again. -/
theorem horner_back {l : List Int} (hu : ∀ x ∈ l, U16 x) (h1 : 1 ≤ l.length) (h4 : l.length ≤ 4) (s : Bool) : fits (wrap64 (horner (if s = true ∧ 32768 ≤ rd l 0 then -1 else 0) l)) (l.length : Int) ∧ wds (wrap64 (horner (if s = true ∧ 32768 ≤ rd l 0 then -1 else 0) l)) (l.length : Int) = l := by
  rcases few h4 with rfl | ⟨a, rfl⟩ | ⟨a, b, rfl⟩ | ⟨a, b, c, rfl⟩ | ⟨a, b, c, d, rfl⟩
  · exact absurd h1 (by decide)
  · have ha := hu a (by simp)
    obtain ⟨e, he, hv⟩ : ∃ e : Int, (if s = true ∧ 32768 ≤ rd [a] 0 then (-1 : Int) else 0) = e ∧ (e = 0 ∨ e = -1 ∧ 32768 ≤ a) := ⟨_, rfl, by by_cases g : s = true ∧ 32768 ≤ rd [a] 0 <;> simp [g]; simpa [rd] using g.2⟩
    rw [he]
    constructor
    · simp only [fits, horner, List.length_cons, List.length_nil]
      unfold wrap64
      omega
    · simp [wds, horner]
      unfold wrap64
      omega
  · have ha := hu a (by simp)
    have hb := hu b (by simp)
    obtain ⟨e, he, hv⟩ : ∃ e : Int, (if s = true ∧ 32768 ≤ rd [a, b] 0 then (-1 : Int) else 0) = e ∧ (e = 0 ∨ e = -1 ∧ 32768 ≤ a) := ⟨_, rfl, by by_cases g : s = true ∧ 32768 ≤ rd [a, b] 0 <;> simp [g]; simpa [rd] using g.2⟩
    rw [he]
    constructor
    · simp only [fits, horner, List.length_cons, List.length_nil]
      unfold wrap64
      omega
    · simp [wds, horner]
      unfold wrap64
      omega
  · have ha := hu a (by simp)
    have hb := hu b (by simp)
    have hc := hu c (by simp)
    obtain ⟨e, he, hv⟩ : ∃ e : Int, (if s = true ∧ 32768 ≤ rd [a, b, c] 0 then (-1 : Int) else 0) = e ∧ (e = 0 ∨ e = -1 ∧ 32768 ≤ a) := ⟨_, rfl, by by_cases g : s = true ∧ 32768 ≤ rd [a, b, c] 0 <;> simp [g]; simpa [rd] using g.2⟩
    rw [he]
    constructor
    · simp only [fits, horner, List.length_cons, List.length_nil]
      unfold wrap64
      omega
    · simp [wds, horner]
      unfold wrap64
      omega
  · have ha := hu a (by simp)
    have hb := hu b (by simp)
    have hc := hu c (by simp)
    have hd := hu d (by simp)
    obtain ⟨e, he, hv⟩ : ∃ e : Int, (if s = true ∧ 32768 ≤ rd [a, b, c, d] 0 then (-1 : Int) else 0) = e ∧ (e = 0 ∨ e = -1 ∧ 32768 ≤ a) := ⟨_, rfl, by by_cases g : s = true ∧ 32768 ≤ rd [a, b, c, d] 0 <;> simp [g]; simpa [rd] using g.2⟩
    rw [he]
    constructor
    · simp only [fits, List.length_cons, List.length_nil]
      omega
    · simp [wds, horner]
      unfold wrap64
      omega
theorem back_j2 {l : List Int} (hu : ∀ x ∈ l, U16 x) (hl : l.length ≤ 4611686018427387904) {o h0 h1 : Int} (ho : 0 ≤ o ∧ o ≤ 3) {K : Nat} (hs : ∀ k, K ≤ k → bilgelaw40_sure.f k = some true) {k : Nat} (hk : K + 100 ≤ k) : bilgelaw40_ValueBack.j2 k l o h0 h1 = some true := by
  obtain ⟨k, rfl⟩ : ∃ m, k = (m + 20) + 1 := ⟨k - 21, by omega⟩
  simp only [bilgelaw40_ValueBack.j2]
  rw [get_eq hu, Option.bind_some]
  unfold getS
  by_cases h : 1 ≤ (l.length : Int) ∧ (l.length : Int) ≤ 4 ∧ 0 ≤ o ∧ o ≤ 3
  · have hlen := laidS_len l o
    have hb := horner_back (laidS_u16 hu o) (by omega) (by omega) (decide (h0 ≥ 128))
    rw [hlen] at hb
    rw [if_pos h]
    simp only [if_true]
    have hp : putS (wrap64 (horner (if decide (h0 ≥ 128) = true ∧ 32768 ≤ rd (laidS l o) 0 then -1 else 0) (laidS l o))) (l.length : Int) o = (l, 0) := by
      unfold putS
      rw [if_pos h, if_pos hb.1, hb.2, laidS_laidS hu]
    rw [put_eq, Option.bind_some, hp]
    simp only [if_true]
    rw [words_eq (by omega) (by omega), Option.bind_some, decide_eq_true rfl, if_pos rfl, hs _ (by omega)]
    rfl
  · rw [if_neg h]
    simp only [show ¬ (11 : Int) = 0 by decide, if_false]
    by_cases g : (l.length : Int) < 1
    · rw [if_pos g, hs _ (by omega)]; rfl
    · rw [if_neg g, if_pos (by omega), hs _ (by omega)]; rfl
theorem laidS_turn (q : List Int) {o : Int} (ho : 0 ≤ o ∧ o ≤ 3) : laidS q (bits .xor .i64 o 1) = (laidS q o).reverse ∧ 0 ≤ bits .xor .i64 o 1 ∧ bits .xor .i64 o 1 ≤ 3 := by
  obtain rfl | rfl | rfl | rfl : o = 0 ∨ o = 1 ∨ o = 2 ∨ o = 3 := by omega
  · rw [show bits .xor .i64 0 1 = 1 by decide +kernel]; exact ⟨by simp [laidS], by decide, by decide⟩
  · rw [show bits .xor .i64 1 1 = 0 by decide +kernel]; exact ⟨by simp [laidS], by decide, by decide⟩
  · rw [show bits .xor .i64 2 1 = 3 by decide +kernel]; exact ⟨by simp [laidS], by decide, by decide⟩
  · rw [show bits .xor .i64 3 1 = 2 by decide +kernel]; exact ⟨by simp [laidS], by decide, by decide⟩
theorem rd_reverse {a : List Int} {i : Nat} (h : i < a.length) : rd a.reverse ((a.length - 1 - i : Nat) : Int) = rd a (i : Int) := by
  rw [rd_lt (by rw [List.length_reverse]; omega), rd_lt h, List.getElem_reverse]
  congr 1
  omega
theorem back_l0 {l a : List Int} {w o h0 h1 : Int} (hw : (a.length : Int) = w) (h4 : a.length ≤ 4) {K : Nat} (hj : ∀ k, K ≤ k → bilgelaw40_ValueBack.j2 k l o h0 h1 = some true) : ∀ (d k i : Nat), i + d = a.length → K + d < k → bilgelaw40_ValueBack.l0 k l w o a a.reverse (i : Int) h0 h1 = some true := by
  intro d
  induction d with
  | zero =>
    intro k i h1 hk
    obtain ⟨k, rfl⟩ : ∃ m, k = m + 1 := ⟨k - 1, by omega⟩
    simp only [bilgelaw40_ValueBack.l0]
    rw [if_neg (by omega), hj _ (by omega)]
  | succ d ih =>
    intro k i h1 hk
    obtain ⟨k, rfl⟩ : ∃ m, k = m + 1 := ⟨k - 1, by omega⟩
    have hi := ih k (i + 1) (by omega) (by omega)
    have a1 : (i : Int) < w := by omega
    have a2 : 0 ≤ (i : Int) := by omega
    have a3 : (i : Int) < (a.length : Int) := by omega
    have a4 : (0 : Int) ≤ ((a.length - 1 - i : Nat) : Int) := by omega
    have a5 : ((a.length - 1 - i : Nat) : Int) < (a.reverse.length : Int) := by rw [List.length_reverse]; omega
    have r := rd_reverse (show i < a.length by omega)
    have e0 : w - 1 = ((a.length - 1 : Nat) : Int) := by omega
    have e3 : ((a.length - 1 : Nat) : Int) - (i : Int) = ((a.length - 1 - i : Nat) : Int) := by omega
    have e1 : wrap64 (wrap64 (w - 1) - (i : Int)) = ((a.length - 1 - i : Nat) : Int) := by
      rw [e0, w64 (x := ((a.length - 1 : Nat) : Int)) (by constructor <;> omega), e3, w64 (by constructor <;> omega)]
    have e2 : wrap64 ((i : Int) + 1) = ((i + 1 : Nat) : Int) := by rw [w64 (by constructor <;> (clear e1; omega))]; clear e1; omega
    simp only [bilgelaw40_ValueBack.l0, a1, a2, a3, if_true, e1, e2, a4, a5, r]
    exact hi

theorem ValueBack : bilgelaw40_ValueBack.Pure := by
  rintro n l ⟨h0, h1⟩ hn hl ⟨u0, u1⟩
  simp only at u0 u1 ⊢
  replace hn := i64_of hn
  replace u0 := u8_of u0
  replace u1 := u8_of u1
  have hl0 : l.length * 2 ≤ 140737488351232 := hl.2.1
  have hu : ∀ x ∈ l, U16 x := fun x hx => u16_of (hl.2.2 x hx)
  obtain ⟨K, hK⟩ := sure40b
  refine ⟨K + l.length + 300, ?_⟩
  unfold bilgelaw40_ValueBack.f
  have ew : wrap64 (1 + Int.tmod (wrap64 h0) 4) = 1 + h0 % 4 := by
    rw [w64 (x := h0) (by constructor <;> omega), Int.tmod_eq_emod_of_nonneg u0.1, w64 (by constructor <;> omega)]
  have eo : Int.tmod (wrap64 h1) 4 = h1 % 4 := by
    rw [w64 (x := h1) (by constructor <;> omega), Int.tmod_eq_emod_of_nonneg u1.1]
  rw [ew, eo]
  clear ew eo
  have hw : 1 ≤ 1 + h0 % 4 ∧ 1 + h0 % 4 ≤ 4 := by omega
  have ho : 0 ≤ h1 % 4 ∧ h1 % 4 ≤ 3 := by omega
  generalize 1 + h0 % 4 = w at *
  generalize h1 % 4 = o at *
  have hk : K + l.length + 300 = (K + l.length + 280) + 20 := by omega
  have j2 : ∀ k, K + 100 ≤ k → bilgelaw40_ValueBack.j2 k l o h0 h1 = some true := fun k hk => back_j2 hu (by omega) ho hK hk
  rw [hk, put_eq, Option.bind_some]
  by_cases hf : fits n w
  · have hv : 1 ≤ w ∧ w ≤ 4 ∧ 0 ≤ o ∧ o ≤ 3 := ⟨hw.1, hw.2, ho.1, ho.2⟩
    obtain ⟨t1, t2, t3⟩ := laidS_turn (wds n w) ho
    have hv2 : 1 ≤ w ∧ w ≤ 4 ∧ 0 ≤ bits .xor .i64 o 1 ∧ bits .xor .i64 o 1 ≤ 3 := ⟨hw.1, hw.2, t2, t3⟩
    have hp : putS n w o = (laidS (wds n w) o, 0) := by
      unfold putS
      rw [if_pos hv, if_pos hf]
    have hp2 : putS n w (bits .xor .i64 o 1) = ((laidS (wds n w) o).reverse, 0) := by
      unfold putS
      rw [if_pos hv2, if_pos hf, t1]
    have hlen := laidS_len (wds n w) o
    have hlw := wds_len n hw
    have hg : getS (laidS (wds n w) o) o (decide (n < 0)) = (n, 0) := by
      unfold getS
      rw [laidS_laidS (wds_u16 n w), wds_back hn hw hf, if_pos ⟨by omega, by omega, ho.1, ho.2⟩]
    have hne : (((laidS (wds n w) o).reverse.length : Int) != w) = false := by
      rw [List.length_reverse, hlen, hlw]; simp
    simp only [hp, if_true]
    rw [get_eq (laidS_u16 (wds_u16 n w) o), Option.bind_some, put_eq, Option.bind_some, hg, hp2]
    simp only [if_true, hne]
    rw [if_pos (by omega), show K + l.length + 280 + 20 = (K + l.length + 299) + 1 by omega]
    simp only [bilgelaw40_ValueBack.j0, Bool.false_eq_true, if_false]
    exact back_l0 (by omega) (by omega) j2 (laidS (wds n w) o).length _ 0 (by omega) (by omega)
  · have hp : putS n w o = ([], 13) := by
      unfold putS
      rw [if_pos ⟨hw.1, hw.2, ho.1, ho.2⟩, if_neg hf]
    rw [hp, if_neg (by decide)]
    exact j2 _ (by omega)
end Go.Proofs.Ytnaedmakkefdfaa.Pure
