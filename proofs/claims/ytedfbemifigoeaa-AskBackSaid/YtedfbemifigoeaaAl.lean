import Derived.Test.YtedfbemifigoeaaX
import Derived.Test.YtedfbemifigoeaaAq
import Derived.Test.YtedfbemifigoeaaAe
import Derived.Test.YtedfbemifigoeaaLWord
import Derived.Test.YtedfbemifigoeaaLBits
import Derived.Test.YtedfbemifigoeaaLBitsBack
namespace Go.Proofs.Ytedfbemifigoeaa.P
open Go.RowKit Go.Proofs.YtedfbemifigoeaaW.PrintWords Go.Proofs.YtedfbemifigoeaaW.PrintLast Go.Proofs.YtedfbemifigoeaaW.PrintMore
attribute [local go_sem] max2_int min2_int max_two min_two max_three min_three max_four min_four   -- for this text's walks alone
set_option linter.unusedVariables false
set_option linter.unusedSimpArgs false

open Go.Proofs.Ytedfbemifigoeaa.L

/-! What the document's reading tells; it is the program's. -/
def As.gs (l : List Int) : S25 :=
  if (rd l 0 == 1 || rd l 0 == 2 || rd l 0 == 3 || rd l 0 == 4) = true then ⟨rd l 0, (atS l 1).1, (atS l 3).1, 0, 0, 0, 0, 0, [], []⟩
  else if (rd l 0 == 5 || rd l 0 == 6) = true then ⟨rd l 0, (atS l 1).1, 0, (atS l 3).1, 0, 0, 0, 0, [], []⟩
  else if (rd l 0 == 15) = true then ⟨rd l 0, (atS l 1).1, (atS l 3).1, 0, 0, 0, 0, 0, if 6 < l.length ∧ (l.length : Int) - 6 = szI (atS l 3).1 then (upkS (l.drop 6) (atS l 3).1).1 else [], []⟩
  else if (rd l 0 == 16) = true then ⟨rd l 0, (atS l 1).1, (atS l 3).1, 0, 0, 0, 0, 0, [], if 6 < l.length then (getS (l.drop 6)).1 else []⟩
  else if (rd l 0 == 22) = true then ⟨rd l 0, (atS l 1).1, 0, 0, (atS l 3).1, (atS l 5).1, 0, 0, [], []⟩
  else ⟨rd l 0, (atS l 5).1, (atS l 7).1, 0, 0, 0, (atS l 1).1, (atS l 3).1, [], if 10 < l.length then (getS (l.drop 10)).1 else []⟩
/-- May the byte at a place be so? -/
def As.nearAt (f : Int) (b l : List Int) (i : Nat) : Bool := decide (rd b (i : Int) = rd l (i : Int)) || (f == 15 && decide (b.length ≤ i + 1))
def As.near (f : Int) (b l : List Int) : Prop := ∀ i, i < b.length → As.nearAt f b l i = true
instance (f : Int) (b l : List Int) : Decidable (As.near f b l) := by unfold As.near; exact Nat.decidableBallLT _ _
def As.rparse (l : List Int) : S25 × Int := if l.length = 0 then (z25, 12) else if As.known (rd l 0) = false then (z25, 1) else if As.right (As.gs l) = true ∧ (As.say (As.gs l)).length = l.length ∧ As.near (rd l 0) (As.say (As.gs l)) l then (As.gs l, 0) else (z25, 3)
theorem As.near_self (f : Int) (b : List Int) : As.near f b b := fun i _ => by simp [As.nearAt]
theorem As.near_eq {f : Int} {b l : List Int} (h : b = l) : As.near f b l := h ▸ As.near_self f b
theorem As.near_rd {f : Int} {b l : List Int} (h : As.near f b l) (i : Nat) (hi : i + 1 < b.length) : rd b (i : Int) = rd l (i : Int) := by
  have := h i (by omega)
  simp only [As.nearAt, Bool.or_eq_true, Bool.and_eq_true, decide_eq_true_eq] at this
  rcases this with h | ⟨_, h⟩
  · exact h
  · omega
/-- One reading for another one: either both tell y, if it may be; or neither does. -/
theorem As.pick {P : S25 × List Int × Bool} {y : S25} {Q R : Prop} [Decidable Q] [Decidable R] (h : (P = (y, [], true) ∧ (As.right y = true → Q ∧ R)) ∨ ((P.2.2 = false ∨ P.2.1.length ≠ 0) ∧ ¬ (As.right y = true ∧ Q ∧ R))) : (if P.2.2 = true ∧ P.2.1.length = 0 ∧ As.right P.1 = true then (P.1, (0 : Int)) else (z25, 3)) = if As.right y = true ∧ Q ∧ R then (y, 0) else (z25, 3) := by
  rcases h with ⟨rfl, h⟩ | ⟨h1, h2⟩
  · by_cases hr : As.right y = true
    · rw [if_pos ⟨rfl, rfl, hr⟩, if_pos ⟨hr, h hr⟩]
    · rw [if_neg (fun k => hr k.2.2), if_neg (fun k => hr k.1)]
  · rw [if_neg h2, if_neg]
    rintro ⟨a, b, _⟩
    rcases h1 with h | h
    · rw [h] at a; cases a
    · exact h b
theorem As.b16 {a b : Int} (ha : U8 a) (hb : U8 b) : (a * 256 + b) / 256 = a ∧ (a * 256 + b) % 256 = b := by
  unfold U8 at ha hb
  omega
theorem As.at2 (x a b : Int) (l : List Int) : (atS (x :: a :: b :: l) 1).1 = a * 256 + b := by
  unfold atS
  rw [if_pos ⟨by decide, by simp only [List.length_cons]; omega⟩]
  simp [rd]
theorem As.at4 (x p q a b : Int) (l : List Int) : (atS (x :: p :: q :: a :: b :: l) 3).1 = a * 256 + b := by
  unfold atS
  rw [if_pos ⟨by decide, by simp only [List.length_cons]; omega⟩]
  simp [rd]
theorem As.at6 (x p q r s a b : Int) (l : List Int) : (atS (x :: p :: q :: r :: s :: a :: b :: l) 5).1 = a * 256 + b := by
  unfold atS
  rw [if_pos ⟨by decide, by simp only [List.length_cons]; omega⟩]
  simp [rd]
theorem As.at8 (x p q r s t u a b : Int) (l : List Int) : (atS (x :: p :: q :: r :: s :: t :: u :: a :: b :: l) 7).1 = a * 256 + b := by
  unfold atS
  rw [if_pos ⟨by decide, by simp only [List.length_cons]; omega⟩]
  simp [rd]
theorem As.rn_two (a b : Int) (l : List Int) (ok : Bool) : As.rn (a :: b :: l) ok = (a * 256 + b, l, ok) := by
  unfold As.rn
  rw [if_pos (by simp)]
  simp [rd]
theorem As.rn_one (a : Int) (ok : Bool) : As.rn [a] ok = (0, [], false) := rfl
theorem As.rn_nil (ok : Bool) : As.rn [] ok = (0, [], false) := rfl
theorem As.rs_nil (ok : Bool) : As.rs [] ok = ([], [], false) := rfl
theorem As.rs_cons (n : Int) (r : List Int) (ok : Bool) : As.rs (n :: r) ok = if n = (r.length : Int) then (r, [], ok) else ([], [], false) := by
  unfold As.rs
  have h : ((n :: r).length : Int) - 1 = r.length := by simp
  have h2 : rd (n :: r) 0 = n := rfl
  rw [h, h2]
  by_cases hn : n = (r.length : Int)
  · rw [if_pos hn, if_neg (by simp [hn])]
    rfl
  · rw [if_neg hn, if_pos (.inr hn)]
theorem As.asked_of {x : S25} (h : As.right x = true) : As.asked x = true := (As.rel h).2.2
theorem As.pk_near {r : List Int} (h8 : ∀ x ∈ r, U8 x) {n : Nat} (hn : r.length = szN n) {j : Nat} (hj : j + 1 < r.length) : rd (pk (upk r n)) (j : Int) = rd r (j : Int) := by
  obtain ⟨m, hm⟩ := rd_byte h8 (j := j) (by omega)
  rw [pk_at _ (by rw [upk_len]; omega), hm]
  congr 1
  apply bvN_ext m.isLt
  intro q hq
  rw [upk_getD r (by unfold szN at hn; omega), btAt_rd hq, hm, Int.toNat_natCast]

theorem As.pick3 {P : S25 × List Int × Bool} {y : S25} {Q R : Prop} [Decidable Q] [Decidable R] (h1 : As.right P.1 = false) (h2 : As.right y = false) : (if P.2.2 = true ∧ P.2.1.length = 0 ∧ As.right P.1 = true then (P.1, (0 : Int)) else (z25, 3)) = if As.right y = true ∧ Q ∧ R then (y, 0) else (z25, 3) := by
  rw [if_neg (by rw [h1]; simp), if_neg (by rw [h2]; simp)]
theorem As.regs_of {r : List Int} (h8 : ∀ x ∈ r, U8 x) {k : Int} (h : ((getS r).1.length : Int) = k) (h1 : 1 ≤ k) : r.length % 2 = 0 ∧ getS r = (getW r, 0) ∧ putW (getW r) = r ∧ (r.length : Int) = 2 * k := by
  unfold getS at h
  by_cases he : r.length % 2 = 0
  · rw [if_pos he] at h
    simp only [getW_length] at h
    exact ⟨he, by unfold getS; rw [if_pos he], putW_getW h8 he, by omega⟩
  · rw [if_neg he] at h
    simp at h
    omega
theorem As.upkS_of {r : List Int} {k : Int} (h : ((upkS r k).1.length : Int) = k) (h1 : 1 ≤ k) : (r.length : Int) = szI k ∧ upkS r k = (upk r k.toNat, 0) := by
  unfold upkS at h ⊢
  rw [if_neg (by omega)] at h ⊢
  by_cases ha : (r.length : Int) < szI k
  · rw [if_pos ha] at h
    simp at h
    omega
  · rw [if_neg ha] at h ⊢
    by_cases hb : (r.length : Int) > szI k
    · rw [if_pos hb] at h
      simp at h
      omega
    · rw [if_neg hb]
      exact ⟨by omega, rfl⟩
theorem As.upkS_at {r : List Int} {k : Int} (h : (r.length : Int) = szI k) (h1 : 1 ≤ k) : upkS r k = (upk r k.toNat, 0) := by
  unfold upkS
  rw [if_neg (by omega), if_neg (by omega), if_neg (by omega)]
theorem As.pn1 {t : List Int} (ht : ∀ x ∈ t, U8 x) : (if (As.read 1 t).2.2 = true ∧ (As.read 1 t).2.1.length = 0 ∧ As.right (As.read 1 t).1 = true then ((As.read 1 t).1, (0 : Int)) else (z25, 3)) = if As.right (As.gs (1 :: t)) = true ∧ (As.say (As.gs (1 :: t))).length = (1 :: t).length ∧ As.near 1 (As.say (As.gs (1 :: t))) (1 :: t) then (As.gs (1 :: t), 0) else (z25, 3) := by
  apply As.pick
  have e0 : rd (1 :: t) 0 = 1 := rfl
  rcases t with _ | ⟨a, _ | ⟨b, _ | ⟨c, _ | ⟨d, _ | ⟨e, r⟩⟩⟩⟩⟩
  · refine .inr ⟨by simp [As.read, As.rn_two, As.rn_one, As.rn_nil], ?_⟩
    rintro ⟨_, hq, _⟩
    simp [As.say, As.gs, As.nums, As.rest, e0, putW_length, putW_cons, putW_nil] at hq
  · refine .inr ⟨by simp [As.read, As.rn_two, As.rn_one, As.rn_nil], ?_⟩
    rintro ⟨_, hq, _⟩
    simp [As.say, As.gs, As.nums, As.rest, e0, putW_length, putW_cons, putW_nil] at hq
  · refine .inr ⟨by simp [As.read, As.rn_two, As.rn_one, As.rn_nil], ?_⟩
    rintro ⟨_, hq, _⟩
    simp [As.say, As.gs, As.nums, As.rest, e0, putW_length, putW_cons, putW_nil] at hq
  · refine .inr ⟨by simp [As.read, As.rn_two, As.rn_one, As.rn_nil], ?_⟩
    rintro ⟨_, hq, _⟩
    simp [As.say, As.gs, As.nums, As.rest, e0, putW_length, putW_cons, putW_nil] at hq
  · refine .inl ⟨by simp [As.read, As.gs, e0, As.rn_two, As.at2, As.at4], fun _ => ?_⟩
    obtain ⟨m0, n0⟩ := As.b16 (ht a (by simp)) (ht b (by simp))
    obtain ⟨m1, n1⟩ := As.b16 (ht c (by simp)) (ht d (by simp))
    have hs : As.say (As.gs (1 :: [a, b, c, d])) = 1 :: [a, b, c, d] := by simp [As.say, As.gs, As.nums, As.rest, e0, putW_cons, putW_nil, As.at2, As.at4, m0, n0, m1, n1]
    rw [hs]
    exact ⟨rfl, As.near_self _ _⟩
  · refine .inr ⟨by simp [As.read, As.rn_two, As.rn_one, As.rn_nil], ?_⟩
    rintro ⟨_, hq, _⟩
    simp [As.say, As.gs, As.nums, As.rest, e0, putW_length, putW_cons, putW_nil] at hq
theorem As.pn2 {t : List Int} (ht : ∀ x ∈ t, U8 x) : (if (As.read 2 t).2.2 = true ∧ (As.read 2 t).2.1.length = 0 ∧ As.right (As.read 2 t).1 = true then ((As.read 2 t).1, (0 : Int)) else (z25, 3)) = if As.right (As.gs (2 :: t)) = true ∧ (As.say (As.gs (2 :: t))).length = (2 :: t).length ∧ As.near 2 (As.say (As.gs (2 :: t))) (2 :: t) then (As.gs (2 :: t), 0) else (z25, 3) := by
  apply As.pick
  have e0 : rd (2 :: t) 0 = 2 := rfl
  rcases t with _ | ⟨a, _ | ⟨b, _ | ⟨c, _ | ⟨d, _ | ⟨e, r⟩⟩⟩⟩⟩
  · refine .inr ⟨by simp [As.read, As.rn_two, As.rn_one, As.rn_nil], ?_⟩
    rintro ⟨_, hq, _⟩
    simp [As.say, As.gs, As.nums, As.rest, e0, putW_length, putW_cons, putW_nil] at hq
  · refine .inr ⟨by simp [As.read, As.rn_two, As.rn_one, As.rn_nil], ?_⟩
    rintro ⟨_, hq, _⟩
    simp [As.say, As.gs, As.nums, As.rest, e0, putW_length, putW_cons, putW_nil] at hq
  · refine .inr ⟨by simp [As.read, As.rn_two, As.rn_one, As.rn_nil], ?_⟩
    rintro ⟨_, hq, _⟩
    simp [As.say, As.gs, As.nums, As.rest, e0, putW_length, putW_cons, putW_nil] at hq
  · refine .inr ⟨by simp [As.read, As.rn_two, As.rn_one, As.rn_nil], ?_⟩
    rintro ⟨_, hq, _⟩
    simp [As.say, As.gs, As.nums, As.rest, e0, putW_length, putW_cons, putW_nil] at hq
  · refine .inl ⟨by simp [As.read, As.gs, e0, As.rn_two, As.at2, As.at4], fun _ => ?_⟩
    obtain ⟨m0, n0⟩ := As.b16 (ht a (by simp)) (ht b (by simp))
    obtain ⟨m1, n1⟩ := As.b16 (ht c (by simp)) (ht d (by simp))
    have hs : As.say (As.gs (2 :: [a, b, c, d])) = 2 :: [a, b, c, d] := by simp [As.say, As.gs, As.nums, As.rest, e0, putW_cons, putW_nil, As.at2, As.at4, m0, n0, m1, n1]
    rw [hs]
    exact ⟨rfl, As.near_self _ _⟩
  · refine .inr ⟨by simp [As.read, As.rn_two, As.rn_one, As.rn_nil], ?_⟩
    rintro ⟨_, hq, _⟩
    simp [As.say, As.gs, As.nums, As.rest, e0, putW_length, putW_cons, putW_nil] at hq
theorem As.pn3 {t : List Int} (ht : ∀ x ∈ t, U8 x) : (if (As.read 3 t).2.2 = true ∧ (As.read 3 t).2.1.length = 0 ∧ As.right (As.read 3 t).1 = true then ((As.read 3 t).1, (0 : Int)) else (z25, 3)) = if As.right (As.gs (3 :: t)) = true ∧ (As.say (As.gs (3 :: t))).length = (3 :: t).length ∧ As.near 3 (As.say (As.gs (3 :: t))) (3 :: t) then (As.gs (3 :: t), 0) else (z25, 3) := by
  apply As.pick
  have e0 : rd (3 :: t) 0 = 3 := rfl
  rcases t with _ | ⟨a, _ | ⟨b, _ | ⟨c, _ | ⟨d, _ | ⟨e, r⟩⟩⟩⟩⟩
  · refine .inr ⟨by simp [As.read, As.rn_two, As.rn_one, As.rn_nil], ?_⟩
    rintro ⟨_, hq, _⟩
    simp [As.say, As.gs, As.nums, As.rest, e0, putW_length, putW_cons, putW_nil] at hq
  · refine .inr ⟨by simp [As.read, As.rn_two, As.rn_one, As.rn_nil], ?_⟩
    rintro ⟨_, hq, _⟩
    simp [As.say, As.gs, As.nums, As.rest, e0, putW_length, putW_cons, putW_nil] at hq
  · refine .inr ⟨by simp [As.read, As.rn_two, As.rn_one, As.rn_nil], ?_⟩
    rintro ⟨_, hq, _⟩
    simp [As.say, As.gs, As.nums, As.rest, e0, putW_length, putW_cons, putW_nil] at hq
  · refine .inr ⟨by simp [As.read, As.rn_two, As.rn_one, As.rn_nil], ?_⟩
    rintro ⟨_, hq, _⟩
    simp [As.say, As.gs, As.nums, As.rest, e0, putW_length, putW_cons, putW_nil] at hq
  · refine .inl ⟨by simp [As.read, As.gs, e0, As.rn_two, As.at2, As.at4], fun _ => ?_⟩
    obtain ⟨m0, n0⟩ := As.b16 (ht a (by simp)) (ht b (by simp))
    obtain ⟨m1, n1⟩ := As.b16 (ht c (by simp)) (ht d (by simp))
    have hs : As.say (As.gs (3 :: [a, b, c, d])) = 3 :: [a, b, c, d] := by simp [As.say, As.gs, As.nums, As.rest, e0, putW_cons, putW_nil, As.at2, As.at4, m0, n0, m1, n1]
    rw [hs]
    exact ⟨rfl, As.near_self _ _⟩
  · refine .inr ⟨by simp [As.read, As.rn_two, As.rn_one, As.rn_nil], ?_⟩
    rintro ⟨_, hq, _⟩
    simp [As.say, As.gs, As.nums, As.rest, e0, putW_length, putW_cons, putW_nil] at hq
theorem As.pn4 {t : List Int} (ht : ∀ x ∈ t, U8 x) : (if (As.read 4 t).2.2 = true ∧ (As.read 4 t).2.1.length = 0 ∧ As.right (As.read 4 t).1 = true then ((As.read 4 t).1, (0 : Int)) else (z25, 3)) = if As.right (As.gs (4 :: t)) = true ∧ (As.say (As.gs (4 :: t))).length = (4 :: t).length ∧ As.near 4 (As.say (As.gs (4 :: t))) (4 :: t) then (As.gs (4 :: t), 0) else (z25, 3) := by
  apply As.pick
  have e0 : rd (4 :: t) 0 = 4 := rfl
  rcases t with _ | ⟨a, _ | ⟨b, _ | ⟨c, _ | ⟨d, _ | ⟨e, r⟩⟩⟩⟩⟩
  · refine .inr ⟨by simp [As.read, As.rn_two, As.rn_one, As.rn_nil], ?_⟩
    rintro ⟨_, hq, _⟩
    simp [As.say, As.gs, As.nums, As.rest, e0, putW_length, putW_cons, putW_nil] at hq
  · refine .inr ⟨by simp [As.read, As.rn_two, As.rn_one, As.rn_nil], ?_⟩
    rintro ⟨_, hq, _⟩
    simp [As.say, As.gs, As.nums, As.rest, e0, putW_length, putW_cons, putW_nil] at hq
  · refine .inr ⟨by simp [As.read, As.rn_two, As.rn_one, As.rn_nil], ?_⟩
    rintro ⟨_, hq, _⟩
    simp [As.say, As.gs, As.nums, As.rest, e0, putW_length, putW_cons, putW_nil] at hq
  · refine .inr ⟨by simp [As.read, As.rn_two, As.rn_one, As.rn_nil], ?_⟩
    rintro ⟨_, hq, _⟩
    simp [As.say, As.gs, As.nums, As.rest, e0, putW_length, putW_cons, putW_nil] at hq
  · refine .inl ⟨by simp [As.read, As.gs, e0, As.rn_two, As.at2, As.at4], fun _ => ?_⟩
    obtain ⟨m0, n0⟩ := As.b16 (ht a (by simp)) (ht b (by simp))
    obtain ⟨m1, n1⟩ := As.b16 (ht c (by simp)) (ht d (by simp))
    have hs : As.say (As.gs (4 :: [a, b, c, d])) = 4 :: [a, b, c, d] := by simp [As.say, As.gs, As.nums, As.rest, e0, putW_cons, putW_nil, As.at2, As.at4, m0, n0, m1, n1]
    rw [hs]
    exact ⟨rfl, As.near_self _ _⟩
  · refine .inr ⟨by simp [As.read, As.rn_two, As.rn_one, As.rn_nil], ?_⟩
    rintro ⟨_, hq, _⟩
    simp [As.say, As.gs, As.nums, As.rest, e0, putW_length, putW_cons, putW_nil] at hq
theorem As.pn5 {t : List Int} (ht : ∀ x ∈ t, U8 x) : (if (As.read 5 t).2.2 = true ∧ (As.read 5 t).2.1.length = 0 ∧ As.right (As.read 5 t).1 = true then ((As.read 5 t).1, (0 : Int)) else (z25, 3)) = if As.right (As.gs (5 :: t)) = true ∧ (As.say (As.gs (5 :: t))).length = (5 :: t).length ∧ As.near 5 (As.say (As.gs (5 :: t))) (5 :: t) then (As.gs (5 :: t), 0) else (z25, 3) := by
  apply As.pick
  have e0 : rd (5 :: t) 0 = 5 := rfl
  rcases t with _ | ⟨a, _ | ⟨b, _ | ⟨c, _ | ⟨d, _ | ⟨e, r⟩⟩⟩⟩⟩
  · refine .inr ⟨by simp [As.read, As.rn_two, As.rn_one, As.rn_nil], ?_⟩
    rintro ⟨_, hq, _⟩
    simp [As.say, As.gs, As.nums, As.rest, e0, putW_length, putW_cons, putW_nil] at hq
  · refine .inr ⟨by simp [As.read, As.rn_two, As.rn_one, As.rn_nil], ?_⟩
    rintro ⟨_, hq, _⟩
    simp [As.say, As.gs, As.nums, As.rest, e0, putW_length, putW_cons, putW_nil] at hq
  · refine .inr ⟨by simp [As.read, As.rn_two, As.rn_one, As.rn_nil], ?_⟩
    rintro ⟨_, hq, _⟩
    simp [As.say, As.gs, As.nums, As.rest, e0, putW_length, putW_cons, putW_nil] at hq
  · refine .inr ⟨by simp [As.read, As.rn_two, As.rn_one, As.rn_nil], ?_⟩
    rintro ⟨_, hq, _⟩
    simp [As.say, As.gs, As.nums, As.rest, e0, putW_length, putW_cons, putW_nil] at hq
  · refine .inl ⟨by simp [As.read, As.gs, e0, As.rn_two, As.at2, As.at4], fun _ => ?_⟩
    obtain ⟨m0, n0⟩ := As.b16 (ht a (by simp)) (ht b (by simp))
    obtain ⟨m1, n1⟩ := As.b16 (ht c (by simp)) (ht d (by simp))
    have hs : As.say (As.gs (5 :: [a, b, c, d])) = 5 :: [a, b, c, d] := by simp [As.say, As.gs, As.nums, As.rest, e0, putW_cons, putW_nil, As.at2, As.at4, m0, n0, m1, n1]
    rw [hs]
    exact ⟨rfl, As.near_self _ _⟩
  · refine .inr ⟨by simp [As.read, As.rn_two, As.rn_one, As.rn_nil], ?_⟩
    rintro ⟨_, hq, _⟩
    simp [As.say, As.gs, As.nums, As.rest, e0, putW_length, putW_cons, putW_nil] at hq
theorem As.pn6 {t : List Int} (ht : ∀ x ∈ t, U8 x) : (if (As.read 6 t).2.2 = true ∧ (As.read 6 t).2.1.length = 0 ∧ As.right (As.read 6 t).1 = true then ((As.read 6 t).1, (0 : Int)) else (z25, 3)) = if As.right (As.gs (6 :: t)) = true ∧ (As.say (As.gs (6 :: t))).length = (6 :: t).length ∧ As.near 6 (As.say (As.gs (6 :: t))) (6 :: t) then (As.gs (6 :: t), 0) else (z25, 3) := by
  apply As.pick
  have e0 : rd (6 :: t) 0 = 6 := rfl
  rcases t with _ | ⟨a, _ | ⟨b, _ | ⟨c, _ | ⟨d, _ | ⟨e, r⟩⟩⟩⟩⟩
  · refine .inr ⟨by simp [As.read, As.rn_two, As.rn_one, As.rn_nil], ?_⟩
    rintro ⟨_, hq, _⟩
    simp [As.say, As.gs, As.nums, As.rest, e0, putW_length, putW_cons, putW_nil] at hq
  · refine .inr ⟨by simp [As.read, As.rn_two, As.rn_one, As.rn_nil], ?_⟩
    rintro ⟨_, hq, _⟩
    simp [As.say, As.gs, As.nums, As.rest, e0, putW_length, putW_cons, putW_nil] at hq
  · refine .inr ⟨by simp [As.read, As.rn_two, As.rn_one, As.rn_nil], ?_⟩
    rintro ⟨_, hq, _⟩
    simp [As.say, As.gs, As.nums, As.rest, e0, putW_length, putW_cons, putW_nil] at hq
  · refine .inr ⟨by simp [As.read, As.rn_two, As.rn_one, As.rn_nil], ?_⟩
    rintro ⟨_, hq, _⟩
    simp [As.say, As.gs, As.nums, As.rest, e0, putW_length, putW_cons, putW_nil] at hq
  · refine .inl ⟨by simp [As.read, As.gs, e0, As.rn_two, As.at2, As.at4], fun _ => ?_⟩
    obtain ⟨m0, n0⟩ := As.b16 (ht a (by simp)) (ht b (by simp))
    obtain ⟨m1, n1⟩ := As.b16 (ht c (by simp)) (ht d (by simp))
    have hs : As.say (As.gs (6 :: [a, b, c, d])) = 6 :: [a, b, c, d] := by simp [As.say, As.gs, As.nums, As.rest, e0, putW_cons, putW_nil, As.at2, As.at4, m0, n0, m1, n1]
    rw [hs]
    exact ⟨rfl, As.near_self _ _⟩
  · refine .inr ⟨by simp [As.read, As.rn_two, As.rn_one, As.rn_nil], ?_⟩
    rintro ⟨_, hq, _⟩
    simp [As.say, As.gs, As.nums, As.rest, e0, putW_length, putW_cons, putW_nil] at hq
theorem As.pn22 {t : List Int} (ht : ∀ x ∈ t, U8 x) : (if (As.read 22 t).2.2 = true ∧ (As.read 22 t).2.1.length = 0 ∧ As.right (As.read 22 t).1 = true then ((As.read 22 t).1, (0 : Int)) else (z25, 3)) = if As.right (As.gs (22 :: t)) = true ∧ (As.say (As.gs (22 :: t))).length = (22 :: t).length ∧ As.near 22 (As.say (As.gs (22 :: t))) (22 :: t) then (As.gs (22 :: t), 0) else (z25, 3) := by
  apply As.pick
  have e0 : rd (22 :: t) 0 = 22 := rfl
  rcases t with _ | ⟨a, _ | ⟨b, _ | ⟨c, _ | ⟨d, _ | ⟨p, _ | ⟨q, _ | ⟨e, r⟩⟩⟩⟩⟩⟩⟩
  · refine .inr ⟨by simp [As.read, As.rn_two, As.rn_one, As.rn_nil], ?_⟩
    rintro ⟨_, hq, _⟩
    simp [As.say, As.gs, As.nums, As.rest, e0, putW_length, putW_cons, putW_nil] at hq
  · refine .inr ⟨by simp [As.read, As.rn_two, As.rn_one, As.rn_nil], ?_⟩
    rintro ⟨_, hq, _⟩
    simp [As.say, As.gs, As.nums, As.rest, e0, putW_length, putW_cons, putW_nil] at hq
  · refine .inr ⟨by simp [As.read, As.rn_two, As.rn_one, As.rn_nil], ?_⟩
    rintro ⟨_, hq, _⟩
    simp [As.say, As.gs, As.nums, As.rest, e0, putW_length, putW_cons, putW_nil] at hq
  · refine .inr ⟨by simp [As.read, As.rn_two, As.rn_one, As.rn_nil], ?_⟩
    rintro ⟨_, hq, _⟩
    simp [As.say, As.gs, As.nums, As.rest, e0, putW_length, putW_cons, putW_nil] at hq
  · refine .inr ⟨by simp [As.read, As.rn_two, As.rn_one, As.rn_nil], ?_⟩
    rintro ⟨_, hq, _⟩
    simp [As.say, As.gs, As.nums, As.rest, e0, putW_length, putW_cons, putW_nil] at hq
  · refine .inr ⟨by simp [As.read, As.rn_two, As.rn_one, As.rn_nil], ?_⟩
    rintro ⟨_, hq, _⟩
    simp [As.say, As.gs, As.nums, As.rest, e0, putW_length, putW_cons, putW_nil] at hq
  · refine .inl ⟨by simp [As.read, As.gs, e0, As.rn_two, As.at2, As.at4, As.at6], fun _ => ?_⟩
    obtain ⟨m0, n0⟩ := As.b16 (ht a (by simp)) (ht b (by simp))
    obtain ⟨m1, n1⟩ := As.b16 (ht c (by simp)) (ht d (by simp))
    obtain ⟨m2, n2⟩ := As.b16 (ht p (by simp)) (ht q (by simp))
    have hs : As.say (As.gs (22 :: [a, b, c, d, p, q])) = 22 :: [a, b, c, d, p, q] := by simp [As.say, As.gs, As.nums, As.rest, e0, putW_cons, putW_nil, As.at2, As.at4, As.at6, m0, n0, m1, n1, m2, n2]
    rw [hs]
    exact ⟨rfl, As.near_self _ _⟩
  · refine .inr ⟨by simp [As.read, As.rn_two, As.rn_one, As.rn_nil], ?_⟩
    rintro ⟨_, hq, _⟩
    simp [As.say, As.gs, As.nums, As.rest, e0, putW_length, putW_cons, putW_nil] at hq
theorem As.pn16 {t : List Int} (ht : ∀ x ∈ t, U8 x) : (if (As.read 16 t).2.2 = true ∧ (As.read 16 t).2.1.length = 0 ∧ As.right (As.read 16 t).1 = true then ((As.read 16 t).1, (0 : Int)) else (z25, 3)) = if As.right (As.gs (16 :: t)) = true ∧ (As.say (As.gs (16 :: t))).length = (16 :: t).length ∧ As.near 16 (As.say (As.gs (16 :: t))) (16 :: t) then (As.gs (16 :: t), 0) else (z25, 3) := by
  apply As.pick
  have e0 : rd (16 :: t) 0 = 16 := rfl
  rcases t with _ | ⟨a, _ | ⟨b, _ | ⟨c, _ | ⟨d, _ | ⟨n, r⟩⟩⟩⟩⟩
  · refine .inr ⟨by simp [As.read, As.rn_two, As.rn_one, As.rn_nil, As.rs_nil], ?_⟩
    rintro ⟨hr, _, _⟩
    have ha := As.asked_of hr
    simp [As.asked, As.gs, e0, As.in] at ha
    omega
  · refine .inr ⟨by simp [As.read, As.rn_two, As.rn_one, As.rn_nil, As.rs_nil], ?_⟩
    rintro ⟨hr, _, _⟩
    have ha := As.asked_of hr
    simp [As.asked, As.gs, e0, As.in] at ha
    omega
  · refine .inr ⟨by simp [As.read, As.rn_two, As.rn_one, As.rn_nil, As.rs_nil], ?_⟩
    rintro ⟨hr, _, _⟩
    have ha := As.asked_of hr
    simp [As.asked, As.gs, e0, As.in] at ha
    omega
  · refine .inr ⟨by simp [As.read, As.rn_two, As.rn_one, As.rn_nil, As.rs_nil], ?_⟩
    rintro ⟨hr, _, _⟩
    have ha := As.asked_of hr
    simp [As.asked, As.gs, e0, As.in] at ha
    omega
  · refine .inr ⟨by simp [As.read, As.rn_two, As.rn_one, As.rn_nil, As.rs_nil], ?_⟩
    rintro ⟨hr, _, _⟩
    have ha := As.asked_of hr
    simp [As.asked, As.gs, e0, As.in] at ha
    omega
  · have hX : As.gs (16 :: a :: b :: c :: d :: n :: r) = ⟨16, a * 256 + b, c * 256 + d, 0, 0, 0, 0, 0, [], (getS r).1⟩ := by
      rcases r with _ | ⟨q, r⟩
      · simp [As.gs, e0, As.at2, As.at4]
        rfl
      · simp [As.gs, e0, As.at2, As.at4]
    have h8r : ∀ x ∈ r, U8 x := fun x hx => ht x (by simp [hx])
    rw [hX]
    obtain ⟨m0, n0⟩ := As.b16 (ht a (by simp)) (ht b (by simp))
    obtain ⟨m1, n1⟩ := As.b16 (ht c (by simp)) (ht d (by simp))
    have hR : As.right (⟨16, a * 256 + b, c * 256 + d, 0, 0, 0, 0, 0, [], (getS r).1⟩ : S25) = true → (1 ≤ (c * 256 + d) ∧ (c * 256 + d) ≤ 123) ∧ ((getS r).1.length : Int) = (c * 256 + d) := by
      intro hr
      have ha := As.asked_of hr
      simp [As.asked, As.in] at ha
      omega
    have hS : As.right (⟨16, a * 256 + b, c * 256 + d, 0, 0, 0, 0, 0, [], (getS r).1⟩ : S25) = true → (r.length : Int) ≤ 246 ∧ 0 < r.length ∧ r.length % 2 = 0 ∧ As.say (⟨16, a * 256 + b, c * 256 + d, 0, 0, 0, 0, 0, [], (getS r).1⟩ : S25) = 16 :: a :: b :: c :: d :: (r.length : Int) :: r := by
      intro hr
      obtain ⟨q1, q2⟩ := hR hr
      obtain ⟨p1, p2, p3, p4⟩ := As.regs_of h8r q2 q1.1
      refine ⟨by omega, by omega, p1, ?_⟩
      have hm : (r.length : Int) % 256 = r.length := by omega
      simp [As.say, As.nums, As.rest, As.sized, putW_cons, putW_nil, p2, p3, hm, m0, n0, m1, n1]
    by_cases hn : n = (r.length : Int)
    · by_cases he : r.length % 2 = 0
      · refine .inl ⟨by simp [As.read, As.rn_two, As.rs_cons, hn, getS, he], fun hr => ?_⟩
        rw [(hS hr).2.2.2, hn]
        exact ⟨rfl, As.near_self _ _⟩
      · refine .inr ⟨by simp [As.read, As.rn_two, As.rs_cons, hn, getS, he], ?_⟩
        rintro ⟨hr, _, _⟩
        exact he (hS hr).2.2.1
    · refine .inr ⟨by simp [As.read, As.rn_two, As.rs_cons, hn], ?_⟩
      rintro ⟨hr, _, hq⟩
      obtain ⟨q1, q2, _, q3⟩ := hS hr
      rw [q3] at hq
      have := As.near_rd hq 5 (by simp only [List.length_cons]; omega)
      simp [rd] at this
      exact hn this.symm
theorem As.pn23 {t : List Int} (ht : ∀ x ∈ t, U8 x) : (if (As.read 23 t).2.2 = true ∧ (As.read 23 t).2.1.length = 0 ∧ As.right (As.read 23 t).1 = true then ((As.read 23 t).1, (0 : Int)) else (z25, 3)) = if As.right (As.gs (23 :: t)) = true ∧ (As.say (As.gs (23 :: t))).length = (23 :: t).length ∧ As.near 23 (As.say (As.gs (23 :: t))) (23 :: t) then (As.gs (23 :: t), 0) else (z25, 3) := by
  apply As.pick
  have e0 : rd (23 :: t) 0 = 23 := rfl
  rcases t with _ | ⟨a, _ | ⟨b, _ | ⟨c, _ | ⟨d, _ | ⟨e, _ | ⟨f, _ | ⟨g, _ | ⟨h, _ | ⟨n, r⟩⟩⟩⟩⟩⟩⟩⟩⟩
  · refine .inr ⟨by simp [As.read, As.rn_two, As.rn_one, As.rn_nil, As.rs_nil], ?_⟩
    rintro ⟨hr, _, _⟩
    have ha := As.asked_of hr
    simp [As.asked, As.gs, e0, As.in] at ha
    omega
  · refine .inr ⟨by simp [As.read, As.rn_two, As.rn_one, As.rn_nil, As.rs_nil], ?_⟩
    rintro ⟨hr, _, _⟩
    have ha := As.asked_of hr
    simp [As.asked, As.gs, e0, As.in] at ha
    omega
  · refine .inr ⟨by simp [As.read, As.rn_two, As.rn_one, As.rn_nil, As.rs_nil], ?_⟩
    rintro ⟨hr, _, _⟩
    have ha := As.asked_of hr
    simp [As.asked, As.gs, e0, As.in] at ha
    omega
  · refine .inr ⟨by simp [As.read, As.rn_two, As.rn_one, As.rn_nil, As.rs_nil], ?_⟩
    rintro ⟨hr, _, _⟩
    have ha := As.asked_of hr
    simp [As.asked, As.gs, e0, As.in] at ha
    omega
  · refine .inr ⟨by simp [As.read, As.rn_two, As.rn_one, As.rn_nil, As.rs_nil], ?_⟩
    rintro ⟨hr, _, _⟩
    have ha := As.asked_of hr
    simp [As.asked, As.gs, e0, As.in] at ha
    omega
  · refine .inr ⟨by simp [As.read, As.rn_two, As.rn_one, As.rn_nil, As.rs_nil], ?_⟩
    rintro ⟨hr, _, _⟩
    have ha := As.asked_of hr
    simp [As.asked, As.gs, e0, As.in] at ha
    omega
  · refine .inr ⟨by simp [As.read, As.rn_two, As.rn_one, As.rn_nil, As.rs_nil], ?_⟩
    rintro ⟨hr, _, _⟩
    have ha := As.asked_of hr
    simp [As.asked, As.gs, e0, As.in] at ha
    omega
  · refine .inr ⟨by simp [As.read, As.rn_two, As.rn_one, As.rn_nil, As.rs_nil], ?_⟩
    rintro ⟨hr, _, _⟩
    have ha := As.asked_of hr
    simp [As.asked, As.gs, e0, As.in] at ha
    omega
  · refine .inr ⟨by simp [As.read, As.rn_two, As.rn_one, As.rn_nil, As.rs_nil], ?_⟩
    rintro ⟨hr, _, _⟩
    have ha := As.asked_of hr
    simp [As.asked, As.gs, e0, As.in] at ha
    omega
  · have hX : As.gs (23 :: a :: b :: c :: d :: e :: f :: g :: h :: n :: r) = ⟨23, e * 256 + f, g * 256 + h, 0, 0, 0, a * 256 + b, c * 256 + d, [], (getS r).1⟩ := by
      rcases r with _ | ⟨q, r⟩
      · simp [As.gs, e0, As.at2, As.at4, As.at6, As.at8]
        rfl
      · simp [As.gs, e0, As.at2, As.at4, As.at6, As.at8]
    have h8r : ∀ x ∈ r, U8 x := fun x hx => ht x (by simp [hx])
    rw [hX]
    obtain ⟨m0, n0⟩ := As.b16 (ht a (by simp)) (ht b (by simp))
    obtain ⟨m1, n1⟩ := As.b16 (ht c (by simp)) (ht d (by simp))
    obtain ⟨m2, n2⟩ := As.b16 (ht e (by simp)) (ht f (by simp))
    obtain ⟨m3, n3⟩ := As.b16 (ht g (by simp)) (ht h (by simp))
    have hR : As.right (⟨23, e * 256 + f, g * 256 + h, 0, 0, 0, a * 256 + b, c * 256 + d, [], (getS r).1⟩ : S25) = true → (1 ≤ (g * 256 + h) ∧ (g * 256 + h) ≤ 123) ∧ ((getS r).1.length : Int) = (g * 256 + h) := by
      intro hr
      have ha := As.asked_of hr
      simp [As.asked, As.in] at ha
      omega
    have hS : As.right (⟨23, e * 256 + f, g * 256 + h, 0, 0, 0, a * 256 + b, c * 256 + d, [], (getS r).1⟩ : S25) = true → (r.length : Int) ≤ 246 ∧ 0 < r.length ∧ r.length % 2 = 0 ∧ As.say (⟨23, e * 256 + f, g * 256 + h, 0, 0, 0, a * 256 + b, c * 256 + d, [], (getS r).1⟩ : S25) = 23 :: a :: b :: c :: d :: e :: f :: g :: h :: (r.length : Int) :: r := by
      intro hr
      obtain ⟨q1, q2⟩ := hR hr
      obtain ⟨p1, p2, p3, p4⟩ := As.regs_of h8r q2 q1.1
      refine ⟨by omega, by omega, p1, ?_⟩
      have hm : (r.length : Int) % 256 = r.length := by omega
      simp [As.say, As.nums, As.rest, As.sized, putW_cons, putW_nil, p2, p3, hm, m0, n0, m1, n1, m2, n2, m3, n3]
    by_cases hn : n = (r.length : Int)
    · by_cases he : r.length % 2 = 0
      · refine .inl ⟨by simp [As.read, As.rn_two, As.rs_cons, hn, getS, he], fun hr => ?_⟩
        rw [(hS hr).2.2.2, hn]
        exact ⟨rfl, As.near_self _ _⟩
      · refine .inr ⟨by simp [As.read, As.rn_two, As.rs_cons, hn, getS, he], ?_⟩
        rintro ⟨hr, _, _⟩
        exact he (hS hr).2.2.1
    · refine .inr ⟨by simp [As.read, As.rn_two, As.rs_cons, hn], ?_⟩
      rintro ⟨hr, _, hq⟩
      obtain ⟨q1, q2, _, q3⟩ := hS hr
      rw [q3] at hq
      have := As.near_rd hq 9 (by simp only [List.length_cons]; omega)
      simp [rd] at this
      exact hn this.symm
theorem As.pn15 {t : List Int} (ht : ∀ x ∈ t, U8 x) : (if (As.read 15 t).2.2 = true ∧ (As.read 15 t).2.1.length = 0 ∧ As.right (As.read 15 t).1 = true then ((As.read 15 t).1, (0 : Int)) else (z25, 3)) = if As.right (As.gs (15 :: t)) = true ∧ (As.say (As.gs (15 :: t))).length = (15 :: t).length ∧ As.near 15 (As.say (As.gs (15 :: t))) (15 :: t) then (As.gs (15 :: t), 0) else (z25, 3) := by
  have e0 : rd (15 :: t) 0 = 15 := rfl
  rcases t with _ | ⟨a, _ | ⟨b, _ | ⟨c, _ | ⟨d, _ | ⟨n, r⟩⟩⟩⟩⟩
  · apply As.pick
    refine .inr ⟨by simp [As.read, As.rn_two, As.rn_one, As.rn_nil, As.rs_nil], ?_⟩
    rintro ⟨hr, _, _⟩
    have ha := As.asked_of hr
    simp [As.asked, As.gs, e0, As.in] at ha
    omega
  · apply As.pick
    refine .inr ⟨by simp [As.read, As.rn_two, As.rn_one, As.rn_nil, As.rs_nil], ?_⟩
    rintro ⟨hr, _, _⟩
    have ha := As.asked_of hr
    simp [As.asked, As.gs, e0, As.in] at ha
    omega
  · apply As.pick
    refine .inr ⟨by simp [As.read, As.rn_two, As.rn_one, As.rn_nil, As.rs_nil], ?_⟩
    rintro ⟨hr, _, _⟩
    have ha := As.asked_of hr
    simp [As.asked, As.gs, e0, As.in] at ha
    omega
  · apply As.pick
    refine .inr ⟨by simp [As.read, As.rn_two, As.rn_one, As.rn_nil, As.rs_nil], ?_⟩
    rintro ⟨hr, _, _⟩
    have ha := As.asked_of hr
    simp [As.asked, As.gs, e0, As.in] at ha
    omega
  · apply As.pick
    refine .inr ⟨by simp [As.read, As.rn_two, As.rn_one, As.rn_nil, As.rs_nil], ?_⟩
    rintro ⟨hr, _, _⟩
    have ha := As.asked_of hr
    simp [As.asked, As.gs, e0, As.in] at ha
    omega
  · have h8r : ∀ x ∈ r, U8 x := fun x hx => ht x (by simp [hx])
    obtain ⟨m0, n0⟩ := As.b16 (ht a (by simp)) (ht b (by simp))
    obtain ⟨m1, n1⟩ := As.b16 (ht c (by simp)) (ht d (by simp))
    have hX : As.gs (15 :: a :: b :: c :: d :: n :: r) = (⟨15, a * 256 + b, c * 256 + d, 0, 0, 0, 0, 0, if 0 < r.length ∧ (r.length : Int) = szI (c * 256 + d) then (upkS r (c * 256 + d)).1 else [], []⟩ : S25) := by
      have h6 : (r.length : Int) + 1 + 1 + 1 + 1 + 1 + 1 - 6 = r.length := by omega
      simp [As.gs, e0, As.at2, As.at4, h6]
    by_cases hc : (r.length : Int) = szI (c * 256 + d) ∧ 1 ≤ c * 256 + d
    · obtain ⟨hc, h1⟩ := hc
      have hpos : 0 < r.length := by unfold szI at hc; split at hc <;> omega
      rw [if_pos ⟨hpos, hc⟩, As.upkS_at hc h1] at hX
      simp only [] at hX
      rw [hX]
      apply As.pick
      have hS : As.right (⟨15, a * 256 + b, c * 256 + d, 0, 0, 0, 0, 0, upk r (c * 256 + d).toNat, []⟩ : S25) = true → (r.length : Int) ≤ 246 ∧ r.length = szN (c * 256 + d).toNat ∧ As.say (⟨15, a * 256 + b, c * 256 + d, 0, 0, 0, 0, 0, upk r (c * 256 + d).toNat, []⟩ : S25) = 15 :: a :: b :: c :: d :: (r.length : Int) :: pk (upk r (c * 256 + d).toNat) := by
        intro hr
        have ha := As.asked_of hr
        simp [As.asked, As.in] at ha
        have hz : r.length = szN (c * 256 + d).toNat := by unfold szI at hc; unfold szN; split at hc <;> omega
        have h246 : (r.length : Int) ≤ 246 := by unfold szI at hc; split at hc <;> omega
        refine ⟨h246, hz, ?_⟩
        have hm : (r.length : Int) % 256 = r.length := by omega
        have hpl : (pk (upk r (c * 256 + d).toNat)).length = r.length := by rw [pk_len, upk_len, hz]
        simp [As.say, As.nums, As.rest, As.sized, putW_cons, putW_nil, hpl, hm, m0, n0, m1, n1]
      by_cases hn : n = (r.length : Int)
      · refine .inl ⟨by simp [As.read, As.rn_two, As.rs_cons, hn, As.upkS_at hc h1], fun hr => ?_⟩
        obtain ⟨q1, q2, q3⟩ := hS hr
        have hpl : (pk (upk r (c * 256 + d).toNat)).length = r.length := by rw [pk_len, upk_len, q2]
        rw [q3, hn]
        refine ⟨by simp [hpl], fun i hi => ?_⟩
        rcases i with _ | _ | _ | _ | _ | _ | i
        iterate 6 simp [As.nearAt, rd]
        simp only [List.length_cons, hpl] at hi
        by_cases hl : i + 1 < r.length
        · have h6 : ∀ q : List Int, rd (15 :: a :: b :: c :: d :: (r.length : Int) :: q) ((i + 1 + 1 + 1 + 1 + 1 + 1 : Nat) : Int) = rd q (i : Int) := fun q => by rw [rd_nat, rd_nat]; rfl
          have h7 := As.pk_near h8r q2 hl
          unfold As.nearAt
          rw [h6, h6, h7]
          simp
        · simp [As.nearAt, hpl]
          omega
      · refine .inr ⟨by simp [As.read, As.rn_two, As.rs_cons, hn], ?_⟩
        rintro ⟨hr, _, hq⟩
        obtain ⟨q1, q2, q3⟩ := hS hr
        rw [q3] at hq
        have := As.near_rd hq 5 (by simp only [List.length_cons, pk_len, upk_len]; omega)
        simp [rd] at this
        exact hn this.symm
    · rw [hX]
      apply As.pick3
      · by_cases hr : As.right (As.read 15 (a :: b :: c :: d :: n :: r)).1 = true
        · exfalso
          have ha := As.asked_of hr
          simp [As.read, As.rn_two, As.rs_cons, As.asked, As.in] at ha
          obtain ⟨⟨g1, g2⟩, g3⟩ := ha
          by_cases hn : n = (r.length : Int)
          · rw [if_pos hn] at g3
            exact hc ⟨(As.upkS_of g3 g1).1, g1⟩
          · rw [if_neg hn] at g3
            have := (As.upkS_of g3 g1).1
            simp [szI] at this
            omega
        · simpa using hr
      · by_cases hr : As.right (⟨15, a * 256 + b, c * 256 + d, 0, 0, 0, 0, 0, if 0 < r.length ∧ (r.length : Int) = szI (c * 256 + d) then (upkS r (c * 256 + d)).1 else [], []⟩ : S25) = true
        · exfalso
          have ha := As.asked_of hr
          simp [As.asked, As.in] at ha
          obtain ⟨⟨g1, g2⟩, g3⟩ := ha
          by_cases hk : 0 < r.length ∧ (r.length : Int) = szI (c * 256 + d)
          · exact hc ⟨hk.2, g1⟩
          · rw [if_neg hk] at g3
            simp at g3
            omega
        · simpa using hr
theorem As.parse_eq {l : List Int} (h8 : ∀ x ∈ l, U8 x) : As.parse l = As.rparse l := by
  unfold As.parse As.rparse
  cases l with
  | nil => rfl
  | cons f t =>
  have e0 : rd (f :: t) 0 = f := rfl
  have ht : ∀ x ∈ t, U8 x := fun x hx => h8 x (List.mem_cons_of_mem _ hx)
  have hl : ¬ (f :: t).length = 0 := by simp
  rw [if_neg hl, if_neg hl, e0, show (f :: t).drop 1 = t from rfl]
  rcases As.kinds f with (rfl | rfl | rfl | rfl | rfl | rfl | rfl | rfl | rfl | rfl) | h
  · have hk : ¬ As.known 1 = false := by decide
    rw [if_neg hk, if_neg hk]
    exact As.pn1 ht
  · have hk : ¬ As.known 2 = false := by decide
    rw [if_neg hk, if_neg hk]
    exact As.pn2 ht
  · have hk : ¬ As.known 3 = false := by decide
    rw [if_neg hk, if_neg hk]
    exact As.pn3 ht
  · have hk : ¬ As.known 4 = false := by decide
    rw [if_neg hk, if_neg hk]
    exact As.pn4 ht
  · have hk : ¬ As.known 5 = false := by decide
    rw [if_neg hk, if_neg hk]
    exact As.pn5 ht
  · have hk : ¬ As.known 6 = false := by decide
    rw [if_neg hk, if_neg hk]
    exact As.pn6 ht
  · have hk : ¬ As.known 15 = false := by decide
    rw [if_neg hk, if_neg hk]
    exact As.pn15 ht
  · have hk : ¬ As.known 16 = false := by decide
    rw [if_neg hk, if_neg hk]
    exact As.pn16 ht
  · have hk : ¬ As.known 22 = false := by decide
    rw [if_neg hk, if_neg hk]
    exact As.pn22 ht
  · have hk : ¬ As.known 23 = false := by decide
    rw [if_neg hk, if_neg hk]
    exact As.pn23 ht
  · rw [if_pos h.1, if_pos h.1]

end Go.Proofs.Ytedfbemifigoeaa.P
