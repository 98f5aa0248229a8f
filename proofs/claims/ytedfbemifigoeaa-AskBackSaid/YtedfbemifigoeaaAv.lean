import Derived.Test.YtedfbemifigoeaaX
import Derived.Test.YtedfbemifigoeaaAl
import Derived.Test.YtedfbemifigoeaaLWord
import Derived.Test.YtedfbemifigoeaaLBits
import Derived.Test.YtedfbemifigoeaaLBitsBack
namespace Go.Proofs.Ytedfbemifigoeaa.P
open Go.RowKit Go.Proofs.YtedfbemifigoeaaW.PrintWords Go.Proofs.YtedfbemifigoeaaW.PrintLast Go.Proofs.YtedfbemifigoeaaW.PrintMore
attribute [local go_sem] max2_int min2_int max_two min_two max_three min_three max_four min_four   -- for this text's walks alone
set_option linter.unusedVariables false
set_option linter.unusedSimpArgs false

open Go.Proofs.Ytedfbemifigoeaa.L

theorem As.at_val {l : List Int} (h8 : ∀ x ∈ l, U8 x) (i : Int) : 0 ≤ (atS l i).1 ∧ (atS l i).1 ≤ 65535 := by
  unfold atS
  split
  · rename_i h
    have a1 := rd_all h8 (i := i) (by omega) (by omega)
    have a2 := rd_all h8 (i := i + 1) (by omega) (by omega)
    unfold U8 at a1 a2
    simp only []
    omega
  · simp
theorem As.gs_fit {l : List Int} (h8 : ∀ x ∈ l, U8 x) (hl : l.length ≤ 1000000) : As.Fit (As.gs l) ∧ ∀ n ∈ (As.gs l).f9, 0 ≤ n ∧ n ≤ 65535 := by
  have hg : ∀ m : Nat, ((getS (l.drop m)).1).length ≤ 1000000 ∧ ∀ n ∈ (getS (l.drop m)).1, 0 ≤ n ∧ n ≤ 65535 := by
    intro m
    refine ⟨Nat.le_trans (As.getS_len _) (by rw [List.length_drop]; omega), ?_⟩
    unfold getS
    split
    · intro n hn
      have := getW_u16 (fun x hx => h8 x (List.mem_of_mem_drop hx)) n hn
      unfold U16 at this
      omega
    · intro n hn; cases hn
  have hu := As.upkS_len (l.drop 6) (As.at_val h8 3).2
  have hz : ∀ n ∈ ([] : List Int), 0 ≤ n ∧ n ≤ 65535 := by simp
  unfold As.gs
  split
  · exact ⟨⟨Nat.zero_le _, Nat.zero_le _⟩, hz⟩
  · split
    · exact ⟨⟨Nat.zero_le _, Nat.zero_le _⟩, hz⟩
    · split
      · refine ⟨⟨?_, Nat.zero_le _⟩, hz⟩
        simp only []
        split
        · omega
        · exact Nat.zero_le _
      · split
        · refine ⟨⟨Nat.zero_le _, ?_⟩, ?_⟩
          · simp only []
            split
            · exact (hg 6).1
            · exact Nat.zero_le _
          · simp only []
            split
            · exact (hg 6).2
            · exact hz
        · split
          · exact ⟨⟨Nat.zero_le _, Nat.zero_le _⟩, hz⟩
          · refine ⟨⟨Nat.zero_le _, ?_⟩, ?_⟩
            · simp only []
              split
              · exact (hg 10).1
              · exact Nat.zero_le _
            · simp only []
              split
              · exact (hg 10).2
              · exact hz
theorem As.parse_fit {l : List Int} (h8 : ∀ x ∈ l, U8 x) (hl : l.length ≤ 1000000) : As.Fit (As.parse l).1 ∧ ∀ n ∈ (As.parse l).1.f9, 0 ≤ n ∧ n ≤ 65535 := by
  rw [As.parse_eq h8]
  have hz : As.Fit z25 ∧ ∀ n ∈ (z25).f9, 0 ≤ n ∧ n ≤ 65535 := ⟨⟨Nat.zero_le _, Nat.zero_le _⟩, by intro n hn; cases hn⟩
  have hg := As.gs_fit h8 hl
  unfold As.rparse
  split
  · exact hz
  · split
    · exact hz
    · split
      · exact hg
      · exact hz
theorem As.gs_fn (l : List Int) : (As.gs l).f0 = rd l 0 := by
  unfold As.gs
  split
  · rfl
  · split
    · rfl
    · split
      · rfl
      · split
        · rfl
        · split <;> rfl
/-! What is said is understood, and the other way round: plain Lean. -/
theorem As.own_eq {x : S25} (h : As.right x = true) : x = As.own x := by
  simp only [As.right, Bool.and_eq_true] at h
  exact As.eqb_eq h.1.1.2
theorem As.dm (a : Int) : a / 256 * 256 + a % 256 = a := by omega
theorem As.getS_put (l : List Int) : getS (putW l) = (l, 0) := by
  unfold getS
  rw [if_pos (by rw [putW_length]; omega), getW_putW]
theorem As.gs_say {x : S25} (h : As.right x = true) : As.gs (As.say x) = x := by
  have ho := As.own_eq h
  obtain ⟨hk, hi, ha⟩ := As.rel h
  clear h
  obtain ⟨f, A, C, V, N, O, F, M, B, R⟩ := x
  rcases As.kinds f with (rfl | rfl | rfl | rfl | rfl | rfl | rfl | rfl | rfl | rfl) | h
  all_goals simp [As.own] at ho
  · obtain ⟨rfl, rfl, rfl, rfl, rfl, rfl, rfl⟩ := ho
    simp [As.gs, As.say, As.nums, As.rest, putW_cons, putW_nil, rd, As.at2, As.at4, As.dm]
  · obtain ⟨rfl, rfl, rfl, rfl, rfl, rfl, rfl⟩ := ho
    simp [As.gs, As.say, As.nums, As.rest, putW_cons, putW_nil, rd, As.at2, As.at4, As.dm]
  · obtain ⟨rfl, rfl, rfl, rfl, rfl, rfl, rfl⟩ := ho
    simp [As.gs, As.say, As.nums, As.rest, putW_cons, putW_nil, rd, As.at2, As.at4, As.dm]
  · obtain ⟨rfl, rfl, rfl, rfl, rfl, rfl, rfl⟩ := ho
    simp [As.gs, As.say, As.nums, As.rest, putW_cons, putW_nil, rd, As.at2, As.at4, As.dm]
  · obtain ⟨rfl, rfl, rfl, rfl, rfl, rfl, rfl⟩ := ho
    simp [As.gs, As.say, As.nums, As.rest, putW_cons, putW_nil, rd, As.at2, As.at4, As.dm]
  · obtain ⟨rfl, rfl, rfl, rfl, rfl, rfl, rfl⟩ := ho
    simp [As.gs, As.say, As.nums, As.rest, putW_cons, putW_nil, rd, As.at2, As.at4, As.dm]
  · obtain ⟨rfl, rfl, rfl, rfl, rfl, rfl⟩ := ho
    simp [As.asked, As.in] at ha
    obtain ⟨⟨h1, h2⟩, rfl⟩ := ha
    have hsz : (pk B).length = szN B.length := pk_len B
    have hp : 0 < szN B.length := by unfold szN; omega
    have h6 : ∀ n : Nat, (n : Int) + 1 + 1 + 1 + 1 + 1 + 1 - 6 = n := by intro n; omega
    simp [As.gs, As.say, As.nums, As.rest, As.sized, putW_cons, putW_nil, rd, As.at2, As.at4, As.dm, hsz, hp, h6, szI_nat, upkS_pk]
  · obtain ⟨rfl, rfl, rfl, rfl, rfl, rfl⟩ := ho
    simp [As.asked, As.in] at ha
    obtain ⟨⟨h1, h2⟩, rfl⟩ := ha
    have hp : 0 < R.length := by omega
    simp [As.gs, As.say, As.nums, As.rest, As.sized, putW_cons, putW_nil, rd, As.at2, As.at4, As.dm, putW_length, hp, As.getS_put]
  · obtain ⟨rfl, rfl, rfl, rfl, rfl, rfl⟩ := ho
    simp [As.gs, As.say, As.nums, As.rest, putW_cons, putW_nil, rd, As.at2, As.at4, As.at6, As.dm]
  · obtain ⟨rfl, rfl, rfl, rfl⟩ := ho
    simp [As.asked, As.in] at ha
    obtain ⟨⟨_, h1, h2⟩, rfl⟩ := ha
    have hp : 0 < R.length := by omega
    simp [As.gs, As.say, As.nums, As.rest, As.sized, putW_cons, putW_nil, rd, As.at2, As.at4, As.at6, As.at8, As.dm, putW_length, hp, As.getS_put]
  · rw [h.1] at hk
    cases hk
theorem As.say_len {x : S25} (h : As.right x = true) : 5 ≤ (As.say x).length ∧ (As.say x).length ≤ 253 := by
  obtain ⟨hk, hi, ha⟩ := As.rel h
  clear h
  obtain ⟨f, A, C, V, N, O, F, M, B, R⟩ := x
  have hb := pk_len B
  unfold szN at hb
  rcases As.kinds f with (rfl | rfl | rfl | rfl | rfl | rfl | rfl | rfl | rfl | rfl) | h
  all_goals first
    | (rw [h.1] at hk; cases hk; done)
    | (simp [As.asked, As.in] at ha
       simp [As.say, As.nums, As.rest, As.sized, putW_cons, putW_nil, putW_length]
       done)
    | (simp [As.asked, As.in] at ha
       simp [As.say, As.nums, As.rest, As.sized, putW_cons, putW_nil, putW_length]
       omega)
theorem As.say_u8 {x : S25} (h : As.right x = true) (h16 : ∀ n ∈ x.f9, 0 ≤ n ∧ n ≤ 65535) : ∀ n ∈ As.say x, U8 n := by
  obtain ⟨_, hf, hfacts⟩ := As.facts h
  have h9 : ∀ n ∈ x.f9, U16 n := fun n hn => by have := h16 n hn; unfold U16; omega
  have hsz : ∀ b : List Int, (∀ n ∈ b, U8 n) → ∀ n ∈ As.sized b, U8 n := by
    intro b hb n hn
    unfold As.sized at hn
    rcases List.mem_cons.1 hn with rfl | hn
    · unfold U8; omega
    · exact hb n hn
  have hr : ∀ n ∈ As.rest x, U8 n := by
    unfold As.rest
    split
    · exact hsz _ (pk_u8 _)
    · split
      · exact hsz _ (putW_u8 h9)
      · intro n hn; cases hn
  have hn : ∀ n ∈ As.nums x, U16 n := by
    rcases hfacts with ⟨_, _, _, _, _, _, _, _, _, _, e, _, g, _⟩ | ⟨_, _, _, _, _, _, _, _, _, _, e, _, g, _⟩ | ⟨_, _, _, _, _, _, _, _, _, _, e, _, g, _⟩ | ⟨_, _, _, _, _, _, _, _, _, _, e, _, g, _⟩ | ⟨_, _, _, _, _, _, _, _, _, _, e, _, g, _⟩ | ⟨_, _, _, _, _, _, _, _, _, _, e, _, g, _⟩ | ⟨_, _, _, _, _, _, _, _, _, _, e, _, g, _⟩ | ⟨_, _, _, _, _, _, _, _, _, _, e, _, g, _⟩ | ⟨_, _, _, _, _, _, _, _, _, _, e, _, g, _⟩ | ⟨_, _, _, _, _, _, _, _, _, _, e, _, g, _⟩
    all_goals
      rw [e]
      intro n hn
      unfold U16
      simp only [List.mem_cons, List.not_mem_nil, or_false] at hn
      omega
  intro n hm
  unfold As.say at hm
  rcases List.mem_cons.1 hm with rfl | hm
  · unfold U8; omega
  · rcases List.mem_append.1 hm with hm | hm
    · exact putW_u8 hn n hm
    · exact hr n hm
/-- What is said is understood. -/
theorem As.parse_say {x : S25} (h : As.right x = true) (h16 : ∀ n ∈ x.f9, 0 ≤ n ∧ n ≤ 65535) : As.parse (As.say x) = (x, 0) := by
  rw [As.parse_eq (As.say_u8 h h16)]
  have hl := As.say_len h
  unfold As.rparse
  rw [if_neg (by omega), As.gs_say h]
  have hk : As.known (rd (As.say x) 0) = true := (As.rel h).1
  rw [if_neg (by rw [hk]; simp), if_pos ⟨h, rfl, As.near_self _ _⟩]
/-- What is understood may be, and is said so again. -/
theorem As.parse_back {l : List Int} {y : S25} (h8 : ∀ x ∈ l, U8 x) (he : As.parse l = (y, 0)) : As.right y = true ∧ (As.say y).length = l.length ∧ As.near y.f0 (As.say y) l ∧ y = As.gs l := by
  rw [As.parse_eq h8] at he
  unfold As.rparse at he
  split at he
  · cases he
  · split at he
    · cases he
    · split at he
      · rename_i h
        injection he with h1 h2
        subst h1
        rw [As.gs_fn]
        exact ⟨h.1, h.2.1, h.2.2, rfl⟩
      · cases he
theorem As.parse_err {l : List Int} {y : S25} {E : Int} (he : As.parse l = (y, E)) (h : E ≠ 0) : y = z25 := by
  unfold As.parse at he
  split at he
  · injection he with h1 h2
    exact h1.symm
  · split at he
    · injection he with h1 h2
      exact h1.symm
    · split at he
      · injection he with h1 h2
        exact absurd h2.symm h
      · injection he with h1 h2
        exact h1.symm
theorem As.near_same {f : Int} {b l : List Int} (h : As.near f b l) (hl : b.length = l.length) (hf : f ≠ 15) : b = l := by
  apply list_rd hl
  intro j hj
  have := h j hj
  simp [As.nearAt, hf] at this
  exact this
theorem As.near_take {f : Int} {b l : List Int} (h : As.near f b l) (hl : b.length = l.length) : b.take (b.length - 1) = l.take (b.length - 1) := by
  apply list_rd (by simp [hl])
  intro j hj
  simp only [List.length_take] at hj
  have h1 := As.near_rd h j (by omega)
  rw [rd_nat, rd_nat] at h1 ⊢
  have h2 : ∀ q : List Int, (q.take (b.length - 1)).getD j 0 = q.getD j 0 := fun q => by
    simp only [List.getD_eq_getElem?_getD]
    rw [List.getElem?_take, if_pos (by omega)]
  rw [h2, h2, h1]
/-- Of function 15: those bytes just if these are tidy. -/
theorem As.back15 {l : List Int} {y : S25} (h8 : ∀ x ∈ l, U8 x) (he : As.parse l = (y, 0)) (hf : y.f0 = 15) : 6 < l.length ∧ I64 y.f2 ∧ (As.say y = l ↔ tdP (l.drop 6) y.f2) := by
  obtain ⟨hr, hl, hn, hg⟩ := As.parse_back h8 he
  have ha := As.asked_of hr
  have hf0 : rd l 0 = 15 := by rw [← As.gs_fn, ← hg, hf]
  simp [As.asked, hf, As.in] at ha
  obtain ⟨⟨h1, h2⟩, h3⟩ := ha
  have h8y : y.f8 = (if 6 < l.length ∧ (l.length : Int) - 6 = szI y.f2 then (upkS (l.drop 6) y.f2).1 else []) := by
    rw [hg]
    simp [As.gs, hf0]
  by_cases hc : 6 < l.length ∧ (l.length : Int) - 6 = szI y.f2
  rotate_left
  · rw [if_neg hc] at h8y
    rw [h8y] at h3
    simp at h3
    omega
  rw [if_pos hc] at h8y
  rw [h8y] at h3
  obtain ⟨e1, e2⟩ := As.upkS_of h3 h1
  rw [e2] at h8y
  simp only [] at h8y
  have hsz : (l.drop 6).length = szN y.f2.toNat := by unfold szI at e1; unfold szN; split at e1 <;> omega
  have h8d : ∀ x ∈ l.drop 6, U8 x := fun x hx => h8 x (List.mem_of_mem_drop hx)
  have ht := pk_upk h8d hsz
  rw [Int.toNat_of_nonneg (by omega)] at ht
  refine ⟨hc.1, ⟨by omega, by omega⟩, ?_⟩
  rw [← ht, ← h8y]
  have hs : As.say y = 15 :: (putW [y.f1, y.f2] ++ As.sized (pk y.f8)) := by simp [As.say, As.nums, As.rest, hf]
  have hd : (As.say y).drop 6 = pk y.f8 := by rw [hs]; simp [putW_cons, putW_nil, As.sized]
  have ht6 : (As.say y).take 6 = l.take 6 := by
    have h := As.near_take hn hl
    have h2 := congrArg (List.take 6) h
    rw [List.take_take, List.take_take, Nat.min_eq_left (by omega)] at h2
    exact h2
  constructor
  · intro h
    rw [← hd, h]
  · intro h
    rw [← List.take_append_drop 6 (As.say y), ← List.take_append_drop 6 l, hd, ht6, h]

end Go.Proofs.Ytedfbemifigoeaa.P
