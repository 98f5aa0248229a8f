/- The pure statement of WhoBits: where all eight coils are there, the status is what reading them tells; where none is, 0. -/
import Derived.Test.YtnaedmakkefdfaaPx10
import Derived.Test.YtnaedmakkefdfaaPx5
import Derived.Test.YtnaedmakkefdfaaPx9
import Derived.Test.YtnaedmakkefdfaaLWho
import Derived.Test.YtnaedmakkefdfaaLCells
namespace Go.Proofs.Ytnaedmakkefdfaa.Pure
open Go.RowKit Go.Proofs.Ytnaedmakkefdfaa.P Go.Proofs.YtnaedmakkefdfaaW.PrintWords Go.Proofs.YtnaedmakkefdfaaW.PrintLast Go.Proofs.Ytnaedmakkefdfaa.L
set_option maxRecDepth 100000 in
theorem sure22c : ∃ K, ∀ k, K ≤ k → bilgelaw22_sure.f k = some true :=
  Ev.of (g := fun k => bilgelaw22_sure.f k) (fun k => bilgelaw22_sure.mono k) (k := 20) (by decide +kernel)
theorem fcoils_eq (k : Nat) (a0 a1 a2 a3 a4 a5 a6 a7 a8 a9 : Int) (l1 l2 : List Bool) (l3 l4 : List Int) (x n : Int) : file_Bits.f (k + 1) a0 a1 a2 a3 a4 a5 a6 a7 a8 a9 l1 l2 l3 l4 false x n =
    some (if FileP a0 a1 a2 a3 a4 a5 a6 a7 a8 a9 l1 l2 l3 l4 then readS a0 a1 l1 x n else ([], 11)) := by
  unfold file_Bits.f
  rw [fright_eq, Option.bind_some]
  by_cases h : FileP a0 a1 a2 a3 a4 a5 a6 a7 a8 a9 l1 l2 l3 l4
  · rw [decide_eq_true h, if_pos rfl, if_neg (by simp), cwordsB, Option.bind_some, if_pos h]
  · rw [decide_eq_false h, if_neg (by simp), if_neg h]
theorem bitS_in {a b x : Int} {l : List Bool} (h : HasP a b x) : bitS a b l x = rdOf false l (x - a) := if_pos h
theorem drop_step {l : List Bool} {n m : Nat} (h : n < l.length) : (l.drop n).take (m + 1) = rdOf false l (n : Int) :: (l.drop (n + 1)).take m := by
  rw [show l.drop n = l.drop ((n : Int)).toNat by simp, rdOf_drop (d := false) (by omega) (by omega), List.take_succ_cons]; simp
theorem WhoBits : bilgelaw22_WhoBits.Pure := by
  rintro ⟨⟨⟨a0, a1⟩, ⟨a2, a3⟩, ⟨a4, a5⟩, ⟨a6, a7⟩, ⟨a8, a9⟩⟩, l1, l2, l3, l4⟩ x ⟨_, ⟨_, h1, _⟩, ⟨_, h2, _⟩, ⟨_, h3, _⟩, ⟨_, h4, _⟩⟩ hx
  simp only at h1 h2 h3 h4 ⊢
  replace hx := i64_of hx
  obtain ⟨K, hK⟩ := sure22c
  refine ⟨K + 1000 + 1, ?_⟩
  unfold bilgelaw22_WhoBits.f
  have hs : bilgelaw22_sure.f (K + 1000 + 1) = some true := hK _ (by omega)
  have hs0 : bilgelaw22_sure.f (K + 1000) = some true := hK _ (by omega)
  rw [few_eq _ _ _ _ _ _ _ _ _ _ (by omega) (by omega) (by omega) (by omega), Option.bind_some]
  by_cases c1 : l1.length + l2.length + l3.length + l4.length ≤ 4000
  · rw [decide_eq_true c1, if_pos rfl, fcoils_eq, Option.bind_some, stat_eq (by omega), Option.bind_some, fright_eq, Option.bind_some]
    simp only [bilgelaw22_WhoBits.j0]
    by_cases c2 : FileP a0 a1 a2 a3 a4 a5 a6 a7 a8 a9 l1 l2 l3 l4
    · have c2' := c2
      obtain ⟨⟨hr, _⟩, hl, _⟩ := c2'
      have hr' := hr
      unfold RightP at hr'
      rw [if_pos c2, decide_eq_true c2, if_pos rfl]
      by_cases c3 : HoldsP a0 a1 x 8
      · have c3' := c3
        unfold HoldsP at c3'
        have hH : ∀ i : Int, 0 ≤ i → i < 8 → HasP a0 a1 (x + i) := fun i _ _ => ⟨hr, by omega, by omega⟩
        have e1 : readS a0 a1 l1 x 8 = ([bitS a0 a1 l1 x, bitS a0 a1 l1 (x + 1), bitS a0 a1 l1 (x + 2), bitS a0 a1 l1 (x + 3), bitS a0 a1 l1 (x + 4), bitS a0 a1 l1 (x + 5), bitS a0 a1 l1 (x + 6), bitS a0 a1 l1 (x + 7)], 0) := by
          unfold readS
          rw [if_pos ⟨hr, hl, by omega⟩, if_pos c3]
          have h0 := hH 0 (by omega) (by omega)
          rw [Int.add_zero] at h0
          rw [bitS_in h0, bitS_in (hH 1 (by omega) (by omega)), bitS_in (hH 2 (by omega) (by omega)), bitS_in (hH 3 (by omega) (by omega)), bitS_in (hH 4 (by omega) (by omega)), bitS_in (hH 5 (by omega) (by omega)), bitS_in (hH 6 (by omega) (by omega)), bitS_in (hH 7 (by omega) (by omega))]
          obtain ⟨n, hn⟩ : ∃ n : Nat, x - a0 = (n : Int) := ⟨(x - a0).toNat, by omega⟩
          rw [show x + 1 - a0 = ((n + 1 : Nat) : Int) by omega, show x + 2 - a0 = ((n + 2 : Nat) : Int) by omega, show x + 3 - a0 = ((n + 3 : Nat) : Int) by omega, show x + 4 - a0 = ((n + 4 : Nat) : Int) by omega, show x + 5 - a0 = ((n + 5 : Nat) : Int) by omega, show x + 6 - a0 = ((n + 6 : Nat) : Int) by omega, show x + 7 - a0 = ((n + 7 : Nat) : Int) by omega, hn, Int.toNat_natCast, show Int.toNat 8 = 7 + 1 from rfl,
            drop_step (by omega), show 7 = 6 + 1 from rfl, drop_step (by omega), show 6 = 5 + 1 from rfl, drop_step (by omega), show 5 = 4 + 1 from rfl, drop_step (by omega), show 4 = 3 + 1 from rfl, drop_step (by omega), show 3 = 2 + 1 from rfl, drop_step (by omega), show 2 = 1 + 1 from rfl, drop_step (by omega), show 1 = 0 + 1 from rfl, drop_step (by omega)]
          rfl
        rw [e1, if_pos rfl, flags_eq (by simp) (by simp), Option.bind_some, if_pos, hs]
        · rfl
        · rw [statS_yes ⟨c2, by omega, by omega⟩]
          rfl
      · have e1 : readS a0 a1 l1 x 8 = ([], 2) := by
          unfold readS
          rw [if_pos ⟨hr, hl, by omega⟩, if_neg c3]
        rw [e1, if_neg (by simp)]
        by_cases c4 : -8 ≤ x ∧ x ≤ 65535
        · rw [if_neg (by omega), decide_eq_false (by omega), if_neg (by simp), show K + 1000 = K + 999 + 1 from rfl, fcoils_eq, Option.bind_some, if_pos c2]
          rw [statS_yes ⟨c2, c4⟩, stB_odd]
          by_cases c5 : HoldsP a0 a1 x 1
          · have c5' := c5
            unfold HoldsP at c5'
            have e2 : readS a0 a1 l1 x 1 = ([bitS a0 a1 l1 x], 0) := by
              unfold readS
              rw [if_pos ⟨hr, hl, by omega⟩, if_pos c5, bitS_in ⟨hr, by omega, by omega⟩]
              obtain ⟨n, hn⟩ : ∃ n : Nat, x - a0 = (n : Int) := ⟨(x - a0).toNat, by omega⟩
              rw [hn, Int.toNat_natCast, show Int.toNat 1 = 0 + 1 from rfl, drop_step (by omega)]
              simp
            rw [e2, if_pos rfl, if_pos (by simp), if_pos (by simp [rdOf]), show K + 999 + 1 = K + 1000 from rfl, hs0]
            rfl
          · have e2 : readS a0 a1 l1 x 1 = ([], 2) := by
              unfold readS
              rw [if_pos ⟨hr, hl, by omega⟩, if_neg c5]
            have e3 : bitS a0 a1 l1 x = false := if_neg (fun hh => c5 ⟨hr, by omega, hh.2.1, by have := hh.2.2; omega⟩)
            rw [e2, if_neg (by simp), e3, if_pos (by simp), show K + 999 + 1 = K + 1000 from rfl, hs0]
            rfl
        · rw [statS_no (fun hh => c4 hh.2)]
          by_cases c5 : x > 65535
          · rw [if_pos c5, if_pos trivial, if_pos rfl, hs0]; rfl
          · rw [if_neg c5, decide_eq_true (by omega), if_pos rfl, if_pos rfl, hs0]; rfl
    · rw [if_neg c2, if_neg (by simp), decide_eq_false c2, if_neg (by simp)]
      rw [statS_no (fun hh => c2 hh.1), if_pos trivial, if_pos rfl, hs0]; rfl
  · rw [decide_eq_false c1, if_neg (by simp), hs]; rfl
end Go.Proofs.Ytnaedmakkefdfaa.Pure
