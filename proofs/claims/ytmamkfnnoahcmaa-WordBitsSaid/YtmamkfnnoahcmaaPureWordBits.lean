/- The pure statement of WordBits: bits that differ, differ when turned; what both have, or one has, too; words that differ, differ when turned. For all words. -/
import Derived.Test.YtmamkfnnoahcmaaPx7
import Derived.Test.YtmamkfnnoahcmaaPx3
import Derived.Test.YtmamkfnnoahcmaaLRefWord
namespace Go.Proofs.Ytmamkfnnoahcmaa.Pure
open Go.RowKit Go.Proofs.Ytmamkfnnoahcmaa.P Go.Proofs.YtmamkfnnoahcmaaW.PrintWords Go.Proofs.YtmamkfnnoahcmaaW.PrintLast Go.Proofs.Ytmamkfnnoahcmaa.L
set_option maxRecDepth 100000 in
theorem sure01b : ∃ K, ∀ k, K ≤ k → bilgelaw01_sure.f k = some true :=
  Ev.of (g := fun k => bilgelaw01_sure.f k) (fun k => bilgelaw01_sure.mono k) (k := 20) (by decide +kernel)

theorem WordBits : bilgelaw01_WordBits.Pure := by
  intro a b ha hb
  replace ha := u16_of ha
  replace hb := u16_of hb
  obtain ⟨x, rfl⟩ := Int.eq_ofNat_of_zero_le ha.1
  obtain ⟨y, rfl⟩ := Int.eq_ofNat_of_zero_le hb.1
  have hx : x < 65536 := by omega
  have hy : y < 65536 := by omega
  have rx := rvN_lt 16 x
  have ry := rvN_lt 16 y
  obtain ⟨K, hK⟩ := sure01b
  refine ⟨K, ?_⟩
  unfold bilgelaw01_WordBits.f
  have h1 : x ^^^ y < 2 ^ 16 := Nat.xor_lt_two_pow hx hy
  have h2 : x &&& y < 2 ^ 16 := Nat.and_lt_two_pow _ hy
  have h3 : x ||| y < 2 ^ 16 := Nat.or_lt_two_pow hx hy
  rw [bn_xor hx hy, turn_nat h1, Option.bind_some, turn_nat hx, Option.bind_some, turn_nat hy, Option.bind_some, bn_xor rx ry, rvN_xor, if_pos rfl, bn_and hx hy, turn_nat h2, Option.bind_some]
  simp only [Option.bind_some]
  rw [bn_and rx ry, rvN_and, if_pos rfl, bn_or hx hy, turn_nat h3, Option.bind_some, bn_or rx ry, rvN_or, if_pos rfl, if_pos, hK K (Nat.le_refl _)]
  · rfl
  · rw [beq_iff_eq, Bool.eq_iff_iff]
    simp only [beq_iff_eq]
    constructor
    · intro h
      have h' : rvN 16 x = rvN 16 y := by omega
      have : x = y := by rw [← rvN_rvN hx, ← rvN_rvN hy, h']
      omega
    · intro h
      have : x = y := by omega
      rw [this]
end Go.Proofs.Ytmamkfnnoahcmaa.Pure
