/- What the reference's bits come to: the same bytes, bits, tests and counts. -/
import Derived.Test.YtedfbemifigoeaaLBits
import Derived.Test.YtedfbemifigoeaaPx1
import Derived.Test.YtedfbemifigoeaaPx6
import Derived.Test.YtedfbemifigoeaaPx0
namespace Go.Proofs.Ytedfbemifigoeaa.L
open Go.RowKit Go.Proofs.Ytedfbemifigoeaa.P Go.Proofs.YtedfbemifigoeaaW.PrintWords Go.Proofs.YtedfbemifigoeaaW.PrintLast Go.Proofs.YtedfbemifigoeaaW.PrintMore
set_option linter.unusedVariables false
set_option linter.unusedSimpArgs false

theorem rsize_eq {a : Int} (h : I64 a) : bilgeref02_Size.f a = some (szI a) := by
  unfold bilgeref02_Size.f szI
  split
  · rfl
  · rw [Int.tmod_eq_emod_of_nonneg (by omega), Int.tdiv_eq_ediv_of_nonneg (by omega), w64 (x := a / 8) (by omega), w64 (x := a / 8 + 1) (by omega)]
    split
    · refine congrArg some ?_; omega
    · refine congrArg some ?_; omega
theorem rpack_loop {l : List Bool} (hl : l.length ≤ 4611686018427387904) : ∀ (d k i : Nat), i + d = l.length → d < k → bilgeref02_Pack.l0 k l (pkTo l i) (i : Int) = some (pk l) := by
  intro d
  induction d with
  | zero =>
    intro k i h1 hk
    obtain ⟨k, rfl⟩ : ∃ m, k = m + 1 := ⟨k - 1, by omega⟩
    simp only [bilgeref02_Pack.l0]
    rw [if_neg (by omega), show i = l.length by omega]; rfl
  | succ d ih =>
    intro k i h1 hk
    obtain ⟨k, rfl⟩ : ∃ m, k = m + 1 := ⟨k - 1, by omega⟩
    have hi := ih k (i + 1) (by omega) (by omega)
    have hs : i / 8 < szN l.length := by unfold szN; omega
    have ed : wrap64 (Int.tdiv (i : Int) 8) = ((i / 8 : Nat) : Int) := by rw [Int.tdiv_eq_ediv_of_nonneg (by omega), w64 (by omega)]; omega
    have em : Int.tmod (i : Int) 8 = ((i % 8 : Nat) : Int) := by rw [Int.tmod_eq_emod_of_nonneg (by omega)]; omega
    simp only [bilgeref02_Pack.l0]
    rw [if_pos (by omega), if_pos (by omega), ed, em, w64 (by omega), show (i : Int) + 1 = ((i + 1 : Nat) : Int) by omega, rdOf_getD]
    by_cases h : l.getD i false = true
    · rw [if_pos h, if_pos (by omega), pkTo_len, if_pos (by omega), if_pos (by omega), pkTo_at l i hs,
        byte_add ⟨_, pkAt_lt l i (i / 8)⟩ ⟨i % 8, by omega⟩ (pkAt_free l i), Int.toNat_natCast, ← pkTo_put (by omega) h]
      exact hi
    · rw [if_neg h]
      rw [pkTo_skip (by simpa using h)] at hi
      exact hi
theorem rpack_eq {l : List Bool} (hl : l.length ≤ 1000000) {k : Nat} (hk : l.length < k) : bilgeref02_Pack.f k l = some (pk l) := by
  unfold bilgeref02_Pack.f
  have hs : szN l.length ≤ 1000000 := by unfold szN; omega
  rw [rsize_eq (by constructor <;> omega), szI_nat, Option.bind_some, if_pos (by omega), if_pos (by omega), Int.toNat_natCast, ← pkTo_zero]
  exact rpack_loop (by omega) l.length k 0 (by omega) hk
theorem rbit_eq {b : List Int} (hb : ∀ x ∈ b, U8 x) {i : Nat} (hi : i < 4611686018427387904) (h : i / 8 < b.length) : bilgeref02_bit.f b (i : Int) = some (btAt b i) := by
  have ed : wrap64 (Int.tdiv (i : Int) 8) = ((i / 8 : Nat) : Int) := by rw [Int.tdiv_eq_ediv_of_nonneg (by omega), w64 (by omega)]; omega
  have em : Int.tmod (i : Int) 8 = ((i % 8 : Nat) : Int) := by rw [Int.tmod_eq_emod_of_nonneg (by omega)]; omega
  unfold bilgeref02_bit.f
  rw [ed, em, if_pos (by omega), if_pos (by omega), if_pos (by omega), btAt_got hb h]
theorem runpack_loop {b : List Int} (hb : ∀ x ∈ b, U8 x) {n : Nat} (hn : n ≤ 8 * b.length) (hl : n ≤ 100000000) : ∀ (d k i : Nat), i + d = n → d < k → bilgeref02_Unpack.l0 k b (n : Int) ((upk b n).take i) (i : Int) = some (upk b n, 0) := by
  intro d
  induction d with
  | zero =>
    intro k i h1 hk
    obtain ⟨k, rfl⟩ : ∃ m, k = m + 1 := ⟨k - 1, by omega⟩
    simp only [bilgeref02_Unpack.l0]
    rw [if_neg (by omega), show i = n by omega, List.take_of_length_le (by rw [upk_len]; omega)]
  | succ d ih =>
    intro k i h1 hk
    obtain ⟨k, rfl⟩ : ∃ m, k = m + 1 := ⟨k - 1, by omega⟩
    have hi := ih k (i + 1) (by omega) (by omega)
    simp only [bilgeref02_Unpack.l0]
    have e2 : btAt b i = (upk b n)[i]'(by rw [upk_len]; omega) := by simp [upk]
    rw [if_pos (by omega), rbit_eq hb (by omega) (by omega), Option.bind_some, if_pos (by rw [List.length_take, upk_len]; omega), w64 (by omega), show (i : Int) + 1 = ((i + 1 : Nat) : Int) by omega, e2, ← List.take_succ_eq_append_getElem]
    exact hi
theorem runpack_eq {b : List Int} (hb : ∀ x ∈ b, U8 x) {n : Int} (hn : I64 n) (hl : b.length ≤ 1000000) {k : Nat} (hk : 8 * b.length < k) : bilgeref02_Unpack.f k b n = some (upkS b n) := by
  unfold bilgeref02_Unpack.f upkS
  rw [rsize_eq hn, Option.bind_some]
  by_cases h1 : n < 0
  · rw [if_pos h1, if_pos h1]
  · rw [if_neg h1, if_neg h1]
    by_cases h2 : (b.length : Int) < szI n
    · rw [if_pos h2, if_pos h2]
    · rw [if_neg h2, if_neg h2, Option.bind_some]
      by_cases h3 : (b.length : Int) > szI n
      · rw [if_pos h3, if_pos h3]
      · rw [if_neg h3, if_neg h3]
        obtain ⟨n, rfl⟩ := Int.eq_ofNat_of_zero_le (Int.not_lt.mp h1)
        rw [szI_nat] at h2 h3
        have h4 : n ≤ 8 * b.length := by unfold szN at h2 h3; omega
        exact runpack_loop hb h4 (by omega) n k 0 (by omega) (by omega)
end Go.Proofs.Ytedfbemifigoeaa.L
