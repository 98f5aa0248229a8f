/- What package bits comes to, on lists of bits: bits as bytes, bytes as bits. -/
import Derived.Test.YtedfbemifigoeaaLBase
import Derived.Test.YtedfbemifigoeaaPx1
import Derived.Test.YtedfbemifigoeaaPx5
import Derived.Test.YtedfbemifigoeaaPx6
import Derived.Test.YtedfbemifigoeaaPx0
namespace Go.Proofs.Ytedfbemifigoeaa.L
open Go.RowKit Go.Proofs.Ytedfbemifigoeaa.P Go.Proofs.YtedfbemifigoeaaW.PrintWords Go.Proofs.YtedfbemifigoeaaW.PrintLast Go.Proofs.YtedfbemifigoeaaW.PrintMore
set_option linter.unusedVariables false
set_option linter.unusedSimpArgs false

/-- The number of n bits. -/
def bvN (f : Nat → Bool) : Nat → Nat
  | 0 => 0
  | n + 1 => bvN f n + (f n).toNat * 2 ^ n
theorem bvN_lt (f : Nat → Bool) : ∀ n, bvN f n < 2 ^ n
  | 0 => by simp [bvN]
  | n + 1 => by
    have := bvN_lt f n
    rw [bvN, Nat.pow_succ]
    cases f n <;> simp <;> omega
theorem bvN_congr {f g : Nat → Bool} : ∀ {n}, (∀ r, r < n → f r = g r) → bvN f n = bvN g n
  | 0, _ => rfl
  | n + 1, h => by rw [bvN, bvN, bvN_congr (fun r hr => h r (by omega)), h n (by omega)]
theorem bvN_self {m : Nat} : ∀ n, bvN (fun r => m.testBit r) n = m % 2 ^ n
  | 0 => by simp [bvN, Nat.mod_one]
  | n + 1 => by
    rw [bvN, bvN_self n, Nat.mod_pow_succ, Nat.testBit_eq_decide_div_mod_eq, Nat.mul_comm]
    congr 2
    by_cases h : m / 2 ^ n % 2 = 1
    · simp [h]
    · simp [h]; omega
theorem bvN_ext {m n : Nat} {f : Nat → Bool} (h : m < 2 ^ n) (hb : ∀ r, r < n → m.testBit r = f r) : bvN f n = m := by
  rw [← bvN_congr (f := fun r => m.testBit r) hb, bvN_self, Nat.mod_eq_of_lt h]
theorem bvN_bit (f : Nat → Bool) {n r : Nat} (h : r < n) : (bvN f n).testBit r = f r := by
  induction n with
  | zero => omega
  | succ n ih =>
    rw [bvN]
    have hl := bvN_lt f n
    by_cases hr : r = n
    · subst hr
      rw [Nat.testBit_eq_decide_div_mod_eq]
      have hp := Nat.two_pow_pos r
      rw [show bvN f r + (f r).toNat * 2 ^ r = bvN f r + 2 ^ r * (f r).toNat by rw [Nat.mul_comm], Nat.add_mul_div_left _ _ hp, Nat.div_eq_of_lt hl]
      cases f r <;> simp
    · rw [show bvN f n + (f n).toNat * 2 ^ n = 2 ^ n * (f n).toNat + bvN f n by rw [Nat.mul_comm, Nat.add_comm], Nat.testBit_two_pow_mul_add _ hl, if_pos (by omega), ih (by omega)]

/-! ### bytes, all 256 of them -/
theorem byte_or : ∀ m : Fin 256, ∀ r : Fin 8, m.val.testBit r.val = false → bits .or .u8 (m.val : Int) (shl .u8 1 (r.val : Int)) = ((m.val + 2 ^ r.val : Nat) : Int) := by decide +kernel
theorem byte_add : ∀ m : Fin 256, ∀ r : Fin 8, m.val.testBit r.val = false → ((m.val : Int) + shl .u8 1 (r.val : Int)) % 256 = ((m.val + 2 ^ r.val : Nat) : Int) := by decide +kernel
theorem byte_put : ∀ m : Fin 256, ∀ r : Fin 8, m.val.testBit r.val = false → m.val + 2 ^ r.val < 256 ∧ ∀ q : Fin 8, (m.val + 2 ^ r.val).testBit q.val = (decide (q = r) || m.val.testBit q.val) := by decide +kernel
theorem byte_get : ∀ m : Fin 256, ∀ r : Fin 8, (bits .and .u8 (shr .u8 (m.val : Int) (r.val : Int)) 1 == 1) = m.val.testBit r.val := by decide +kernel
theorem byte_got : ∀ m : Fin 256, ∀ r : Fin 8, (Int.tmod (shr .u8 (m.val : Int) (r.val : Int)) 2 == 1) = m.val.testBit r.val := by decide +kernel
theorem byte_rest : ∀ m : Fin 256, ∀ r : Fin 8, (shr .u8 (m.val : Int) (r.val : Int) == 0) = decide (∀ q : Fin 8, r.val ≤ q.val → m.val.testBit q.val = false) := by decide +kernel

/-- So many bytes take so many bits. -/
def szN (n : Nat) : Nat := (n + 7) / 8
def szI (a : Int) : Int := if a < 1 then 0 else (a - 1) / 8 + 1
theorem szI_nat (n : Nat) : szI (n : Int) = ((szN n : Nat) : Int) := by unfold szI szN; split <;> omega
theorem size_eq {a : Int} (h : I64 a) : bits_Size.f a = some (szI a) := by
  unfold bits_Size.f szI
  split
  · rfl
  · rw [w64 (x := a - 1) (by omega), Int.tdiv_eq_ediv_of_nonneg (by omega), w64 (x := (a - 1) / 8) (by omega), w64 (by omega)]
/-- The byte at j of the first i of bits. -/
def pkAt (l : List Bool) (i j : Nat) : Nat := bvN (fun r => decide (8 * j + r < i) && l.getD (8 * j + r) false) 8
/-- The bytes of the first i of bits. -/
def pkTo (l : List Bool) (i : Nat) : List Int := (List.range (szN l.length)).map fun j => ((pkAt l i j : Nat) : Int)
/-- The bytes of bits. -/
def pk (l : List Bool) : List Int := pkTo l l.length
theorem pkTo_len (l : List Bool) (i : Nat) : (pkTo l i).length = szN l.length := by simp [pkTo]
theorem pk_len (l : List Bool) : (pk l).length = szN l.length := pkTo_len l _
theorem pkTo_at (l : List Bool) (i : Nat) {j : Nat} (h : j < szN l.length) : rd (pkTo l i) (j : Int) = ((pkAt l i j : Nat) : Int) := by
  rw [rd_lt (by rw [pkTo_len]; exact h)]
  simp [pkTo]
theorem pkAt_lt (l : List Bool) (i j : Nat) : pkAt l i j < 256 := bvN_lt _ 8
theorem pkTo_zero (l : List Bool) : pkTo l 0 = List.replicate (szN l.length) 0 := by
  apply List.ext_getElem
  · simp [pkTo]
  · intro j h1 h2
    simp only [pkTo, List.getElem_map, List.getElem_range, List.getElem_replicate]
    have : pkAt l 0 j = 0 := bvN_ext (by decide) (by intro r _; simp)
    rw [this]; rfl
theorem pkTo_skip {l : List Bool} {i : Nat} (h : l.getD i false = false) : pkTo l (i + 1) = pkTo l i := by
  unfold pkTo
  apply List.map_congr_left
  intro j _
  congr 1
  apply bvN_congr
  intro r _
  by_cases e : 8 * j + r = i
  · rw [e, h]; simp
  · rw [show decide (8 * j + r < i + 1) = decide (8 * j + r < i) by apply decide_eq_decide.mpr; omega]
theorem pkTo_put {l : List Bool} {i : Nat} (hi : i < l.length) (h : l.getD i false = true) : pkTo l (i + 1) = (pkTo l i).set (i / 8) (((pkAt l i (i / 8) + 2 ^ (i % 8) : Nat)) : Int) := by
  apply List.ext_getElem
  · simp [pkTo]
  · intro j h1 h2
    have hj : j < szN l.length := by simpa [pkTo] using h1
    by_cases e : j = i / 8
    · subst e
      rw [List.getElem_set_self]
      simp only [pkTo, List.getElem_map, List.getElem_range]
      congr 1
      have hm : pkAt l i (i / 8) < 256 := bvN_lt _ 8
      have h0 : (pkAt l i (i / 8)).testBit (i % 8) = false := by
        unfold pkAt
        rw [bvN_bit _ (by omega)]
        simp only [Bool.and_eq_false_imp, decide_eq_true_eq]
        intro h; omega
      obtain ⟨p1, p2⟩ := byte_put ⟨_, hm⟩ ⟨i % 8, by omega⟩ h0
      apply bvN_ext p1
      intro r hr
      rw [show (pkAt l i (i / 8) + 2 ^ (i % 8)).testBit r = _ from p2 ⟨r, hr⟩]
      simp only [Fin.mk.injEq]
      by_cases er : r = i % 8
      · subst er
        rw [show 8 * (i / 8) + i % 8 = i by omega, h]
        simp
      · unfold pkAt
        rw [bvN_bit _ hr]
        have : decide (8 * (i / 8) + r < i + 1) = decide (8 * (i / 8) + r < i) := by apply decide_eq_decide.mpr; omega
        rw [this]
        simp [er]
    · rw [List.getElem_set_ne (by omega)]
      simp only [pkTo, List.getElem_map, List.getElem_range]
      congr 1
      apply bvN_congr
      intro r hr
      rw [show decide (8 * j + r < i + 1) = decide (8 * j + r < i) by apply decide_eq_decide.mpr; omega]
theorem pkAt_free (l : List Bool) (i : Nat) : (pkAt l i (i / 8)).testBit (i % 8) = false := by
  unfold pkAt
  rw [bvN_bit _ (by omega)]
  simp only [Bool.and_eq_false_imp, decide_eq_true_eq]
  intro h; omega
theorem rdOf_getD (l : List Bool) (i : Nat) : rdOf false l (i : Int) = l.getD i false := by simp [rdOf]

theorem pack_loop {l : List Bool} (hl : l.length ≤ 4611686018427387904) : ∀ (d k i : Nat), i + d = l.length → d < k → bits_Pack.l0 k (pkTo l i) l (l.length : Int) (i : Int) = some (pk l) := by
  intro d
  induction d with
  | zero =>
    intro k i h1 hk
    obtain ⟨k, rfl⟩ : ∃ m, k = m + 1 := ⟨k - 1, by omega⟩
    simp only [bits_Pack.l0]
    rw [if_neg (by omega), show i = l.length by omega]; rfl
  | succ d ih =>
    intro k i h1 hk
    obtain ⟨k, rfl⟩ : ∃ m, k = m + 1 := ⟨k - 1, by omega⟩
    have hi := ih k (i + 1) (by omega) (by omega)
    have hs : i / 8 < szN l.length := by unfold szN; omega
    have ed : wrap64 (Int.tdiv (i : Int) 8) = ((i / 8 : Nat) : Int) := by rw [Int.tdiv_eq_ediv_of_nonneg (by omega), w64 (by omega)]; omega
    have em : Int.tmod (i : Int) 8 = ((i % 8 : Nat) : Int) := by rw [Int.tmod_eq_emod_of_nonneg (by omega)]; omega
    simp only [bits_Pack.l0]
    rw [if_pos (by omega), if_pos (by omega), if_pos (by omega), ed, em, w64 (by omega), show (i : Int) + 1 = ((i + 1 : Nat) : Int) by omega, rdOf_getD]
    by_cases h : l.getD i false = true
    · rw [if_pos h, if_pos (by omega), pkTo_len, if_pos (by omega), if_pos (by omega), pkTo_at l i hs,
        byte_or ⟨_, pkAt_lt l i (i / 8)⟩ ⟨i % 8, by omega⟩ (pkAt_free l i), Int.toNat_natCast, ← pkTo_put (by omega) h]
      exact hi
    · rw [if_neg h]
      rw [pkTo_skip (by simpa using h)] at hi
      exact hi
theorem pack_eq {l : List Bool} (hl : l.length ≤ 1000000) {k : Nat} (hk : l.length < k) : bits_Pack.f k l = some (pk l) := by
  unfold bits_Pack.f
  have hs : szN l.length ≤ 1000000 := by unfold szN; omega
  rw [size_eq (by constructor <;> omega), szI_nat, Option.bind_some, if_pos (by omega), if_pos (by omega), Int.toNat_natCast, ← pkTo_zero]
  exact pack_loop (by omega) l.length k 0 (by omega) hk

/-- The bit at i of bytes. -/
def btAt (b : List Int) (i : Nat) : Bool := (rd b ((i / 8 : Nat) : Int)).toNat.testBit (i % 8)
/-- So many bits of bytes. -/
def upk (b : List Int) (n : Nat) : List Bool := (List.range n).map (btAt b)
theorem upk_len (b : List Int) (n : Nat) : (upk b n).length = n := by simp [upk]
/-- So many bits of bytes, or the error's number. -/
def upkS (b : List Int) (n : Int) : List Bool × Int := if n < 0 then ([], 11) else if (b.length : Int) < szI n then ([], 12) else if (b.length : Int) > szI n then ([], 13) else (upk b n.toNat, 0)
theorem rd_byte {b : List Int} (hb : ∀ x ∈ b, U8 x) {j : Nat} (h : j < b.length) : ∃ m : Fin 256, rd b (j : Int) = (m.val : Int) := by
  have := hb _ (rd_mem (l := b) (i := (j : Int)) (by omega) (by omega))
  refine ⟨⟨(rd b (j : Int)).toNat, by omega⟩, ?_⟩
  simp only
  omega
theorem btAt_get {b : List Int} (hb : ∀ x ∈ b, U8 x) {i : Nat} (h : i / 8 < b.length) : (bits .and .u8 (shr .u8 (rd b ((i / 8 : Nat) : Int)) ((i % 8 : Nat) : Int)) 1 == 1) = btAt b i := by
  obtain ⟨m, hm⟩ := rd_byte hb h
  unfold btAt
  rw [hm, Int.toNat_natCast]
  exact byte_get m ⟨i % 8, by omega⟩
theorem btAt_got {b : List Int} (hb : ∀ x ∈ b, U8 x) {i : Nat} (h : i / 8 < b.length) : (Int.tmod (shr .u8 (rd b ((i / 8 : Nat) : Int)) ((i % 8 : Nat) : Int)) 2 == 1) = btAt b i := by
  obtain ⟨m, hm⟩ := rd_byte hb h
  unfold btAt
  rw [hm, Int.toNat_natCast]
  exact byte_got m ⟨i % 8, by omega⟩
theorem upk_step {b : List Int} {n i : Nat} (h : i < n) (z : List Bool) (hz : z.length = n) : ((upk b n).take i ++ z.drop i).set i (btAt b i) = (upk b n).take (i + 1) ++ z.drop (i + 1) := by
  have e1 : ((upk b n).take i).length = i := by rw [List.length_take, upk_len]; omega
  have e2 : btAt b i = (upk b n)[i]'(by rw [upk_len]; exact h) := by simp [upk]
  rw [List.set_append_right _ _ (by omega), e1, Nat.sub_self, List.drop_eq_getElem_cons (by omega : i < z.length), List.set_cons_zero, List.take_succ_eq_append_getElem (by rw [upk_len]; exact h), e2]
  simp only [List.append_assoc, List.cons_append, List.nil_append]
theorem unpack_loop {b : List Int} (hb : ∀ x ∈ b, U8 x) {n : Nat} (hn : n ≤ 8 * b.length) (hl : n ≤ 4611686018427387904) : ∀ (d k i : Nat), i + d = n → d < k → bits_Unpack.l0 k b ((upk b n).take i ++ (List.replicate n false).drop i) (n : Int) (i : Int) = some (upk b n, 0) := by
  intro d
  induction d with
  | zero =>
    intro k i h1 hk
    obtain ⟨k, rfl⟩ : ∃ m, k = m + 1 := ⟨k - 1, by omega⟩
    simp only [bits_Unpack.l0]
    rw [if_neg (by omega), show i = n by omega, List.take_of_length_le (by rw [upk_len]; omega), List.drop_of_length_le (by simp), List.append_nil]
  | succ d ih =>
    intro k i h1 hk
    obtain ⟨k, rfl⟩ : ∃ m, k = m + 1 := ⟨k - 1, by omega⟩
    have hi := ih k (i + 1) (by omega) (by omega)
    have ed : wrap64 (Int.tdiv (i : Int) 8) = ((i / 8 : Nat) : Int) := by rw [Int.tdiv_eq_ediv_of_nonneg (by omega), w64 (by omega)]; omega
    have em : Int.tmod (i : Int) 8 = ((i % 8 : Nat) : Int) := by rw [Int.tmod_eq_emod_of_nonneg (by omega)]; omega
    simp only [bits_Unpack.l0]
    have el : ((upk b n).take i ++ (List.replicate n false).drop i).length = n := by
      rw [List.length_append, List.length_take, List.length_drop, upk_len, List.length_replicate]; omega
    rw [if_pos (by omega), ed, em, if_pos (by omega), if_pos (by omega), if_pos (by omega), if_pos (by omega), el, if_pos (by omega), w64 (by omega), show (i : Int) + 1 = ((i + 1 : Nat) : Int) by omega, btAt_get hb (by omega), Int.toNat_natCast, upk_step (by omega) _ (by simp)]
    exact hi
theorem unpack_eq {b : List Int} (hb : ∀ x ∈ b, U8 x) {n : Int} (hn : I64 n) (hl : b.length ≤ 1000000) {k : Nat} (hk : 8 * b.length < k) : bits_Unpack.f k b n = some (upkS b n) := by
  unfold bits_Unpack.f upkS
  rw [size_eq hn, Option.bind_some]
  by_cases h1 : n < 0
  · rw [if_pos h1, if_pos h1]
  · rw [if_neg h1, if_neg h1]
    by_cases h2 : (b.length : Int) < szI n
    · rw [if_pos h2, if_pos h2]
    · rw [if_neg h2, if_neg h2]
      by_cases h3 : (b.length : Int) > szI n
      · rw [if_pos h3, if_pos h3]
      · rw [if_neg h3, if_neg h3]
        obtain ⟨n, rfl⟩ := Int.eq_ofNat_of_zero_le (Int.not_lt.mp h1)
        rw [szI_nat] at h2 h3
        have h4 : n ≤ 8 * b.length := by unfold szN at h2 h3; omega
        rw [if_pos (by omega), if_pos (by omega), Option.bind_some, Int.toNat_natCast, List.length_replicate]
        exact unpack_loop hb h4 (by omega) n k 0 (by omega) (by omega)

/-- Nothing is set behind so many bits. -/
def tdP (b : List Int) (n : Int) : Prop := 0 ≤ n ∧ (b.length : Int) = szI n ∧ ∀ i, n.toNat ≤ i → i < 8 * b.length → btAt b i = false
theorem tidy_eq {b : List Int} (hb : ∀ x ∈ b, U8 x) {n : Int} (hn : I64 n) (hl : b.length ≤ 1000000) : ∃ t, bits_Tidy.f b n = some t ∧ (t = true ↔ tdP b n) := by
  unfold bits_Tidy.f
  by_cases h1 : n < 0
  · rw [if_pos h1]
    exact ⟨false, rfl, by simp [tdP]; omega⟩
  · rw [if_neg h1, size_eq hn, Option.bind_some]
    by_cases h2 : (b.length : Int) = szI n
    · rw [if_pos h2]
      obtain ⟨n, rfl⟩ := Int.eq_ofNat_of_zero_le (Int.not_lt.mp h1)
      have h2' := h2
      rw [szI_nat] at h2'
      have em : Int.tmod (n : Int) 8 = ((n % 8 : Nat) : Int) := by rw [Int.tmod_eq_emod_of_nonneg (by omega)]; omega
      rw [em]
      by_cases h3 : n % 8 = 0
      · rw [if_pos (by omega)]
        refine ⟨true, rfl, ⟨fun _ => ⟨by omega, h2, ?_⟩, fun _ => rfl⟩⟩
        intro i h4 h5
        unfold szN at h2'
        omega
      · rw [if_neg (by omega)]
        have hl0 : 0 < b.length := by unfold szN at h2'; omega
        rw [w64 (by constructor <;> omega), if_pos (by omega), if_pos (by omega), if_pos (by omega)]
        obtain ⟨m, hm⟩ := rd_byte hb (j := b.length - 1) (by omega)
        have e1 : (b.length : Int) - 1 = ((b.length - 1 : Nat) : Int) := by omega
        rw [e1, hm]
        refine ⟨_, rfl, ?_⟩
        have hr := byte_rest m ⟨n % 8, by omega⟩
        simp only at hr
        rw [hr, decide_eq_true_eq]
        unfold szN at h2'
        constructor
        · intro h
          refine ⟨by omega, h2, ?_⟩
          intro i h4 h5
          simp only [Int.toNat_natCast] at h4
          unfold btAt
          rw [show i / 8 = b.length - 1 by omega, hm, Int.toNat_natCast]
          exact h ⟨i % 8, by omega⟩ (by simp only; omega)
        · rintro ⟨_, _, h⟩ ⟨q, hq⟩ h4
          simp only at h4 ⊢
          have := h (8 * (b.length - 1) + q) (by simp only [Int.toNat_natCast]; omega) (by omega)
          unfold btAt at this
          rw [show (8 * (b.length - 1) + q) / 8 = b.length - 1 by omega, show (8 * (b.length - 1) + q) % 8 = q by omega, hm, Int.toNat_natCast] at this
          exact this
    · rw [if_neg h2]
      exact ⟨false, rfl, by simp only [Bool.false_eq_true, false_iff]; exact fun h => h2 h.2.1⟩

theorem getD_take {l : List Bool} {n i : Nat} (h : i < n) : (l.take n).getD i false = l.getD i false := by
  rw [List.getD_eq_getElem?_getD, List.getD_eq_getElem?_getD, List.getElem?_take_of_lt h]
theorem getD_over {l : List Bool} {i : Nat} (h : l.length ≤ i) : l.getD i false = false := by
  rw [List.getD_eq_getElem?_getD, List.getElem?_eq_none h]; rfl
/-- The byte at j of bits. -/
theorem pk_at (l : List Bool) {j : Nat} (h : j < szN l.length) : rd (pk l) (j : Int) = ((bvN (fun r => l.getD (8 * j + r) false) 8 : Nat) : Int) := by
  unfold pk
  rw [pkTo_at l _ h]
  congr 1
  apply bvN_congr
  intro r _
  by_cases h : 8 * j + r < l.length
  · simp [h]
  · rw [getD_over (by omega)]; simp
end Go.Proofs.Ytedfbemifigoeaa.L
