/- Numbers, wraps and bits of them, lists by index: what all plain laws of this work lean on. -/
import Derived.Test.YtedfbemifigoeaaWWords
import Derived.Test.YtedfbemifigoeaaWMore
import Derived.Laws.BitsLemmas
namespace Go.Proofs.Ytedfbemifigoeaa.L
open Go.RowKit Go.Proofs.YtedfbemifigoeaaW.PrintWords Go.Proofs.YtedfbemifigoeaaW.PrintMore
set_option linter.unusedVariables false
set_option linter.unusedSimpArgs false

abbrev I64 (x : Int) : Prop := -9223372036854775808 ≤ x ∧ x ≤ 9223372036854775807
abbrev U8 (x : Int) : Prop := 0 ≤ x ∧ x ≤ 255
abbrev U16 (x : Int) : Prop := 0 ≤ x ∧ x ≤ 65535
theorem i64_of {x : Int} (h : (Lit.int .i64 x).wf = true) : I64 x := by
  simpa [Lit.wf, IntKind.min, IntKind.max, IntKind.signed, IntKind.bits] using h
theorem u8_of {x : Int} (h : (Lit.int .u8 x).wf = true) : U8 x := by
  simpa [Lit.wf, IntKind.min, IntKind.max, IntKind.signed, IntKind.bits] using h
theorem u16_of {x : Int} (h : (Lit.int .u16 x).wf = true) : U16 x := by
  simpa [Lit.wf, IntKind.min, IntKind.max, IntKind.signed, IntKind.bits] using h
theorem w64 {x : Int} (h : I64 x) : wrap64 x = x := by unfold wrap64; omega
theorem u16w (n : Int) : IntKind.u16.wrap n = n % 65536 := by simp [IntKind.wrap, IntKind.bits, IntKind.signed]
theorem u16w_id {n : Int} (h : U16 n) : IntKind.u16.wrap n = n := by rw [u16w]; omega
theorem u16w_in (n : Int) (h0 : 0 ≤ n) (h1 : n < 2 ^ 16) : IntKind.u16.wrap n = n := by rw [u16w]; omega
theorem mx_eq (a b : Int) : mx a b = max a b := by unfold mx; omega
theorem mn_eq (a b : Int) : mn a b = min a b := by unfold mn; omega

/-! ### bits of words -/
theorem bn_and {a b : Nat} (ha : a < 65536) (hb : b < 65536) : bits .and .u16 (a : Int) (b : Int) = ((a &&& b : Nat) : Int) := (bits_nat .u16 16 (by decide) u16w_in a b ha hb).1
theorem bn_or {a b : Nat} (ha : a < 65536) (hb : b < 65536) : bits .or .u16 (a : Int) (b : Int) = ((a ||| b : Nat) : Int) := (bits_nat .u16 16 (by decide) u16w_in a b ha hb).2
theorem bn_xor {a b : Nat} (ha : a < 65536) (hb : b < 65536) : bits .xor .u16 (a : Int) (b : Int) = ((a ^^^ b : Nat) : Int) := by
  have h : a ^^^ b < 2 ^ 16 := Nat.xor_lt_two_pow ha hb
  have ha' : a % 2 ^ IntKind.u16.bits = a := Nat.mod_eq_of_lt ha
  have hb' : b % 2 ^ IntKind.u16.bits = b := Nat.mod_eq_of_lt hb
  simp only [bits, BitVec.ofInt_natCast, BitVec.toNat_xor, BitVec.toNat_ofNat, ha', hb']
  exact u16w_in _ (Int.natCast_nonneg _) (by exact_mod_cast h)
theorem bn_andNot {a b : Nat} (ha : a < 65536) (hb : b < 65536) : bits .andNot .u16 (a : Int) (b : Int) = ((a &&& (65535 - b) : Nat) : Int) := by
  have h : a &&& (65535 - b) < 2 ^ 16 := Nat.and_lt_two_pow _ (by omega)
  have ha' : a % 2 ^ IntKind.u16.bits = a := Nat.mod_eq_of_lt ha
  have hb' : b % 2 ^ IntKind.u16.bits = b := Nat.mod_eq_of_lt hb
  simp only [bits, BitVec.ofInt_natCast, BitVec.toNat_and, BitVec.toNat_not, BitVec.toNat_ofNat, ha', hb']
  exact u16w_in _ (Int.natCast_nonneg _) (by exact_mod_cast h)
theorem u16_lo {x : Int} (h : U16 x) : bits .and .u16 x 255 = x % 256 := bits_mask .u16 16 (by decide) u16w_in 8 (by decide) x h.1 (by omega)
theorem u16_join {a b : Int} (ha : U8 a) (hb : U8 b) : bits .or .u16 (a * 256) b = a * 256 + b :=
  bits_join .u16 16 (by decide) u16w_in 8 (a * 256) b (by omega) (by omega) (by omega) hb.1 (by omega) (by omega)

/-! ### lists by index -/
theorem rd_drop {l : List Int} {i : Int} (h0 : 0 ≤ i) (h1 : i < (l.length : Int)) : l.drop i.toNat = rd l i :: l.drop (i.toNat + 1) := by
  have h : i.toNat < l.length := by omega
  rw [List.drop_eq_getElem_cons h]
  simp [rd, List.getD, h]
theorem rdOf_drop {α : Type} {d : α} {l : List α} {i : Int} (h0 : 0 ≤ i) (h1 : i < (l.length : Int)) : l.drop i.toNat = rdOf d l i :: l.drop (i.toNat + 1) := by
  have h : i.toNat < l.length := by omega
  rw [List.drop_eq_getElem_cons h]
  simp [rdOf, List.getD, h]
theorem rd_mem {l : List Int} {i : Int} (h0 : 0 ≤ i) (h1 : i < (l.length : Int)) : rd l i ∈ l := by
  have h : i.toNat < l.length := by omega
  simp [rd, List.getD, h]
theorem rd_all {l : List Int} {p : Int → Prop} (h : ∀ x ∈ l, p x) {i : Int} (h0 : 0 ≤ i) (h1 : i < (l.length : Int)) : p (rd l i) := h _ (rd_mem h0 h1)
theorem rd_nat (l : List Int) (i : Nat) : rd l (i : Int) = l.getD i 0 := by simp [rd]
theorem rd_lt {l : List Int} {i : Nat} (h : i < l.length) : rd l (i : Int) = l[i] := by simp [rd, List.getD, h]
end Go.Proofs.Ytedfbemifigoeaa.L
