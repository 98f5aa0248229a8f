import Derived.Test.YtamcpmfimicnjaaX
import Derived.Test.YtamcpmfimicnjaaFd
import Derived.Test.YtamcpmfimicnjaaFe
import Derived.Test.YtamcpmfimicnjaaLFile
namespace Go.Proofs.Ytamcpmfimicnjaa.P
open Go.RowKit Go.Proofs.YtamcpmfimicnjaaW.PrintWords Go.Proofs.YtamcpmfimicnjaaW.PrintLast Go.Proofs.YtamcpmfimicnjaaW.PrintMore
attribute [local go_sem] max2_int min2_int max_two min_two max_three min_three max_four min_four   -- for this text's walks alone
set_option linter.unusedVariables false
set_option linter.unusedSimpArgs false
open Go.Proofs.Ytamcpmfimicnjaa.L

theorem Fi.eqB_loop {a b : List Bool} (hl : a.length = b.length) (hb : a.length ≤ 4611686018427387904) : ∀ (d k : Nat) (i : Int), 0 ≤ i → (a.length : Int) - i = d → d < k → slices_Equal_bool_bool.l0 k a b (a.length : Int) i = some (decide (a.drop i.toNat = b.drop i.toNat)) := by
  intro d
  induction d with
  | zero =>
    intro k i h0 h1 hk
    obtain ⟨k, rfl⟩ : ∃ m, k = m + 1 := ⟨k - 1, by omega⟩
    simp only [slices_Equal_bool_bool.l0]
    rw [if_neg (by omega), List.drop_eq_nil_of_le (by omega), List.drop_eq_nil_of_le (by omega)]
    simp
  | succ d ih =>
    intro k i h0 h1 hk
    obtain ⟨k, rfl⟩ : ∃ m, k = m + 1 := ⟨k - 1, by omega⟩
    simp only [slices_Equal_bool_bool.l0]
    rw [if_pos (by omega), if_pos h0, if_pos (by omega), if_pos (by omega), w64 (by omega), rdOf_drop (d := false) h0 (by omega), rdOf_drop (d := false) (l := b) h0 (by omega)]
    by_cases h : rdOf false a i = rdOf false b i
    · rw [if_neg (by simp [h]), ih k (i + 1) (by omega) (by omega) (by omega), h, show (i + 1).toNat = i.toNat + 1 by omega]
      congr 1
      simp
    · rw [if_pos (by simpa using h)]
      simp [h]
theorem Fi.eqB {a b : List Bool} (hb : a.length ≤ 4611686018427387904) {k : Nat} (hk : a.length < k) : file_Same_1.f k a b = some (decide (a = b)) := by
  unfold file_Same_1.f slices_Equal_bool_bool.f
  by_cases h : (a.length : Int) = (b.length : Int)
  · rw [if_pos h, Fi.eqB_loop (by omega) hb a.length k 0 (by omega) (by omega) hk]
    simp
  · rw [if_neg h]
    have : a ≠ b := fun e => h (by rw [e])
    simp [this]
theorem Fi.eqW_loop {a b : List Int} (hl : a.length = b.length) (hb : a.length ≤ 4611686018427387904) : ∀ (d k : Nat) (i : Int), 0 ≤ i → (a.length : Int) - i = d → d < k → slices_Equal_uint16_uint16.l0 k a b (a.length : Int) i = some (decide (a.drop i.toNat = b.drop i.toNat)) := by
  intro d
  induction d with
  | zero =>
    intro k i h0 h1 hk
    obtain ⟨k, rfl⟩ : ∃ m, k = m + 1 := ⟨k - 1, by omega⟩
    simp only [slices_Equal_uint16_uint16.l0]
    rw [if_neg (by omega), List.drop_eq_nil_of_le (by omega), List.drop_eq_nil_of_le (by omega)]
    simp
  | succ d ih =>
    intro k i h0 h1 hk
    obtain ⟨k, rfl⟩ : ∃ m, k = m + 1 := ⟨k - 1, by omega⟩
    simp only [slices_Equal_uint16_uint16.l0]
    rw [if_pos (by omega), if_pos h0, if_pos (by omega), if_pos (by omega), w64 (by omega), rd_drop h0 (by omega), rd_drop (l := b) h0 (by omega)]
    by_cases h : rd a i = rd b i
    · rw [if_pos h, ih k (i + 1) (by omega) (by omega) (by omega), h, show (i + 1).toNat = i.toNat + 1 by omega]
      congr 1
      simp
    · rw [if_neg h]
      simp [h]
theorem Fi.eqW {a b : List Int} (hb : a.length ≤ 4611686018427387904) {k : Nat} (hk : a.length < k) : file_Same_2.f k a b = some (decide (a = b)) := by
  unfold file_Same_2.f slices_Equal_uint16_uint16.f
  by_cases h : (a.length : Int) = (b.length : Int)
  · rw [if_pos h, Fi.eqW_loop (by omega) hb a.length k 0 (by omega) (by omega) hk]
    simp
  · rw [if_neg h]
    have : a ≠ b := fun e => h (by rw [e])
    simp [this]
def Fi.eqb (x y : S31) : Bool := ((x.f0.f0.f0 == y.f0.f0.f0 && (x.f0.f0.f1 == y.f0.f0.f1)) && ((x.f0.f1.f0 == y.f0.f1.f0 && (x.f0.f1.f1 == y.f0.f1.f1)) && ((x.f0.f2.f0 == y.f0.f2.f0 && (x.f0.f2.f1 == y.f0.f2.f1)) && ((x.f0.f3.f0 == y.f0.f3.f0 && (x.f0.f3.f1 == y.f0.f3.f1)) && ((x.f0.f4.f0 == y.f0.f4.f0 && (x.f0.f4.f1 == y.f0.f4.f1))))))) && (decide (x.f1 = y.f1) && (decide (x.f2 = y.f2) && (decide (x.f3 = y.f3) && decide (x.f4 = y.f4))))
theorem Fi.eqb_self (x : S31) : Fi.eqb x x = true := by simp [Fi.eqb]
theorem Fi.eqb_ne {x y : S31} (h : x ≠ y) : Fi.eqb x y = false := by
  rw [Bool.eq_false_iff]
  intro hh
  apply h
  obtain ⟨⟨⟨a0, a1⟩, ⟨a2, a3⟩, ⟨a4, a5⟩, ⟨a6, a7⟩, ⟨a8, a9⟩⟩, l1, l2, l3, l4⟩ := x
  obtain ⟨⟨⟨b0, b1⟩, ⟨b2, b3⟩, ⟨b4, b5⟩, ⟨b6, b7⟩, ⟨b8, b9⟩⟩, m1, m2, m3, m4⟩ := y
  simp only [Fi.eqb, Bool.and_eq_true, beq_iff_eq, decide_eq_true_eq] at hh
  obtain ⟨⟨⟨rfl, rfl⟩, ⟨rfl, rfl⟩, ⟨rfl, rfl⟩, ⟨rfl, rfl⟩, rfl, rfl⟩, rfl, rfl, rfl, rfl⟩ := hh
  rfl
theorem Fi.same {w : World} {cs ds : Array Value} {x y : S31} (h : Fi.V w cs x) (h2 : Fi.V w ds y) (hf : Fi.Fit x) {e0 : Bool} (he : Fi.eqb x y = e0) : Calls Try.prog 17 #[.agg cs, .agg ds] w fun e w' => e = .returned (.bool e0) ∧ Below w.heap.size w w' := by
  obtain ⟨A10, c10, A11, c11, A12, c12, A13, c13, rfl, l10, g10, l11, g11, l12, g12, l13, g13⟩ := Fi.open h
  obtain ⟨B10, d10, B11, d11, B12, d12, B13, d13, rfl, m10, f10, m11, f11, m12, f12, m13, f13⟩ := Fi.open h2
  obtain ⟨q1, q2, q3, q4⟩ := hf
  refine file_Same.calls 1000001 _ _ _ _ _ _ _ _ _ _ _ _ x.f1 _ _ x.f2 _ _ x.f3 _ _ x.f4 _ _ _ _ _ _ _ _ _ _ _ _ y.f1 _ _ y.f2 _ _ y.f3 _ _ y.f4 e0 w g10 l10 g11 l11 g12 l12 g13 l13 f10 m10 f11 m11 f12 m12 f13 m13 ?_
  subst he
  unfold file_Same.f Fi.eqb
  rw [Fi.eqB (by omega) (by omega), Fi.eqB (by omega) (by omega), Fi.eqW (by omega) (by omega), Fi.eqW (by omega) (by omega)]
  simp only [Option.bind_some]
  repeat' split
  all_goals simp_all
theorem Fi.rsame {w : World} {cs ds : Array Value} {x y : S31} (h : Fi.V w cs x) (h2 : Fi.V w ds y) (hf : Fi.Fit x) {e0 : Bool} (he : Fi.eqb x y = e0) : Calls Try.prog 15 #[.agg cs, .agg ds] w fun e w' => e = .returned (.bool e0) ∧ Below w.heap.size w w' := by
  obtain ⟨A10, c10, A11, c11, A12, c12, A13, c13, rfl, l10, g10, l11, g11, l12, g12, l13, g13⟩ := Fi.open h
  obtain ⟨B10, d10, B11, d11, B12, d12, B13, d13, rfl, m10, f10, m11, f11, m12, f12, m13, f13⟩ := Fi.open h2
  obtain ⟨q1, q2, q3, q4⟩ := hf
  refine bilgeref14_Same.calls 1000001 _ _ _ _ _ _ _ _ _ _ _ _ x.f1 _ _ x.f2 _ _ x.f3 _ _ x.f4 _ _ _ _ _ _ _ _ _ _ _ _ y.f1 _ _ y.f2 _ _ y.f3 _ _ y.f4 e0 w g10 l10 g11 l11 g12 l12 g13 l13 f10 m10 f11 m11 f12 m12 f13 m13 ?_
  subst he
  unfold bilgeref14_Same.f Fi.eqb
  rw [same_eq (by omega) (by omega), same_eq (by omega) (by omega), words_eq (by omega) (by omega), words_eq (by omega) (by omega)]
  simp only [Option.bind_some]
  repeat' split
  all_goals simp_all
theorem Fi.few {w : World} {cs : Array Value} {x : S31} (h : Fi.V w cs x) (hf : x.f1.length ≤ 140737488351232 ∧ x.f2.length ≤ 140737488351232 ∧ x.f3.length ≤ 140737488351232 ∧ x.f4.length ≤ 140737488351232) {y : Bool} (hy : decide (x.f1.length + x.f2.length + x.f3.length + x.f4.length ≤ 4000) = y) : Calls Try.prog 9 #[.agg cs] w fun e w' => e = .returned (.bool y) ∧ Below w.heap.size w w' := by
  obtain ⟨A10, c10, A11, c11, A12, c12, A13, c13, rfl, l10, g10, l11, g11, l12, g12, l13, g13⟩ := Fi.open h
  exact bilgeref14_Few.calls _ _ _ _ _ _ _ _ _ _ _ _ x.f1 _ _ x.f2 _ _ x.f3 _ _ x.f4 y w g10 l10 g11 l11 g12 l12 g13 l13 (hy ▸ few_eq _ _ _ _ _ _ _ _ _ _ hf.1 hf.2.1 hf.2.2.1 hf.2.2.2)
theorem Fi.cwordsE {w : World} {cs : Array Value} {x : S31} (h : Fi.V w cs x) (i : Bool) {p n : Int} (hp : I64 p) (hn : I64 n) {L : List Int} {E : Int} (he : Fi.words x i p n = (L, E)) : Calls Try.prog 18 #[.agg cs, .bool i, .int .i64 p, .int .i64 n] w fun e w' => ∃ v, e = .returned (.tuple #[v, .int .i64 E]) ∧ (Kd.int .u16).R 53 w' w.heap.size (fun _ => True) v L ∧ Below w.heap.size w w' := by
  have hh := Fi.cwords h i hp hn
  rw [he] at hh
  exact hh
theorem Fi.cbitsE {w : World} {cs : Array Value} {x : S31} (h : Fi.V w cs x) (i : Bool) {p n : Int} (hp : I64 p) (hn : I64 n) {L : List Bool} {E : Int} (he : Fi.bits x i p n = (L, E)) : Calls Try.prog 12 #[.agg cs, .bool i, .int .i64 p, .int .i64 n] w fun e w' => ∃ v, e = .returned (.tuple #[v, .int .i64 E]) ∧ Kd.bool.R 4 w' w.heap.size (fun _ => True) v L ∧ Below w.heap.size w w' := by
  have hh := Fi.cbits h i hp hn
  rw [he] at hh
  exact hh
theorem Fi.csetWordsE {w : World} {cs : Array Value} {x y : S31} (h : Fi.V w cs x) {A : Option Addr} {c : Nat} {m : List Int} (hr : (Kd.int .u16).C w A m.length m) (hc : m.length ≤ c) {p E : Int} (hp0 : I64 p) (he : Fi.setWords x p m = (y, E)) : Calls Try.prog 16 #[.agg cs, .int .i64 p, .slice A m.length c] w fun e w' => ∃ cs', e = .returned (.tuple #[.agg cs', .int .i64 E]) ∧ Fi.N w' w.heap.size cs' y ∧ Below w.heap.size w w' := by
  have hh := Fi.csetWords h hr hc hp0
  rw [he] at hh
  exact hh.mono (fun e w' ⟨cs', h1, h2, h3⟩ => ⟨cs', h1, h2, h3⟩)
theorem Fi.csetBitsE {w : World} {cs : Array Value} {x y : S31} (h : Fi.V w cs x) {A : Option Addr} {c : Nat} {m : List Bool} (hr : Kd.bool.C w A m.length m) (hc : m.length ≤ c) {p E : Int} (hp0 : I64 p) (he : Fi.setBits x p m = (y, E)) : Calls Try.prog 11 #[.agg cs, .int .i64 p, .slice A m.length c] w fun e w' => ∃ cs', e = .returned (.tuple #[.agg cs', .int .i64 E]) ∧ Fi.N w' w.heap.size cs' y ∧ Below w.heap.size w w' := by
  have hh := Fi.csetBits h hr hc hp0
  rw [he] at hh
  exact hh.mono (fun e w' ⟨cs', h1, h2, h3⟩ => ⟨cs', h1, h2, h3⟩)
theorem Fi.csenseE {w : World} {cs : Array Value} {x y : S31} (h : Fi.V w cs x) (ws : Bool) {p v E : Int} (hp0 : I64 p) (hv0 : I64 v) (he : Fi.sense x ws p v = (y, E)) : Calls Try.prog 20 #[.agg cs, .bool ws, .int .i64 p, .int .i64 v] w fun e w' => ∃ cs', e = .returned (.tuple #[.agg cs', .int .i64 E]) ∧ Fi.N w' w.heap.size cs' y ∧ Below w.heap.size w w' := by
  have hh := Fi.csense h ws hp0 hv0
  rw [he] at hh
  exact hh.mono (fun e w' ⟨cs', h1, h2, h3⟩ => ⟨cs', h1, h2, h3⟩)
theorem Fi.cnewE {a0 a1 a2 a3 a4 a5 a6 a7 a8 a9 : Int} {w : World} {y : S31} {E : Int} (he : Fi.new a0 a1 a2 a3 a4 a5 a6 a7 a8 a9 = y) (hE : (if BankP a0 a1 a2 a3 a4 a5 a6 a7 a8 a9 then (0 : Int) else 11) = E) : Calls Try.prog 8 #[.agg #[.int .i64 a0, .int .i64 a1, .int .i64 a2, .int .i64 a3, .int .i64 a4, .int .i64 a5, .int .i64 a6, .int .i64 a7, .int .i64 a8, .int .i64 a9]] w fun e w' => ∃ cs', e = .returned (.tuple #[.agg cs', .int .i64 E]) ∧ Fi.N w' w.heap.size cs' y ∧ Below w.heap.size w w' := by
  subst he
  subst hE
  exact Fi.cnew.mono (fun e w' ⟨cs', h1, h2, h3⟩ => ⟨cs', h1, h2, h3⟩)
theorem Fi.copyE {w : World} {cs : Array Value} {x : S31} (h : Fi.V w cs x) (hf : Fi.Fit x) : Calls Try.prog 10 #[.agg cs] w fun e w' => ∃ cs', e = .returned (.agg cs') ∧ Fi.N w' w.heap.size cs' x ∧ Below w.heap.size w w' := (Fi.copy h hf).mono (fun e w' ⟨cs', h1, h2, h3⟩ => ⟨cs', h1, h2, h3⟩)
theorem Fi.openN {w : World} {b : Nat} {cs : Array Value} {x : S31} (h : Fi.N w b cs x) : ∃ v10 v11 v12 v13, cs = #[.int .i64 x.f0.f0.f0, .int .i64 x.f0.f0.f1, .int .i64 x.f0.f1.f0, .int .i64 x.f0.f1.f1, .int .i64 x.f0.f2.f0, .int .i64 x.f0.f2.f1, .int .i64 x.f0.f3.f0, .int .i64 x.f0.f3.f1, .int .i64 x.f0.f4.f0, .int .i64 x.f0.f4.f1, v10, v11, v12, v13] ∧ Kd.bool.R 4 w b (fun _ => True) v10 x.f1 ∧ Kd.bool.R 4 w b (fun _ => True) v11 x.f2 ∧ (Kd.int .u16).R 53 w b (fun _ => True) v12 x.f3 ∧ (Kd.int .u16).R 53 w b (fun _ => True) v13 x.f4 := by
  obtain ⟨v10, v11, v12, v13, e, r⟩ := k31_openM h
  exact ⟨v10, v11, v12, v13, by rw [← Array.toArray_toList (xs := cs), e], r⟩

end Go.Proofs.Ytamcpmfimicnjaa.P
