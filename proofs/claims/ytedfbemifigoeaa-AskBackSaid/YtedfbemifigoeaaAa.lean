import Derived.Test.YtedfbemifigoeaaX
import Derived.Test.YtedfbemifigoeaaPx0
import Derived.Test.YtedfbemifigoeaaLWord
import Derived.Test.YtedfbemifigoeaaLBits
namespace Go.Proofs.Ytedfbemifigoeaa.P
open Go.RowKit Go.Proofs.YtedfbemifigoeaaW.PrintWords Go.Proofs.YtedfbemifigoeaaW.PrintLast Go.Proofs.YtedfbemifigoeaaW.PrintMore
attribute [local go_sem] max2_int min2_int max_two min_two max_three min_three max_four min_four   -- for this text's walks alone
set_option linter.unusedVariables false
set_option linter.unusedSimpArgs false

open Go.Proofs.Ytedfbemifigoeaa.L

/-! What an ask is, and how it is said: plain Lean. S: api.Ask (f0 Function, f1 Addr, f2 Count, f3 Value, f4 And, f5 Or, f6 From, f7 Many, f8 Bits, f9 Regs). -/
def As.known (f : Int) : Bool := f == 1 || f == 2 || f == 3 || f == 4 || f == 5 || f == 6 || f == 15 || f == 16 || f == 22 || f == 23
/-- The functions, one by one. -/
theorem As.kinds (f : Int) : (f = 1 ∨ f = 2 ∨ f = 3 ∨ f = 4 ∨ f = 5 ∨ f = 6 ∨ f = 15 ∨ f = 16 ∨ f = 22 ∨ f = 23) ∨ (As.known f = false ∧ (f == 1) = false ∧ (f == 2) = false ∧ (f == 3) = false ∧ (f == 4) = false ∧ (f == 5) = false ∧ (f == 6) = false ∧ (f == 15) = false ∧ (f == 16) = false ∧ (f == 22) = false ∧ (f == 23) = false) := by
  by_cases h : f = 1 ∨ f = 2 ∨ f = 3 ∨ f = 4 ∨ f = 5 ∨ f = 6 ∨ f = 15 ∨ f = 16 ∨ f = 22 ∨ f = 23
  · exact .inl h
  · refine .inr ?_
    simp only [not_or] at h
    obtain ⟨h1, h2, h3, h4, h5, h6, h7, h8, h9, h10⟩ := h
    simp [As.known, h1, h2, h3, h4, h5, h6, h7, h8, h9, h10]
/-- An ask with what its function has, and nothing else. -/
def As.own (a : S25) : S25 :=
  if (a.f0 == 5 || a.f0 == 6) = true then ⟨a.f0, a.f1, 0, a.f3, 0, 0, 0, 0, [], []⟩
  else if (a.f0 == 22) = true then ⟨a.f0, a.f1, 0, 0, a.f4, a.f5, 0, 0, [], []⟩
  else if (a.f0 == 15) = true then ⟨a.f0, a.f1, a.f2, 0, 0, 0, 0, 0, a.f8, []⟩
  else if (a.f0 == 16) = true then ⟨a.f0, a.f1, a.f2, 0, 0, 0, 0, 0, [], a.f9⟩
  else if (a.f0 == 23) = true then ⟨a.f0, a.f1, a.f2, 0, 0, 0, a.f6, a.f7, [], a.f9⟩
  else ⟨a.f0, a.f1, a.f2, 0, 0, 0, 0, 0, [], []⟩
/-- Are two the same? -/
def As.eqb (a b : S25) : Bool := decide (a.f8 = b.f8) && decide (a.f9 = b.f9) && a.f0 == b.f0 && a.f1 == b.f1 && a.f2 == b.f2 && a.f3 == b.f3 && a.f4 == b.f4 && a.f5 == b.f5 && a.f6 == b.f6 && a.f7 == b.f7
theorem As.eqb_self (a : S25) : As.eqb a a = true := by simp [As.eqb]
theorem As.eqb_eq {a b : S25} (h : As.eqb a b = true) : a = b := by
  obtain ⟨a0, a1, a2, a3, a4, a5, a6, a7, a8, a9⟩ := a
  obtain ⟨b0, b1, b2, b3, b4, b5, b6, b7, b8, b9⟩ := b
  simp only [As.eqb, Bool.and_eq_true, beq_iff_eq, decide_eq_true_eq] at h
  obtain ⟨⟨⟨⟨⟨⟨⟨⟨⟨rfl, rfl⟩, rfl⟩, rfl⟩, rfl⟩, rfl⟩, rfl⟩, rfl⟩, rfl⟩, rfl⟩ := h
  rfl
def As.in (n p q : Int) : Bool := decide (p ≤ n) && decide (n ≤ q)
/-- Do an ask's numbers hold what its function asks? -/
def As.asked (a : S25) : Bool :=
  if (a.f0 == 1 || a.f0 == 2) = true then As.in a.f2 1 2000
  else if (a.f0 == 3 || a.f0 == 4) = true then As.in a.f2 1 125
  else if (a.f0 == 5) = true then a.f3 == 0 || a.f3 == 65280
  else if (a.f0 == 6) = true then As.in a.f3 0 65535
  else if (a.f0 == 15) = true then As.in a.f2 1 1968 && (a.f8.length : Int) == a.f2
  else if (a.f0 == 16) = true then As.in a.f2 1 123 && (a.f9.length : Int) == a.f2
  else if (a.f0 == 22) = true then As.in a.f4 0 65535 && As.in a.f5 0 65535
  else if (a.f0 == 23) = true then As.in a.f6 0 65535 && As.in a.f7 1 125 && As.in a.f2 1 121 && (a.f9.length : Int) == a.f2
  else false
/-- May an ask be? -/
def As.right (a : S25) : Bool := As.known a.f0 && As.eqb a (As.own a) && As.in a.f1 0 65535 && As.asked a
/-- The numbers that are said. -/
def As.nums (a : S25) : List Int :=
  if (a.f0 == 5 || a.f0 == 6) = true then [a.f1, a.f3]
  else if (a.f0 == 22) = true then [a.f1, a.f4, a.f5]
  else if (a.f0 == 23) = true then [a.f6, a.f7, a.f1, a.f2]
  else [a.f1, a.f2]
def As.sized (b : List Int) : List Int := (b.length : Int) % 256 :: b
/-- What is said behind the numbers. -/
def As.rest (a : S25) : List Int :=
  if (a.f0 == 15) = true then As.sized (pk a.f8)
  else if (a.f0 == 16 || a.f0 == 23) = true then As.sized (putW a.f9)
  else []
def As.say (a : S25) : List Int := a.f0 :: (putW (As.nums a) ++ As.rest a)
def As.print (a : S25) : List Int := if As.right a = true then As.say a else []
/-- A row of Booleans, by its number. -/
def bt (n m : Nat) : Array Bool := ⟨(List.range n).map fun i => m.testBit i⟩
/-! ### An ask's value -/
def As.V (w : World) (cs : Array Value) (x : S25) : Prop := k25.K w x cs.toList
theorem As.V_below {w w1 : World} {cs : Array Value} {x : S25} (h : As.V w cs x) (hb : Below w.heap.size w w1) : As.V w1 cs x := k25.K_below hb h
theorem As.V_size {w : World} {cs : Array Value} {x : S25} (h : As.V w cs x) : cs.size = 10 := by
  have h2 := k25.K_len h
  rw [Array.length_toList] at h2
  exact h2
theorem As.V_one {w : World} {cs : Array Value} {x : S25} (h : As.V w cs x) : cs.all (·.oneCell') = true :=
  Array.all_eq_true_iff_forall_mem.2 (fun u hu => k25.K_one h u (by simpa using hu))
theorem As.open {w : World} {cs : Array Value} {x : S25} (h : As.V w cs x) : ∃ A8 c8 A9 c9, cs = #[.int .i64 x.f0, .int .i64 x.f1, .int .i64 x.f2, .int .i64 x.f3, .int .i64 x.f4, .int .i64 x.f5, .int .i64 x.f6, .int .i64 x.f7, .slice A8 x.f8.length c8, .slice A9 x.f9.length c9] ∧ x.f8.length ≤ c8 ∧ Kd.bool.C w A8 x.f8.length x.f8 ∧ x.f9.length ≤ c9 ∧ (Kd.int .u16).C w A9 x.f9.length x.f9 := by
  obtain ⟨A8, c8, A9, c9, e, r⟩ := k25_open h
  exact ⟨A8, c8, A9, c9, by rw [← Array.toArray_toList (xs := cs), e], r⟩
theorem As.mk {w : World} {a0 a1 a2 a3 a4 a5 a6 a7 : Int} {l8 : List Bool} {l9 : List Int} {A8 A9 : Option Addr} {c8 c9 : Nat} (k8 : l8.length ≤ c8) (g8 : Kd.bool.C w A8 l8.length l8) (k9 : l9.length ≤ c9) (g9 : (Kd.int .u16).C w A9 l9.length l9) :
    As.V w #[.int .i64 a0, .int .i64 a1, .int .i64 a2, .int .i64 a3, .int .i64 a4, .int .i64 a5, .int .i64 a6, .int .i64 a7, .slice A8 l8.length c8, .slice A9 l9.length c9] (⟨a0, a1, a2, a3, a4, a5, a6, a7, l8, l9⟩ : S25) := k25_mk w ⟨a0, a1, a2, a3, a4, a5, a6, a7, l8, l9⟩ k8 g8 k9 g9
theorem As.size : (Try.prog.info? 25).map (·.size) = some 10 := by kernel_rfl
theorem As.zero (w : World) : (zeroValue 25).run Try.prog w = .ok (.agg #[.int .i64 0, .int .i64 0, .int .i64 0, .int .i64 0, .int .i64 0, .int .i64 0, .int .i64 0, .int .i64 0, .slice none 0 0, .slice none 0 0]) w := by kernel_rfl
abbrev As.Z : Array Value := #[.int .i64 0, .int .i64 0, .int .i64 0, .int .i64 0, .int .i64 0, .int .i64 0, .int .i64 0, .int .i64 0, .slice none 0 0, .slice none 0 0]
theorem As.n8 (w : World) : Kd.bool.C w none 0 [] := (Kd.R_reads' (Kd.R_nil Kd.bool 0 w 0 (fun _ => True))).2.2
theorem As.n9 (w : World) : (Kd.int .u16).C w none 0 [] := (Kd.R_reads' (Kd.R_nil (Kd.int .u16) 0 w 0 (fun _ => True))).2.2
theorem As.V_zero (w : World) : As.V w As.Z z25 := As.mk (Nat.le_refl _) (As.n8 w) (Nat.le_refl _) (As.n9 w)
/-! ### Steps on a block -/
theorem As.grown_set (w : World) (g i : Nat) (v : Value) : w.grownBy (w.setCell ⟨g, i, none⟩ v) (some g) := by
  obtain ⟨s1, s2, s3, s4⟩ := setCells_same g [v] i w
  exact ⟨s1, s2, s3, Nat.le_of_eq s4.symm, fun q _ hq => setCells_far [v] i q (fun he => hq (by rw [he]))⟩
theorem As.grown_row (w : World) (g : Nat) (ds : Array Value) : w.grownBy (w.setRow g ds) (some g) := ⟨rfl, rfl, rfl, Nat.le_of_eq (setRow_size w g ds).symm, fun k _ hk => setRow_other _ _ _ _ (fun he => hk (by rw [he]))⟩
theorem As.store_row {ops : Array Oper} {rest : List Oper} {o : Oper} {a : Act} {w : World} {Q : Exit → Act → World → Prop} (hgd : o.guard = none) (ty : TypeId) (x y : Operand) (ho : o.op = .store ty x y)
    (g : Nat) (cells : Array Value) (hx : a.eval x = .pointer (some ⟨g, 0, none⟩)) (hy : a.eval y = .agg cells)
    (t : TypeId) (old : Array Value) (hg : w.heap[g]? = some (.cells old t (0, 0))) (hi : (Try.prog.info? ty).map (·.size) = some cells.size)
    (hold : old.size = cells.size) (h1 : cells.all (·.oneCell') = true)
    (h : ∀ w1, w1.heap[g]? = some (.cells cells t (0, 0)) → w.grownBy w1 (some g) → wpList Try.prog ops Q rest (a.put o.dst undef) w1) : wpList Try.prog ops Q (o :: rest) a w :=
  wpList_store_row hgd ty x y ho g cells hx hy t old hg hi hold h1 (h _ (setRow_heap _ _ _ cells _ _ hg) (As.grown_row w g cells))
/-- A store into one cell of a block. -/
theorem As.store_cell {ops : Array Oper} {rest : List Oper} {o : Oper} {a : Act} {w : World} {Q : Exit → Act → World → Prop} (hgd : o.guard = none) (hd : o.dst = none) (g i : Nat) (v : Value) (t : TypeId) (cs : Array Value) (hg : w.heap[g]? = some (.cells cs t (0, 0)))
    (hrun : (execOp a.eval o).run Try.prog w = .ok .skip (w.setCell ⟨g, i, none⟩ v))
    (h : ∀ w1, w1.heap[g]? = some (.cells (cs.setIfInBounds i v) t (0, 0)) → w.grownBy w1 (some g) → wpList Try.prog ops Q rest (a.put none undef) w1) : wpList Try.prog ops Q (o :: rest) a w := by
  refine wpList_plain hgd fun K hK => ?_
  unfold Oper.wp
  rw [hrun]
  show K (a.put o.dst undef) _
  rw [hd]
  exact hK _ _ (h _ (blk_set hg i v) (As.grown_set w g i v))
theorem As.cases (f : Int) : (As.known f = true ∧ (f == 1) = true ∧ (f == 2) = false ∧ (f == 3) = false ∧ (f == 4) = false ∧ (f == 5) = false ∧ (f == 6) = false ∧ (f == 15) = false ∧ (f == 16) = false ∧ (f == 22) = false ∧ (f == 23) = false) ∨ (As.known f = true ∧ (f == 1) = false ∧ (f == 2) = true ∧ (f == 3) = false ∧ (f == 4) = false ∧ (f == 5) = false ∧ (f == 6) = false ∧ (f == 15) = false ∧ (f == 16) = false ∧ (f == 22) = false ∧ (f == 23) = false) ∨ (As.known f = true ∧ (f == 1) = false ∧ (f == 2) = false ∧ (f == 3) = true ∧ (f == 4) = false ∧ (f == 5) = false ∧ (f == 6) = false ∧ (f == 15) = false ∧ (f == 16) = false ∧ (f == 22) = false ∧ (f == 23) = false) ∨ (As.known f = true ∧ (f == 1) = false ∧ (f == 2) = false ∧ (f == 3) = false ∧ (f == 4) = true ∧ (f == 5) = false ∧ (f == 6) = false ∧ (f == 15) = false ∧ (f == 16) = false ∧ (f == 22) = false ∧ (f == 23) = false) ∨ (As.known f = true ∧ (f == 1) = false ∧ (f == 2) = false ∧ (f == 3) = false ∧ (f == 4) = false ∧ (f == 5) = true ∧ (f == 6) = false ∧ (f == 15) = false ∧ (f == 16) = false ∧ (f == 22) = false ∧ (f == 23) = false) ∨ (As.known f = true ∧ (f == 1) = false ∧ (f == 2) = false ∧ (f == 3) = false ∧ (f == 4) = false ∧ (f == 5) = false ∧ (f == 6) = true ∧ (f == 15) = false ∧ (f == 16) = false ∧ (f == 22) = false ∧ (f == 23) = false) ∨ (As.known f = true ∧ (f == 1) = false ∧ (f == 2) = false ∧ (f == 3) = false ∧ (f == 4) = false ∧ (f == 5) = false ∧ (f == 6) = false ∧ (f == 15) = true ∧ (f == 16) = false ∧ (f == 22) = false ∧ (f == 23) = false) ∨ (As.known f = true ∧ (f == 1) = false ∧ (f == 2) = false ∧ (f == 3) = false ∧ (f == 4) = false ∧ (f == 5) = false ∧ (f == 6) = false ∧ (f == 15) = false ∧ (f == 16) = true ∧ (f == 22) = false ∧ (f == 23) = false) ∨ (As.known f = true ∧ (f == 1) = false ∧ (f == 2) = false ∧ (f == 3) = false ∧ (f == 4) = false ∧ (f == 5) = false ∧ (f == 6) = false ∧ (f == 15) = false ∧ (f == 16) = false ∧ (f == 22) = true ∧ (f == 23) = false) ∨ (As.known f = true ∧ (f == 1) = false ∧ (f == 2) = false ∧ (f == 3) = false ∧ (f == 4) = false ∧ (f == 5) = false ∧ (f == 6) = false ∧ (f == 15) = false ∧ (f == 16) = false ∧ (f == 22) = false ∧ (f == 23) = true) ∨ (As.known f = false ∧ (f == 1) = false ∧ (f == 2) = false ∧ (f == 3) = false ∧ (f == 4) = false ∧ (f == 5) = false ∧ (f == 6) = false ∧ (f == 15) = false ∧ (f == 16) = false ∧ (f == 22) = false ∧ (f == 23) = false) := by
  rcases As.kinds f with (rfl | rfl | rfl | rfl | rfl | rfl | rfl | rfl | rfl | rfl) | h
  · exact .inl ⟨by decide, by decide, by decide, by decide, by decide, by decide, by decide, by decide, by decide, by decide, by decide⟩
  · exact .inr (.inl ⟨by decide, by decide, by decide, by decide, by decide, by decide, by decide, by decide, by decide, by decide, by decide⟩)
  · exact .inr (.inr (.inl ⟨by decide, by decide, by decide, by decide, by decide, by decide, by decide, by decide, by decide, by decide, by decide⟩))
  · exact .inr (.inr (.inr (.inl ⟨by decide, by decide, by decide, by decide, by decide, by decide, by decide, by decide, by decide, by decide, by decide⟩)))
  · exact .inr (.inr (.inr (.inr (.inl ⟨by decide, by decide, by decide, by decide, by decide, by decide, by decide, by decide, by decide, by decide, by decide⟩))))
  · exact .inr (.inr (.inr (.inr (.inr (.inl ⟨by decide, by decide, by decide, by decide, by decide, by decide, by decide, by decide, by decide, by decide, by decide⟩)))))
  · exact .inr (.inr (.inr (.inr (.inr (.inr (.inl ⟨by decide, by decide, by decide, by decide, by decide, by decide, by decide, by decide, by decide, by decide, by decide⟩))))))
  · exact .inr (.inr (.inr (.inr (.inr (.inr (.inr (.inl ⟨by decide, by decide, by decide, by decide, by decide, by decide, by decide, by decide, by decide, by decide, by decide⟩)))))))
  · exact .inr (.inr (.inr (.inr (.inr (.inr (.inr (.inr (.inl ⟨by decide, by decide, by decide, by decide, by decide, by decide, by decide, by decide, by decide, by decide, by decide⟩))))))))
  · exact .inr (.inr (.inr (.inr (.inr (.inr (.inr (.inr (.inr (.inl ⟨by decide, by decide, by decide, by decide, by decide, by decide, by decide, by decide, by decide, by decide, by decide⟩)))))))))
  · exact .inr (.inr (.inr (.inr (.inr (.inr (.inr (.inr (.inr (.inr h)))))))))
set_option maxHeartbeats 4000000 in
set_option maxRecDepth 100000 in
theorem As.only {w : World} {cs : Array Value} {x : S25} (h : As.V w cs x) {b : Bool} (hb0 : As.known x.f0 = b) : Calls Try.prog 45 #[.agg cs] w fun e w' => ∃ cs', e = .returned (.tuple #[.agg cs', .bool b]) ∧ (∃ y, As.V w' cs' y ∧ (b = true → y = As.own x)) ∧ Below w.heap.size w w' := by
  obtain ⟨A8, c8, A9, c9, rfl, k8, g8, k9, g9⟩ := As.open h
  have K8 := Aside0.mk k8
  have G8 := Aside0.mk g8
  have K9 := Aside0.mk k9
  have G9 := Aside0.mk g9
  clear h k8 g8 k9 g9
  have hu := Try.underlying25
  have hz := As.zero
  have HB := Aside0.mk (Below.refl w.heap.size w)
  rcases As.cases x.f0 with ⟨dk, d1, d2, d3, d4, d5, d6, d15, d16, d22, d23⟩ | ⟨dk, d1, d2, d3, d4, d5, d6, d15, d16, d22, d23⟩ | ⟨dk, d1, d2, d3, d4, d5, d6, d15, d16, d22, d23⟩ | ⟨dk, d1, d2, d3, d4, d5, d6, d15, d16, d22, d23⟩ | ⟨dk, d1, d2, d3, d4, d5, d6, d15, d16, d22, d23⟩ | ⟨dk, d1, d2, d3, d4, d5, d6, d15, d16, d22, d23⟩ | ⟨dk, d1, d2, d3, d4, d5, d6, d15, d16, d22, d23⟩ | ⟨dk, d1, d2, d3, d4, d5, d6, d15, d16, d22, d23⟩ | ⟨dk, d1, d2, d3, d4, d5, d6, d15, d16, d22, d23⟩ | ⟨dk, d1, d2, d3, d4, d5, d6, d15, d16, d22, d23⟩ | ⟨dk, d1, d2, d3, d4, d5, d6, d15, d16, d22, d23⟩
  all_goals (obtain rfl := dk.symm.trans hb0; clear hb0)
  all_goals
    go_enter Try.func45, Try.ntmps45
    go_wp2_with (first
      | ((with_reducible refine gate_dst (N := 1) rfl ?_); refine box_event ?hg (N := 1) ?hd (cs := #[.int .i64 x.f0, .int .i64 x.f1, .int .i64 x.f2, .int .i64 x.f3, .int .i64 x.f4, .int .i64 x.f5, .int .i64 x.f6, .int .i64 x.f7, .slice A8 x.f8.length c8, .slice A9 x.f9.length c9]) (t := 25) ?hr ?_; (case hd => rfl); (case hg => rfl); (case hr => first | (go_simp; done) | (go_simp; rfl)); intro g1 hg w1 hbox hb; have GEg1 := Aside0.mk ((by rw [hg]; exact HB.out.size) : w.heap.size ≤ g1); have BKg1 := Aside0.mk hbox; clear hbox hg; have n0_ := Aside0.mk (below_step HB.out hb); clear HB; have HB := n0_; clear n0_; skip; clear hb)
      | ((with_reducible refine gate_dst (N := 2) rfl ?_); refine box_event ?hg (N := 2) ?hd (cs := As.Z) (t := 25) ?hr ?_; (case hd => rfl); (case hg => rfl); (case hr => first | (go_simp; done) | (go_simp; rfl)); intro g2 hg w2 hbox hb; have LTg1g2 := Aside0.mk (show g1 < g2 by rw [hg]; exact blk_lt BKg1.out); have GEg2 := Aside0.mk ((by rw [hg]; exact HB.out.size) : w.heap.size ≤ g2); have BKg2 := Aside0.mk hbox; clear hbox hg; have n0_ := Aside0.mk (below_step HB.out hb); have n1_ := Aside0.mk (blk_below BKg1.out hb); clear HB BKg1; have HB := n0_; have BKg1 := n1_; clear n0_ n1_; (try clear cg1); have cg1 := fun i => blk_cell BKg1.out i; clear hb)
      | ((with_reducible refine gate_dst (N := 4) rfl ?_); refine box_event ?hg (N := 4) ?hd (cs := As.Z) (t := 25) ?hr ?_; (case hd => rfl); (case hg => rfl); (case hr => first | (go_simp; done) | (go_simp; rfl)); intro g3 hg w3 hbox hb; have LTg1g3 := Aside0.mk (show g1 < g3 by rw [hg]; exact blk_lt BKg1.out); have LTg2g3 := Aside0.mk (show g2 < g3 by rw [hg]; exact blk_lt BKg2.out); have GEg3 := Aside0.mk ((by rw [hg]; exact HB.out.size) : w.heap.size ≤ g3); have BKg3 := Aside0.mk hbox; clear hbox hg; have n0_ := Aside0.mk (below_step HB.out hb); have n1_ := Aside0.mk (blk_below BKg1.out hb); have n2_ := Aside0.mk (blk_below BKg2.out hb); clear HB BKg1 BKg2; have HB := n0_; have BKg1 := n1_; have BKg2 := n2_; clear n0_ n1_ n2_; (try clear cg1); have cg1 := fun i => blk_cell BKg1.out i; clear hb)
      | ((with_reducible refine gate_store rfl ?_); refine As.store_row rfl 25 _ _ rfl g3 _ rfl rfl 25 _ BKg3.out (by kernel_rfl) rfl (by first | kernel_rfl | simp [Value.oneCell']) ?_; intro w4 hgb hgr; have n0_ := Aside0.mk (HB.out.grown hgr HB.out.size (fun k hk => by cases hk; exact GEg3.out)); have n1_ := Aside0.mk (blk_grown BKg1.out hgr (fun he => (Nat.ne_of_lt LTg1g3.out) (Option.some.inj he))); have n2_ := Aside0.mk (blk_grown BKg2.out hgr (fun he => (Nat.ne_of_lt LTg2g3.out) (Option.some.inj he))); clear HB BKg1 BKg2; have HB := n0_; have BKg1 := n1_; have BKg2 := n2_; clear n0_ n1_ n2_; clear BKg3 hgr; have BKg3 := Aside0.mk hgb; clear hgb; (try clear cg1); have cg1 := fun i => blk_cell BKg1.out i)
      | ((with_reducible refine gate_store rfl ?_); refine As.store_row rfl 25 _ _ rfl g2 _ rfl rfl 25 _ BKg2.out (by kernel_rfl) rfl (by first | kernel_rfl | simp [Value.oneCell']) ?_; intro w5 hgb hgr; have n0_ := Aside0.mk (HB.out.grown hgr HB.out.size (fun k hk => by cases hk; exact GEg2.out)); have n1_ := Aside0.mk (blk_grown BKg1.out hgr (fun he => (Nat.ne_of_lt LTg1g2.out) (Option.some.inj he))); have n2_ := Aside0.mk (blk_grown BKg3.out hgr (fun he => (Nat.ne_of_gt LTg2g3.out) (Option.some.inj he))); clear HB BKg1 BKg3; have HB := n0_; have BKg1 := n1_; have BKg3 := n2_; clear n0_ n1_ n2_; clear BKg2 hgr; have BKg2 := Aside0.mk hgb; clear hgb; skip)
      | ((with_reducible refine gate_store rfl ?_); refine As.store_cell rfl rfl g3 ?_ ?_ 25 _ BKg3.out ?hr ?_; (case hr => (have hs_ := fun i => blk_cell BKg3.out i); (have hf_ := fun i => blk_frozen BKg3.out i); first | (go_simp; done) | (go_simp; rfl)); intro w6 hgb hgr; simp only [List.setIfInBounds_toArray, List.set_cons_zero, List.set_cons_succ] at hgb; have n0_ := Aside0.mk (HB.out.grown hgr HB.out.size (fun k hk => by cases hk; exact GEg3.out)); have n1_ := Aside0.mk (blk_grown BKg1.out hgr (fun he => (Nat.ne_of_lt LTg1g3.out) (Option.some.inj he))); have n2_ := Aside0.mk (blk_grown BKg2.out hgr (fun he => (Nat.ne_of_lt LTg2g3.out) (Option.some.inj he))); clear HB BKg1 BKg2; have HB := n0_; have BKg1 := n1_; have BKg2 := n2_; clear n0_ n1_ n2_; clear BKg3 hgr; have BKg3 := Aside0.mk hgb; clear hgb; (try clear cg1); have cg1 := fun i => blk_cell BKg1.out i)
      | (refine wpList_load_row rfl 25 _ rfl g3 rfl 25 _ (0, 0) _ BKg3.out hu rfl (by kernel_rfl) ?_))
  all_goals
    refine bodyPost_ret (results_ct rfl _ _ g2 25 _ (0, 0) _ rfl BKg2.out hu rfl (by kernel_rfl)) rfl ?_
    refine ⟨_, rfl, ⟨_, by (first | exact As.mk (Nat.le_refl _) (As.n8 _) (Nat.le_refl _) (As.n9 _) | exact As.mk K8.out (Kd.C_below G8.out HB.out) (Nat.le_refl _) (As.n9 _) | exact As.mk (Nat.le_refl _) (As.n8 _) K9.out (Kd.C_below G9.out HB.out)), ?_⟩, HB.out⟩
    intro hk
    first | (cases hk; done) | (simp only [As.own, d1, d2, d3, d4, d5, d6, d15, d16, d22, d23, Bool.false_or, Bool.or_false, Bool.true_or, Bool.or_true, Bool.false_eq_true, if_true, if_false]; done)
set_option maxHeartbeats 4000000 in
set_option maxRecDepth 100000 in
theorem As.bare {w : World} {cs : Array Value} {x : S25} (h : As.V w cs x) : Calls Try.prog 42 #[.agg cs] w fun e w' => ∃ cs', e = .returned (.agg cs') ∧ (As.V w' cs' (As.own x)) ∧ Below w.heap.size w w' := by
  obtain ⟨A8, c8, A9, c9, rfl, k8, g8, k9, g9⟩ := As.open h
  have K8 := Aside0.mk k8
  have G8 := Aside0.mk g8
  have K9 := Aside0.mk k9
  have G9 := Aside0.mk g9
  clear h k8 g8 k9 g9
  have hu := Try.underlying25
  have hz := As.zero
  have HB := Aside0.mk (Below.refl w.heap.size w)
  rcases As.cases x.f0 with ⟨dk, d1, d2, d3, d4, d5, d6, d15, d16, d22, d23⟩ | ⟨dk, d1, d2, d3, d4, d5, d6, d15, d16, d22, d23⟩ | ⟨dk, d1, d2, d3, d4, d5, d6, d15, d16, d22, d23⟩ | ⟨dk, d1, d2, d3, d4, d5, d6, d15, d16, d22, d23⟩ | ⟨dk, d1, d2, d3, d4, d5, d6, d15, d16, d22, d23⟩ | ⟨dk, d1, d2, d3, d4, d5, d6, d15, d16, d22, d23⟩ | ⟨dk, d1, d2, d3, d4, d5, d6, d15, d16, d22, d23⟩ | ⟨dk, d1, d2, d3, d4, d5, d6, d15, d16, d22, d23⟩ | ⟨dk, d1, d2, d3, d4, d5, d6, d15, d16, d22, d23⟩ | ⟨dk, d1, d2, d3, d4, d5, d6, d15, d16, d22, d23⟩ | ⟨dk, d1, d2, d3, d4, d5, d6, d15, d16, d22, d23⟩
  all_goals
    go_enter Try.func42, Try.ntmps42
    go_wp2_with (first
      | ((with_reducible refine gate_dst (N := 1) rfl ?_); refine box_event ?hg (N := 1) ?hd (cs := #[.int .i64 x.f0, .int .i64 x.f1, .int .i64 x.f2, .int .i64 x.f3, .int .i64 x.f4, .int .i64 x.f5, .int .i64 x.f6, .int .i64 x.f7, .slice A8 x.f8.length c8, .slice A9 x.f9.length c9]) (t := 25) ?hr ?_; (case hd => rfl); (case hg => rfl); (case hr => first | (go_simp; done) | (go_simp; rfl)); intro g1 hg w1 hbox hb; have GEg1 := Aside0.mk ((by rw [hg]; exact HB.out.size) : w.heap.size ≤ g1); have BKg1 := Aside0.mk hbox; clear hbox hg; have n0_ := Aside0.mk (below_step HB.out hb); clear HB; have HB := n0_; clear n0_; skip; clear hb)
      | ((with_reducible refine gate_dst (N := 2) rfl ?_); refine box_event ?hg (N := 2) ?hd (cs := As.Z) (t := 25) ?hr ?_; (case hd => rfl); (case hg => rfl); (case hr => first | (go_simp; done) | (go_simp; rfl)); intro g2 hg w2 hbox hb; have LTg1g2 := Aside0.mk (show g1 < g2 by rw [hg]; exact blk_lt BKg1.out); have GEg2 := Aside0.mk ((by rw [hg]; exact HB.out.size) : w.heap.size ≤ g2); have BKg2 := Aside0.mk hbox; clear hbox hg; have n0_ := Aside0.mk (below_step HB.out hb); have n1_ := Aside0.mk (blk_below BKg1.out hb); clear HB BKg1; have HB := n0_; have BKg1 := n1_; clear n0_ n1_; (try clear cg1); have cg1 := fun i => blk_cell BKg1.out i; clear hb)
      | ((with_reducible refine gate_dst (N := 3) rfl ?_); refine box_event ?hg (N := 3) ?hd (cs := As.Z) (t := 25) ?hr ?_; (case hd => rfl); (case hg => rfl); (case hr => first | (go_simp; done) | (go_simp; rfl)); intro g3 hg w3 hbox hb; have LTg1g3 := Aside0.mk (show g1 < g3 by rw [hg]; exact blk_lt BKg1.out); have LTg2g3 := Aside0.mk (show g2 < g3 by rw [hg]; exact blk_lt BKg2.out); have GEg3 := Aside0.mk ((by rw [hg]; exact HB.out.size) : w.heap.size ≤ g3); have BKg3 := Aside0.mk hbox; clear hbox hg; have n0_ := Aside0.mk (below_step HB.out hb); have n1_ := Aside0.mk (blk_below BKg1.out hb); have n2_ := Aside0.mk (blk_below BKg2.out hb); clear HB BKg1 BKg2; have HB := n0_; have BKg1 := n1_; have BKg2 := n2_; clear n0_ n1_ n2_; (try clear cg1); have cg1 := fun i => blk_cell BKg1.out i; clear hb)
      | ((with_reducible refine gate_store rfl ?_); refine As.store_row rfl 25 _ _ rfl g3 _ rfl rfl 25 _ BKg3.out (by kernel_rfl) rfl (by first | kernel_rfl | simp [Value.oneCell']) ?_; intro w4 hgb hgr; have n0_ := Aside0.mk (HB.out.grown hgr HB.out.size (fun k hk => by cases hk; exact GEg3.out)); have n1_ := Aside0.mk (blk_grown BKg1.out hgr (fun he => (Nat.ne_of_lt LTg1g3.out) (Option.some.inj he))); have n2_ := Aside0.mk (blk_grown BKg2.out hgr (fun he => (Nat.ne_of_lt LTg2g3.out) (Option.some.inj he))); clear HB BKg1 BKg2; have HB := n0_; have BKg1 := n1_; have BKg2 := n2_; clear n0_ n1_ n2_; clear BKg3 hgr; have BKg3 := Aside0.mk hgb; clear hgb; (try clear cg1); have cg1 := fun i => blk_cell BKg1.out i)
      | ((with_reducible refine gate_store rfl ?_); refine As.store_row rfl 25 _ _ rfl g2 _ rfl rfl 25 _ BKg2.out (by kernel_rfl) rfl (by first | kernel_rfl | simp [Value.oneCell']) ?_; intro w5 hgb hgr; have n0_ := Aside0.mk (HB.out.grown hgr HB.out.size (fun k hk => by cases hk; exact GEg2.out)); have n1_ := Aside0.mk (blk_grown BKg1.out hgr (fun he => (Nat.ne_of_lt LTg1g2.out) (Option.some.inj he))); have n2_ := Aside0.mk (blk_grown BKg3.out hgr (fun he => (Nat.ne_of_gt LTg2g3.out) (Option.some.inj he))); clear HB BKg1 BKg3; have HB := n0_; have BKg1 := n1_; have BKg3 := n2_; clear n0_ n1_ n2_; clear BKg2 hgr; have BKg2 := Aside0.mk hgb; clear hgb; skip)
      | ((with_reducible refine gate_store rfl ?_); refine As.store_cell rfl rfl g3 ?_ ?_ 25 _ BKg3.out ?hr ?_; (case hr => (have hs_ := fun i => blk_cell BKg3.out i); (have hf_ := fun i => blk_frozen BKg3.out i); first | (go_simp; done) | (go_simp; rfl)); intro w6 hgb hgr; simp only [List.setIfInBounds_toArray, List.set_cons_zero, List.set_cons_succ] at hgb; have n0_ := Aside0.mk (HB.out.grown hgr HB.out.size (fun k hk => by cases hk; exact GEg3.out)); have n1_ := Aside0.mk (blk_grown BKg1.out hgr (fun he => (Nat.ne_of_lt LTg1g3.out) (Option.some.inj he))); have n2_ := Aside0.mk (blk_grown BKg2.out hgr (fun he => (Nat.ne_of_lt LTg2g3.out) (Option.some.inj he))); clear HB BKg1 BKg2; have HB := n0_; have BKg1 := n1_; have BKg2 := n2_; clear n0_ n1_ n2_; clear BKg3 hgr; have BKg3 := Aside0.mk hgb; clear hgb; (try clear cg1); have cg1 := fun i => blk_cell BKg1.out i)
      | (refine wpList_load_row rfl 25 _ rfl g3 rfl 25 _ (0, 0) _ BKg3.out hu rfl (by kernel_rfl) ?_))
  rotate_left 8
  · skip
    have hS0 : w4.drew.heap[g1]? = some (.cells #[.int .i64 x.f0, .int .i64 x.f1, .int .i64 x.f2, .int .i64 x.f3, .int .i64 x.f4, .int .i64 x.f5, .int .i64 x.f6, .int .i64 x.f7, .slice A8 x.f8.length c8, .slice A9 x.f9.length c9] 25 (0, 0)) := blk_drew BKg1.out
    refine start_ (n := 8) (S := fun w' => w'.heap[g1]? = some (.cells #[.int .i64 x.f0, .int .i64 x.f1, .int .i64 x.f2, .int .i64 x.f3, .int .i64 x.f4, .int .i64 x.f5, .int .i64 x.f6, .int .i64 x.f7, .slice A8 x.f8.length c8, .slice A9 x.f9.length c9] 25 (0, 0))) (ds := []) (bt 8 0) (by kernel_rfl) rfl (by kernel_rfl) hS0 (fun hHeld => ?_)
    have hb := below_drew1 (Below.refl w4.heap.size w4)
    have n0_ := Aside0.mk (below_step HB.out hb)
    have n1_ := Aside0.mk (blk_below BKg1.out hb)
    have n2_ := Aside0.mk (blk_below BKg2.out hb)
    have n3_ := Aside0.mk (blk_below BKg3.out hb)
    clear HB BKg1 BKg2 BKg3
    have HB := n0_
    have BKg1 := n1_
    have BKg2 := n2_
    have BKg3 := n3_
    clear n0_ n1_ n2_ n3_
    clear hb cg1 hS0
    generalize w4.drew = v0 at *
    refine pure_ (i := 0) (N := some 26) (v := ?_) (a' := ?_) (bt 8 1) rfl rfl (by kernel_rfl) (fun _ _ _ h => h) (Or.inl ⟨by rfl, ?_⟩) ?_ ?_
    rotate_left
    · intro w'
      go_simp
      first | with_reducible rfl | (simp [Instr.field, go_sem]; rfl)
    rotate_left
    · simp only [Act.put, List.setIfInBounds_toArray, List.set_cons_zero, List.set_cons_succ]
      rfl
    refine pure_ (i := 2) (N := some 28) (v := ?_) (a' := ?_) (bt 8 5) rfl rfl (by kernel_rfl) (fun _ _ _ h => h) (Or.inl ⟨by rfl, ?_⟩) ?_ ?_
    rotate_left
    · intro w'
      go_simp
      first | with_reducible rfl | (simp [Instr.field, go_sem]; rfl)
    rotate_left
    · simp only [Act.put, List.setIfInBounds_toArray, List.set_cons_zero, List.set_cons_succ]
      rfl
    refine take_ (i := 1) (N := some 27) (v := ?_) (a' := ?_) (bt 8 7) rfl rfl (by kernel_rfl) (fun _ _ _ h => h) (Or.inl ⟨by rfl, ?_⟩) hHeld ?_ ?_
    rotate_left
    · intro w' hS
      have f_ : w'.cell? ⟨g1, 4, none⟩ = some (.int .i64 x.f4) := (blk_cell hS 4).trans rfl
      go_simp
      first | with_reducible rfl | (simp [Instr.field, go_sem]; rfl)
    rotate_left
    · simp only [Act.put, List.setIfInBounds_toArray, List.set_cons_zero, List.set_cons_succ]
      rfl
    refine take_ (i := 3) (N := some 29) (v := ?_) (a' := ?_) (bt 8 15) rfl rfl (by kernel_rfl) (fun _ _ _ h => h) (Or.inl ⟨by rfl, ?_⟩) hHeld ?_ ?_
    rotate_left
    · intro w' hS
      have f_ : w'.cell? ⟨g1, 5, none⟩ = some (.int .i64 x.f5) := (blk_cell hS 5).trans rfl
      go_simp
      first | with_reducible rfl | (simp [Instr.field, go_sem]; rfl)
    rotate_left
    · simp only [Act.put, List.setIfInBounds_toArray, List.set_cons_zero, List.set_cons_succ]
      rfl
    clear hHeld
    refine pure_ (i := 4) (N := some 30) (v := ?_) (a' := ?_) (bt 8 31) rfl rfl (by kernel_rfl) (fun _ _ _ h => h) (Or.inl ⟨by rfl, ?_⟩) ?_ ?_
    rotate_left
    · intro w'
      go_simp
      first | with_reducible rfl | (simp [Instr.field, go_sem]; rfl)
    rotate_left
    · simp only [Act.put, List.setIfInBounds_toArray, List.set_cons_zero, List.set_cons_succ]
      rfl
    refine one_ (i := 5) (N := none) (bt 8 63) rfl rfl (by kernel_rfl) (by decide) (fun K hK => ?_)
    refine skip_ (w1 := v0.setCell ⟨g3, 4, none⟩ (.int .i64 x.f4)) (by rfl) rfl ?_ ?_
    · have hs_ := fun i => blk_cell BKg3.out i
      have hf_ := fun i => blk_frozen BKg3.out i
      go_simp
    have hgr := As.grown_set v0 g3 4 (.int .i64 x.f4)
    have hgb := blk_set BKg3.out 4 (.int .i64 x.f4)
    simp only [List.setIfInBounds_toArray, List.set_cons_zero, List.set_cons_succ] at hgb
    have n0_ := Aside0.mk (HB.out.grown hgr HB.out.size (fun k hk => by cases hk; exact GEg3.out)); have n1_ := Aside0.mk (blk_grown BKg1.out hgr (fun he => (Nat.ne_of_lt LTg1g3.out) (Option.some.inj he))); have n2_ := Aside0.mk (blk_grown BKg2.out hgr (fun he => (Nat.ne_of_lt LTg2g3.out) (Option.some.inj he))); clear HB BKg1 BKg2; have HB := n0_; have BKg1 := n1_; have BKg2 := n2_; clear n0_ n1_ n2_
    clear BKg3 hgr
    have BKg3 := Aside0.mk hgb
    clear hgb
    refine hK.out _ _ BKg1.out (fun _ => ?_)
    clear hK K
    generalize v0.setCell ⟨g3, 4, none⟩ (.int .i64 x.f4) = v1 at *
    refine pure_ (i := 6) (N := some 31) (v := ?_) (a' := ?_) (bt 8 127) rfl rfl (by kernel_rfl) (fun _ _ _ h => h) (Or.inl ⟨by rfl, ?_⟩) ?_ ?_
    rotate_left
    · intro w'
      go_simp
      first | with_reducible rfl | (simp [Instr.field, go_sem]; rfl)
    rotate_left
    · simp only [Act.put, List.setIfInBounds_toArray, List.set_cons_zero, List.set_cons_succ]
      rfl
    refine one_ (i := 7) (N := none) (bt 8 255) rfl rfl (by kernel_rfl) (by decide) (fun K hK => ?_)
    refine skip_ (w1 := v1.setCell ⟨g3, 5, none⟩ (.int .i64 x.f5)) (by rfl) rfl ?_ ?_
    · have hs_ := fun i => blk_cell BKg3.out i
      have hf_ := fun i => blk_frozen BKg3.out i
      go_simp
    have hgr := As.grown_set v1 g3 5 (.int .i64 x.f5)
    have hgb := blk_set BKg3.out 5 (.int .i64 x.f5)
    simp only [List.setIfInBounds_toArray, List.set_cons_zero, List.set_cons_succ] at hgb
    have n0_ := Aside0.mk (HB.out.grown hgr HB.out.size (fun k hk => by cases hk; exact GEg3.out)); have n1_ := Aside0.mk (blk_grown BKg1.out hgr (fun he => (Nat.ne_of_lt LTg1g3.out) (Option.some.inj he))); have n2_ := Aside0.mk (blk_grown BKg2.out hgr (fun he => (Nat.ne_of_lt LTg2g3.out) (Option.some.inj he))); clear HB BKg1 BKg2; have HB := n0_; have BKg1 := n1_; have BKg2 := n2_; clear n0_ n1_ n2_
    clear BKg3 hgr
    have BKg3 := Aside0.mk hgb
    clear hgb
    refine hK.out _ _ BKg1.out (fun _ => ?_)
    clear hK K
    generalize v1.setCell ⟨g3, 5, none⟩ (.int .i64 x.f5) = v2 at *
    refine done_ (by kernel_rfl) ?_
    (try clear cg1)
    have cg1 := fun i => blk_cell BKg1.out i
    go_wp2_with (first
      | ((with_reducible refine gate_store rfl ?_); refine As.store_row rfl 25 _ _ rfl g2 _ rfl rfl 25 _ BKg2.out (by kernel_rfl) rfl (by first | kernel_rfl | simp [Value.oneCell']) ?_; intro w5 hgb hgr; have n0_ := Aside0.mk (HB.out.grown hgr HB.out.size (fun k hk => by cases hk; exact GEg2.out)); have n1_ := Aside0.mk (blk_grown BKg1.out hgr (fun he => (Nat.ne_of_lt LTg1g2.out) (Option.some.inj he))); have n2_ := Aside0.mk (blk_grown BKg3.out hgr (fun he => (Nat.ne_of_gt LTg2g3.out) (Option.some.inj he))); clear HB BKg1 BKg3; have HB := n0_; have BKg1 := n1_; have BKg3 := n2_; clear n0_ n1_ n2_; clear BKg2 hgr; have BKg2 := Aside0.mk hgb; clear hgb; skip)
      | ((with_reducible refine gate_store rfl ?_); refine As.store_cell rfl rfl g3 ?_ ?_ 25 _ BKg3.out ?hr ?_; (case hr => (have hs_ := fun i => blk_cell BKg3.out i); (have hf_ := fun i => blk_frozen BKg3.out i); first | (go_simp; done) | (go_simp; rfl)); intro w6 hgb hgr; simp only [List.setIfInBounds_toArray, List.set_cons_zero, List.set_cons_succ] at hgb; have n0_ := Aside0.mk (HB.out.grown hgr HB.out.size (fun k hk => by cases hk; exact GEg3.out)); have n1_ := Aside0.mk (blk_grown BKg1.out hgr (fun he => (Nat.ne_of_lt LTg1g3.out) (Option.some.inj he))); have n2_ := Aside0.mk (blk_grown BKg2.out hgr (fun he => (Nat.ne_of_lt LTg2g3.out) (Option.some.inj he))); clear HB BKg1 BKg2; have HB := n0_; have BKg1 := n1_; have BKg2 := n2_; clear n0_ n1_ n2_; clear BKg3 hgr; have BKg3 := Aside0.mk hgb; clear hgb; (try clear cg1); have cg1 := fun i => blk_cell BKg1.out i)
      | (refine wpList_load_row rfl 25 _ rfl g3 rfl 25 _ (0, 0) _ BKg3.out hu rfl (by kernel_rfl) ?_))
    refine bodyPost_ret (results_cell_row rfl _ _ g2 25 _ (0, 0) _ rfl BKg2.out hu rfl (by kernel_rfl)) rfl ?_
    refine ⟨_, rfl, ?_, HB.out⟩
    simp only [As.own, d1, d2, d3, d4, d5, d6, d15, d16, d22, d23, Bool.false_or, Bool.or_false, Bool.true_or, Bool.or_true, Bool.false_eq_true, if_true, if_false]
    first | exact As.mk (Nat.le_refl _) (As.n8 _) (Nat.le_refl _) (As.n9 _) | exact As.mk K8.out (Kd.C_below G8.out HB.out) (Nat.le_refl _) (As.n9 _) | exact As.mk (Nat.le_refl _) (As.n8 _) K9.out (Kd.C_below G9.out HB.out)
  · skip
    have hS0 : w4.drew.heap[g1]? = some (.cells #[.int .i64 x.f0, .int .i64 x.f1, .int .i64 x.f2, .int .i64 x.f3, .int .i64 x.f4, .int .i64 x.f5, .int .i64 x.f6, .int .i64 x.f7, .slice A8 x.f8.length c8, .slice A9 x.f9.length c9] 25 (0, 0)) := blk_drew BKg1.out
    refine start_ (n := 8) (S := fun w' => w'.heap[g1]? = some (.cells #[.int .i64 x.f0, .int .i64 x.f1, .int .i64 x.f2, .int .i64 x.f3, .int .i64 x.f4, .int .i64 x.f5, .int .i64 x.f6, .int .i64 x.f7, .slice A8 x.f8.length c8, .slice A9 x.f9.length c9] 25 (0, 0))) (ds := []) (bt 8 0) (by kernel_rfl) rfl (by kernel_rfl) hS0 (fun hHeld => ?_)
    have hb := below_drew1 (Below.refl w4.heap.size w4)
    have n0_ := Aside0.mk (below_step HB.out hb)
    have n1_ := Aside0.mk (blk_below BKg1.out hb)
    have n2_ := Aside0.mk (blk_below BKg2.out hb)
    have n3_ := Aside0.mk (blk_below BKg3.out hb)
    clear HB BKg1 BKg2 BKg3
    have HB := n0_
    have BKg1 := n1_
    have BKg2 := n2_
    have BKg3 := n3_
    clear n0_ n1_ n2_ n3_
    clear hb cg1 hS0
    generalize w4.drew = v0 at *
    refine pure_ (i := 0) (N := some 36) (v := ?_) (a' := ?_) (bt 8 1) rfl rfl (by kernel_rfl) (fun _ _ _ h => h) (Or.inl ⟨by rfl, ?_⟩) ?_ ?_
    rotate_left
    · intro w'
      go_simp
      first | with_reducible rfl | (simp [Instr.field, go_sem]; rfl)
    rotate_left
    · simp only [Act.put, List.setIfInBounds_toArray, List.set_cons_zero, List.set_cons_succ]
      rfl
    refine pure_ (i := 2) (N := some 38) (v := ?_) (a' := ?_) (bt 8 5) rfl rfl (by kernel_rfl) (fun _ _ _ h => h) (Or.inl ⟨by rfl, ?_⟩) ?_ ?_
    rotate_left
    · intro w'
      go_simp
      first | with_reducible rfl | (simp [Instr.field, go_sem]; rfl)
    rotate_left
    · simp only [Act.put, List.setIfInBounds_toArray, List.set_cons_zero, List.set_cons_succ]
      rfl
    refine take_ (i := 1) (N := some 37) (v := ?_) (a' := ?_) (bt 8 7) rfl rfl (by kernel_rfl) (fun _ _ _ h => h) (Or.inl ⟨by rfl, ?_⟩) hHeld ?_ ?_
    rotate_left
    · intro w' hS
      have f_ : w'.cell? ⟨g1, 6, none⟩ = some (.int .i64 x.f6) := (blk_cell hS 6).trans rfl
      go_simp
      first | with_reducible rfl | (simp [Instr.field, go_sem]; rfl)
    rotate_left
    · simp only [Act.put, List.setIfInBounds_toArray, List.set_cons_zero, List.set_cons_succ]
      rfl
    refine take_ (i := 3) (N := some 39) (v := ?_) (a' := ?_) (bt 8 15) rfl rfl (by kernel_rfl) (fun _ _ _ h => h) (Or.inl ⟨by rfl, ?_⟩) hHeld ?_ ?_
    rotate_left
    · intro w' hS
      have f_ : w'.cell? ⟨g1, 7, none⟩ = some (.int .i64 x.f7) := (blk_cell hS 7).trans rfl
      go_simp
      first | with_reducible rfl | (simp [Instr.field, go_sem]; rfl)
    rotate_left
    · simp only [Act.put, List.setIfInBounds_toArray, List.set_cons_zero, List.set_cons_succ]
      rfl
    clear hHeld
    refine pure_ (i := 4) (N := some 40) (v := ?_) (a' := ?_) (bt 8 31) rfl rfl (by kernel_rfl) (fun _ _ _ h => h) (Or.inl ⟨by rfl, ?_⟩) ?_ ?_
    rotate_left
    · intro w'
      go_simp
      first | with_reducible rfl | (simp [Instr.field, go_sem]; rfl)
    rotate_left
    · simp only [Act.put, List.setIfInBounds_toArray, List.set_cons_zero, List.set_cons_succ]
      rfl
    refine one_ (i := 5) (N := none) (bt 8 63) rfl rfl (by kernel_rfl) (by decide) (fun K hK => ?_)
    refine skip_ (w1 := v0.setCell ⟨g3, 6, none⟩ (.int .i64 x.f6)) (by rfl) rfl ?_ ?_
    · have hs_ := fun i => blk_cell BKg3.out i
      have hf_ := fun i => blk_frozen BKg3.out i
      go_simp
    have hgr := As.grown_set v0 g3 6 (.int .i64 x.f6)
    have hgb := blk_set BKg3.out 6 (.int .i64 x.f6)
    simp only [List.setIfInBounds_toArray, List.set_cons_zero, List.set_cons_succ] at hgb
    have n0_ := Aside0.mk (HB.out.grown hgr HB.out.size (fun k hk => by cases hk; exact GEg3.out)); have n1_ := Aside0.mk (blk_grown BKg1.out hgr (fun he => (Nat.ne_of_lt LTg1g3.out) (Option.some.inj he))); have n2_ := Aside0.mk (blk_grown BKg2.out hgr (fun he => (Nat.ne_of_lt LTg2g3.out) (Option.some.inj he))); clear HB BKg1 BKg2; have HB := n0_; have BKg1 := n1_; have BKg2 := n2_; clear n0_ n1_ n2_
    clear BKg3 hgr
    have BKg3 := Aside0.mk hgb
    clear hgb
    refine hK.out _ _ BKg1.out (fun _ => ?_)
    clear hK K
    generalize v0.setCell ⟨g3, 6, none⟩ (.int .i64 x.f6) = v1 at *
    refine pure_ (i := 6) (N := some 41) (v := ?_) (a' := ?_) (bt 8 127) rfl rfl (by kernel_rfl) (fun _ _ _ h => h) (Or.inl ⟨by rfl, ?_⟩) ?_ ?_
    rotate_left
    · intro w'
      go_simp
      first | with_reducible rfl | (simp [Instr.field, go_sem]; rfl)
    rotate_left
    · simp only [Act.put, List.setIfInBounds_toArray, List.set_cons_zero, List.set_cons_succ]
      rfl
    refine one_ (i := 7) (N := none) (bt 8 255) rfl rfl (by kernel_rfl) (by decide) (fun K hK => ?_)
    refine skip_ (w1 := v1.setCell ⟨g3, 7, none⟩ (.int .i64 x.f7)) (by rfl) rfl ?_ ?_
    · have hs_ := fun i => blk_cell BKg3.out i
      have hf_ := fun i => blk_frozen BKg3.out i
      go_simp
    have hgr := As.grown_set v1 g3 7 (.int .i64 x.f7)
    have hgb := blk_set BKg3.out 7 (.int .i64 x.f7)
    simp only [List.setIfInBounds_toArray, List.set_cons_zero, List.set_cons_succ] at hgb
    have n0_ := Aside0.mk (HB.out.grown hgr HB.out.size (fun k hk => by cases hk; exact GEg3.out)); have n1_ := Aside0.mk (blk_grown BKg1.out hgr (fun he => (Nat.ne_of_lt LTg1g3.out) (Option.some.inj he))); have n2_ := Aside0.mk (blk_grown BKg2.out hgr (fun he => (Nat.ne_of_lt LTg2g3.out) (Option.some.inj he))); clear HB BKg1 BKg2; have HB := n0_; have BKg1 := n1_; have BKg2 := n2_; clear n0_ n1_ n2_
    clear BKg3 hgr
    have BKg3 := Aside0.mk hgb
    clear hgb
    refine hK.out _ _ BKg1.out (fun _ => ?_)
    clear hK K
    generalize v1.setCell ⟨g3, 7, none⟩ (.int .i64 x.f7) = v2 at *
    refine done_ (by kernel_rfl) ?_
    (try clear cg1)
    have cg1 := fun i => blk_cell BKg1.out i
    go_wp2_with (first
      | ((with_reducible refine gate_store rfl ?_); refine As.store_row rfl 25 _ _ rfl g2 _ rfl rfl 25 _ BKg2.out (by kernel_rfl) rfl (by first | kernel_rfl | simp [Value.oneCell']) ?_; intro w5 hgb hgr; have n0_ := Aside0.mk (HB.out.grown hgr HB.out.size (fun k hk => by cases hk; exact GEg2.out)); have n1_ := Aside0.mk (blk_grown BKg1.out hgr (fun he => (Nat.ne_of_lt LTg1g2.out) (Option.some.inj he))); have n2_ := Aside0.mk (blk_grown BKg3.out hgr (fun he => (Nat.ne_of_gt LTg2g3.out) (Option.some.inj he))); clear HB BKg1 BKg3; have HB := n0_; have BKg1 := n1_; have BKg3 := n2_; clear n0_ n1_ n2_; clear BKg2 hgr; have BKg2 := Aside0.mk hgb; clear hgb; skip)
      | ((with_reducible refine gate_store rfl ?_); refine As.store_cell rfl rfl g3 ?_ ?_ 25 _ BKg3.out ?hr ?_; (case hr => (have hs_ := fun i => blk_cell BKg3.out i); (have hf_ := fun i => blk_frozen BKg3.out i); first | (go_simp; done) | (go_simp; rfl)); intro w6 hgb hgr; simp only [List.setIfInBounds_toArray, List.set_cons_zero, List.set_cons_succ] at hgb; have n0_ := Aside0.mk (HB.out.grown hgr HB.out.size (fun k hk => by cases hk; exact GEg3.out)); have n1_ := Aside0.mk (blk_grown BKg1.out hgr (fun he => (Nat.ne_of_lt LTg1g3.out) (Option.some.inj he))); have n2_ := Aside0.mk (blk_grown BKg2.out hgr (fun he => (Nat.ne_of_lt LTg2g3.out) (Option.some.inj he))); clear HB BKg1 BKg2; have HB := n0_; have BKg1 := n1_; have BKg2 := n2_; clear n0_ n1_ n2_; clear BKg3 hgr; have BKg3 := Aside0.mk hgb; clear hgb; (try clear cg1); have cg1 := fun i => blk_cell BKg1.out i)
      | (refine wpList_load_row rfl 25 _ rfl g3 rfl 25 _ (0, 0) _ BKg3.out hu rfl (by kernel_rfl) ?_))
    refine bodyPost_ret (results_cell_row rfl _ _ g2 25 _ (0, 0) _ rfl BKg2.out hu rfl (by kernel_rfl)) rfl ?_
    refine ⟨_, rfl, ?_, HB.out⟩
    simp only [As.own, d1, d2, d3, d4, d5, d6, d15, d16, d22, d23, Bool.false_or, Bool.or_false, Bool.true_or, Bool.or_true, Bool.false_eq_true, if_true, if_false]
    first | exact As.mk (Nat.le_refl _) (As.n8 _) (Nat.le_refl _) (As.n9 _) | exact As.mk K8.out (Kd.C_below G8.out HB.out) (Nat.le_refl _) (As.n9 _) | exact As.mk (Nat.le_refl _) (As.n8 _) K9.out (Kd.C_below G9.out HB.out)
  all_goals
    refine bodyPost_ret (results_cell_row rfl _ _ g2 25 _ (0, 0) _ rfl BKg2.out hu rfl (by kernel_rfl)) rfl ?_
    refine ⟨_, rfl, ?_, HB.out⟩
    simp only [As.own, d1, d2, d3, d4, d5, d6, d15, d16, d22, d23, Bool.false_or, Bool.or_false, Bool.true_or, Bool.or_true, Bool.false_eq_true, if_true, if_false]
    first | exact As.mk (Nat.le_refl _) (As.n8 _) (Nat.le_refl _) (As.n9 _) | exact As.mk K8.out (Kd.C_below G8.out HB.out) (Nat.le_refl _) (As.n9 _) | exact As.mk (Nat.le_refl _) (As.n8 _) K9.out (Kd.C_below G9.out HB.out)

end Go.Proofs.Ytedfbemifigoeaa.P
