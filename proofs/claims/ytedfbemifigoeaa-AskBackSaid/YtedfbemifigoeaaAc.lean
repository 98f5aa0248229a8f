import Derived.Test.YtedfbemifigoeaaX
import Derived.Test.YtedfbemifigoeaaAa
import Derived.Test.YtedfbemifigoeaaPx1
import Derived.Test.YtedfbemifigoeaaPx2
import Derived.Test.YtedfbemifigoeaaPx3
import Derived.Test.YtedfbemifigoeaaPx4
namespace Go.Proofs.Ytedfbemifigoeaa.P
open Go.RowKit Go.Proofs.YtedfbemifigoeaaW.PrintWords Go.Proofs.YtedfbemifigoeaaW.PrintLast Go.Proofs.YtedfbemifigoeaaW.PrintMore
attribute [local go_sem] max2_int min2_int max_two min_two max_three min_three max_four min_four   -- for this text's walks alone
set_option linter.unusedVariables false
set_option linter.unusedSimpArgs false


theorem As.inc {n p q : Int} {w : World} {y : Bool} (hy : As.in n p q = y) : Calls Try.prog 43 #[.int .i64 n, .int .i64 p, .int .i64 q] w fun e w' => e = .returned (.bool y) ∧ Below w.heap.size w w' :=
  (ask_in.calls n p q y w (by subst hy; unfold ask_in.f As.in; by_cases h1 : p ≤ n <;> by_cases h2 : n ≤ q <;> simp [h1, h2])).mono (fun e w' hh => ⟨hh.1, hh.2.below⟩)
def As.take (f : Int) : Value := if (f == 1 || f == 2 || f == 3 || f == 4) = true then .func (.func 68) #[] #[] else if (f == 5 || f == 6) = true then .func (.func 69) #[] #[] else if (f == 15) = true then .func (.func 70) #[] #[] else if (f == 16) = true then .func (.func 71) #[] #[] else if (f == 22) = true then .func (.func 72) #[] #[] else if (f == 23) = true then .func (.func 73) #[] #[] else .nilFunc
set_option maxRecDepth 100000 in
theorem As.ne_func (k : FuncId) (w : World) : Sem.run Try.prog (binOp .neq 70 (.func (.func k) #[] #[]) .nilFunc) w = .ok (.bool true) w := by kernel_rfl
set_option maxRecDepth 100000 in
theorem As.ne_nil (w : World) : Sem.run Try.prog (binOp .neq 70 .nilFunc .nilFunc) w = .ok (.bool false) w := by kernel_rfl
set_option maxRecDepth 100000 in
theorem As.eq_func (k : FuncId) (w : World) : Sem.run Try.prog (binOp .eql 70 (.func (.func k) #[] #[]) .nilFunc) w = .ok (.bool false) w := by kernel_rfl
set_option maxRecDepth 100000 in
theorem As.eq_nil (w : World) : Sem.run Try.prog (binOp .eql 70 .nilFunc .nilFunc) w = .ok (.bool true) w := by kernel_rfl
set_option maxHeartbeats 4000000 in
set_option maxRecDepth 100000 in
theorem As.taker {f : Int} {w : World} {v : Value} (hv : As.take f = v) : Calls Try.prog 47 #[.int .i64 f] w fun e w' => e = .returned v ∧ Below w.heap.size w w' := by
  subst hv
  have HB := Aside0.mk (Below.refl w.heap.size w)
  rcases As.cases f with ⟨dk, d1, d2, d3, d4, d5, d6, d15, d16, d22, d23⟩ | ⟨dk, d1, d2, d3, d4, d5, d6, d15, d16, d22, d23⟩ | ⟨dk, d1, d2, d3, d4, d5, d6, d15, d16, d22, d23⟩ | ⟨dk, d1, d2, d3, d4, d5, d6, d15, d16, d22, d23⟩ | ⟨dk, d1, d2, d3, d4, d5, d6, d15, d16, d22, d23⟩ | ⟨dk, d1, d2, d3, d4, d5, d6, d15, d16, d22, d23⟩ | ⟨dk, d1, d2, d3, d4, d5, d6, d15, d16, d22, d23⟩ | ⟨dk, d1, d2, d3, d4, d5, d6, d15, d16, d22, d23⟩ | ⟨dk, d1, d2, d3, d4, d5, d6, d15, d16, d22, d23⟩ | ⟨dk, d1, d2, d3, d4, d5, d6, d15, d16, d22, d23⟩ | ⟨dk, d1, d2, d3, d4, d5, d6, d15, d16, d22, d23⟩
  all_goals
    go_enter Try.func47, Try.ntmps47
    go_wp2
    go_ret
    refine ⟨?_, HB.out⟩
    simp only [As.take, d1, d2, d3, d4, d5, d6, d15, d16, d22, d23, Bool.false_or, Bool.or_false, Bool.true_or, Bool.or_true, Bool.false_eq_true, if_true, if_false]
    rfl
set_option maxHeartbeats 4000000 in
set_option maxRecDepth 100000 in
theorem As.knows {f : Int} {w : World} {b : Bool} (hb0 : As.known f = b) : Calls Try.prog 16 #[.int .i64 f] w fun e w' => e = .returned (.bool b) ∧ Below w.heap.size w w' := by
  have HB := Aside0.mk (Below.refl w.heap.size w)
  rcases As.cases f with ⟨dk, d1, d2, d3, d4, d5, d6, d15, d16, d22, d23⟩ | ⟨dk, d1, d2, d3, d4, d5, d6, d15, d16, d22, d23⟩ | ⟨dk, d1, d2, d3, d4, d5, d6, d15, d16, d22, d23⟩ | ⟨dk, d1, d2, d3, d4, d5, d6, d15, d16, d22, d23⟩ | ⟨dk, d1, d2, d3, d4, d5, d6, d15, d16, d22, d23⟩ | ⟨dk, d1, d2, d3, d4, d5, d6, d15, d16, d22, d23⟩ | ⟨dk, d1, d2, d3, d4, d5, d6, d15, d16, d22, d23⟩ | ⟨dk, d1, d2, d3, d4, d5, d6, d15, d16, d22, d23⟩ | ⟨dk, d1, d2, d3, d4, d5, d6, d15, d16, d22, d23⟩ | ⟨dk, d1, d2, d3, d4, d5, d6, d15, d16, d22, d23⟩ | ⟨dk, d1, d2, d3, d4, d5, d6, d15, d16, d22, d23⟩
  all_goals
    obtain rfl := dk.symm.trans hb0
    clear hb0
    have hn1 := As.ne_func
    have hn2 := As.ne_nil
    have hv2 : As.take f = As.take f := rfl
    conv at hv2 => rhs; simp only [As.take, d1, d2, d3, d4, d5, d6, d15, d16, d22, d23, Bool.false_or, Bool.or_false, Bool.true_or, Bool.or_true, Bool.false_eq_true, if_true, if_false]
    go_enter Try.func16, Try.ntmps16
    go_wp2_with (first
      | (go_at_call 47; (with_reducible refine (As.taker hv2).mono ?_); rintro r w2 ⟨rfl, hb⟩; have n0_ := Aside0.mk (below_step HB.out hb); clear HB hb; have HB := n0_; clear n0_))
    go_ret
    exact ⟨rfl, HB.out⟩
theorem As.leaves (x : S25) : (As.known x.f0 = true ∧ (x.f0 == 1) = true ∧ (x.f0 == 2) = false ∧ (x.f0 == 3) = false ∧ (x.f0 == 4) = false ∧ (x.f0 == 5) = false ∧ (x.f0 == 6) = false ∧ (x.f0 == 15) = false ∧ (x.f0 == 16) = false ∧ (x.f0 == 22) = false ∧ (x.f0 == 23) = false ∧ As.asked x = As.in x.f2 1 2000) ∨ (As.known x.f0 = true ∧ (x.f0 == 1) = false ∧ (x.f0 == 2) = true ∧ (x.f0 == 3) = false ∧ (x.f0 == 4) = false ∧ (x.f0 == 5) = false ∧ (x.f0 == 6) = false ∧ (x.f0 == 15) = false ∧ (x.f0 == 16) = false ∧ (x.f0 == 22) = false ∧ (x.f0 == 23) = false ∧ As.asked x = As.in x.f2 1 2000) ∨ (As.known x.f0 = true ∧ (x.f0 == 1) = false ∧ (x.f0 == 2) = false ∧ (x.f0 == 3) = true ∧ (x.f0 == 4) = false ∧ (x.f0 == 5) = false ∧ (x.f0 == 6) = false ∧ (x.f0 == 15) = false ∧ (x.f0 == 16) = false ∧ (x.f0 == 22) = false ∧ (x.f0 == 23) = false ∧ As.asked x = As.in x.f2 1 125) ∨ (As.known x.f0 = true ∧ (x.f0 == 1) = false ∧ (x.f0 == 2) = false ∧ (x.f0 == 3) = false ∧ (x.f0 == 4) = true ∧ (x.f0 == 5) = false ∧ (x.f0 == 6) = false ∧ (x.f0 == 15) = false ∧ (x.f0 == 16) = false ∧ (x.f0 == 22) = false ∧ (x.f0 == 23) = false ∧ As.asked x = As.in x.f2 1 125) ∨ (As.known x.f0 = true ∧ (x.f0 == 1) = false ∧ (x.f0 == 2) = false ∧ (x.f0 == 3) = false ∧ (x.f0 == 4) = false ∧ (x.f0 == 5) = true ∧ (x.f0 == 6) = false ∧ (x.f0 == 15) = false ∧ (x.f0 == 16) = false ∧ (x.f0 == 22) = false ∧ (x.f0 == 23) = false ∧ As.asked x = true ∧ (x.f3 == 0) = true) ∨ (As.known x.f0 = true ∧ (x.f0 == 1) = false ∧ (x.f0 == 2) = false ∧ (x.f0 == 3) = false ∧ (x.f0 == 4) = false ∧ (x.f0 == 5) = true ∧ (x.f0 == 6) = false ∧ (x.f0 == 15) = false ∧ (x.f0 == 16) = false ∧ (x.f0 == 22) = false ∧ (x.f0 == 23) = false ∧ As.asked x = (x.f3 == 65280) ∧ (x.f3 == 0) = false) ∨ (As.known x.f0 = true ∧ (x.f0 == 1) = false ∧ (x.f0 == 2) = false ∧ (x.f0 == 3) = false ∧ (x.f0 == 4) = false ∧ (x.f0 == 5) = false ∧ (x.f0 == 6) = true ∧ (x.f0 == 15) = false ∧ (x.f0 == 16) = false ∧ (x.f0 == 22) = false ∧ (x.f0 == 23) = false ∧ As.asked x = As.in x.f3 0 65535) ∨ (As.known x.f0 = true ∧ (x.f0 == 1) = false ∧ (x.f0 == 2) = false ∧ (x.f0 == 3) = false ∧ (x.f0 == 4) = false ∧ (x.f0 == 5) = false ∧ (x.f0 == 6) = false ∧ (x.f0 == 15) = true ∧ (x.f0 == 16) = false ∧ (x.f0 == 22) = false ∧ (x.f0 == 23) = false ∧ As.asked x = false ∧ As.in x.f2 1 1968 = false) ∨ (As.known x.f0 = true ∧ (x.f0 == 1) = false ∧ (x.f0 == 2) = false ∧ (x.f0 == 3) = false ∧ (x.f0 == 4) = false ∧ (x.f0 == 5) = false ∧ (x.f0 == 6) = false ∧ (x.f0 == 15) = true ∧ (x.f0 == 16) = false ∧ (x.f0 == 22) = false ∧ (x.f0 == 23) = false ∧ As.asked x = ((x.f8.length : Int) == x.f2) ∧ As.in x.f2 1 1968 = true) ∨ (As.known x.f0 = true ∧ (x.f0 == 1) = false ∧ (x.f0 == 2) = false ∧ (x.f0 == 3) = false ∧ (x.f0 == 4) = false ∧ (x.f0 == 5) = false ∧ (x.f0 == 6) = false ∧ (x.f0 == 15) = false ∧ (x.f0 == 16) = true ∧ (x.f0 == 22) = false ∧ (x.f0 == 23) = false ∧ As.asked x = false ∧ As.in x.f2 1 123 = false) ∨ (As.known x.f0 = true ∧ (x.f0 == 1) = false ∧ (x.f0 == 2) = false ∧ (x.f0 == 3) = false ∧ (x.f0 == 4) = false ∧ (x.f0 == 5) = false ∧ (x.f0 == 6) = false ∧ (x.f0 == 15) = false ∧ (x.f0 == 16) = true ∧ (x.f0 == 22) = false ∧ (x.f0 == 23) = false ∧ As.asked x = ((x.f9.length : Int) == x.f2) ∧ As.in x.f2 1 123 = true) ∨ (As.known x.f0 = true ∧ (x.f0 == 1) = false ∧ (x.f0 == 2) = false ∧ (x.f0 == 3) = false ∧ (x.f0 == 4) = false ∧ (x.f0 == 5) = false ∧ (x.f0 == 6) = false ∧ (x.f0 == 15) = false ∧ (x.f0 == 16) = false ∧ (x.f0 == 22) = true ∧ (x.f0 == 23) = false ∧ As.asked x = false ∧ As.in x.f4 0 65535 = false) ∨ (As.known x.f0 = true ∧ (x.f0 == 1) = false ∧ (x.f0 == 2) = false ∧ (x.f0 == 3) = false ∧ (x.f0 == 4) = false ∧ (x.f0 == 5) = false ∧ (x.f0 == 6) = false ∧ (x.f0 == 15) = false ∧ (x.f0 == 16) = false ∧ (x.f0 == 22) = true ∧ (x.f0 == 23) = false ∧ As.asked x = As.in x.f5 0 65535 ∧ As.in x.f4 0 65535 = true) ∨ (As.known x.f0 = true ∧ (x.f0 == 1) = false ∧ (x.f0 == 2) = false ∧ (x.f0 == 3) = false ∧ (x.f0 == 4) = false ∧ (x.f0 == 5) = false ∧ (x.f0 == 6) = false ∧ (x.f0 == 15) = false ∧ (x.f0 == 16) = false ∧ (x.f0 == 22) = false ∧ (x.f0 == 23) = true ∧ As.asked x = false ∧ As.in x.f6 0 65535 = false) ∨ (As.known x.f0 = true ∧ (x.f0 == 1) = false ∧ (x.f0 == 2) = false ∧ (x.f0 == 3) = false ∧ (x.f0 == 4) = false ∧ (x.f0 == 5) = false ∧ (x.f0 == 6) = false ∧ (x.f0 == 15) = false ∧ (x.f0 == 16) = false ∧ (x.f0 == 22) = false ∧ (x.f0 == 23) = true ∧ As.asked x = false ∧ As.in x.f6 0 65535 = true ∧ As.in x.f7 1 125 = false) ∨ (As.known x.f0 = true ∧ (x.f0 == 1) = false ∧ (x.f0 == 2) = false ∧ (x.f0 == 3) = false ∧ (x.f0 == 4) = false ∧ (x.f0 == 5) = false ∧ (x.f0 == 6) = false ∧ (x.f0 == 15) = false ∧ (x.f0 == 16) = false ∧ (x.f0 == 22) = false ∧ (x.f0 == 23) = true ∧ As.asked x = false ∧ As.in x.f6 0 65535 = true ∧ As.in x.f7 1 125 = true ∧ As.in x.f2 1 121 = false) ∨ (As.known x.f0 = true ∧ (x.f0 == 1) = false ∧ (x.f0 == 2) = false ∧ (x.f0 == 3) = false ∧ (x.f0 == 4) = false ∧ (x.f0 == 5) = false ∧ (x.f0 == 6) = false ∧ (x.f0 == 15) = false ∧ (x.f0 == 16) = false ∧ (x.f0 == 22) = false ∧ (x.f0 == 23) = true ∧ As.asked x = ((x.f9.length : Int) == x.f2) ∧ As.in x.f6 0 65535 = true ∧ As.in x.f7 1 125 = true ∧ As.in x.f2 1 121 = true) ∨ (As.known x.f0 = false ∧ (x.f0 == 1) = false ∧ (x.f0 == 2) = false ∧ (x.f0 == 3) = false ∧ (x.f0 == 4) = false ∧ (x.f0 == 5) = false ∧ (x.f0 == 6) = false ∧ (x.f0 == 15) = false ∧ (x.f0 == 16) = false ∧ (x.f0 == 22) = false ∧ (x.f0 == 23) = false ∧ As.asked x = false) := by
  rcases As.cases x.f0 with ⟨dk, d1, d2, d3, d4, d5, d6, d15, d16, d22, d23⟩ | ⟨dk, d1, d2, d3, d4, d5, d6, d15, d16, d22, d23⟩ | ⟨dk, d1, d2, d3, d4, d5, d6, d15, d16, d22, d23⟩ | ⟨dk, d1, d2, d3, d4, d5, d6, d15, d16, d22, d23⟩ | ⟨dk, d1, d2, d3, d4, d5, d6, d15, d16, d22, d23⟩ | ⟨dk, d1, d2, d3, d4, d5, d6, d15, d16, d22, d23⟩ | ⟨dk, d1, d2, d3, d4, d5, d6, d15, d16, d22, d23⟩ | ⟨dk, d1, d2, d3, d4, d5, d6, d15, d16, d22, d23⟩ | ⟨dk, d1, d2, d3, d4, d5, d6, d15, d16, d22, d23⟩ | ⟨dk, d1, d2, d3, d4, d5, d6, d15, d16, d22, d23⟩ | ⟨dk, d1, d2, d3, d4, d5, d6, d15, d16, d22, d23⟩
  · exact .inl ⟨dk, d1, d2, d3, d4, d5, d6, d15, d16, d22, d23, by simp only [As.asked, d1, d2, d3, d4, d5, d6, d15, d16, d22, d23, Bool.false_or, Bool.or_false, Bool.true_or, Bool.or_true, Bool.false_eq_true, if_true, if_false, Bool.true_and, Bool.false_and, Bool.and_true]⟩
  · exact .inr (.inl ⟨dk, d1, d2, d3, d4, d5, d6, d15, d16, d22, d23, by simp only [As.asked, d1, d2, d3, d4, d5, d6, d15, d16, d22, d23, Bool.false_or, Bool.or_false, Bool.true_or, Bool.or_true, Bool.false_eq_true, if_true, if_false, Bool.true_and, Bool.false_and, Bool.and_true]⟩)
  · exact .inr (.inr (.inl ⟨dk, d1, d2, d3, d4, d5, d6, d15, d16, d22, d23, by simp only [As.asked, d1, d2, d3, d4, d5, d6, d15, d16, d22, d23, Bool.false_or, Bool.or_false, Bool.true_or, Bool.or_true, Bool.false_eq_true, if_true, if_false, Bool.true_and, Bool.false_and, Bool.and_true]⟩))
  · exact .inr (.inr (.inr (.inl ⟨dk, d1, d2, d3, d4, d5, d6, d15, d16, d22, d23, by simp only [As.asked, d1, d2, d3, d4, d5, d6, d15, d16, d22, d23, Bool.false_or, Bool.or_false, Bool.true_or, Bool.or_true, Bool.false_eq_true, if_true, if_false, Bool.true_and, Bool.false_and, Bool.and_true]⟩)))
  · rcases Bool.eq_false_or_eq_true ((x.f3 == 0)) with q1 | q1
    · exact .inr (.inr (.inr (.inr (.inl ⟨dk, d1, d2, d3, d4, d5, d6, d15, d16, d22, d23, by simp only [As.asked, d1, d2, d3, d4, d5, d6, d15, d16, d22, d23, Bool.false_or, Bool.or_false, Bool.true_or, Bool.or_true, Bool.false_eq_true, if_true, if_false, q1, Bool.true_and, Bool.false_and, Bool.and_true], q1⟩))))
    exact .inr (.inr (.inr (.inr (.inr (.inl ⟨dk, d1, d2, d3, d4, d5, d6, d15, d16, d22, d23, by simp only [As.asked, d1, d2, d3, d4, d5, d6, d15, d16, d22, d23, Bool.false_or, Bool.or_false, Bool.true_or, Bool.or_true, Bool.false_eq_true, if_true, if_false, q1, Bool.true_and, Bool.false_and, Bool.and_true], q1⟩)))))
  · exact .inr (.inr (.inr (.inr (.inr (.inr (.inl ⟨dk, d1, d2, d3, d4, d5, d6, d15, d16, d22, d23, by simp only [As.asked, d1, d2, d3, d4, d5, d6, d15, d16, d22, d23, Bool.false_or, Bool.or_false, Bool.true_or, Bool.or_true, Bool.false_eq_true, if_true, if_false, Bool.true_and, Bool.false_and, Bool.and_true]⟩))))))
  · rcases Bool.eq_false_or_eq_true (As.in x.f2 1 1968) with q1 | q1
    rotate_left
    · exact .inr (.inr (.inr (.inr (.inr (.inr (.inr (.inl ⟨dk, d1, d2, d3, d4, d5, d6, d15, d16, d22, d23, by simp only [As.asked, d1, d2, d3, d4, d5, d6, d15, d16, d22, d23, Bool.false_or, Bool.or_false, Bool.true_or, Bool.or_true, Bool.false_eq_true, if_true, if_false, q1, Bool.true_and, Bool.false_and, Bool.and_true], q1⟩)))))))
    exact .inr (.inr (.inr (.inr (.inr (.inr (.inr (.inr (.inl ⟨dk, d1, d2, d3, d4, d5, d6, d15, d16, d22, d23, by simp only [As.asked, d1, d2, d3, d4, d5, d6, d15, d16, d22, d23, Bool.false_or, Bool.or_false, Bool.true_or, Bool.or_true, Bool.false_eq_true, if_true, if_false, q1, Bool.true_and, Bool.false_and, Bool.and_true], q1⟩))))))))
  · rcases Bool.eq_false_or_eq_true (As.in x.f2 1 123) with q1 | q1
    rotate_left
    · exact .inr (.inr (.inr (.inr (.inr (.inr (.inr (.inr (.inr (.inl ⟨dk, d1, d2, d3, d4, d5, d6, d15, d16, d22, d23, by simp only [As.asked, d1, d2, d3, d4, d5, d6, d15, d16, d22, d23, Bool.false_or, Bool.or_false, Bool.true_or, Bool.or_true, Bool.false_eq_true, if_true, if_false, q1, Bool.true_and, Bool.false_and, Bool.and_true], q1⟩)))))))))
    exact .inr (.inr (.inr (.inr (.inr (.inr (.inr (.inr (.inr (.inr (.inl ⟨dk, d1, d2, d3, d4, d5, d6, d15, d16, d22, d23, by simp only [As.asked, d1, d2, d3, d4, d5, d6, d15, d16, d22, d23, Bool.false_or, Bool.or_false, Bool.true_or, Bool.or_true, Bool.false_eq_true, if_true, if_false, q1, Bool.true_and, Bool.false_and, Bool.and_true], q1⟩))))))))))
  · rcases Bool.eq_false_or_eq_true (As.in x.f4 0 65535) with q1 | q1
    rotate_left
    · exact .inr (.inr (.inr (.inr (.inr (.inr (.inr (.inr (.inr (.inr (.inr (.inl ⟨dk, d1, d2, d3, d4, d5, d6, d15, d16, d22, d23, by simp only [As.asked, d1, d2, d3, d4, d5, d6, d15, d16, d22, d23, Bool.false_or, Bool.or_false, Bool.true_or, Bool.or_true, Bool.false_eq_true, if_true, if_false, q1, Bool.true_and, Bool.false_and, Bool.and_true], q1⟩)))))))))))
    exact .inr (.inr (.inr (.inr (.inr (.inr (.inr (.inr (.inr (.inr (.inr (.inr (.inl ⟨dk, d1, d2, d3, d4, d5, d6, d15, d16, d22, d23, by simp only [As.asked, d1, d2, d3, d4, d5, d6, d15, d16, d22, d23, Bool.false_or, Bool.or_false, Bool.true_or, Bool.or_true, Bool.false_eq_true, if_true, if_false, q1, Bool.true_and, Bool.false_and, Bool.and_true], q1⟩))))))))))))
  · rcases Bool.eq_false_or_eq_true (As.in x.f6 0 65535) with q1 | q1
    rotate_left
    · exact .inr (.inr (.inr (.inr (.inr (.inr (.inr (.inr (.inr (.inr (.inr (.inr (.inr (.inl ⟨dk, d1, d2, d3, d4, d5, d6, d15, d16, d22, d23, by simp only [As.asked, d1, d2, d3, d4, d5, d6, d15, d16, d22, d23, Bool.false_or, Bool.or_false, Bool.true_or, Bool.or_true, Bool.false_eq_true, if_true, if_false, q1, Bool.true_and, Bool.false_and, Bool.and_true], q1⟩)))))))))))))
    rcases Bool.eq_false_or_eq_true (As.in x.f7 1 125) with q2 | q2
    rotate_left
    · exact .inr (.inr (.inr (.inr (.inr (.inr (.inr (.inr (.inr (.inr (.inr (.inr (.inr (.inr (.inl ⟨dk, d1, d2, d3, d4, d5, d6, d15, d16, d22, d23, by simp only [As.asked, d1, d2, d3, d4, d5, d6, d15, d16, d22, d23, Bool.false_or, Bool.or_false, Bool.true_or, Bool.or_true, Bool.false_eq_true, if_true, if_false, q1, q2, Bool.true_and, Bool.false_and, Bool.and_true], q1, q2⟩))))))))))))))
    rcases Bool.eq_false_or_eq_true (As.in x.f2 1 121) with q3 | q3
    rotate_left
    · exact .inr (.inr (.inr (.inr (.inr (.inr (.inr (.inr (.inr (.inr (.inr (.inr (.inr (.inr (.inr (.inl ⟨dk, d1, d2, d3, d4, d5, d6, d15, d16, d22, d23, by simp only [As.asked, d1, d2, d3, d4, d5, d6, d15, d16, d22, d23, Bool.false_or, Bool.or_false, Bool.true_or, Bool.or_true, Bool.false_eq_true, if_true, if_false, q1, q2, q3, Bool.true_and, Bool.false_and, Bool.and_true], q1, q2, q3⟩)))))))))))))))
    exact .inr (.inr (.inr (.inr (.inr (.inr (.inr (.inr (.inr (.inr (.inr (.inr (.inr (.inr (.inr (.inr (.inl ⟨dk, d1, d2, d3, d4, d5, d6, d15, d16, d22, d23, by simp only [As.asked, d1, d2, d3, d4, d5, d6, d15, d16, d22, d23, Bool.false_or, Bool.or_false, Bool.true_or, Bool.or_true, Bool.false_eq_true, if_true, if_false, q1, q2, q3, Bool.true_and, Bool.false_and, Bool.and_true], q1, q2, q3⟩))))))))))))))))
  · exact .inr (.inr (.inr (.inr (.inr (.inr (.inr (.inr (.inr (.inr (.inr (.inr (.inr (.inr (.inr (.inr (.inr ⟨dk, d1, d2, d3, d4, d5, d6, d15, d16, d22, d23, by simp only [As.asked, d1, d2, d3, d4, d5, d6, d15, d16, d22, d23, Bool.false_or, Bool.or_false, Bool.true_or, Bool.or_true, Bool.false_eq_true, if_true, if_false, Bool.true_and, Bool.false_and, Bool.and_true]⟩))))))))))))))))
set_option maxHeartbeats 4000000 in
set_option maxRecDepth 100000 in
theorem As.asks {w : World} {cs : Array Value} {x : S25} (h : As.V w cs x) {b : Bool} (he : As.asked x = b) : Calls Try.prog 44 #[.agg cs] w fun e w' => e = .returned (.bool b) ∧ Below w.heap.size w w' := by
  obtain ⟨A8, c8, A9, c9, rfl, k8, g8, k9, g9⟩ := As.open h
  have K8 := Aside0.mk k8
  have G8 := Aside0.mk g8
  have K9 := Aside0.mk k9
  have G9 := Aside0.mk g9
  clear h k8 g8 k9 g9
  have hu := Try.underlying25
  have HB := Aside0.mk (Below.refl w.heap.size w)
  rcases As.leaves x with ⟨dk, d1, d2, d3, d4, d5, d6, d15, d16, d22, d23, ha⟩ | ⟨dk, d1, d2, d3, d4, d5, d6, d15, d16, d22, d23, ha⟩ | ⟨dk, d1, d2, d3, d4, d5, d6, d15, d16, d22, d23, ha⟩ | ⟨dk, d1, d2, d3, d4, d5, d6, d15, d16, d22, d23, ha⟩ | ⟨dk, d1, d2, d3, d4, d5, d6, d15, d16, d22, d23, ha, q1⟩ | ⟨dk, d1, d2, d3, d4, d5, d6, d15, d16, d22, d23, ha, q1⟩ | ⟨dk, d1, d2, d3, d4, d5, d6, d15, d16, d22, d23, ha⟩ | ⟨dk, d1, d2, d3, d4, d5, d6, d15, d16, d22, d23, ha, q1⟩ | ⟨dk, d1, d2, d3, d4, d5, d6, d15, d16, d22, d23, ha, q1⟩ | ⟨dk, d1, d2, d3, d4, d5, d6, d15, d16, d22, d23, ha, q1⟩ | ⟨dk, d1, d2, d3, d4, d5, d6, d15, d16, d22, d23, ha, q1⟩ | ⟨dk, d1, d2, d3, d4, d5, d6, d15, d16, d22, d23, ha, q1⟩ | ⟨dk, d1, d2, d3, d4, d5, d6, d15, d16, d22, d23, ha, q1⟩ | ⟨dk, d1, d2, d3, d4, d5, d6, d15, d16, d22, d23, ha, q1⟩ | ⟨dk, d1, d2, d3, d4, d5, d6, d15, d16, d22, d23, ha, q1, q2⟩ | ⟨dk, d1, d2, d3, d4, d5, d6, d15, d16, d22, d23, ha, q1, q2, q3⟩ | ⟨dk, d1, d2, d3, d4, d5, d6, d15, d16, d22, d23, ha, q1, q2, q3⟩ | ⟨dk, d1, d2, d3, d4, d5, d6, d15, d16, d22, d23, ha⟩
  all_goals
    obtain rfl := ha.symm.trans he
    clear ha he
    go_enter Try.func44, Try.ntmps44
    go_wp2_with (first
      | ((with_reducible refine gate_dst (N := 1) rfl ?_); refine box_event ?hg (N := 1) ?hd (cs := #[.int .i64 x.f0, .int .i64 x.f1, .int .i64 x.f2, .int .i64 x.f3, .int .i64 x.f4, .int .i64 x.f5, .int .i64 x.f6, .int .i64 x.f7, .slice A8 x.f8.length c8, .slice A9 x.f9.length c9]) (t := 25) ?hr ?_; (case hd => rfl); (case hg => rfl); (case hr => first | (go_simp; done) | (go_simp; rfl)); intro g1 hg w1 hbox hb; have GEg1 := Aside0.mk ((by rw [hg]; exact HB.out.size) : w.heap.size ≤ g1); have BKg1 := Aside0.mk hbox; clear hbox hg; have n0_ := Aside0.mk (below_step HB.out hb); clear HB; have HB := n0_; clear n0_; (try clear cg1); have cg1 := fun i => blk_cell BKg1.out i; clear hb)
      | (go_at_call 43; (first | (with_reducible refine (As.inc q1).mono ?_) | (with_reducible refine (As.inc q2).mono ?_) | (with_reducible refine (As.inc q3).mono ?_) | (with_reducible refine (As.inc rfl).mono ?_)); rintro r w2 ⟨rfl, hb⟩; have n0_ := Aside0.mk (below_step HB.out hb); have n1_ := Aside0.mk (blk_below BKg1.out hb); clear HB BKg1; have HB := n0_; have BKg1 := n1_; clear n0_ n1_; (try clear cg1); have cg1 := fun i => blk_cell BKg1.out i; clear hb))
    go_ret
    exact ⟨rfl, HB.out⟩

end Go.Proofs.Ytedfbemifigoeaa.P
