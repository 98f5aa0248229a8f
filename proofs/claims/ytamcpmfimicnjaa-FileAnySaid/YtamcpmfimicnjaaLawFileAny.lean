/- The row of the law FileAny: for every input that its parameters can hold it returns true, and each argument reads behind the call as before; out of its plain statement and the contract of its walk. -/
import Derived.Test.YtamcpmfimicnjaaRows
import Derived.Test.YtamcpmfimicnjaaWalkFileAny
import Derived.Test.YtamcpmfimicnjaaPureFileAny
import Derived.Test.YtamcpmfimicnjaaPxo
import Derived.WalkKit
import Derived.ProofKit
import Derived.OpenShut
import Derived.ShutString
import Derived.ChangeOld
import Derived.Below
import Derived.SizedLaws
namespace Go.Proofs.Ytamcpmfimicnjaa.fileAny
open Go.ChangeShapes Go.WideShapes Go.ChangeAt Go.RowKit Go.Proofs.YtamcpmfimicnjaaW.PrintWords Go.Proofs.Ytamcpmfimicnjaa.P
open Go.ChangeMaps (open_string shut_string)
set_option linter.unusedVariables false
set_option linter.unusedSimpArgs false
theorem own : ownKnob Try.prog.godebug = none := by kernel_rfl
theorem laidOut : laidOutB Try.prog = true := by kernel_rfl
set_option maxHeartbeats 1000000 in
set_option maxRecDepth 100000 in
theorem lifted (os : Os) (started : os.Started) (H : Type) (enc : TypeId × Value → H) :
    ReturnsInHanded {} Try.checked os 4 .any (Rows.fileAnySpec.pre6 enc Try.prog Try.f4 Rows.fileAnyRow.domain false) (Rows.fileAnySpec.post enc Try.prog Try.f4 false true false false) := by
  refine returnsInHanded_of_change_sized (C := Try.checked) own started (by kernel_rfl) Try.func4
    (ChangeSpec.witness6 (enc := enc) (C := Try.checked) false ⟨#[], #[.agg #[.int .i64 0, .int .i64 0, .int .i64 0, .int .i64 0, .int .i64 0, .int .i64 0, .int .i64 0, .int .i64 0, .int .i64 0, .int .i64 0, .slice none 0 0, .slice none 0 0, .slice none 0 0, .slice none 0 0], .agg #[.int .i64 0, .int .i64 0, .int .i64 0, .int .i64 0, .int .i64 0, .int .i64 0, .int .i64 0, .int .i64 0, .int .i64 0, .int .i64 0, .slice none 0 0, .slice none 0 0, .slice none 0 0, .slice none 0 0], .agg #[.int .i64 0, .int .i64 0, .int .i64 0, .int .i64 0, .slice none 0 0, .slice none 0 0]], []⟩ 8 (by kernel_rfl) (by kernel_rfl) (by kernel_rfl) (by kernel_rfl)) ?_
  intro W base args ds gs before hval0 hW hcnd hsz0 _
  have hsz : (DataW.weightsEach Try.prog (Try.f4.params.toList ++ Rows.fileAnySpec.plain.varTypes Try.prog) (ds ++ gs)).all (· ≤ reachBytes) = true := hsz0
  have hval : ∀ (j : Nat) t v, Try.f4.params[j]? = some t → args[j]? = some v → Value.okWide Try.prog W .any base t v := hval0
  have hW' := hW
  obtain ⟨p, q, hA0, hV, rfl, hfz, hnd⟩ := hW
  have hA : DataW.TrodAll enc Try.prog W 0 (fun _ => true) true Try.f4.params.toList args.toList ds p := hA0
  rw [Try.params4] at hA hval hsz
  obtain ⟨v0, vs0, d0, ds0, p0, q0, hargs, rfl, rfl, h0, r0⟩ := trodAll_cons hA
  obtain ⟨v1, vs1, d1, ds1, p1, q1, rfl, rfl, rfl, h1, r1⟩ := trodAll_cons r0
  obtain ⟨v2, vs2, d2, ds2, p2, q2, rfl, rfl, rfl, h2, r2⟩ := trodAll_cons r1
  obtain ⟨rfl, rfl, rfl⟩ := trodAll_nil r2
  obtain rfl : args = #[v0, v1, v2] := by cases args; simp_all
  obtain ⟨rfl, rfl⟩ := trodVars_none hV
  have k0 := h0
  have lt0 : ∀ x ∈ p0, x.block < W.heap.size := by obtain ⟨m, hm⟩ := k0; exact DataW.trod_lt m _ _ _ hm
  obtain ⟨cs0, rfl, hsz0_⟩ := okWide_struct Try.underlying31 (hval 0 31 v0 rfl rfl)
  obtain ⟨fu0, hf0⟩ := h0
  obtain ⟨x0, hK0, hQ0⟩ := opn31.2 H enc W 0 _ _ _ _ _ hf0 (Go.Proofs.YtamcpmfimicnjaaW.Opener.weights_arg hsz (j := 0) rfl rfl)
  obtain ⟨A0_10, c0_10, A0_11, c0_11, A0_12, c0_12, A0_13, c0_13, e0, l0_10, g0_10, l0_11, g0_11, l0_12, g0_12, l0_13, g0_13⟩ := k31_open hK0
  obtain rfl := Go.Proofs.YtamcpmfimicnjaaW.Opener.agg_of e0
  have k1 := h1
  have lt1 : ∀ x ∈ p1, x.block < W.heap.size := by obtain ⟨m, hm⟩ := k1; exact DataW.trod_lt m _ _ _ hm
  obtain ⟨cs1, rfl, hsz1_⟩ := okWide_struct Try.underlying31 (hval 1 31 v1 rfl rfl)
  obtain ⟨fu1, hf1⟩ := h1
  obtain ⟨x1, hK1, hQ1⟩ := opn31.2 H enc W 0 _ _ _ _ _ hf1 (Go.Proofs.YtamcpmfimicnjaaW.Opener.weights_arg hsz (j := 1) rfl rfl)
  obtain ⟨A1_10, c1_10, A1_11, c1_11, A1_12, c1_12, A1_13, c1_13, e1, l1_10, g1_10, l1_11, g1_11, l1_12, g1_12, l1_13, g1_13⟩ := k31_open hK1
  obtain rfl := Go.Proofs.YtamcpmfimicnjaaW.Opener.agg_of e1
  have k2 := h2
  have lt2 : ∀ x ∈ p2, x.block < W.heap.size := by obtain ⟨m, hm⟩ := k2; exact DataW.trod_lt m _ _ _ hm
  obtain ⟨cs2, rfl, hsz2_⟩ := okWide_struct Try.underlying37 (hval 2 37 v2 rfl rfl)
  obtain ⟨fu2, hf2⟩ := h2
  obtain ⟨x2, hK2, hQ2⟩ := opn37.2 H enc W 0 _ _ _ _ _ hf2 (Go.Proofs.YtamcpmfimicnjaaW.Opener.weights_arg hsz (j := 2) rfl rfl)
  obtain ⟨A2_4, c2_4, A2_5, c2_5, e2, l2_4, g2_4, l2_5, g2_5⟩ := k37_open hK2
  obtain rfl := Go.Proofs.YtamcpmfimicnjaaW.Opener.agg_of e2
  clear hA0 hval0 hsz0 hsz
  have h := Pure.FileAny x0 x1 x2 hQ0 hQ1 hQ2
  refine (bilgelaw14_FileAny.calls x0.f0.f0.f0 x0.f0.f0.f1 x0.f0.f1.f0 x0.f0.f1.f1 x0.f0.f2.f0 x0.f0.f2.f1 x0.f0.f3.f0 x0.f0.f3.f1 x0.f0.f4.f0 x0.f0.f4.f1 _ _ x0.f1 _ _ x0.f2 _ _ x0.f3 _ _ x0.f4 x1.f0.f0.f0 x1.f0.f0.f1 x1.f0.f1.f0 x1.f0.f1.f1 x1.f0.f2.f0 x1.f0.f2.f1 x1.f0.f3.f0 x1.f0.f3.f1 x1.f0.f4.f0 x1.f0.f4.f1 _ _ x1.f1 _ _ x1.f2 _ _ x1.f3 _ _ x1.f4 x2.f0 x2.f1 x2.f2 x2.f3 _ _ x2.f4 _ _ x2.f5 true W g0_10 l0_10 g0_11 l0_11 g0_12 l0_12 g0_13 l0_13 g1_10 l1_10 g1_11 l1_11 g1_12 l1_12 g1_13 l1_13 g2_4 l2_4 g2_5 l2_5 h).mono fun e W' ⟨he, bel0⟩ => ?_
  have bel : Below W.heap.size W W' := bel0
  subst he
  exact ⟨_, rfl, _, _, _, [], _, [], hW', trodAll_mk1 (shut_bool Try.underlying4 _), (trodAll_cons_mk (Below.trod laidOut (by kernel_rfl) (of_decide_eq_true (by kernel_rfl)) k0 bel lt0) (trodAll_cons_mk (Below.trod laidOut (by kernel_rfl) (of_decide_eq_true (by kernel_rfl)) k1 bel lt1) (trodAll_cons_mk (Below.trod laidOut (by kernel_rfl) (of_decide_eq_true (by kernel_rfl)) k2 bel lt2) trodAll_mk0))), rfl, bel.frame _, fun h => by cases h⟩
theorem over : Rows.fileAnyRow.holds Try.pinned (OpenSpec.ofChange Rows.fileAnySpec) :=
  OpenClaim.holds_of_wide 4 Try.f4 rfl rfl rfl rfl rfl rfl rfl ⟨rfl, rfl, rfl, rfl, rfl⟩ rfl rfl rfl rfl rfl (by kernel_rfl) Try.func4 (by kernel_rfl)
    (of_decide_eq_true (by kernel_rfl)) (by unfold Func.isWrapper; first | (rw [if_pos (by decide +kernel)]; kernel_rfl) | (rw [if_neg (by decide +kernel)]; exact ⟨rfl, rfl⟩))
    (fun os started H enc _ => lifted os started H enc)
theorem proved : Rows.FileAnySaid := over
end Go.Proofs.Ytamcpmfimicnjaa.fileAny
namespace Go.Proofs.Ytamcpmfimicnjaa
/-- The row, under a short name, for the claim. -/
theorem fileAny_holds : Rows.FileAnySaid := fileAny.proved
end Go.Proofs.Ytamcpmfimicnjaa
