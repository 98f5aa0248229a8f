/- Small words for the functions whose contracts are proved by hand. By the session's agent. -/
import Derived.Test.YtedfbemifigoeaaWWords
import Derived.WalkKit
import Derived.Deep.DeepFit
import Derived.Laws.IdiomCopy
import Derived.WalkSpells
import Derived.Deep.QuietTactic
import Derived.StillTailTactics
import Derived.Deep.CutRange
import Derived.Deep.CutBlock
import Derived.BigQuiet
namespace Go.Proofs.YtedfbemifigoeaaW.X
open Go.RowKit Go.Proofs.YtedfbemifigoeaaW.PrintWords Go.Proofs.YtedfbemifigoeaaW.PrintWords.Kd
/-- Behind a call that makes memory: all old cells and marks read as before. -/
theorem bcell {W w1 : World} (hb : Below W.heap.size W w1) : (∀ b o, b < W.heap.size → w1.cell? ⟨b, o, none⟩ = W.cell? ⟨b, o, none⟩) ∧ (∀ b o, b < W.heap.size → w1.frozen? ⟨b, o, none⟩ = W.frozen? ⟨b, o, none⟩) :=
  ⟨fun b o h => hb.cell (p := ⟨b, o, none⟩) h, fun b o h => hb.frozen (p := ⟨b, o, none⟩) h⟩

section
variable {P : Program} {ops : Array Oper} {rest : List Oper} {o : Oper} {a : Act} {Q : Exit → Act → World → Prop} {W : World}
/-- copy(v[k:], ys), v a row of scalars of one's own: its cells from k on are ys' then. 'B' is what the cut's address is. -/
theorem R_copyAt {α : Type} {enc : α → Value} {h1 : ∀ x, (enc x).oneCell' = true} (d : α) {w0 : World} (base : Nat) (hgd : o.guard = none) (s x : Operand) (t t' e : TypeId)
    (ho : o.op = .call { callee := .builtin .copy, args := #[s, x], argTypes := #[t, t'] }) (ht : P.underlying t = some (.slice e)) (hinfo : (P.info? e).map (·.size) = some 1)
    (Ao : Option Addr) (co : Nat) (xs ys : List α) (k : Nat) (hk : k ≤ xs.length) (B : Option Addr) (hB : (if co = k then Ao else Ao.map (·.add (k * 1))) = B) (A : Option Addr) (m c : Nat) (ok : Nat → Prop) (hs : a.eval s = .slice B (xs.length - k) (co - k)) (hx : a.eval x = .slice A m c)
    (HO : (scalar enc h1).R e W base ok (.slice Ao xs.length co) xs) (HR : (scalar enc h1).C W A m ys) (HB : Below base w0 W) (hbase : base ≤ W.heap.size)
    (h : ∀ w1, (scalar enc h1).R e w1 base ok (.slice Ao xs.length co) (xs.take k ++ ys.take (min m (xs.length - k)) ++ xs.drop (k + min m (xs.length - k))) → Below base w0 w1 → W.grownBy w1 (Value.slice Ao xs.length co).ownBlock → wpList P ops Q rest (a.put o.dst (.int .i64 ((min m (xs.length - k) : Nat) : Int))) w1) :
    wpList P ops Q (o :: rest) a W := by
  have hR := reads_of_C (enc := enc) (d := d) (h1 := h1) HR
  have hm : ys.length = m := hR.1
  have hown := own_of_R HO
  have fin : ∀ w1, (Builtin.copy_ #[t, t'] o.type #[.slice B (xs.length - k) (co - k), .slice A m c]).run P W = .ok (goInt ((min m (xs.length - k) : Nat) : Int)) w1 → (scalar enc h1).R e w1 base ok (.slice Ao xs.length co) (xs.take k ++ ys.take (min m (xs.length - k)) ++ xs.drop (k + min m (xs.length - k))) → W.grownBy w1 (Value.slice Ao xs.length co).ownBlock → wpList P ops Q (o :: rest) a W := by
    intro w1 hr hrow hg
    refine wpList_plain hgd fun K hK => ?_
    unfold Oper.wp execOp
    simp only [ho, resolve, invoke, builtin, Sem.run_bind, Sem.run_pure, Result.andThen_ok, List.map_toArray, List.map_cons, List.map_nil, hs, hx, hr]
    exact hK _ _ (h w1 hrow (HB.grown hg hbase (own_base hown)) hg)
  rcases Nat.eq_zero_or_pos (min m (xs.length - k)) with h0 | hp
  · refine fin W ?_ (by rw [h0, List.take_zero, Nat.add_zero, List.append_nil, List.take_append_drop]; exact HO) (World.grownBy.refl W _)
    rw [h0]
    exact run_copy_none W t t' o.type e B A (xs.length - k) (co - k) m c ht hinfo h0
  · obtain ⟨ad, hA, hc⟩ := hR.2.2 (by omega)
    rcases hown.2 with ⟨_, hx0⟩ | ⟨g, cap, cur, hv, hb, hh, hnc, hcm, hcs, htake⟩
    · omega
    injection hv with hv1 hv2 hv3
    subst hv1
    subst hv3
    have hBg : B = some ⟨g, k, none⟩ := by
      rw [← hB, if_neg (by omega)]
      simp only [Option.map_some, Nat.mul_one, Addr.add]
      by_cases hk0 : k = 0
      · simp [hk0]
      · simp [hk0]
    have hsrc : ∀ j u, (encs enc (ys.take (min m (xs.length - k))))[j]? = some u → W.cell? (ad.add j) = some u := by
      intro j u hu
      have hj : j < (ys.take (min m (xs.length - k))).length := by
        rcases Nat.lt_or_ge j (ys.take (min m (xs.length - k))).length with h | h
        · exact h
        · rw [List.getElem?_eq_none (by rw [encs_length]; exact h)] at hu
          cases hu
      have hjm : j < min m (xs.length - k) := by rw [List.length_take] at hj; omega
      rw [encs_get (d := d) _ j hj] at hu
      rw [hc j (by omega), ← hu]
      simp [List.getD_eq_getElem?_getD, hjm]
    have hkl : (encs enc (ys.take (min m (xs.length - k)))).length = min m (xs.length - k) := by rw [encs_length, List.length_take]; omega
    have hr := run_copy_cells (P := P) W t t' o.type e g k (xs.length - k) (co - k) ad m c (encs enc (ys.take (min m (xs.length - k)))) ht hinfo (by rw [hkl]) hsrc
      (fun j hj => by rw [cell_of_row W g _ cur e (0, 0) hh]; simp; omega) (fun j _ => blk_frozen hh _) (by intro u hu; simp only [encs, List.mem_map] at hu; obtain ⟨q, _, rfl⟩ := hu; exact h1 q)
    obtain ⟨cur', h3, h4, h5⟩ := setCells_row (encs enc (ys.take (min m (xs.length - k)))) k W cur hh (by rw [hkl]; omega)
    obtain ⟨s1, s2, s3, s4⟩ := setCells_same g (encs enc (ys.take (min m (xs.length - k)))) k W
    refine fin _ (by rw [hBg, hA, hr, hkl]) (R_of_own ?_ HO.1) ⟨s1, s2, s3, by rw [s4]; exact Nat.le_refl _, fun q _ hq => setCells_far _ _ q (fun he => hq (by rw [he]; simp [Value.ownBlock]))⟩
    have hln : (xs.take k ++ ys.take (min m (xs.length - k)) ++ xs.drop (k + min m (xs.length - k))).length = xs.length := by
      rw [List.length_append, List.length_append, List.length_take, List.length_take, List.length_drop]
      omega
    rw [hln]
    refine ⟨by rw [encs_length, hln, Nat.mul_one], .inr ⟨g, co, cur', rfl, hb, h3, hnc, hcm, by rw [h4, hcs], ?_⟩⟩
    have htk : cur.toList.take xs.length = encs enc xs := by rw [← htake, Nat.mul_one]
    have hcl : cur.toList.length = co := by simpa using hcs
    rw [h5, hkl, Nat.mul_one]
    apply List.ext_getElem?
    intro j
    have hget : ∀ q, q < xs.length → cur.toList[q]? = (encs enc xs)[q]? := by
      intro q hq
      rw [← htk, List.getElem?_take, if_pos hq]
    rcases Nat.lt_or_ge j xs.length with hj | hj
    · rw [List.getElem?_take, if_pos hj]
      simp only [encs, List.map_append, List.map_take, List.map_drop]
      simp only [encs] at hget
      have e1 : (List.take k cur.toList).length = k := by rw [List.length_take]; omega
      have e2 : (List.take k (List.map enc xs)).length = k := by rw [List.length_take, List.length_map]; omega
      have e3 : (List.take (min m (xs.length - k)) (List.map enc ys)).length = min m (xs.length - k) := by rw [List.length_take, List.length_map]; omega
      rw [List.append_assoc, List.append_assoc]
      simp only [List.getElem?_append, e1, e2, e3]
      by_cases h6 : j < k
      · simp only [h6, if_true, List.getElem?_take]
        exact hget j hj
      · by_cases h7 : j - k < min m (xs.length - k)
        · simp only [h6, h7, if_true, if_false]
        · simp only [h6, h7, if_false, List.getElem?_drop]
          exact hget _ (by omega)
    · rw [List.getElem?_eq_none (by rw [List.length_take]; omega), List.getElem?_eq_none (by rw [encs_length, hln]; exact hj)]
end
end Go.Proofs.YtedfbemifigoeaaW.X
