/- The pure statement of BitsBack: what was packed is unpacked, and is tidy; what is tidy, unpacked and packed again, is those bytes; as many ones as are set. -/
import Derived.Test.YtnaedmakkefdfaaPx4
import Derived.Test.YtnaedmakkefdfaaPx2
import Derived.Test.YtnaedmakkefdfaaLBitsBack
import Derived.Test.YtnaedmakkefdfaaLSameB
import Derived.Test.YtnaedmakkefdfaaLSameY
namespace Go.Proofs.Ytnaedmakkefdfaa.Pure
open Go.RowKit Go.Proofs.Ytnaedmakkefdfaa.P Go.Proofs.YtnaedmakkefdfaaW.PrintWords Go.Proofs.YtnaedmakkefdfaaW.PrintLast Go.Proofs.Ytnaedmakkefdfaa.L
set_option maxRecDepth 100000 in
theorem sure02b : ∃ K, ∀ k, K ≤ k → bilgelaw02_sure.f k = some true :=
  Ev.of (g := fun k => bilgelaw02_sure.f k) (fun k => bilgelaw02_sure.mono k) (k := 20) (by decide +kernel)

theorem BitsBack : bilgelaw02_BitsBack.Pure := by
  intro l b n hl hb hn
  replace hn := i64_of hn
  have hl0 : l.length * 1 ≤ 140737488351232 := hl.2.1
  have hb0 : b.length * 1 ≤ 140737488351232 := hb.2.1
  have hby : ∀ x ∈ b, U8 x := fun x hx => u8_of (hb.2.2 x hx)
  obtain ⟨K, hK⟩ := sure02b
  refine ⟨K + 100002, ?_⟩
  unfold bilgelaw02_BitsBack.f
  by_cases h1 : (l.length : Int) > 2500
  · rw [if_pos h1]
    simp only [bilgelaw02_BitsBack.j0, if_true]
    rw [hK _ (by omega)]; rfl
  · rw [if_neg h1]
    by_cases h2 : (b.length : Int) > 400
    · simp only [bilgelaw02_BitsBack.j0, h2, decide_true, if_true]
      rw [hK _ (by omega)]; rfl
    · simp only [bilgelaw02_BitsBack.j0, h2, decide_false, Bool.false_eq_true, if_false]
      have hp := pk_len l
      have hs : szN l.length ≤ 1000 := by unfold szN; omega
      have hln : I64 (l.length : Int) := by constructor <;> omega
      rw [pack_eq (by omega) (by omega), Option.bind_some, unpack_eq (pk_u8 l) hln (by omega) (by omega), Option.bind_some, upkS_pk, if_pos rfl, same_eq (by omega) (by omega), Option.bind_some, decide_eq_true rfl, if_pos rfl]
      obtain ⟨t, e, i⟩ := tidy_eq (pk_u8 l) hln (by omega)
      rw [e, Option.bind_some, if_pos (i.mpr (tdP_pk l)), size_eq hln, Option.bind_some, szI_nat, hp]
      simp only [bilgelaw02_BitsBack.j1, bne_self_eq_false, Bool.false_eq_true, if_false]
      rw [unpack_eq hby hn (by omega) (by omega), Option.bind_some]
      obtain ⟨t1, e1, i1⟩ := tidy_eq hby hn (by omega)
      by_cases h3 : n < 0
      · have eu : upkS b n = ([], 11) := by unfold upkS; rw [if_pos h3]
        have et : ¬ t1 = true := fun h => by have := (i1.mp h).1; omega
        rw [eu, if_neg (by decide), if_pos (by decide), e1, Option.bind_some, if_neg et, hK _ (by omega)]
        rfl
      · by_cases h4 : (b.length : Int) < szI n
        · have eu : upkS b n = ([], 12) := by unfold upkS; rw [if_neg h3, if_pos h4]
          have et : ¬ t1 = true := fun h => by have := (i1.mp h).2.1; omega
          rw [eu, if_neg (by decide), if_pos (by decide), e1, Option.bind_some, if_neg et, hK _ (by omega)]
          rfl
        · by_cases h5 : (b.length : Int) > szI n
          · have eu : upkS b n = ([], 13) := by unfold upkS; rw [if_neg h3, if_neg h4, if_pos h5]
            have et : ¬ t1 = true := fun h => by have := (i1.mp h).2.1; omega
            rw [eu, if_neg (by decide), if_pos (by decide), e1, Option.bind_some, if_neg et, hK _ (by omega)]
            rfl
          · have eu : upkS b n = (upk b n.toNat, 0) := by unfold upkS; rw [if_neg h3, if_neg h4, if_neg h5]
            obtain ⟨n, rfl⟩ := Int.eq_ofNat_of_zero_le (Int.not_lt.mp h3)
            rw [Int.toNat_natCast] at eu
            rw [szI_nat] at h4 h5
            have hlen : b.length = szN n := by omega
            have hul := upk_len b n
            have hn8 : n ≤ 3200 := by unfold szN at hlen; omega
            have hpk := pk_len (upk b n)
            rw [hul] at hpk
            have hc : (upk b n).count true ≤ (upk b n).length := List.count_le_length
            have key := pk_upk hby hlen
            simp only [eu, if_true]
            rw [pack_eq (by omega) (by omega), Option.bind_some, bytes_eq (by omega) (by omega), Option.bind_some, e1, Option.bind_some]
            have et : (decide (pk (upk b n) = b) == t1) = true := by
              have := key.trans i1.symm
              cases t1 <;> simp_all
            rw [if_pos et, hul, if_pos rfl, ones_eq (by omega) (by omega), Option.bind_some, if_pos (by omega), hK _ (by omega)]
            rfl
end Go.Proofs.Ytnaedmakkefdfaa.Pure
