/- The pure statement of BitsTell: any bits as bytes, so many bits of any bytes, whether these are tidy, how many are set, are what the reference tells. -/
import Derived.Test.YtnaedmakkefdfaaPx4
import Derived.Test.YtnaedmakkefdfaaPx2
import Derived.Test.YtnaedmakkefdfaaLRefBits
import Derived.Test.YtnaedmakkefdfaaLSameB
import Derived.Test.YtnaedmakkefdfaaLSameY
namespace Go.Proofs.Ytnaedmakkefdfaa.Pure
open Go.RowKit Go.Proofs.Ytnaedmakkefdfaa.P Go.Proofs.YtnaedmakkefdfaaW.PrintWords Go.Proofs.YtnaedmakkefdfaaW.PrintLast Go.Proofs.Ytnaedmakkefdfaa.L
set_option maxRecDepth 100000 in
theorem sure02t : ∃ K, ∀ k, K ≤ k → bilgelaw02_sure.f k = some true :=
  Ev.of (g := fun k => bilgelaw02_sure.f k) (fun k => bilgelaw02_sure.mono k) (k := 20) (by decide +kernel)

theorem BitsTell : bilgelaw02_BitsTell.Pure := by
  intro l b n hl hb hn
  replace hn := i64_of hn
  have hl0 : l.length * 1 ≤ 140737488351232 := hl.2.1
  have hb0 : b.length * 1 ≤ 140737488351232 := hb.2.1
  have hby : ∀ x ∈ b, U8 x := fun x hx => u8_of (hb.2.2 x hx)
  obtain ⟨K, hK⟩ := sure02t
  refine ⟨K + 100002, ?_⟩
  unfold bilgelaw02_BitsTell.f
  by_cases h1 : (l.length : Int) > 2500
  · rw [if_pos h1]
    simp only [bilgelaw02_BitsTell.j0, if_true]
    rw [hK _ (by omega)]; rfl
  · rw [if_neg h1]
    by_cases h2 : (b.length : Int) > 400
    · simp only [bilgelaw02_BitsTell.j0, h2, decide_true, if_true]
      rw [hK _ (by omega)]; rfl
    · simp only [bilgelaw02_BitsTell.j0, h2, decide_false, Bool.false_eq_true, if_false]
      have hp := pk_len l
      have hs : szN l.length ≤ 1000 := by unfold szN; omega
      have hu : (upkS b n).1.length ≤ 8 * b.length := by
        unfold upkS
        split
        · simp
        · split
          · simp
          · split
            · simp
            · simp only [upk_len]
              rename_i g1 g2 g3
              unfold szI at g2 g3
              split at g2 <;> omega
      obtain ⟨t1, e1, i1⟩ := tidy_eq hby hn (by omega)
      obtain ⟨t2, e2, i2⟩ := rtidy_eq hby hn (by omega) (k := K + 100000) (by omega)
      have et : t1 = t2 := by
        have := i1.trans i2.symm
        cases t1 <;> cases t2 <;> simp_all
      have tail : ∀ o : Int, o = (if l.length = 0 then 0 else rd (pk l) 0) → bilgelaw02_BitsTell.j1 (K + 100001) l b n (upkS b n).1 (upkS b n).2 (upkS b n).1 (upkS b n).2 o = some true := by
        intro o ho
        simp only [bilgelaw02_BitsTell.j1]
        rw [pack_eq (by omega) (by omega), Option.bind_some, rpack_eq (by omega) (by omega), Option.bind_some, bytes_eq (by omega) (by omega), Option.bind_some, decide_eq_true rfl, if_pos rfl,
          same_eq (by omega) (by omega), Option.bind_some, decide_eq_true rfl, if_pos rfl, if_true, size_eq hn, Option.bind_some, rsize_eq hn, Option.bind_some, if_pos rfl, e1, Option.bind_some, e2, Option.bind_some, if_pos (by simp [et]),
          ones_eq (by omega) (by omega), Option.bind_some, rones_eq (by omega) (by omega), Option.bind_some, if_pos rfl, flags_eq (by omega) (by omega), Option.bind_some, if_pos ho.symm, hK _ (by omega)]
        rfl
      rw [unpack_eq hby hn (by omega) (by omega), Option.bind_some, runpack_eq hby hn (by omega) (by omega), Option.bind_some, rpack_eq (by omega) (by omega), Option.bind_some]
      by_cases h3 : l.length = 0
      · have : szN l.length = 0 := by rw [h3]; rfl
        rw [if_neg (by omega)]
        exact tail 0 (by rw [if_pos h3])
      · have : 0 < szN l.length := by unfold szN; omega
        rw [if_pos (by omega), if_pos (by omega)]
        exact tail _ (by rw [if_neg h3])
end Go.Proofs.Ytnaedmakkefdfaa.Pure
