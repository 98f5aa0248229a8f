/- The pure statement of WordTells: any words as bytes, any bytes as words, the word at any place, and with its bits in the other order, are what the reference tells. -/
import Derived.Test.YtmamkfnnoahcmaaPx5
import Derived.Test.YtmamkfnnoahcmaaPx3
import Derived.Test.YtmamkfnnoahcmaaLRefWord
namespace Go.Proofs.Ytmamkfnnoahcmaa.Pure
open Go.RowKit Go.Proofs.Ytmamkfnnoahcmaa.P Go.Proofs.YtmamkfnnoahcmaaW.PrintWords Go.Proofs.YtmamkfnnoahcmaaW.PrintLast Go.Proofs.Ytmamkfnnoahcmaa.L
set_option maxRecDepth 100000 in
theorem sure01t : ∃ K, ∀ k, K ≤ k → bilgelaw01_sure.f k = some true :=
  Ev.of (g := fun k => bilgelaw01_sure.f k) (fun k => bilgelaw01_sure.mono k) (k := 20) (by decide +kernel)

theorem tells_loop {l b : List Int} {a2 : Int} {s : Nat} (hs : ∀ k, s ≤ k → bilgelaw01_sure.f k = some true) (hl : ∀ x ∈ l, U16 x) (hl1 : l.length ≤ 300) (hb1 : b.length ≤ 600) :
    ∀ (d k : Nat) (i : Int), 0 ≤ i → (l.length : Int) - i = d → d + s + 2000 ≤ k →
    bilgelaw01_WordTells.l0 k l (getS b).1 (getS b).2 (if b.length % 2 = 0 then (getW b, true) else ([], false)).1 (if b.length % 2 = 0 then (getW b, true) else ([], false)).2 (atS b a2).1 (atS b a2).2 (atS b a2).1 (atS b a2).2 i = some true := by
  intro d
  induction d with
  | zero =>
    intro k i h0 h1 hk
    obtain ⟨k, rfl⟩ : ∃ m, k = m + 1 := ⟨k - 1, by omega⟩
    simp only [bilgelaw01_WordTells.l0]
    rw [if_neg (by omega), put_eq hl (by omega), Option.bind_some, rput_eq hl (by omega) (by omega), Option.bind_some, bytes_eq (by rw [putW_length]; omega) (by rw [putW_length]; omega), Option.bind_some]
    unfold getS
    by_cases h2 : b.length % 2 = 0
    · simp only [h2, if_true]
      rw [if_pos (by simp), words_eq (by rw [getW_length]; omega) (by rw [getW_length]; omega), Option.bind_some, if_pos (by simp), if_pos (by simp), if_pos (by simp), hs _ (by omega)]
      rfl
    · simp only [h2, if_false]
      rw [if_pos (by simp), words_eq (by simp) (by simp; omega), Option.bind_some, if_pos (by simp), if_pos (by simp), if_neg (by simp), if_pos trivial, if_pos trivial, if_pos (by simp), hs _ (by omega)]
      rfl
  | succ d ih =>
    intro k i h0 h1 hk
    obtain ⟨k, rfl⟩ : ∃ m, k = m + 1 := ⟨k - 1, by omega⟩
    have hi := ih k (i + 1) (by omega) (by omega) (by omega)
    have hu := rd_all hl (i := i) h0 (by omega)
    simp only [bilgelaw01_WordTells.l0]
    rw [if_pos (by omega), if_pos h0, turn_eq hu, Option.bind_some, rturn_eq hu (by omega), Option.bind_some, if_pos rfl, low_eq hu, Option.bind_some, bytes_eq (by simp) (by simp; omega), Option.bind_some,
      Int.tdiv_eq_ediv_of_nonneg hu.1, Int.tmod_eq_emod_of_nonneg hu.1, u16w_id (by constructor <;> omega), if_pos, w64 (by constructor <;> omega)]
    · exact hi
    · simp only [decide_eq_true_eq]
      congr 1
      · omega
      · congr 1; omega

theorem WordTells : bilgelaw01_WordTells.Pure := by
  rintro l b a2 ⟨_, _, hl⟩ ⟨_, _, hb⟩ ha
  replace hl : ∀ x ∈ l, U16 x := fun x hx => u16_of (hl x hx)
  replace hb : ∀ x ∈ b, U8 x := fun x hx => u8_of (hb x hx)
  replace ha := i64_of ha
  obtain ⟨K, hK⟩ := sure01t
  refine ⟨K + 3000, ?_⟩
  have hs : bilgelaw01_sure.f (K + 2999) = some true := hK _ (by omega)
  have fin : bilgelaw01_WordTells.j0 (K + 3000) l b a2 true = some true := by
    simp only [bilgelaw01_WordTells.j0, if_true]
    rw [hs]; rfl
  unfold bilgelaw01_WordTells.f
  by_cases h1 : (l.length : Int) > 300
  · rw [if_pos h1]; exact fin
  · rw [if_neg h1]
    by_cases h2 : (b.length : Int) > 600
    · simp only [h2, decide_true]; exact fin
    · simp only [h2, decide_false, bilgelaw01_WordTells.j0, Bool.false_eq_true, if_false]
      rw [get_eq hb (by omega) (by omega), Option.bind_some, rget_eq hb (by omega) (by omega), Option.bind_some, at_eq hb (by omega) ha, Option.bind_some, rat_eq hb (by omega) ha, Option.bind_some]
      exact tells_loop hK hl (by omega) (by omega) l.length _ 0 (by omega) (by omega) (by omega)
end Go.Proofs.Ytmamkfnnoahcmaa.Pure
