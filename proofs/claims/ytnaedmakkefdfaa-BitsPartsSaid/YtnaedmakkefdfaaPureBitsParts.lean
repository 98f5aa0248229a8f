/- The pure statement of BitsParts: whole bytes of bits, and others behind them, are packed one behind the other; as many are set in all as in both. -/
import Derived.Test.YtnaedmakkefdfaaPx5
import Derived.Test.YtnaedmakkefdfaaPx2
import Derived.Test.YtnaedmakkefdfaaLBitsBack
import Derived.Test.YtnaedmakkefdfaaLSameY
namespace Go.Proofs.Ytnaedmakkefdfaa.Pure
open Go.RowKit Go.Proofs.Ytnaedmakkefdfaa.P Go.Proofs.YtnaedmakkefdfaaW.PrintWords Go.Proofs.YtnaedmakkefdfaaW.PrintLast Go.Proofs.Ytnaedmakkefdfaa.L
set_option maxRecDepth 100000 in
theorem sure02p : ∃ K, ∀ k, K ≤ k → bilgelaw02_sure.f k = some true :=
  Ev.of (g := fun k => bilgelaw02_sure.f k) (fun k => bilgelaw02_sure.mono k) (k := 20) (by decide +kernel)

theorem BitsParts : bilgelaw02_BitsParts.Pure := by
  intro b l hb hl
  have hl0 : l.length * 1 ≤ 140737488351232 := hl.2.1
  have hb0 : b.length * 1 ≤ 140737488351232 := hb.2.1
  have hby : ∀ x ∈ b, U8 x := fun x hx => u8_of (hb.2.2 x hx)
  obtain ⟨K, hK⟩ := sure02p
  refine ⟨K + 100002, ?_⟩
  unfold bilgelaw02_BitsParts.f
  by_cases h1 : (b.length : Int) > 200
  · rw [if_pos h1]
    simp only [bilgelaw02_BitsParts.j0, if_true]
    rw [hK _ (by omega)]; rfl
  · rw [if_neg h1]
    by_cases h2 : (l.length : Int) > 600
    · simp only [bilgelaw02_BitsParts.j0, h2, decide_true, if_true]
      rw [hK _ (by omega)]; rfl
    · simp only [bilgelaw02_BitsParts.j0, h2, decide_false, Bool.false_eq_true, if_false]
      have e8 : wrap64 (8 * (b.length : Int)) = ((8 * b.length : Nat) : Int) := by rw [w64 (by constructor <;> omega)]; omega
      have eu : upkS b ((8 * b.length : Nat) : Int) = (upk b (8 * b.length), 0) := by
        unfold upkS
        have : szN (8 * b.length) = b.length := by unfold szN; omega
        rw [szI_nat, this, if_neg (by omega), if_neg (by omega), if_neg (by omega), Int.toNat_natCast]
      have hul := upk_len b (8 * b.length)
      have hp := pk_len l
      have hs : szN l.length ≤ 1000 := by unfold szN; omega
      have hap : (upk b (8 * b.length) ++ l).length = 8 * b.length + l.length := by rw [List.length_append, hul]
      have hpp : (pk (upk b (8 * b.length) ++ l)).length ≤ 1300 := by rw [pk_len, hap]; unfold szN; omega
      rw [e8, unpack_eq hby (by constructor <;> omega) (by omega) (by omega), Option.bind_some, eu, if_pos rfl]
      simp only [Option.bind_some, List.nil_append, List.length_nil]
      rw [if_pos (by omega), if_pos (by omega), pack_eq (by omega) (by omega), Option.bind_some, if_pos (by omega), pack_eq (by omega) (by omega), Option.bind_some, if_pos (by omega), bytes_eq (by omega) (by omega), Option.bind_some, pk_parts hby, decide_eq_true rfl, if_pos rfl,
        ones_eq (by omega) (by omega), Option.bind_some, ones_eq (by omega) (by omega), Option.bind_some, ones_eq (by omega) (by omega), Option.bind_some]
      have c1 : (upk b (8 * b.length)).count true ≤ (upk b (8 * b.length)).length := List.count_le_length
      have c2 : l.count true ≤ l.length := List.count_le_length
      rw [List.count_append, w64 (by constructor <;> omega), if_pos (by omega), hK _ (by omega)]
      rfl
end Go.Proofs.Ytnaedmakkefdfaa.Pure
