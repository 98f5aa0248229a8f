import Derived.Test.YtedfbemifigoeaaX
import Derived.Test.YtedfbemifigoeaaAa
import Derived.Test.YtedfbemifigoeaaAe
import Derived.Test.YtedfbemifigoeaaLRefWord
import Derived.Test.YtedfbemifigoeaaLRefBits
import Derived.Test.YtedfbemifigoeaaLWord
import Derived.Test.YtedfbemifigoeaaLBits
namespace Go.Proofs.Ytedfbemifigoeaa.P
open Go.RowKit Go.Proofs.YtedfbemifigoeaaW.PrintWords Go.Proofs.YtedfbemifigoeaaW.PrintLast Go.Proofs.YtedfbemifigoeaaW.PrintMore
attribute [local go_sem] max2_int min2_int max_two min_two max_three min_three max_four min_four   -- for this text's walks alone
set_option linter.unusedVariables false
set_option linter.unusedSimpArgs false

open Go.Proofs.Ytedfbemifigoeaa.L

/-! ### What a call makes of words, of bits; bytes with their number ahead -/
theorem As.puts {A : Option Addr} {c : Nat} {l : List Int} {w : World} (hr : (Kd.int .u16).C w A l.length l) (hc : l.length ≤ c) (h16 : ∀ n ∈ l, 0 ≤ n ∧ n ≤ 65535) (hl : l.length ≤ 1000000) : Calls Try.prog 37 #[.slice A l.length c] w fun e w' => ∃ v, e = .returned v ∧ (Kd.int .u8).R 5 w' w.heap.size (fun _ => True) v (putW l) ∧ Below w.heap.size w w' :=
  word_Put.calls A c l _ w hr hc (put_eq (fun x hx => by have := h16 x hx; exact ⟨this.1, by omega⟩) (by omega))
theorem As.packs {A : Option Addr} {c : Nat} {l : List Bool} {w : World} (hr : Kd.bool.C w A l.length l) (hc : l.length ≤ c) (hl : l.length ≤ 1000000) : Calls Try.prog 38 #[.slice A l.length c] w fun e w' => ∃ v, e = .returned v ∧ (Kd.int .u8).R 5 w' w.heap.size (fun _ => True) v (pk l) ∧ Below w.heap.size w w' :=
  bits_Pack.calls (l.length + 1) A c l _ w hr hc (pack_eq hl (by omega))
theorem As.rputs {A : Option Addr} {c : Nat} {l : List Int} {w : World} (hr : (Kd.int .u16).C w A l.length l) (hc : l.length ≤ c) (h16 : ∀ n ∈ l, 0 ≤ n ∧ n ≤ 65535) (hl : l.length ≤ 1000000) : Calls Try.prog 41 #[.slice A l.length c] w fun e w' => ∃ v, e = .returned v ∧ (Kd.int .u8).R 5 w' w.heap.size (fun _ => True) v (putW l) ∧ Below w.heap.size w w' :=
  bilgeref01_Put.calls (l.length + 1) A c l _ w hr hc (rput_eq (fun x hx => by have := h16 x hx; exact ⟨this.1, by omega⟩) (by omega) (by omega))
theorem As.rpacks {A : Option Addr} {c : Nat} {l : List Bool} {w : World} (hr : Kd.bool.C w A l.length l) (hc : l.length ≤ c) (hl : l.length ≤ 1000000) : Calls Try.prog 40 #[.slice A l.length c] w fun e w' => ∃ v, e = .returned v ∧ (Kd.int .u8).R 5 w' w.heap.size (fun _ => True) v (pk l) ∧ Below w.heap.size w w' :=
  bilgeref02_Pack.calls (l.length + 1) A c l _ w hr hc (rpack_eq hl (by omega))
set_option maxHeartbeats 4000000 in
set_option maxRecDepth 100000 in
theorem As.sizes {A : Option Addr} {c : Nat} {l : List Int} {w : World} (hr : (Kd.int .u8).C w A l.length l) (hc : l.length ≤ c) (hl : l.length ≤ 1000000) : Calls Try.prog 36 #[.slice A l.length c] w fun e w' => ∃ v, e = .returned v ∧ (Kd.int .u8).R 5 w' w.heap.size (fun _ => True) v (As.sized l) ∧ Below w.heap.size w w' := by
  have hu := Try.underlying28
  have HR := Aside0.mk hr
  have HL := Aside0.mk hl
  have HB := Aside0.mk (Below.refl w.heap.size w)
  have hw : IntKind.u8.wrap (l.length : Int) = (l.length : Int) % 256 := by simp [IntKind.wrap, IntKind.bits, IntKind.signed]
  clear hr hl
  go_enter Try.func36, Try.ntmps36
  go_wp2_with (first
    | ((with_reducible refine gate_dst (N := 6) rfl ?_); refine Kd.R_lit (Kd.int .u8) w.heap.size 5 ?hg (N := 6) ?hd (xs := [(l.length : Int) % 256]) (inner := [.int .u8 ((l.length : Int) % 256)]) (ok := fun _ => True) (okp := fun _ => False) ?hr ?hp (fun _ hk => hk.elim) trivial HB.out HB.out.size (by simp) ?_; (case hd => rfl); (case hg => rfl); (case hr => first | (go_simp; done) | (go_simp; rfl)); (case hp => exact (Reps.one (show Kd.M (Kd.int .u8) _ _ _ ((l.length : Int) % 256) [.int .u8 ((l.length : Int) % 256)] from rfl) (Reps.none _ _))); intro v1 w1 ho hb hgr _; have H1 := Aside0.mk ho; have HRn := Aside0.mk (Kd.C_below HR.out (show Below w.heap.size w w1 from hb)); clear HB HR ho hgr; have HB := Aside0.mk hb; have HR := HRn; clear hb HRn; obtain ⟨A1, c1, e1⟩ := Kd.R_slice H1.out; subst e1)
    | ((with_reducible refine gate_builtin (b := .append) (xs := #[.tmp 6, .tmp 7]) rfl ?_); at_builtin; refine Kd.R_append_rows (Kd.int .u8) (w0 := w) w.heap.size rfl (.tmp 6) (.tmp 7) 28 5 (.int .u8 0) 1 rfl Try.underlying28 As.byte rfl (by decide) (by omega) _ [(l.length : Int) % 256] l _ _ _ (fun _ => True) (fun _ => False) rfl rfl H1.out HR.out (fun _ _ h => h) (fun _ h => h.elim) (fun _ _ => trivial) HB.out HB.out.size (by have := HL.out; simp; omega) ?_; intro v2 w2 ho hb _ _; have HO := Aside0.mk ho; clear ho HB H1; have HB := Aside0.mk hb; clear hb))
  go_ret
  exact ⟨_, rfl, HO.out, HB.out⟩

end Go.Proofs.Ytedfbemifigoeaa.P
