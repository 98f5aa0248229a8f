import Derived.Test.YtamcpmfimicnjaaX
import Derived.Test.YtamcpmfimicnjaaAny1
import Derived.Test.YtamcpmfimicnjaaAny2
import Derived.Test.YtamcpmfimicnjaaAny3
import Derived.Test.YtamcpmfimicnjaaPx4
import Derived.Test.YtamcpmfimicnjaaLFile
namespace Go.Proofs.Ytamcpmfimicnjaa.P
open Go.RowKit Go.Proofs.YtamcpmfimicnjaaW.PrintWords Go.Proofs.YtamcpmfimicnjaaW.PrintLast Go.Proofs.YtamcpmfimicnjaaW.PrintMore
attribute [local go_sem] max2_int min2_int max_two min_two max_three min_three max_four min_four   -- for this text's walks alone
set_option linter.unusedVariables false
set_option linter.unusedSimpArgs false
open Go.Proofs.Ytamcpmfimicnjaa.L

set_option maxHeartbeats 4000000 in
set_option maxRecDepth 100000 in
theorem Fi.any {w : World} {ca cb : Array Value} {xa xb : S31} (hVa : Fi.V w ca xa) (hVb : Fi.V w cb xb) (hla : xa.f1.length ≤ 140737488351232 ∧ xa.f2.length ≤ 140737488351232 ∧ xa.f3.length ≤ 140737488351232 ∧ xa.f4.length ≤ 140737488351232) (hlb : xb.f1.length ≤ 140737488351232 ∧ xb.f2.length ≤ 140737488351232 ∧ xb.f3.length ≤ 140737488351232 ∧ xb.f4.length ≤ 140737488351232)
    {k p n v : Int} {A4 A5 : Option Addr} {c4 c5 : Nat} {bl : List Bool} {wl : List Int} (hr4 : Kd.bool.C w A4 bl.length bl) (hc4 : bl.length ≤ c4) (hr5 : (Kd.int .u16).C w A5 wl.length wl) (hc5 : wl.length ≤ c5) (hp : I64 p) (hn : I64 n) (hv : I64 v) (hbl : bl.length ≤ 140737488351232) (hwl : wl.length ≤ 140737488351232)  :
    Calls Try.prog 4 #[.agg ca, .agg cb, .agg #[.int .i64 k, .int .i64 p, .int .i64 n, .int .i64 v, .slice A4 bl.length c4, .slice A5 wl.length c5]] w fun e w' => e = .returned (.bool true) ∧ Below w.heap.size w w' := by
  by_cases q1 : xa.f1.length + xa.f2.length + xa.f3.length + xa.f4.length ≤ 4000
  rotate_left
  · exact Fi.any1 hVa hVb hla hlb hr4 hc4 hr5 hc5 hp hn hv hbl hwl (decide_eq_false q1)
  by_cases q2 : xb.f1.length + xb.f2.length + xb.f3.length + xb.f4.length ≤ 4000
  rotate_left
  · exact Fi.any2 hVa hVb hla hlb hr4 hc4 hr5 hc5 hp hn hv hbl hwl (decide_eq_true q1) (decide_eq_false q2)
  by_cases q3 : (300 : Int) < (bl.length : Int) + (wl.length : Int)
  · exact Fi.any3 hVa hVb hla hlb hr4 hc4 hr5 hc5 hp hn hv hbl hwl (decide_eq_true q1) (decide_eq_true q2) (decide_eq_true q3)
  have hfit : Fi.Fit xa := by unfold Fi.Fit; omega
  by_cases hP : Fi.P xa
  · exact Fi.anyP hVa hVb hla hlb hr4 hc4 hr5 hc5 hp hn hv hbl hwl hfit (decide_eq_true q1) (decide_eq_true q2) (decide_eq_false q3) (decide_eq_true hP)
  · exact Fi.anyN hVa hVb hla hlb hr4 hc4 hr5 hc5 hp hn hv hbl hwl hfit (decide_eq_true q1) (decide_eq_true q2) (decide_eq_false q3) (decide_eq_false hP)
set_option maxHeartbeats 1000000 in
theorem bilgelaw14_FileAny.calls (a0_0 : Int) (a0_1 : Int) (a0_2 : Int) (a0_3 : Int) (a0_4 : Int) (a0_5 : Int) (a0_6 : Int) (a0_7 : Int) (a0_8 : Int) (a0_9 : Int) (A0_10 : Option Addr) (c0_10 : Nat) (l0_10 : List Bool) (A0_11 : Option Addr) (c0_11 : Nat) (l0_11 : List Bool) (A0_12 : Option Addr) (c0_12 : Nat) (l0_12 : List Int) (A0_13 : Option Addr) (c0_13 : Nat) (l0_13 : List Int) (a1_0 : Int) (a1_1 : Int) (a1_2 : Int) (a1_3 : Int) (a1_4 : Int) (a1_5 : Int) (a1_6 : Int) (a1_7 : Int) (a1_8 : Int) (a1_9 : Int) (A1_10 : Option Addr) (c1_10 : Nat) (l1_10 : List Bool) (A1_11 : Option Addr) (c1_11 : Nat) (l1_11 : List Bool) (A1_12 : Option Addr) (c1_12 : Nat) (l1_12 : List Int) (A1_13 : Option Addr) (c1_13 : Nat) (l1_13 : List Int) (a2_0 : Int) (a2_1 : Int) (a2_2 : Int) (a2_3 : Int) (A2_4 : Option Addr) (c2_4 : Nat) (l2_4 : List Bool) (A2_5 : Option Addr) (c2_5 : Nat) (l2_5 : List Int) (r : Bool) (w : World) (hr0_10 : Kd.C Kd.bool w A0_10 l0_10.length l0_10) (hc0_10 : l0_10.length ≤ c0_10) (hr0_11 : Kd.C Kd.bool w A0_11 l0_11.length l0_11) (hc0_11 : l0_11.length ≤ c0_11) (hr0_12 : Kd.C (Kd.int .u16) w A0_12 l0_12.length l0_12) (hc0_12 : l0_12.length ≤ c0_12) (hr0_13 : Kd.C (Kd.int .u16) w A0_13 l0_13.length l0_13) (hc0_13 : l0_13.length ≤ c0_13) (hr1_10 : Kd.C Kd.bool w A1_10 l1_10.length l1_10) (hc1_10 : l1_10.length ≤ c1_10) (hr1_11 : Kd.C Kd.bool w A1_11 l1_11.length l1_11) (hc1_11 : l1_11.length ≤ c1_11) (hr1_12 : Kd.C (Kd.int .u16) w A1_12 l1_12.length l1_12) (hc1_12 : l1_12.length ≤ c1_12) (hr1_13 : Kd.C (Kd.int .u16) w A1_13 l1_13.length l1_13) (hc1_13 : l1_13.length ≤ c1_13) (hr2_4 : Kd.C Kd.bool w A2_4 l2_4.length l2_4) (hc2_4 : l2_4.length ≤ c2_4) (hr2_5 : Kd.C (Kd.int .u16) w A2_5 l2_5.length l2_5) (hc2_5 : l2_5.length ≤ c2_5) (h : bilgelaw14_FileAny.f a0_0 a0_1 a0_2 a0_3 a0_4 a0_5 a0_6 a0_7 a0_8 a0_9 l0_10 l0_11 l0_12 l0_13 a1_0 a1_1 a1_2 a1_3 a1_4 a1_5 a1_6 a1_7 a1_8 a1_9 l1_10 l1_11 l1_12 l1_13 a2_0 a2_1 a2_2 a2_3 l2_4 l2_5 = some r) :
    Calls Try.prog 4 #[.agg #[.int .i64 a0_0, .int .i64 a0_1, .int .i64 a0_2, .int .i64 a0_3, .int .i64 a0_4, .int .i64 a0_5, .int .i64 a0_6, .int .i64 a0_7, .int .i64 a0_8, .int .i64 a0_9, .slice A0_10 l0_10.length c0_10, .slice A0_11 l0_11.length c0_11, .slice A0_12 l0_12.length c0_12, .slice A0_13 l0_13.length c0_13], .agg #[.int .i64 a1_0, .int .i64 a1_1, .int .i64 a1_2, .int .i64 a1_3, .int .i64 a1_4, .int .i64 a1_5, .int .i64 a1_6, .int .i64 a1_7, .int .i64 a1_8, .int .i64 a1_9, .slice A1_10 l1_10.length c1_10, .slice A1_11 l1_11.length c1_11, .slice A1_12 l1_12.length c1_12, .slice A1_13 l1_13.length c1_13], .agg #[.int .i64 a2_0, .int .i64 a2_1, .int .i64 a2_2, .int .i64 a2_3, .slice A2_4 l2_4.length c2_4, .slice A2_5 l2_5.length c2_5]] w fun e w' => e = .returned (.bool r) ∧ Below w.heap.size w w' := by
  unfold bilgelaw14_FileAny.f at h
  split at h
  rotate_left
  · cases h
  rename_i hq
  obtain rfl := Option.some.inj h
  obtain ⟨⟨b1, b2, b3, b4⟩, ⟨b5, b6, b7, b8⟩, b9, b10, b11, b12, b13⟩ := hq
  exact Fi.any (Fi.mk2 hc0_10 hr0_10 hc0_11 hr0_11 hc0_12 hr0_12 hc0_13 hr0_13) (Fi.mk2 hc1_10 hr1_10 hc1_11 hr1_11 hc1_12 hr1_12 hc1_13 hr1_13) ⟨b1, b2, (show l0_12.length ≤ 140737488351232 by omega), (show l0_13.length ≤ 140737488351232 by omega)⟩ ⟨b5, b6, (show l1_12.length ≤ 140737488351232 by omega), (show l1_13.length ≤ 140737488351232 by omega)⟩ hr2_4 hc2_4 hr2_5 hc2_5 b9 b10 b11 b12 (show l2_5.length ≤ 140737488351232 by omega)

end Go.Proofs.Ytamcpmfimicnjaa.P
