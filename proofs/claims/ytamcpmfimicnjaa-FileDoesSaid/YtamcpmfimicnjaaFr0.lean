import Derived.Test.YtamcpmfimicnjaaX
import Derived.Test.YtamcpmfimicnjaaFa
import Derived.Test.YtamcpmfimicnjaaPx10
import Derived.Test.YtamcpmfimicnjaaPx11
import Derived.Test.YtamcpmfimicnjaaPx5
import Derived.Test.YtamcpmfimicnjaaPx9
import Derived.Test.YtamcpmfimicnjaaLRefCells
import Derived.Test.YtamcpmfimicnjaaLRefWindow
namespace Go.Proofs.Ytamcpmfimicnjaa.P
open Go.RowKit Go.Proofs.YtamcpmfimicnjaaW.PrintWords Go.Proofs.YtamcpmfimicnjaaW.PrintLast Go.Proofs.YtamcpmfimicnjaaW.PrintMore
attribute [local go_sem] max2_int min2_int max_two min_two max_three min_three max_four min_four   -- for this text's walks alone
set_option linter.unusedVariables false
set_option linter.unusedSimpArgs false
open Go.Proofs.Ytamcpmfimicnjaa.L

theorem Fi.rgetB {w : World} {A : Option Addr} {c : Nat} {l : List Bool} {L : List Bool} {E : Int} {a b p n : Int} (hr : Kd.bool.C w A l.length l) (hc : l.length ≤ c) (hp : I64 p) (he : readS a b l p n = (L, E)) : Calls Try.prog 45 #[.agg #[.int .i64 a, .int .i64 b], .slice A l.length c, .int .i64 p, .int .i64 n] w fun e w' => ∃ v, e = .returned (.tuple #[v, .int .i64 E]) ∧ Kd.bool.R 4 w' w.heap.size (fun _ => True) v L ∧ Below w.heap.size w w' :=
  bilgeref13_Bits.calls 70000 a b A c l p n L E w hr hc ((rwordsB l hp 70000 (by decide)).trans (congrArg some he))
theorem Fi.rputB {w : World} {A A2 : Option Addr} {c c2 : Nat} {l m L : List Bool} {E : Int} {a b p : Int} (hr : Kd.bool.C w A l.length l) (hc : l.length ≤ c) (hr2 : Kd.bool.C w A2 m.length m) (hc2 : m.length ≤ c2) (hp : I64 p) (he : writeS a b l p m = (L, E)) : Calls Try.prog 60 #[.agg #[.int .i64 a, .int .i64 b], .slice A l.length c, .int .i64 p, .slice A2 m.length c2] w fun e w' => ∃ v, e = .returned (.tuple #[v, .int .i64 E]) ∧ Kd.bool.R 4 w' w.heap.size (fun _ => True) v L ∧ Below w.heap.size w w' :=
  bilgeref13_SetBits.calls 70000 a b A c l p A2 c2 m L E w hr hc hr2 hc2 ((rsetB l m hp 70000 (by decide)).trans (congrArg some he))
theorem Fi.rgetW {w : World} {A : Option Addr} {c : Nat} {l : List Int} {L : List Int} {E : Int} {a b p n : Int} (hr : (Kd.int .u16).C w A l.length l) (hc : l.length ≤ c) (hp : I64 p) (he : readS a b l p n = (L, E)) : Calls Try.prog 46 #[.agg #[.int .i64 a, .int .i64 b], .slice A l.length c, .int .i64 p, .int .i64 n] w fun e w' => ∃ v, e = .returned (.tuple #[v, .int .i64 E]) ∧ (Kd.int .u16).R 53 w' w.heap.size (fun _ => True) v L ∧ Below w.heap.size w w' :=
  bilgeref13_Words.calls 70000 a b A c l p n L E w hr hc ((rwordsW l hp 70000 (by decide)).trans (congrArg some he))
theorem Fi.rputW {w : World} {A A2 : Option Addr} {c c2 : Nat} {l m L : List Int} {E : Int} {a b p : Int} (hr : (Kd.int .u16).C w A l.length l) (hc : l.length ≤ c) (hr2 : (Kd.int .u16).C w A2 m.length m) (hc2 : m.length ≤ c2) (hp : I64 p) (he : writeS a b l p m = (L, E)) : Calls Try.prog 61 #[.agg #[.int .i64 a, .int .i64 b], .slice A l.length c, .int .i64 p, .slice A2 m.length c2] w fun e w' => ∃ v, e = .returned (.tuple #[v, .int .i64 E]) ∧ (Kd.int .u16).R 53 w' w.heap.size (fun _ => True) v L ∧ Below w.heap.size w w' :=
  bilgeref13_SetWords.calls 70000 a b A c l p A2 c2 m L E w hr hc hr2 hc2 ((rsetW l m hp 70000 (by decide)).trans (congrArg some he))
theorem Fi.rmeets {a b p n : Int} (hp : I64 p) (hn : I64 n) {y : Bool} (hy : decide (MeetsP a b p n) = y) (w : World) : Calls Try.prog 47 #[.agg #[.int .i64 a, .int .i64 b], .int .i64 p, .int .i64 n] w fun e w' => e = .returned (.bool y) ∧ Below w.heap.size w w' := bilgeref12_Meets.calls 70000 a b p n _ w (hy ▸ rmeets_eq hp hn 70000 (by decide))

end Go.Proofs.Ytamcpmfimicnjaa.P
