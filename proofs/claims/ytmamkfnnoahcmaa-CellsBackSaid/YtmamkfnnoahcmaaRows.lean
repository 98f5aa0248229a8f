/-
  No cell of these rows narrows 'for every input' (looked for: loops, veiled, ifaces, maps, wideKeys, modest, calm, conditions, laid).
  DERIVED. THE GIVEN ROWS OF THIS SEAT. 12 by the template 'for every input the law returns true; each argument reads behind the call as it read before'; 0 by the template 'total and deterministic' (their statements: YtmamkfnnoahcmaaTotals.lean).
  GIVEN WITH THE SEED: the statements are not yours to turn. If you find one false, say at which input.
  Laid BY PROGRAM, IN A SANDBOX (cutbox-rows.mjs): the forced cells as the released guide's own fill.sh prints them over the translation 4a8a341a6b87c135… (all of the seat's roots in one cut). By AI agents, Wed Nov 11 2026. No macro, syntax, notation, axiom, sorry.
-/
import Derived.Test.YtmamkfnnoahcmaaChecked
import GoSem.Claim
import GoSem.ClaimJoined
import GoSem.ClaimMapViews
import Derived.JoinedTies
import Derived.KernelRfl
namespace Go.Proofs.Ytmamkfnnoahcmaa
/- THE CELL 'sum', in the pinned program and in every row, IS THE sha256 OF THE DUMP (.gsa) THAT YtmamkfnnoahcmaaProg.lean LOADS. Nothing in Lean hashes anything: it is a label: what it is worth is what the hold of that sum in a sandbox is worth. -/
noncomputable def Try.pinned : Pinned := { name := "ytmamkfnnoahcmaa", sum := "4a8a341a6b87c13573124d48c2ae1ed24422d39651be0040551433b2a4335f19", checked := Try.checked }
namespace Rows
def none {H : Type} : Left H := { results := [], args := [] }

/-- 'bilgelaw07.RingLast': WHATEVER THE INPUT: true; the input reads as it did. -/
def ringLastSpec : ChangeSpec := { name := "ringLast", fn := fun _ => fun
  | [d1, d2, d3] => { results := [.lit (.bool true)], args := [d1, d2, d3] }
  | _ => none }
def ringLastRow : OpenClaim := { program := "ytmamkfnnoahcmaa", sum := "4a8a341a6b87c13573124d48c2ae1ed24422d39651be0040551433b2a4335f19", func := "bilge/bilgelaw07.RingLast", spec := "ringLast", apart := false }
def RingLastSaid : Prop := ringLastRow.holds Try.pinned (OpenSpec.ofChange ringLastSpec)

/-- ITS FALSE NEIGHBOUR: 'it returns false'. Refute it at one input. -/
def ringLastWrong : ChangeSpec := { name := "ringLast", fn := fun _ => fun
  | [d1, d2, d3] => { results := [.lit (.bool false)], args := [d1, d2, d3] }
  | _ => none }
def RingLastWrongFalsely : Prop := ringLastRow.holds Try.pinned (OpenSpec.ofChange ringLastWrong)

/-- 'bilgelaw07.RingKeeps': WHATEVER THE INPUT: true; the input reads as it did. -/
def ringKeepsSpec : ChangeSpec := { name := "ringKeeps", fn := fun _ => fun
  | [d1, d2] => { results := [.lit (.bool true)], args := [d1, d2] }
  | _ => none }
def ringKeepsRow : OpenClaim := { program := "ytmamkfnnoahcmaa", sum := "4a8a341a6b87c13573124d48c2ae1ed24422d39651be0040551433b2a4335f19", func := "bilge/bilgelaw07.RingKeeps", spec := "ringKeeps", apart := false }
def RingKeepsSaid : Prop := ringKeepsRow.holds Try.pinned (OpenSpec.ofChange ringKeepsSpec)

/-- ITS FALSE NEIGHBOUR: 'it returns false'. Refute it at one input. -/
def ringKeepsWrong : ChangeSpec := { name := "ringKeeps", fn := fun _ => fun
  | [d1, d2] => { results := [.lit (.bool false)], args := [d1, d2] }
  | _ => none }
def RingKeepsWrongFalsely : Prop := ringKeepsRow.holds Try.pinned (OpenSpec.ofChange ringKeepsWrong)

/-- 'bilgelaw01.WordTells': WHATEVER THE INPUT: true; the input reads as it did. -/
def wordTellsSpec : ChangeSpec := { name := "wordTells", fn := fun _ => fun
  | [d1, d2, d3] => { results := [.lit (.bool true)], args := [d1, d2, d3] }
  | _ => none }
def wordTellsRow : OpenClaim := { program := "ytmamkfnnoahcmaa", sum := "4a8a341a6b87c13573124d48c2ae1ed24422d39651be0040551433b2a4335f19", func := "bilge/bilgelaw01.WordTells", spec := "wordTells", unfollowed := true, recurses := true, apart := false }
def WordTellsSaid : Prop := wordTellsRow.holds Try.pinned (OpenSpec.ofChange wordTellsSpec)

/-- ITS FALSE NEIGHBOUR: 'it returns false'. Refute it at one input. -/
def wordTellsWrong : ChangeSpec := { name := "wordTells", fn := fun _ => fun
  | [d1, d2, d3] => { results := [.lit (.bool false)], args := [d1, d2, d3] }
  | _ => none }
def WordTellsWrongFalsely : Prop := wordTellsRow.holds Try.pinned (OpenSpec.ofChange wordTellsWrong)

/-- 'bilgelaw01.WordBack': WHATEVER THE INPUT: true; the input reads as it did. -/
def wordBackSpec : ChangeSpec := { name := "wordBack", fn := fun _ => fun
  | [d1, d2] => { results := [.lit (.bool true)], args := [d1, d2] }
  | _ => none }
def wordBackRow : OpenClaim := { program := "ytmamkfnnoahcmaa", sum := "4a8a341a6b87c13573124d48c2ae1ed24422d39651be0040551433b2a4335f19", func := "bilge/bilgelaw01.WordBack", spec := "wordBack", unfollowed := true, recurses := true, apart := false }
def WordBackSaid : Prop := wordBackRow.holds Try.pinned (OpenSpec.ofChange wordBackSpec)

/-- ITS FALSE NEIGHBOUR: 'it returns false'. Refute it at one input. -/
def wordBackWrong : ChangeSpec := { name := "wordBack", fn := fun _ => fun
  | [d1, d2] => { results := [.lit (.bool false)], args := [d1, d2] }
  | _ => none }
def WordBackWrongFalsely : Prop := wordBackRow.holds Try.pinned (OpenSpec.ofChange wordBackWrong)

/-- 'bilgelaw01.WordBits': WHATEVER THE INPUT: true; the input reads as it did. -/
def wordBitsSpec : ChangeSpec := { name := "wordBits", fn := fun _ => fun
  | [d1, d2] => { results := [.lit (.bool true)], args := [d1, d2] }
  | _ => none }
def wordBitsRow : OpenClaim := { program := "ytmamkfnnoahcmaa", sum := "4a8a341a6b87c13573124d48c2ae1ed24422d39651be0040551433b2a4335f19", func := "bilge/bilgelaw01.WordBits", spec := "wordBits", unfollowed := true, recurses := true, apart := false }
def WordBitsSaid : Prop := wordBitsRow.holds Try.pinned (OpenSpec.ofChange wordBitsSpec)

/-- ITS FALSE NEIGHBOUR: 'it returns false'. Refute it at one input. -/
def wordBitsWrong : ChangeSpec := { name := "wordBits", fn := fun _ => fun
  | [d1, d2] => { results := [.lit (.bool false)], args := [d1, d2] }
  | _ => none }
def WordBitsWrongFalsely : Prop := wordBitsRow.holds Try.pinned (OpenSpec.ofChange wordBitsWrong)

/-- 'bilgelaw12.WindowTells': WHATEVER THE INPUT: true; the input reads as it did. -/
def windowTellsSpec : ChangeSpec := { name := "windowTells", fn := fun _ => fun
  | [d1, d2, d3] => { results := [.lit (.bool true)], args := [d1, d2, d3] }
  | _ => none }
def windowTellsRow : OpenClaim := { program := "ytmamkfnnoahcmaa", sum := "4a8a341a6b87c13573124d48c2ae1ed24422d39651be0040551433b2a4335f19", func := "bilge/bilgelaw12.WindowTells", spec := "windowTells", unfollowed := true, recurses := true, apart := false }
def WindowTellsSaid : Prop := windowTellsRow.holds Try.pinned (OpenSpec.ofChange windowTellsSpec)

/-- ITS FALSE NEIGHBOUR: 'it returns false'. Refute it at one input. -/
def windowTellsWrong : ChangeSpec := { name := "windowTells", fn := fun _ => fun
  | [d1, d2, d3] => { results := [.lit (.bool false)], args := [d1, d2, d3] }
  | _ => none }
def WindowTellsWrongFalsely : Prop := windowTellsRow.holds Try.pinned (OpenSpec.ofChange windowTellsWrong)

/-- 'bilgelaw12.WindowSets': WHATEVER THE INPUT: true; the input reads as it did. -/
def windowSetsSpec : ChangeSpec := { name := "windowSets", fn := fun _ => fun
  | [d1, d2, d3] => { results := [.lit (.bool true)], args := [d1, d2, d3] }
  | _ => none }
def windowSetsRow : OpenClaim := { program := "ytmamkfnnoahcmaa", sum := "4a8a341a6b87c13573124d48c2ae1ed24422d39651be0040551433b2a4335f19", func := "bilge/bilgelaw12.WindowSets", spec := "windowSets", unfollowed := true, recurses := true, apart := false }
def WindowSetsSaid : Prop := windowSetsRow.holds Try.pinned (OpenSpec.ofChange windowSetsSpec)

/-- ITS FALSE NEIGHBOUR: 'it returns false'. Refute it at one input. -/
def windowSetsWrong : ChangeSpec := { name := "windowSets", fn := fun _ => fun
  | [d1, d2, d3] => { results := [.lit (.bool false)], args := [d1, d2, d3] }
  | _ => none }
def WindowSetsWrongFalsely : Prop := windowSetsRow.holds Try.pinned (OpenSpec.ofChange windowSetsWrong)

/-- 'bilgelaw12.WindowCuts': WHATEVER THE INPUT: true; the input reads as it did. -/
def windowCutsSpec : ChangeSpec := { name := "windowCuts", fn := fun _ => fun
  | [d1, d2, d3] => { results := [.lit (.bool true)], args := [d1, d2, d3] }
  | _ => none }
def windowCutsRow : OpenClaim := { program := "ytmamkfnnoahcmaa", sum := "4a8a341a6b87c13573124d48c2ae1ed24422d39651be0040551433b2a4335f19", func := "bilge/bilgelaw12.WindowCuts", spec := "windowCuts", unfollowed := true, recurses := true, apart := false }
def WindowCutsSaid : Prop := windowCutsRow.holds Try.pinned (OpenSpec.ofChange windowCutsSpec)

/-- ITS FALSE NEIGHBOUR: 'it returns false'. Refute it at one input. -/
def windowCutsWrong : ChangeSpec := { name := "windowCuts", fn := fun _ => fun
  | [d1, d2, d3] => { results := [.lit (.bool false)], args := [d1, d2, d3] }
  | _ => none }
def WindowCutsWrongFalsely : Prop := windowCutsRow.holds Try.pinned (OpenSpec.ofChange windowCutsWrong)

/-- 'bilgelaw13.CellsWords': WHATEVER THE INPUT: true; the input reads as it did. -/
def cellsWordsSpec : ChangeSpec := { name := "cellsWords", fn := fun _ => fun
  | [d1, d2] => { results := [.lit (.bool true)], args := [d1, d2] }
  | _ => none }
def cellsWordsRow : OpenClaim := { program := "ytmamkfnnoahcmaa", sum := "4a8a341a6b87c13573124d48c2ae1ed24422d39651be0040551433b2a4335f19", func := "bilge/bilgelaw13.CellsWords", spec := "cellsWords", unfollowed := true, recurses := true, apart := false }
def CellsWordsSaid : Prop := cellsWordsRow.holds Try.pinned (OpenSpec.ofChange cellsWordsSpec)

/-- ITS FALSE NEIGHBOUR: 'it returns false'. Refute it at one input. -/
def cellsWordsWrong : ChangeSpec := { name := "cellsWords", fn := fun _ => fun
  | [d1, d2] => { results := [.lit (.bool false)], args := [d1, d2] }
  | _ => none }
def CellsWordsWrongFalsely : Prop := cellsWordsRow.holds Try.pinned (OpenSpec.ofChange cellsWordsWrong)

/-- 'bilgelaw13.CellsMask': WHATEVER THE INPUT: true; the input reads as it did. -/
def cellsMaskSpec : ChangeSpec := { name := "cellsMask", fn := fun _ => fun
  | [d1, d2, d3] => { results := [.lit (.bool true)], args := [d1, d2, d3] }
  | _ => none }
def cellsMaskRow : OpenClaim := { program := "ytmamkfnnoahcmaa", sum := "4a8a341a6b87c13573124d48c2ae1ed24422d39651be0040551433b2a4335f19", func := "bilge/bilgelaw13.CellsMask", spec := "cellsMask", unfollowed := true, recurses := true, apart := false }
def CellsMaskSaid : Prop := cellsMaskRow.holds Try.pinned (OpenSpec.ofChange cellsMaskSpec)

/-- ITS FALSE NEIGHBOUR: 'it returns false'. Refute it at one input. -/
def cellsMaskWrong : ChangeSpec := { name := "cellsMask", fn := fun _ => fun
  | [d1, d2, d3] => { results := [.lit (.bool false)], args := [d1, d2, d3] }
  | _ => none }
def CellsMaskWrongFalsely : Prop := cellsMaskRow.holds Try.pinned (OpenSpec.ofChange cellsMaskWrong)

/-- 'bilgelaw13.CellsBits': WHATEVER THE INPUT: true; the input reads as it did. -/
def cellsBitsSpec : ChangeSpec := { name := "cellsBits", fn := fun _ => fun
  | [d] => { results := [.lit (.bool true)], args := [d] }
  | _ => none }
def cellsBitsRow : OpenClaim := { program := "ytmamkfnnoahcmaa", sum := "4a8a341a6b87c13573124d48c2ae1ed24422d39651be0040551433b2a4335f19", func := "bilge/bilgelaw13.CellsBits", spec := "cellsBits", unfollowed := true, recurses := true, apart := false }
def CellsBitsSaid : Prop := cellsBitsRow.holds Try.pinned (OpenSpec.ofChange cellsBitsSpec)

/-- ITS FALSE NEIGHBOUR: 'it returns false'. Refute it at one input. -/
def cellsBitsWrong : ChangeSpec := { name := "cellsBits", fn := fun _ => fun
  | [d] => { results := [.lit (.bool false)], args := [d] }
  | _ => none }
def CellsBitsWrongFalsely : Prop := cellsBitsRow.holds Try.pinned (OpenSpec.ofChange cellsBitsWrong)

/-- 'bilgelaw13.CellsBack': WHATEVER THE INPUT: true; the input reads as it did. -/
def cellsBackSpec : ChangeSpec := { name := "cellsBack", fn := fun _ => fun
  | [d1, d2] => { results := [.lit (.bool true)], args := [d1, d2] }
  | _ => none }
def cellsBackRow : OpenClaim := { program := "ytmamkfnnoahcmaa", sum := "4a8a341a6b87c13573124d48c2ae1ed24422d39651be0040551433b2a4335f19", func := "bilge/bilgelaw13.CellsBack", spec := "cellsBack", unfollowed := true, recurses := true, apart := false }
def CellsBackSaid : Prop := cellsBackRow.holds Try.pinned (OpenSpec.ofChange cellsBackSpec)

/-- ITS FALSE NEIGHBOUR: 'it returns false'. Refute it at one input. -/
def cellsBackWrong : ChangeSpec := { name := "cellsBack", fn := fun _ => fun
  | [d1, d2] => { results := [.lit (.bool false)], args := [d1, d2] }
  | _ => none }
def CellsBackWrongFalsely : Prop := cellsBackRow.holds Try.pinned (OpenSpec.ofChange cellsBackWrong)

/- THE SECOND FORM. 'bulk': how many values and letters a reading holds, each counted each time it is reached (what is shared counts as often as it is met; a slice's spare places count too). A statement '..UptoSaid' is the law's where the arguments, and the package variables that the reading takes, are together of bulk at most 1048576: NARROWER than '..Said'. Prove '..Said' where nothing that the law and all that it calls make is longer than what came in: it says more and counts as full. Else prove '..UptoSaid'. A law counts once. -/
mutual
def uptoBulk {H : Type} : DataW H → Nat
  | .lit (.string bytes) => bytes.length + 1
  | .lit _ => 1
  | .nil => 1
  | .ptr d => uptoBulk d + 1
  | .slice elems spare => uptoBulkAll elems + uptoBulkAll spare + 1
  | .agg parts => uptoBulkAll parts + 1
  | .iface _ d => uptoBulk d + 1
  | .map entries => uptoBulkEntries entries + 1
  | .held _ => 1
def uptoBulkAll {H : Type} : List (DataW H) → Nat
  | [] => 0
  | d :: r => uptoBulk d + uptoBulkAll r
def uptoBulkEntries {H : Type} : List (Lit × DataW H) → Nat
  | [] => 0
  | x :: r => uptoBulkEntry x + uptoBulkEntries r
def uptoBulkEntry {H : Type} : Lit × DataW H → Nat
  | (.string bytes, d) => bytes.length + uptoBulk d + 1
  | (_, d) => uptoBulk d + 1
 end
def uptoSmall : (H : Type) → List (DataW H) → Bool := fun _ ds => decide (uptoBulkAll ds ≤ 1048576)
def OpenSpec.upto (s : _root_.Go.ChangeSpec) : _root_.Go.OpenSpec := { _root_.Go.OpenSpec.ofChange s with cond := some uptoSmall }

/-- 'bilgelaw07.RingLast', WHERE WHAT IT READS IS OF BULK AT MOST 1048576: true; the input reads as it did. -/
def ringLastUptoRow : OpenClaim := { program := "ytmamkfnnoahcmaa", sum := "4a8a341a6b87c13573124d48c2ae1ed24422d39651be0040551433b2a4335f19", func := "bilge/bilgelaw07.RingLast", spec := "ringLast", apart := false, narrowed := true }
def RingLastUptoSaid : Prop := ringLastUptoRow.holds Try.pinned (OpenSpec.upto ringLastSpec)

/-- 'bilgelaw07.RingKeeps', WHERE WHAT IT READS IS OF BULK AT MOST 1048576: true; the input reads as it did. -/
def ringKeepsUptoRow : OpenClaim := { program := "ytmamkfnnoahcmaa", sum := "4a8a341a6b87c13573124d48c2ae1ed24422d39651be0040551433b2a4335f19", func := "bilge/bilgelaw07.RingKeeps", spec := "ringKeeps", apart := false, narrowed := true }
def RingKeepsUptoSaid : Prop := ringKeepsUptoRow.holds Try.pinned (OpenSpec.upto ringKeepsSpec)

/-- 'bilgelaw01.WordTells', WHERE WHAT IT READS IS OF BULK AT MOST 1048576: true; the input reads as it did. -/
def wordTellsUptoRow : OpenClaim := { program := "ytmamkfnnoahcmaa", sum := "4a8a341a6b87c13573124d48c2ae1ed24422d39651be0040551433b2a4335f19", func := "bilge/bilgelaw01.WordTells", spec := "wordTells", unfollowed := true, recurses := true, apart := false, narrowed := true }
def WordTellsUptoSaid : Prop := wordTellsUptoRow.holds Try.pinned (OpenSpec.upto wordTellsSpec)

/-- 'bilgelaw01.WordBack', WHERE WHAT IT READS IS OF BULK AT MOST 1048576: true; the input reads as it did. -/
def wordBackUptoRow : OpenClaim := { program := "ytmamkfnnoahcmaa", sum := "4a8a341a6b87c13573124d48c2ae1ed24422d39651be0040551433b2a4335f19", func := "bilge/bilgelaw01.WordBack", spec := "wordBack", unfollowed := true, recurses := true, apart := false, narrowed := true }
def WordBackUptoSaid : Prop := wordBackUptoRow.holds Try.pinned (OpenSpec.upto wordBackSpec)

/-- 'bilgelaw01.WordBits', WHERE WHAT IT READS IS OF BULK AT MOST 1048576: true; the input reads as it did. -/
def wordBitsUptoRow : OpenClaim := { program := "ytmamkfnnoahcmaa", sum := "4a8a341a6b87c13573124d48c2ae1ed24422d39651be0040551433b2a4335f19", func := "bilge/bilgelaw01.WordBits", spec := "wordBits", unfollowed := true, recurses := true, apart := false, narrowed := true }
def WordBitsUptoSaid : Prop := wordBitsUptoRow.holds Try.pinned (OpenSpec.upto wordBitsSpec)

/-- 'bilgelaw12.WindowTells', WHERE WHAT IT READS IS OF BULK AT MOST 1048576: true; the input reads as it did. -/
def windowTellsUptoRow : OpenClaim := { program := "ytmamkfnnoahcmaa", sum := "4a8a341a6b87c13573124d48c2ae1ed24422d39651be0040551433b2a4335f19", func := "bilge/bilgelaw12.WindowTells", spec := "windowTells", unfollowed := true, recurses := true, apart := false, narrowed := true }
def WindowTellsUptoSaid : Prop := windowTellsUptoRow.holds Try.pinned (OpenSpec.upto windowTellsSpec)

/-- 'bilgelaw12.WindowSets', WHERE WHAT IT READS IS OF BULK AT MOST 1048576: true; the input reads as it did. -/
def windowSetsUptoRow : OpenClaim := { program := "ytmamkfnnoahcmaa", sum := "4a8a341a6b87c13573124d48c2ae1ed24422d39651be0040551433b2a4335f19", func := "bilge/bilgelaw12.WindowSets", spec := "windowSets", unfollowed := true, recurses := true, apart := false, narrowed := true }
def WindowSetsUptoSaid : Prop := windowSetsUptoRow.holds Try.pinned (OpenSpec.upto windowSetsSpec)

/-- 'bilgelaw12.WindowCuts', WHERE WHAT IT READS IS OF BULK AT MOST 1048576: true; the input reads as it did. -/
def windowCutsUptoRow : OpenClaim := { program := "ytmamkfnnoahcmaa", sum := "4a8a341a6b87c13573124d48c2ae1ed24422d39651be0040551433b2a4335f19", func := "bilge/bilgelaw12.WindowCuts", spec := "windowCuts", unfollowed := true, recurses := true, apart := false, narrowed := true }
def WindowCutsUptoSaid : Prop := windowCutsUptoRow.holds Try.pinned (OpenSpec.upto windowCutsSpec)

/-- 'bilgelaw13.CellsWords', WHERE WHAT IT READS IS OF BULK AT MOST 1048576: true; the input reads as it did. -/
def cellsWordsUptoRow : OpenClaim := { program := "ytmamkfnnoahcmaa", sum := "4a8a341a6b87c13573124d48c2ae1ed24422d39651be0040551433b2a4335f19", func := "bilge/bilgelaw13.CellsWords", spec := "cellsWords", unfollowed := true, recurses := true, apart := false, narrowed := true }
def CellsWordsUptoSaid : Prop := cellsWordsUptoRow.holds Try.pinned (OpenSpec.upto cellsWordsSpec)

/-- 'bilgelaw13.CellsMask', WHERE WHAT IT READS IS OF BULK AT MOST 1048576: true; the input reads as it did. -/
def cellsMaskUptoRow : OpenClaim := { program := "ytmamkfnnoahcmaa", sum := "4a8a341a6b87c13573124d48c2ae1ed24422d39651be0040551433b2a4335f19", func := "bilge/bilgelaw13.CellsMask", spec := "cellsMask", unfollowed := true, recurses := true, apart := false, narrowed := true }
def CellsMaskUptoSaid : Prop := cellsMaskUptoRow.holds Try.pinned (OpenSpec.upto cellsMaskSpec)

/-- 'bilgelaw13.CellsBits', WHERE WHAT IT READS IS OF BULK AT MOST 1048576: true; the input reads as it did. -/
def cellsBitsUptoRow : OpenClaim := { program := "ytmamkfnnoahcmaa", sum := "4a8a341a6b87c13573124d48c2ae1ed24422d39651be0040551433b2a4335f19", func := "bilge/bilgelaw13.CellsBits", spec := "cellsBits", unfollowed := true, recurses := true, apart := false, narrowed := true }
def CellsBitsUptoSaid : Prop := cellsBitsUptoRow.holds Try.pinned (OpenSpec.upto cellsBitsSpec)

/-- 'bilgelaw13.CellsBack', WHERE WHAT IT READS IS OF BULK AT MOST 1048576: true; the input reads as it did. -/
def cellsBackUptoRow : OpenClaim := { program := "ytmamkfnnoahcmaa", sum := "4a8a341a6b87c13573124d48c2ae1ed24422d39651be0040551433b2a4335f19", func := "bilge/bilgelaw13.CellsBack", spec := "cellsBack", unfollowed := true, recurses := true, apart := false, narrowed := true }
def CellsBackUptoSaid : Prop := cellsBackUptoRow.holds Try.pinned (OpenSpec.upto cellsBackSpec)

end Rows
end Go.Proofs.Ytmamkfnnoahcmaa
