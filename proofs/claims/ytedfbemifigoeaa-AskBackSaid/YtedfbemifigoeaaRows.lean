/-
  No cell of these rows narrows 'for every input' (looked for: loops, veiled, ifaces, maps, wideKeys, modest, calm, conditions, laid).
  DERIVED. THE GIVEN ROWS OF THIS SEAT. 7 by the template 'for every input the law returns true; each argument reads behind the call as it read before'; 0 by the template 'total and deterministic' (their statements: YtedfbemifigoeaaTotals.lean).
  GIVEN WITH THE SEED: the statements are not yours to turn. If you find one false, say at which input.
  Laid BY PROGRAM, IN A SANDBOX (cutbox-rows.mjs): the forced cells as the released guide's own fill.sh prints them over the translation acd3acba58b925ab… (all of the seat's roots in one cut). By AI agents, Wed Nov 11 2026. No macro, syntax, notation, axiom, sorry.
-/
import Derived.Test.YtedfbemifigoeaaChecked
import GoSem.Claim
import GoSem.ClaimJoined
import GoSem.ClaimMapViews
import Derived.JoinedTies
import Derived.KernelRfl
namespace Go.Proofs.Ytedfbemifigoeaa
/- THE CELL 'sum', in the pinned program and in every row, IS THE sha256 OF THE DUMP (.gsa) THAT YtedfbemifigoeaaProg.lean LOADS. Nothing in Lean hashes anything: it is a label: what it is worth is what the hold of that sum in a sandbox is worth. -/
noncomputable def Try.pinned : Pinned := { name := "ytedfbemifigoeaa", sum := "acd3acba58b925abc283a8c1b2c4aa468e769a82d08972555fcd0605189030b4", checked := Try.checked }
namespace Rows
def none {H : Type} : Left H := { results := [], args := [] }

/-- 'bilgelaw15.AskPrints': WHATEVER THE INPUT: true; the input reads as it did. -/
def askPrintsSpec : ChangeSpec := { name := "askPrints", fn := fun _ => fun
  | [d1, d2] => { results := [.lit (.bool true)], args := [d1, d2] }
  | _ => none }
def askPrintsRow : OpenClaim := { program := "ytedfbemifigoeaa", sum := "acd3acba58b925abc283a8c1b2c4aa468e769a82d08972555fcd0605189030b4", func := "bilge/bilgelaw15.AskPrints", spec := "askPrints", unfollowed := true, recurses := true, apart := false }
def AskPrintsSaid : Prop := askPrintsRow.holds Try.pinned (OpenSpec.ofChange askPrintsSpec)

/-- ITS FALSE NEIGHBOUR: 'it returns false'. Refute it at one input. -/
def askPrintsWrong : ChangeSpec := { name := "askPrints", fn := fun _ => fun
  | [d1, d2] => { results := [.lit (.bool false)], args := [d1, d2] }
  | _ => none }
def AskPrintsWrongFalsely : Prop := askPrintsRow.holds Try.pinned (OpenSpec.ofChange askPrintsWrong)

/-- 'bilgelaw15.AskParses': WHATEVER THE INPUT: true; the input reads as it did. -/
def askParsesSpec : ChangeSpec := { name := "askParses", fn := fun _ => fun
  | [d] => { results := [.lit (.bool true)], args := [d] }
  | _ => none }
def askParsesRow : OpenClaim := { program := "ytedfbemifigoeaa", sum := "acd3acba58b925abc283a8c1b2c4aa468e769a82d08972555fcd0605189030b4", func := "bilge/bilgelaw15.AskParses", spec := "askParses", unfollowed := true, recurses := true, apart := false }
def AskParsesSaid : Prop := askParsesRow.holds Try.pinned (OpenSpec.ofChange askParsesSpec)

/-- ITS FALSE NEIGHBOUR: 'it returns false'. Refute it at one input. -/
def askParsesWrong : ChangeSpec := { name := "askParses", fn := fun _ => fun
  | [d] => { results := [.lit (.bool false)], args := [d] }
  | _ => none }
def AskParsesWrongFalsely : Prop := askParsesRow.holds Try.pinned (OpenSpec.ofChange askParsesWrong)

/-- 'bilgelaw15.AskBack': WHATEVER THE INPUT: true; the input reads as it did. -/
def askBackSpec : ChangeSpec := { name := "askBack", fn := fun _ => fun
  | [d1, d2] => { results := [.lit (.bool true)], args := [d1, d2] }
  | _ => none }
def askBackRow : OpenClaim := { program := "ytedfbemifigoeaa", sum := "acd3acba58b925abc283a8c1b2c4aa468e769a82d08972555fcd0605189030b4", func := "bilge/bilgelaw15.AskBack", spec := "askBack", unfollowed := true, recurses := true, apart := false }
def AskBackSaid : Prop := askBackRow.holds Try.pinned (OpenSpec.ofChange askBackSpec)

/-- ITS FALSE NEIGHBOUR: 'it returns false'. Refute it at one input. -/
def askBackWrong : ChangeSpec := { name := "askBack", fn := fun _ => fun
  | [d1, d2] => { results := [.lit (.bool false)], args := [d1, d2] }
  | _ => none }
def AskBackWrongFalsely : Prop := askBackRow.holds Try.pinned (OpenSpec.ofChange askBackWrong)

/-- 'bilgelaw16.TellPrints': WHATEVER THE INPUT: true; the input reads as it did. -/
def tellPrintsSpec : ChangeSpec := { name := "tellPrints", fn := fun _ => fun
  | [d1, d2, d3] => { results := [.lit (.bool true)], args := [d1, d2, d3] }
  | _ => none }
def tellPrintsRow : OpenClaim := { program := "ytedfbemifigoeaa", sum := "acd3acba58b925abc283a8c1b2c4aa468e769a82d08972555fcd0605189030b4", func := "bilge/bilgelaw16.TellPrints", spec := "tellPrints", unfollowed := true, recurses := true, apart := false }
def TellPrintsSaid : Prop := tellPrintsRow.holds Try.pinned (OpenSpec.ofChange tellPrintsSpec)

/-- ITS FALSE NEIGHBOUR: 'it returns false'. Refute it at one input. -/
def tellPrintsWrong : ChangeSpec := { name := "tellPrints", fn := fun _ => fun
  | [d1, d2, d3] => { results := [.lit (.bool false)], args := [d1, d2, d3] }
  | _ => none }
def TellPrintsWrongFalsely : Prop := tellPrintsRow.holds Try.pinned (OpenSpec.ofChange tellPrintsWrong)

/-- 'bilgelaw16.TellParses': WHATEVER THE INPUT: true; the input reads as it did. -/
def tellParsesSpec : ChangeSpec := { name := "tellParses", fn := fun _ => fun
  | [d1, d2] => { results := [.lit (.bool true)], args := [d1, d2] }
  | _ => none }
def tellParsesRow : OpenClaim := { program := "ytedfbemifigoeaa", sum := "acd3acba58b925abc283a8c1b2c4aa468e769a82d08972555fcd0605189030b4", func := "bilge/bilgelaw16.TellParses", spec := "tellParses", unfollowed := true, recurses := true, apart := false }
def TellParsesSaid : Prop := tellParsesRow.holds Try.pinned (OpenSpec.ofChange tellParsesSpec)

/-- ITS FALSE NEIGHBOUR: 'it returns false'. Refute it at one input. -/
def tellParsesWrong : ChangeSpec := { name := "tellParses", fn := fun _ => fun
  | [d1, d2] => { results := [.lit (.bool false)], args := [d1, d2] }
  | _ => none }
def TellParsesWrongFalsely : Prop := tellParsesRow.holds Try.pinned (OpenSpec.ofChange tellParsesWrong)

/-- 'bilgelaw16.TellBack': WHATEVER THE INPUT: true; the input reads as it did. -/
def tellBackSpec : ChangeSpec := { name := "tellBack", fn := fun _ => fun
  | [d1, d2, d3] => { results := [.lit (.bool true)], args := [d1, d2, d3] }
  | _ => none }
def tellBackRow : OpenClaim := { program := "ytedfbemifigoeaa", sum := "acd3acba58b925abc283a8c1b2c4aa468e769a82d08972555fcd0605189030b4", func := "bilge/bilgelaw16.TellBack", spec := "tellBack", unfollowed := true, recurses := true, apart := false }
def TellBackSaid : Prop := tellBackRow.holds Try.pinned (OpenSpec.ofChange tellBackSpec)

/-- ITS FALSE NEIGHBOUR: 'it returns false'. Refute it at one input. -/
def tellBackWrong : ChangeSpec := { name := "tellBack", fn := fun _ => fun
  | [d1, d2, d3] => { results := [.lit (.bool false)], args := [d1, d2, d3] }
  | _ => none }
def TellBackWrongFalsely : Prop := tellBackRow.holds Try.pinned (OpenSpec.ofChange tellBackWrong)

/-- 'bilgelaw16.TellOther': WHATEVER THE INPUT: true; the input reads as it did. -/
def tellOtherSpec : ChangeSpec := { name := "tellOther", fn := fun _ => fun
  | [d1, d2, d3] => { results := [.lit (.bool true)], args := [d1, d2, d3] }
  | _ => none }
def tellOtherRow : OpenClaim := { program := "ytedfbemifigoeaa", sum := "acd3acba58b925abc283a8c1b2c4aa468e769a82d08972555fcd0605189030b4", func := "bilge/bilgelaw16.TellOther", spec := "tellOther", unfollowed := true, recurses := true, apart := false }
def TellOtherSaid : Prop := tellOtherRow.holds Try.pinned (OpenSpec.ofChange tellOtherSpec)

/-- ITS FALSE NEIGHBOUR: 'it returns false'. Refute it at one input. -/
def tellOtherWrong : ChangeSpec := { name := "tellOther", fn := fun _ => fun
  | [d1, d2, d3] => { results := [.lit (.bool false)], args := [d1, d2, d3] }
  | _ => none }
def TellOtherWrongFalsely : Prop := tellOtherRow.holds Try.pinned (OpenSpec.ofChange tellOtherWrong)

/- THE SECOND FORM. 'bulk': how many values and letters a reading holds, each counted each time it is reached (what is shared counts as often as it is met; a slice's spare places count too). A statement '..UptoSaid' is the law's where the arguments, and the package variables that the reading takes, are together of bulk at most 1048576: NARROWER than '..Said'. Prove '..Said' where nothing that the law and all that it calls make is longer than what came in: it says more and counts as full. Else prove '..UptoSaid'. A law counts once. -/
mutual
def uptoBulk {H : Type} : DataW H → Nat
  | .lit (.string bytes) => bytes.length + 1
  | .lit _ => 1
  | .nil => 1
  | .ptr d => uptoBulk d + 1
  | .slice elems spare => uptoBulkAll elems + uptoBulkAll spare + 1
  | .agg parts => uptoBulkAll parts + 1
  | .iface _ d => uptoBulk d + 1
  | .map entries => uptoBulkEntries entries + 1
  | .held _ => 1
def uptoBulkAll {H : Type} : List (DataW H) → Nat
  | [] => 0
  | d :: r => uptoBulk d + uptoBulkAll r
def uptoBulkEntries {H : Type} : List (Lit × DataW H) → Nat
  | [] => 0
  | x :: r => uptoBulkEntry x + uptoBulkEntries r
def uptoBulkEntry {H : Type} : Lit × DataW H → Nat
  | (.string bytes, d) => bytes.length + uptoBulk d + 1
  | (_, d) => uptoBulk d + 1
 end
def uptoSmall : (H : Type) → List (DataW H) → Bool := fun _ ds => decide (uptoBulkAll ds ≤ 1048576)
def OpenSpec.upto (s : _root_.Go.ChangeSpec) : _root_.Go.OpenSpec := { _root_.Go.OpenSpec.ofChange s with cond := some uptoSmall }

/-- 'bilgelaw15.AskPrints', WHERE WHAT IT READS IS OF BULK AT MOST 1048576: true; the input reads as it did. -/
def askPrintsUptoRow : OpenClaim := { program := "ytedfbemifigoeaa", sum := "acd3acba58b925abc283a8c1b2c4aa468e769a82d08972555fcd0605189030b4", func := "bilge/bilgelaw15.AskPrints", spec := "askPrints", unfollowed := true, recurses := true, apart := false, narrowed := true }
def AskPrintsUptoSaid : Prop := askPrintsUptoRow.holds Try.pinned (OpenSpec.upto askPrintsSpec)

/-- 'bilgelaw15.AskParses', WHERE WHAT IT READS IS OF BULK AT MOST 1048576: true; the input reads as it did. -/
def askParsesUptoRow : OpenClaim := { program := "ytedfbemifigoeaa", sum := "acd3acba58b925abc283a8c1b2c4aa468e769a82d08972555fcd0605189030b4", func := "bilge/bilgelaw15.AskParses", spec := "askParses", unfollowed := true, recurses := true, apart := false, narrowed := true }
def AskParsesUptoSaid : Prop := askParsesUptoRow.holds Try.pinned (OpenSpec.upto askParsesSpec)

/-- 'bilgelaw15.AskBack', WHERE WHAT IT READS IS OF BULK AT MOST 1048576: true; the input reads as it did. -/
def askBackUptoRow : OpenClaim := { program := "ytedfbemifigoeaa", sum := "acd3acba58b925abc283a8c1b2c4aa468e769a82d08972555fcd0605189030b4", func := "bilge/bilgelaw15.AskBack", spec := "askBack", unfollowed := true, recurses := true, apart := false, narrowed := true }
def AskBackUptoSaid : Prop := askBackUptoRow.holds Try.pinned (OpenSpec.upto askBackSpec)

/-- 'bilgelaw16.TellPrints', WHERE WHAT IT READS IS OF BULK AT MOST 1048576: true; the input reads as it did. -/
def tellPrintsUptoRow : OpenClaim := { program := "ytedfbemifigoeaa", sum := "acd3acba58b925abc283a8c1b2c4aa468e769a82d08972555fcd0605189030b4", func := "bilge/bilgelaw16.TellPrints", spec := "tellPrints", unfollowed := true, recurses := true, apart := false, narrowed := true }
def TellPrintsUptoSaid : Prop := tellPrintsUptoRow.holds Try.pinned (OpenSpec.upto tellPrintsSpec)

/-- 'bilgelaw16.TellParses', WHERE WHAT IT READS IS OF BULK AT MOST 1048576: true; the input reads as it did. -/
def tellParsesUptoRow : OpenClaim := { program := "ytedfbemifigoeaa", sum := "acd3acba58b925abc283a8c1b2c4aa468e769a82d08972555fcd0605189030b4", func := "bilge/bilgelaw16.TellParses", spec := "tellParses", unfollowed := true, recurses := true, apart := false, narrowed := true }
def TellParsesUptoSaid : Prop := tellParsesUptoRow.holds Try.pinned (OpenSpec.upto tellParsesSpec)

/-- 'bilgelaw16.TellBack', WHERE WHAT IT READS IS OF BULK AT MOST 1048576: true; the input reads as it did. -/
def tellBackUptoRow : OpenClaim := { program := "ytedfbemifigoeaa", sum := "acd3acba58b925abc283a8c1b2c4aa468e769a82d08972555fcd0605189030b4", func := "bilge/bilgelaw16.TellBack", spec := "tellBack", unfollowed := true, recurses := true, apart := false, narrowed := true }
def TellBackUptoSaid : Prop := tellBackUptoRow.holds Try.pinned (OpenSpec.upto tellBackSpec)

/-- 'bilgelaw16.TellOther', WHERE WHAT IT READS IS OF BULK AT MOST 1048576: true; the input reads as it did. -/
def tellOtherUptoRow : OpenClaim := { program := "ytedfbemifigoeaa", sum := "acd3acba58b925abc283a8c1b2c4aa468e769a82d08972555fcd0605189030b4", func := "bilge/bilgelaw16.TellOther", spec := "tellOther", unfollowed := true, recurses := true, apart := false, narrowed := true }
def TellOtherUptoSaid : Prop := tellOtherUptoRow.holds Try.pinned (OpenSpec.upto tellOtherSpec)

end Rows
end Go.Proofs.Ytedfbemifigoeaa
