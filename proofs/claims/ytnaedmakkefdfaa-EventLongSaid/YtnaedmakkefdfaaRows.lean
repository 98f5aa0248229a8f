/-
  No cell of these rows narrows 'for every input' (looked for: loops, veiled, ifaces, maps, wideKeys, modest, calm, conditions, laid).
  DERIVED. THE GIVEN ROWS OF THIS SEAT. 11 by the template 'for every input the law returns true; each argument reads behind the call as it read before'; 0 by the template 'total and deterministic' (their statements: YtnaedmakkefdfaaTotals.lean).
  GIVEN WITH THE SEED: the statements are not yours to turn. If you find one false, say at which input.
  Laid BY PROGRAM, IN A SANDBOX (cutbox-rows.mjs): the forced cells as the released guide's own fill.sh prints them over the translation 462729f3d3aca198… (all of the seat's roots in one cut). By AI agents, Wed Nov 11 2026. No macro, syntax, notation, axiom, sorry.
-/
import Derived.Test.YtnaedmakkefdfaaChecked
import GoSem.Claim
import GoSem.ClaimJoined
import GoSem.ClaimMapViews
import Derived.JoinedTies
import Derived.KernelRfl
namespace Go.Proofs.Ytnaedmakkefdfaa
/- THE CELL 'sum', in the pinned program and in every row, IS THE sha256 OF THE DUMP (.gsa) THAT YtnaedmakkefdfaaProg.lean LOADS. Nothing in Lean hashes anything: it is a label: what it is worth is what the hold of that sum in a sandbox is worth. -/
noncomputable def Try.pinned : Pinned := { name := "ytnaedmakkefdfaa", sum := "462729f3d3aca198319cb73badcd2ff251266011129b26e110766928ccf70eb5", checked := Try.checked }
namespace Rows
def none {H : Type} : Left H := { results := [], args := [] }

/-- 'bilgelaw02.BitsTell': WHATEVER THE INPUT: true; the input reads as it did. -/
def bitsTellSpec : ChangeSpec := { name := "bitsTell", fn := fun _ => fun
  | [d1, d2, d3] => { results := [.lit (.bool true)], args := [d1, d2, d3] }
  | _ => none }
def bitsTellRow : OpenClaim := { program := "ytnaedmakkefdfaa", sum := "462729f3d3aca198319cb73badcd2ff251266011129b26e110766928ccf70eb5", func := "bilge/bilgelaw02.BitsTell", spec := "bitsTell", apart := false }
def BitsTellSaid : Prop := bitsTellRow.holds Try.pinned (OpenSpec.ofChange bitsTellSpec)

/-- ITS FALSE NEIGHBOUR: 'it returns false'. Refute it at one input. -/
def bitsTellWrong : ChangeSpec := { name := "bitsTell", fn := fun _ => fun
  | [d1, d2, d3] => { results := [.lit (.bool false)], args := [d1, d2, d3] }
  | _ => none }
def BitsTellWrongFalsely : Prop := bitsTellRow.holds Try.pinned (OpenSpec.ofChange bitsTellWrong)

/-- 'bilgelaw02.BitsBack': WHATEVER THE INPUT: true; the input reads as it did. -/
def bitsBackSpec : ChangeSpec := { name := "bitsBack", fn := fun _ => fun
  | [d1, d2, d3] => { results := [.lit (.bool true)], args := [d1, d2, d3] }
  | _ => none }
def bitsBackRow : OpenClaim := { program := "ytnaedmakkefdfaa", sum := "462729f3d3aca198319cb73badcd2ff251266011129b26e110766928ccf70eb5", func := "bilge/bilgelaw02.BitsBack", spec := "bitsBack", apart := false }
def BitsBackSaid : Prop := bitsBackRow.holds Try.pinned (OpenSpec.ofChange bitsBackSpec)

/-- ITS FALSE NEIGHBOUR: 'it returns false'. Refute it at one input. -/
def bitsBackWrong : ChangeSpec := { name := "bitsBack", fn := fun _ => fun
  | [d1, d2, d3] => { results := [.lit (.bool false)], args := [d1, d2, d3] }
  | _ => none }
def BitsBackWrongFalsely : Prop := bitsBackRow.holds Try.pinned (OpenSpec.ofChange bitsBackWrong)

/-- 'bilgelaw02.BitsParts': WHATEVER THE INPUT: true; the input reads as it did. -/
def bitsPartsSpec : ChangeSpec := { name := "bitsParts", fn := fun _ => fun
  | [d1, d2] => { results := [.lit (.bool true)], args := [d1, d2] }
  | _ => none }
def bitsPartsRow : OpenClaim := { program := "ytnaedmakkefdfaa", sum := "462729f3d3aca198319cb73badcd2ff251266011129b26e110766928ccf70eb5", func := "bilge/bilgelaw02.BitsParts", spec := "bitsParts", apart := false }
def BitsPartsSaid : Prop := bitsPartsRow.holds Try.pinned (OpenSpec.ofChange bitsPartsSpec)

/-- ITS FALSE NEIGHBOUR: 'it returns false'. Refute it at one input. -/
def bitsPartsWrong : ChangeSpec := { name := "bitsParts", fn := fun _ => fun
  | [d1, d2] => { results := [.lit (.bool false)], args := [d1, d2] }
  | _ => none }
def BitsPartsWrongFalsely : Prop := bitsPartsRow.holds Try.pinned (OpenSpec.ofChange bitsPartsWrong)

/-- 'bilgelaw40.ValueTells': WHATEVER THE INPUT: true; the input reads as it did. -/
def valueTellsSpec : ChangeSpec := { name := "valueTells", fn := fun _ => fun
  | [d1, d2, d3] => { results := [.lit (.bool true)], args := [d1, d2, d3] }
  | _ => none }
def valueTellsRow : OpenClaim := { program := "ytnaedmakkefdfaa", sum := "462729f3d3aca198319cb73badcd2ff251266011129b26e110766928ccf70eb5", func := "bilge/bilgelaw40.ValueTells", spec := "valueTells", unfollowed := true, recurses := true, apart := false }
def ValueTellsSaid : Prop := valueTellsRow.holds Try.pinned (OpenSpec.ofChange valueTellsSpec)

/-- ITS FALSE NEIGHBOUR: 'it returns false'. Refute it at one input. -/
def valueTellsWrong : ChangeSpec := { name := "valueTells", fn := fun _ => fun
  | [d1, d2, d3] => { results := [.lit (.bool false)], args := [d1, d2, d3] }
  | _ => none }
def ValueTellsWrongFalsely : Prop := valueTellsRow.holds Try.pinned (OpenSpec.ofChange valueTellsWrong)

/-- 'bilgelaw40.ValueScales': WHATEVER THE INPUT: true; the input reads as it did. -/
def valueScalesSpec : ChangeSpec := { name := "valueScales", fn := fun _ => fun
  | [d1, d2, d3] => { results := [.lit (.bool true)], args := [d1, d2, d3] }
  | _ => none }
def valueScalesRow : OpenClaim := { program := "ytnaedmakkefdfaa", sum := "462729f3d3aca198319cb73badcd2ff251266011129b26e110766928ccf70eb5", func := "bilge/bilgelaw40.ValueScales", spec := "valueScales", unfollowed := true, recurses := true, apart := false }
def ValueScalesSaid : Prop := valueScalesRow.holds Try.pinned (OpenSpec.ofChange valueScalesSpec)

/-- ITS FALSE NEIGHBOUR: 'it returns false'. Refute it at one input. -/
def valueScalesWrong : ChangeSpec := { name := "valueScales", fn := fun _ => fun
  | [d1, d2, d3] => { results := [.lit (.bool false)], args := [d1, d2, d3] }
  | _ => none }
def ValueScalesWrongFalsely : Prop := valueScalesRow.holds Try.pinned (OpenSpec.ofChange valueScalesWrong)

/-- 'bilgelaw40.ValueBack': WHATEVER THE INPUT: true; the input reads as it did. -/
def valueBackSpec : ChangeSpec := { name := "valueBack", fn := fun _ => fun
  | [d1, d2, d3] => { results := [.lit (.bool true)], args := [d1, d2, d3] }
  | _ => none }
def valueBackRow : OpenClaim := { program := "ytnaedmakkefdfaa", sum := "462729f3d3aca198319cb73badcd2ff251266011129b26e110766928ccf70eb5", func := "bilge/bilgelaw40.ValueBack", spec := "valueBack", unfollowed := true, recurses := true, apart := false }
def ValueBackSaid : Prop := valueBackRow.holds Try.pinned (OpenSpec.ofChange valueBackSpec)

/-- ITS FALSE NEIGHBOUR: 'it returns false'. Refute it at one input. -/
def valueBackWrong : ChangeSpec := { name := "valueBack", fn := fun _ => fun
  | [d1, d2, d3] => { results := [.lit (.bool false)], args := [d1, d2, d3] }
  | _ => none }
def ValueBackWrongFalsely : Prop := valueBackRow.holds Try.pinned (OpenSpec.ofChange valueBackWrong)

/-- 'bilgelaw22.WhoTells': WHATEVER THE INPUT: true; the input reads as it did. -/
def whoTellsSpec : ChangeSpec := { name := "whoTells", fn := fun _ => fun
  | [d1, d2, d3] => { results := [.lit (.bool true)], args := [d1, d2, d3] }
  | _ => none }
def whoTellsRow : OpenClaim := { program := "ytnaedmakkefdfaa", sum := "462729f3d3aca198319cb73badcd2ff251266011129b26e110766928ccf70eb5", func := "bilge/bilgelaw22.WhoTells", spec := "whoTells", unfollowed := true, recurses := true, apart := false }
def WhoTellsSaid : Prop := whoTellsRow.holds Try.pinned (OpenSpec.ofChange whoTellsSpec)

/-- ITS FALSE NEIGHBOUR: 'it returns false'. Refute it at one input. -/
def whoTellsWrong : ChangeSpec := { name := "whoTells", fn := fun _ => fun
  | [d1, d2, d3] => { results := [.lit (.bool false)], args := [d1, d2, d3] }
  | _ => none }
def WhoTellsWrongFalsely : Prop := whoTellsRow.holds Try.pinned (OpenSpec.ofChange whoTellsWrong)

/-- 'bilgelaw22.WhoBack': WHATEVER THE INPUT: true; the input reads as it did. -/
def whoBackSpec : ChangeSpec := { name := "whoBack", fn := fun _ => fun
  | [d1, d2, d3] => { results := [.lit (.bool true)], args := [d1, d2, d3] }
  | _ => none }
def whoBackRow : OpenClaim := { program := "ytnaedmakkefdfaa", sum := "462729f3d3aca198319cb73badcd2ff251266011129b26e110766928ccf70eb5", func := "bilge/bilgelaw22.WhoBack", spec := "whoBack", unfollowed := true, recurses := true, apart := false }
def WhoBackSaid : Prop := whoBackRow.holds Try.pinned (OpenSpec.ofChange whoBackSpec)

/-- ITS FALSE NEIGHBOUR: 'it returns false'. Refute it at one input. -/
def whoBackWrong : ChangeSpec := { name := "whoBack", fn := fun _ => fun
  | [d1, d2, d3] => { results := [.lit (.bool false)], args := [d1, d2, d3] }
  | _ => none }
def WhoBackWrongFalsely : Prop := whoBackRow.holds Try.pinned (OpenSpec.ofChange whoBackWrong)

/-- 'bilgelaw22.WhoBits': WHATEVER THE INPUT: true; the input reads as it did. -/
def whoBitsSpec : ChangeSpec := { name := "whoBits", fn := fun _ => fun
  | [d1, d2] => { results := [.lit (.bool true)], args := [d1, d2] }
  | _ => none }
def whoBitsRow : OpenClaim := { program := "ytnaedmakkefdfaa", sum := "462729f3d3aca198319cb73badcd2ff251266011129b26e110766928ccf70eb5", func := "bilge/bilgelaw22.WhoBits", spec := "whoBits", unfollowed := true, recurses := true, apart := false }
def WhoBitsSaid : Prop := whoBitsRow.holds Try.pinned (OpenSpec.ofChange whoBitsSpec)

/-- ITS FALSE NEIGHBOUR: 'it returns false'. Refute it at one input. -/
def whoBitsWrong : ChangeSpec := { name := "whoBits", fn := fun _ => fun
  | [d1, d2] => { results := [.lit (.bool false)], args := [d1, d2] }
  | _ => none }
def WhoBitsWrongFalsely : Prop := whoBitsRow.holds Try.pinned (OpenSpec.ofChange whoBitsWrong)

/-- 'bilgelaw19.EventLong': WHATEVER THE INPUT: true; the input reads as it did. -/
def eventLongSpec : ChangeSpec := { name := "eventLong", fn := fun _ => fun
  | [d1, d2] => { results := [.lit (.bool true)], args := [d1, d2] }
  | _ => none }
def eventLongRow : OpenClaim := { program := "ytnaedmakkefdfaa", sum := "462729f3d3aca198319cb73badcd2ff251266011129b26e110766928ccf70eb5", func := "bilge/bilgelaw19.EventLong", spec := "eventLong", unfollowed := true, recurses := true, apart := false }
def EventLongSaid : Prop := eventLongRow.holds Try.pinned (OpenSpec.ofChange eventLongSpec)

/-- ITS FALSE NEIGHBOUR: 'it returns false'. Refute it at one input. -/
def eventLongWrong : ChangeSpec := { name := "eventLong", fn := fun _ => fun
  | [d1, d2] => { results := [.lit (.bool false)], args := [d1, d2] }
  | _ => none }
def EventLongWrongFalsely : Prop := eventLongRow.holds Try.pinned (OpenSpec.ofChange eventLongWrong)

/-- 'bilgelaw19.EventDoes': WHATEVER THE INPUT: true; the input reads as it did. -/
def eventDoesSpec : ChangeSpec := { name := "eventDoes", fn := fun _ => fun
  | [d1, d2] => { results := [.lit (.bool true)], args := [d1, d2] }
  | _ => none }
def eventDoesRow : OpenClaim := { program := "ytnaedmakkefdfaa", sum := "462729f3d3aca198319cb73badcd2ff251266011129b26e110766928ccf70eb5", func := "bilge/bilgelaw19.EventDoes", spec := "eventDoes", unfollowed := true, recurses := true, apart := false }
def EventDoesSaid : Prop := eventDoesRow.holds Try.pinned (OpenSpec.ofChange eventDoesSpec)

/-- ITS FALSE NEIGHBOUR: 'it returns false'. Refute it at one input. -/
def eventDoesWrong : ChangeSpec := { name := "eventDoes", fn := fun _ => fun
  | [d1, d2] => { results := [.lit (.bool false)], args := [d1, d2] }
  | _ => none }
def EventDoesWrongFalsely : Prop := eventDoesRow.holds Try.pinned (OpenSpec.ofChange eventDoesWrong)

/- THE SECOND FORM. 'bulk': how many values and letters a reading holds, each counted each time it is reached (what is shared counts as often as it is met; a slice's spare places count too). A statement '..UptoSaid' is the law's where the arguments, and the package variables that the reading takes, are together of bulk at most 1048576: NARROWER than '..Said'. Prove '..Said' where nothing that the law and all that it calls make is longer than what came in: it says more and counts as full. Else prove '..UptoSaid'. A law counts once. -/
mutual
def uptoBulk {H : Type} : DataW H → Nat
  | .lit (.string bytes) => bytes.length + 1
  | .lit _ => 1
  | .nil => 1
  | .ptr d => uptoBulk d + 1
  | .slice elems spare => uptoBulkAll elems + uptoBulkAll spare + 1
  | .agg parts => uptoBulkAll parts + 1
  | .iface _ d => uptoBulk d + 1
  | .map entries => uptoBulkEntries entries + 1
  | .held _ => 1
def uptoBulkAll {H : Type} : List (DataW H) → Nat
  | [] => 0
  | d :: r => uptoBulk d + uptoBulkAll r
def uptoBulkEntries {H : Type} : List (Lit × DataW H) → Nat
  | [] => 0
  | x :: r => uptoBulkEntry x + uptoBulkEntries r
def uptoBulkEntry {H : Type} : Lit × DataW H → Nat
  | (.string bytes, d) => bytes.length + uptoBulk d + 1
  | (_, d) => uptoBulk d + 1
 end
def uptoSmall : (H : Type) → List (DataW H) → Bool := fun _ ds => decide (uptoBulkAll ds ≤ 1048576)
def OpenSpec.upto (s : _root_.Go.ChangeSpec) : _root_.Go.OpenSpec := { _root_.Go.OpenSpec.ofChange s with cond := some uptoSmall }

/-- 'bilgelaw02.BitsTell', WHERE WHAT IT READS IS OF BULK AT MOST 1048576: true; the input reads as it did. -/
def bitsTellUptoRow : OpenClaim := { program := "ytnaedmakkefdfaa", sum := "462729f3d3aca198319cb73badcd2ff251266011129b26e110766928ccf70eb5", func := "bilge/bilgelaw02.BitsTell", spec := "bitsTell", apart := false, narrowed := true }
def BitsTellUptoSaid : Prop := bitsTellUptoRow.holds Try.pinned (OpenSpec.upto bitsTellSpec)

/-- 'bilgelaw02.BitsBack', WHERE WHAT IT READS IS OF BULK AT MOST 1048576: true; the input reads as it did. -/
def bitsBackUptoRow : OpenClaim := { program := "ytnaedmakkefdfaa", sum := "462729f3d3aca198319cb73badcd2ff251266011129b26e110766928ccf70eb5", func := "bilge/bilgelaw02.BitsBack", spec := "bitsBack", apart := false, narrowed := true }
def BitsBackUptoSaid : Prop := bitsBackUptoRow.holds Try.pinned (OpenSpec.upto bitsBackSpec)

/-- 'bilgelaw02.BitsParts', WHERE WHAT IT READS IS OF BULK AT MOST 1048576: true; the input reads as it did. -/
def bitsPartsUptoRow : OpenClaim := { program := "ytnaedmakkefdfaa", sum := "462729f3d3aca198319cb73badcd2ff251266011129b26e110766928ccf70eb5", func := "bilge/bilgelaw02.BitsParts", spec := "bitsParts", apart := false, narrowed := true }
def BitsPartsUptoSaid : Prop := bitsPartsUptoRow.holds Try.pinned (OpenSpec.upto bitsPartsSpec)

/-- 'bilgelaw40.ValueTells', WHERE WHAT IT READS IS OF BULK AT MOST 1048576: true; the input reads as it did. -/
def valueTellsUptoRow : OpenClaim := { program := "ytnaedmakkefdfaa", sum := "462729f3d3aca198319cb73badcd2ff251266011129b26e110766928ccf70eb5", func := "bilge/bilgelaw40.ValueTells", spec := "valueTells", unfollowed := true, recurses := true, apart := false, narrowed := true }
def ValueTellsUptoSaid : Prop := valueTellsUptoRow.holds Try.pinned (OpenSpec.upto valueTellsSpec)

/-- 'bilgelaw40.ValueScales', WHERE WHAT IT READS IS OF BULK AT MOST 1048576: true; the input reads as it did. -/
def valueScalesUptoRow : OpenClaim := { program := "ytnaedmakkefdfaa", sum := "462729f3d3aca198319cb73badcd2ff251266011129b26e110766928ccf70eb5", func := "bilge/bilgelaw40.ValueScales", spec := "valueScales", unfollowed := true, recurses := true, apart := false, narrowed := true }
def ValueScalesUptoSaid : Prop := valueScalesUptoRow.holds Try.pinned (OpenSpec.upto valueScalesSpec)

/-- 'bilgelaw40.ValueBack', WHERE WHAT IT READS IS OF BULK AT MOST 1048576: true; the input reads as it did. -/
def valueBackUptoRow : OpenClaim := { program := "ytnaedmakkefdfaa", sum := "462729f3d3aca198319cb73badcd2ff251266011129b26e110766928ccf70eb5", func := "bilge/bilgelaw40.ValueBack", spec := "valueBack", unfollowed := true, recurses := true, apart := false, narrowed := true }
def ValueBackUptoSaid : Prop := valueBackUptoRow.holds Try.pinned (OpenSpec.upto valueBackSpec)

/-- 'bilgelaw22.WhoTells', WHERE WHAT IT READS IS OF BULK AT MOST 1048576: true; the input reads as it did. -/
def whoTellsUptoRow : OpenClaim := { program := "ytnaedmakkefdfaa", sum := "462729f3d3aca198319cb73badcd2ff251266011129b26e110766928ccf70eb5", func := "bilge/bilgelaw22.WhoTells", spec := "whoTells", unfollowed := true, recurses := true, apart := false, narrowed := true }
def WhoTellsUptoSaid : Prop := whoTellsUptoRow.holds Try.pinned (OpenSpec.upto whoTellsSpec)

/-- 'bilgelaw22.WhoBack', WHERE WHAT IT READS IS OF BULK AT MOST 1048576: true; the input reads as it did. -/
def whoBackUptoRow : OpenClaim := { program := "ytnaedmakkefdfaa", sum := "462729f3d3aca198319cb73badcd2ff251266011129b26e110766928ccf70eb5", func := "bilge/bilgelaw22.WhoBack", spec := "whoBack", unfollowed := true, recurses := true, apart := false, narrowed := true }
def WhoBackUptoSaid : Prop := whoBackUptoRow.holds Try.pinned (OpenSpec.upto whoBackSpec)

/-- 'bilgelaw22.WhoBits', WHERE WHAT IT READS IS OF BULK AT MOST 1048576: true; the input reads as it did. -/
def whoBitsUptoRow : OpenClaim := { program := "ytnaedmakkefdfaa", sum := "462729f3d3aca198319cb73badcd2ff251266011129b26e110766928ccf70eb5", func := "bilge/bilgelaw22.WhoBits", spec := "whoBits", unfollowed := true, recurses := true, apart := false, narrowed := true }
def WhoBitsUptoSaid : Prop := whoBitsUptoRow.holds Try.pinned (OpenSpec.upto whoBitsSpec)

/-- 'bilgelaw19.EventLong', WHERE WHAT IT READS IS OF BULK AT MOST 1048576: true; the input reads as it did. -/
def eventLongUptoRow : OpenClaim := { program := "ytnaedmakkefdfaa", sum := "462729f3d3aca198319cb73badcd2ff251266011129b26e110766928ccf70eb5", func := "bilge/bilgelaw19.EventLong", spec := "eventLong", unfollowed := true, recurses := true, apart := false, narrowed := true }
def EventLongUptoSaid : Prop := eventLongUptoRow.holds Try.pinned (OpenSpec.upto eventLongSpec)

/-- 'bilgelaw19.EventDoes', WHERE WHAT IT READS IS OF BULK AT MOST 1048576: true; the input reads as it did. -/
def eventDoesUptoRow : OpenClaim := { program := "ytnaedmakkefdfaa", sum := "462729f3d3aca198319cb73badcd2ff251266011129b26e110766928ccf70eb5", func := "bilge/bilgelaw19.EventDoes", spec := "eventDoes", unfollowed := true, recurses := true, apart := false, narrowed := true }
def EventDoesUptoSaid : Prop := eventDoesUptoRow.holds Try.pinned (OpenSpec.upto eventDoesSpec)

end Rows
end Go.Proofs.Ytnaedmakkefdfaa
