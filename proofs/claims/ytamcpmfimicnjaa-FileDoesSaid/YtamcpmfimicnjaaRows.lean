/-
  No cell of these rows narrows 'for every input' (looked for: loops, veiled, ifaces, maps, wideKeys, modest, calm, conditions, laid).
  DERIVED. THE GIVEN ROWS OF THIS SEAT. 4 by the template 'for every input the law returns true; each argument reads behind the call as it read before'; 0 by the template 'total and deterministic' (their statements: YtamcpmfimicnjaaTotals.lean).
  GIVEN WITH THE SEED: the statements are not yours to turn. If you find one false, say at which input.
  Laid BY PROGRAM, IN A SANDBOX (cutbox-rows.mjs): the forced cells as the released guide's own fill.sh prints them over the translation 3277497400b1c5f6… (all of the seat's roots in one cut). By AI agents, Wed Nov 11 2026. No macro, syntax, notation, axiom, sorry.
-/
import Derived.Test.YtamcpmfimicnjaaChecked
import GoSem.Claim
import GoSem.ClaimJoined
import GoSem.ClaimMapViews
import Derived.JoinedTies
import Derived.KernelRfl
namespace Go.Proofs.Ytamcpmfimicnjaa
/- THE CELL 'sum', in the pinned program and in every row, IS THE sha256 OF THE DUMP (.gsa) THAT YtamcpmfimicnjaaProg.lean LOADS. Nothing in Lean hashes anything: it is a label: what it is worth is what the hold of that sum in a sandbox is worth. -/
noncomputable def Try.pinned : Pinned := { name := "ytamcpmfimicnjaa", sum := "3277497400b1c5f6905ae446e2982e3cee2f2e77c91c49e5f6d4abbf9eab59bc", checked := Try.checked }
namespace Rows
def none {H : Type} : Left H := { results := [], args := [] }

/-- 'bilgelaw14.FileKeeps': WHATEVER THE INPUT: true; the input reads as it did. -/
def fileKeepsSpec : ChangeSpec := { name := "fileKeeps", fn := fun _ => fun
  | [d1, d2] => { results := [.lit (.bool true)], args := [d1, d2] }
  | _ => none }
def fileKeepsRow : OpenClaim := { program := "ytamcpmfimicnjaa", sum := "3277497400b1c5f6905ae446e2982e3cee2f2e77c91c49e5f6d4abbf9eab59bc", func := "bilge/bilgelaw14.FileKeeps", spec := "fileKeeps", unfollowed := true, recurses := true, apart := false }
def FileKeepsSaid : Prop := fileKeepsRow.holds Try.pinned (OpenSpec.ofChange fileKeepsSpec)

/-- ITS FALSE NEIGHBOUR: 'it returns false'. Refute it at one input. -/
def fileKeepsWrong : ChangeSpec := { name := "fileKeeps", fn := fun _ => fun
  | [d1, d2] => { results := [.lit (.bool false)], args := [d1, d2] }
  | _ => none }
def FileKeepsWrongFalsely : Prop := fileKeepsRow.holds Try.pinned (OpenSpec.ofChange fileKeepsWrong)

/-- 'bilgelaw14.FileAny': WHATEVER THE INPUT: true; the input reads as it did. -/
def fileAnySpec : ChangeSpec := { name := "fileAny", fn := fun _ => fun
  | [d1, d2, d3] => { results := [.lit (.bool true)], args := [d1, d2, d3] }
  | _ => none }
def fileAnyRow : OpenClaim := { program := "ytamcpmfimicnjaa", sum := "3277497400b1c5f6905ae446e2982e3cee2f2e77c91c49e5f6d4abbf9eab59bc", func := "bilge/bilgelaw14.FileAny", spec := "fileAny", unfollowed := true, recurses := true, apart := false }
def FileAnySaid : Prop := fileAnyRow.holds Try.pinned (OpenSpec.ofChange fileAnySpec)

/-- ITS FALSE NEIGHBOUR: 'it returns false'. Refute it at one input. -/
def fileAnyWrong : ChangeSpec := { name := "fileAny", fn := fun _ => fun
  | [d1, d2, d3] => { results := [.lit (.bool false)], args := [d1, d2, d3] }
  | _ => none }
def FileAnyWrongFalsely : Prop := fileAnyRow.holds Try.pinned (OpenSpec.ofChange fileAnyWrong)

/-- 'bilgelaw14.FileInputs': WHATEVER THE INPUT: true; the input reads as it did. -/
def fileInputsSpec : ChangeSpec := { name := "fileInputs", fn := fun _ => fun
  | [d1, d2, d3] => { results := [.lit (.bool true)], args := [d1, d2, d3] }
  | _ => none }
def fileInputsRow : OpenClaim := { program := "ytamcpmfimicnjaa", sum := "3277497400b1c5f6905ae446e2982e3cee2f2e77c91c49e5f6d4abbf9eab59bc", func := "bilge/bilgelaw14.FileInputs", spec := "fileInputs", unfollowed := true, recurses := true, apart := false }
def FileInputsSaid : Prop := fileInputsRow.holds Try.pinned (OpenSpec.ofChange fileInputsSpec)

/-- ITS FALSE NEIGHBOUR: 'it returns false'. Refute it at one input. -/
def fileInputsWrong : ChangeSpec := { name := "fileInputs", fn := fun _ => fun
  | [d1, d2, d3] => { results := [.lit (.bool false)], args := [d1, d2, d3] }
  | _ => none }
def FileInputsWrongFalsely : Prop := fileInputsRow.holds Try.pinned (OpenSpec.ofChange fileInputsWrong)

/-- 'bilgelaw14.FileDoes': WHATEVER THE INPUT: true; the input reads as it did. -/
def fileDoesSpec : ChangeSpec := { name := "fileDoes", fn := fun _ => fun
  | [d1, d2] => { results := [.lit (.bool true)], args := [d1, d2] }
  | _ => none }
def fileDoesRow : OpenClaim := { program := "ytamcpmfimicnjaa", sum := "3277497400b1c5f6905ae446e2982e3cee2f2e77c91c49e5f6d4abbf9eab59bc", func := "bilge/bilgelaw14.FileDoes", spec := "fileDoes", unfollowed := true, recurses := true, apart := false }
def FileDoesSaid : Prop := fileDoesRow.holds Try.pinned (OpenSpec.ofChange fileDoesSpec)

/-- ITS FALSE NEIGHBOUR: 'it returns false'. Refute it at one input. -/
def fileDoesWrong : ChangeSpec := { name := "fileDoes", fn := fun _ => fun
  | [d1, d2] => { results := [.lit (.bool false)], args := [d1, d2] }
  | _ => none }
def FileDoesWrongFalsely : Prop := fileDoesRow.holds Try.pinned (OpenSpec.ofChange fileDoesWrong)

/- THE SECOND FORM. 'bulk': how many values and letters a reading holds, each counted each time it is reached (what is shared counts as often as it is met; a slice's spare places count too). A statement '..UptoSaid' is the law's where the arguments, and the package variables that the reading takes, are together of bulk at most 1048576: NARROWER than '..Said'. Prove '..Said' where nothing that the law and all that it calls make is longer than what came in: it says more and counts as full. Else prove '..UptoSaid'. A law counts once. -/
mutual
def uptoBulk {H : Type} : DataW H → Nat
  | .lit (.string bytes) => bytes.length + 1
  | .lit _ => 1
  | .nil => 1
  | .ptr d => uptoBulk d + 1
  | .slice elems spare => uptoBulkAll elems + uptoBulkAll spare + 1
  | .agg parts => uptoBulkAll parts + 1
  | .iface _ d => uptoBulk d + 1
  | .map entries => uptoBulkEntries entries + 1
  | .held _ => 1
def uptoBulkAll {H : Type} : List (DataW H) → Nat
  | [] => 0
  | d :: r => uptoBulk d + uptoBulkAll r
def uptoBulkEntries {H : Type} : List (Lit × DataW H) → Nat
  | [] => 0
  | x :: r => uptoBulkEntry x + uptoBulkEntries r
def uptoBulkEntry {H : Type} : Lit × DataW H → Nat
  | (.string bytes, d) => bytes.length + uptoBulk d + 1
  | (_, d) => uptoBulk d + 1
 end
def uptoSmall : (H : Type) → List (DataW H) → Bool := fun _ ds => decide (uptoBulkAll ds ≤ 1048576)
def OpenSpec.upto (s : _root_.Go.ChangeSpec) : _root_.Go.OpenSpec := { _root_.Go.OpenSpec.ofChange s with cond := some uptoSmall }

/-- 'bilgelaw14.FileKeeps', WHERE WHAT IT READS IS OF BULK AT MOST 1048576: true; the input reads as it did. -/
def fileKeepsUptoRow : OpenClaim := { program := "ytamcpmfimicnjaa", sum := "3277497400b1c5f6905ae446e2982e3cee2f2e77c91c49e5f6d4abbf9eab59bc", func := "bilge/bilgelaw14.FileKeeps", spec := "fileKeeps", unfollowed := true, recurses := true, apart := false, narrowed := true }
def FileKeepsUptoSaid : Prop := fileKeepsUptoRow.holds Try.pinned (OpenSpec.upto fileKeepsSpec)

/-- 'bilgelaw14.FileAny', WHERE WHAT IT READS IS OF BULK AT MOST 1048576: true; the input reads as it did. -/
def fileAnyUptoRow : OpenClaim := { program := "ytamcpmfimicnjaa", sum := "3277497400b1c5f6905ae446e2982e3cee2f2e77c91c49e5f6d4abbf9eab59bc", func := "bilge/bilgelaw14.FileAny", spec := "fileAny", unfollowed := true, recurses := true, apart := false, narrowed := true }
def FileAnyUptoSaid : Prop := fileAnyUptoRow.holds Try.pinned (OpenSpec.upto fileAnySpec)

/-- 'bilgelaw14.FileInputs', WHERE WHAT IT READS IS OF BULK AT MOST 1048576: true; the input reads as it did. -/
def fileInputsUptoRow : OpenClaim := { program := "ytamcpmfimicnjaa", sum := "3277497400b1c5f6905ae446e2982e3cee2f2e77c91c49e5f6d4abbf9eab59bc", func := "bilge/bilgelaw14.FileInputs", spec := "fileInputs", unfollowed := true, recurses := true, apart := false, narrowed := true }
def FileInputsUptoSaid : Prop := fileInputsUptoRow.holds Try.pinned (OpenSpec.upto fileInputsSpec)

/-- 'bilgelaw14.FileDoes', WHERE WHAT IT READS IS OF BULK AT MOST 1048576: true; the input reads as it did. -/
def fileDoesUptoRow : OpenClaim := { program := "ytamcpmfimicnjaa", sum := "3277497400b1c5f6905ae446e2982e3cee2f2e77c91c49e5f6d4abbf9eab59bc", func := "bilge/bilgelaw14.FileDoes", spec := "fileDoes", unfollowed := true, recurses := true, apart := false, narrowed := true }
def FileDoesUptoSaid : Prop := fileDoesUptoRow.holds Try.pinned (OpenSpec.upto fileDoesSpec)

end Rows
end Go.Proofs.Ytamcpmfimicnjaa
