/-
  No cell of these rows narrows 'for every input' (looked for: loops, veiled, ifaces, maps, wideKeys, modest, calm, conditions, laid).
  DERIVED. THE GIVEN ROWS OF THIS SEAT. 12 by the template 'for every input the law returns true; each argument reads behind the call as it read before'; 0 by the template 'total and deterministic' (their statements: YtncfkkmdhdofpaaTotals.lean).
  GIVEN WITH THE SEED: the statements are not yours to turn. If you find one false, say at which input.
  Laid BY PROGRAM, IN A SANDBOX (cutbox-rows.mjs): the forced cells as the released guide's own fill.sh prints them over the translation e7645e6aafcc8718… (all of the seat's roots in one cut). By AI agents, Wed Nov 11 2026. No macro, syntax, notation, axiom, sorry.
-/
import Derived.Test.YtncfkkmdhdofpaaChecked
import GoSem.Claim
import GoSem.ClaimJoined
import GoSem.ClaimMapViews
import Derived.JoinedTies
import Derived.KernelRfl
namespace Go.Proofs.Ytncfkkmdhdofpaa
/- THE CELL 'sum', in the pinned program and in every row, IS THE sha256 OF THE DUMP (.gsa) THAT YtncfkkmdhdofpaaProg.lean LOADS. Nothing in Lean hashes anything: it is a label: what it is worth is what the hold of that sum in a sandbox is worth. -/
noncomputable def Try.pinned : Pinned := { name := "ytncfkkmdhdofpaa", sum := "e7645e6aafcc8718ea1d7b7b08977c558f3debab65b4678028c9069f0aaa6211", checked := Try.checked }
namespace Rows
def none {H : Type} : Left H := { results := [], args := [] }

/-- 'countermandlaw09.ChangePuts': WHATEVER THE INPUT: true; the input reads as it did. -/
def changePutsSpec : ChangeSpec := { name := "changePuts", fn := fun _ => fun
  | [d] => { results := [.lit (.bool true)], args := [d] }
  | _ => none }
def changePutsRow : OpenClaim := { program := "ytncfkkmdhdofpaa", sum := "e7645e6aafcc8718ea1d7b7b08977c558f3debab65b4678028c9069f0aaa6211", func := "countermand/countermandlaw09.ChangePuts", spec := "changePuts", unfollowed := true, recurses := true, apart := false }
def ChangePutsSaid : Prop := changePutsRow.holds Try.pinned (OpenSpec.ofChange changePutsSpec)

/-- ITS FALSE NEIGHBOUR: 'it returns false'. Refute it at one input. -/
def changePutsWrong : ChangeSpec := { name := "changePuts", fn := fun _ => fun
  | [d] => { results := [.lit (.bool false)], args := [d] }
  | _ => none }
def ChangePutsWrongFalsely : Prop := changePutsRow.holds Try.pinned (OpenSpec.ofChange changePutsWrong)

/-- 'countermandlaw09.ChangeGets': WHATEVER THE INPUT: true; the input reads as it did. -/
def changeGetsSpec : ChangeSpec := { name := "changeGets", fn := fun _ => fun
  | [d] => { results := [.lit (.bool true)], args := [d] }
  | _ => none }
def changeGetsRow : OpenClaim := { program := "ytncfkkmdhdofpaa", sum := "e7645e6aafcc8718ea1d7b7b08977c558f3debab65b4678028c9069f0aaa6211", func := "countermand/countermandlaw09.ChangeGets", spec := "changeGets", unfollowed := true, recurses := true, apart := false }
def ChangeGetsSaid : Prop := changeGetsRow.holds Try.pinned (OpenSpec.ofChange changeGetsSpec)

/-- ITS FALSE NEIGHBOUR: 'it returns false'. Refute it at one input. -/
def changeGetsWrong : ChangeSpec := { name := "changeGets", fn := fun _ => fun
  | [d] => { results := [.lit (.bool false)], args := [d] }
  | _ => none }
def ChangeGetsWrongFalsely : Prop := changeGetsRow.holds Try.pinned (OpenSpec.ofChange changeGetsWrong)

/-- 'countermandlaw31.CodePuts': WHATEVER THE INPUT: true; the input reads as it did. -/
def codePutsSpec : ChangeSpec := { name := "codePuts", fn := fun _ => fun
  | [d] => { results := [.lit (.bool true)], args := [d] }
  | _ => none }
def codePutsRow : OpenClaim := { program := "ytncfkkmdhdofpaa", sum := "e7645e6aafcc8718ea1d7b7b08977c558f3debab65b4678028c9069f0aaa6211", func := "countermand/countermandlaw31.CodePuts", spec := "codePuts", unfollowed := true, recurses := true, apart := false }
def CodePutsSaid : Prop := codePutsRow.holds Try.pinned (OpenSpec.ofChange codePutsSpec)

/-- ITS FALSE NEIGHBOUR: 'it returns false'. Refute it at one input. -/
def codePutsWrong : ChangeSpec := { name := "codePuts", fn := fun _ => fun
  | [d] => { results := [.lit (.bool false)], args := [d] }
  | _ => none }
def CodePutsWrongFalsely : Prop := codePutsRow.holds Try.pinned (OpenSpec.ofChange codePutsWrong)

/-- 'countermandlaw31.CodeReads': WHATEVER THE INPUT: true; the input reads as it did. -/
def codeReadsSpec : ChangeSpec := { name := "codeReads", fn := fun _ => fun
  | [d] => { results := [.lit (.bool true)], args := [d] }
  | _ => none }
def codeReadsRow : OpenClaim := { program := "ytncfkkmdhdofpaa", sum := "e7645e6aafcc8718ea1d7b7b08977c558f3debab65b4678028c9069f0aaa6211", func := "countermand/countermandlaw31.CodeReads", spec := "codeReads", unfollowed := true, recurses := true, apart := false }
def CodeReadsSaid : Prop := codeReadsRow.holds Try.pinned (OpenSpec.ofChange codeReadsSpec)

/-- ITS FALSE NEIGHBOUR: 'it returns false'. Refute it at one input. -/
def codeReadsWrong : ChangeSpec := { name := "codeReads", fn := fun _ => fun
  | [d] => { results := [.lit (.bool false)], args := [d] }
  | _ => none }
def CodeReadsWrongFalsely : Prop := codeReadsRow.holds Try.pinned (OpenSpec.ofChange codeReadsWrong)

/-- 'countermandlaw31.CodeTells': WHATEVER THE INPUT: true; the input reads as it did. -/
def codeTellsSpec : ChangeSpec := { name := "codeTells", fn := fun _ => fun
  | [d1, d2] => { results := [.lit (.bool true)], args := [d1, d2] }
  | _ => none }
def codeTellsRow : OpenClaim := { program := "ytncfkkmdhdofpaa", sum := "e7645e6aafcc8718ea1d7b7b08977c558f3debab65b4678028c9069f0aaa6211", func := "countermand/countermandlaw31.CodeTells", spec := "codeTells", unfollowed := true, recurses := true, apart := false }
def CodeTellsSaid : Prop := codeTellsRow.holds Try.pinned (OpenSpec.ofChange codeTellsSpec)

/-- ITS FALSE NEIGHBOUR: 'it returns false'. Refute it at one input. -/
def codeTellsWrong : ChangeSpec := { name := "codeTells", fn := fun _ => fun
  | [d1, d2] => { results := [.lit (.bool false)], args := [d1, d2] }
  | _ => none }
def CodeTellsWrongFalsely : Prop := codeTellsRow.holds Try.pinned (OpenSpec.ofChange codeTellsWrong)

/-- 'countermandlaw09.ChangeLists': WHATEVER THE INPUT: true; the input reads as it did. -/
def changeListsSpec : ChangeSpec := { name := "changeLists", fn := fun _ => fun
  | [d1, d2] => { results := [.lit (.bool true)], args := [d1, d2] }
  | _ => none }
def changeListsRow : OpenClaim := { program := "ytncfkkmdhdofpaa", sum := "e7645e6aafcc8718ea1d7b7b08977c558f3debab65b4678028c9069f0aaa6211", func := "countermand/countermandlaw09.ChangeLists", spec := "changeLists", unfollowed := true, recurses := true, apart := false }
def ChangeListsSaid : Prop := changeListsRow.holds Try.pinned (OpenSpec.ofChange changeListsSpec)

/-- ITS FALSE NEIGHBOUR: 'it returns false'. Refute it at one input. -/
def changeListsWrong : ChangeSpec := { name := "changeLists", fn := fun _ => fun
  | [d1, d2] => { results := [.lit (.bool false)], args := [d1, d2] }
  | _ => none }
def ChangeListsWrongFalsely : Prop := changeListsRow.holds Try.pinned (OpenSpec.ofChange changeListsWrong)

/-- 'countermandlaw31.CodeLists': WHATEVER THE INPUT: true; the input reads as it did. -/
def codeListsSpec : ChangeSpec := { name := "codeLists", fn := fun _ => fun
  | [d1, d2] => { results := [.lit (.bool true)], args := [d1, d2] }
  | _ => none }
def codeListsRow : OpenClaim := { program := "ytncfkkmdhdofpaa", sum := "e7645e6aafcc8718ea1d7b7b08977c558f3debab65b4678028c9069f0aaa6211", func := "countermand/countermandlaw31.CodeLists", spec := "codeLists", unfollowed := true, recurses := true, apart := false }
def CodeListsSaid : Prop := codeListsRow.holds Try.pinned (OpenSpec.ofChange codeListsSpec)

/-- ITS FALSE NEIGHBOUR: 'it returns false'. Refute it at one input. -/
def codeListsWrong : ChangeSpec := { name := "codeLists", fn := fun _ => fun
  | [d1, d2] => { results := [.lit (.bool false)], args := [d1, d2] }
  | _ => none }
def CodeListsWrongFalsely : Prop := codeListsRow.holds Try.pinned (OpenSpec.ofChange codeListsWrong)

/-- 'countermandlaw23.RecordGets': WHATEVER THE INPUT: true; the input reads as it did. -/
def recordGetsSpec : ChangeSpec := { name := "recordGets", fn := fun _ => fun
  | [d] => { results := [.lit (.bool true)], args := [d] }
  | _ => none }
def recordGetsRow : OpenClaim := { program := "ytncfkkmdhdofpaa", sum := "e7645e6aafcc8718ea1d7b7b08977c558f3debab65b4678028c9069f0aaa6211", func := "countermand/countermandlaw23.RecordGets", spec := "recordGets", unfollowed := true, recurses := true, apart := false }
def RecordGetsSaid : Prop := recordGetsRow.holds Try.pinned (OpenSpec.ofChange recordGetsSpec)

/-- ITS FALSE NEIGHBOUR: 'it returns false'. Refute it at one input. -/
def recordGetsWrong : ChangeSpec := { name := "recordGets", fn := fun _ => fun
  | [d] => { results := [.lit (.bool false)], args := [d] }
  | _ => none }
def RecordGetsWrongFalsely : Prop := recordGetsRow.holds Try.pinned (OpenSpec.ofChange recordGetsWrong)

/-- 'countermandlaw23.RecordMakes': WHATEVER THE INPUT: true; the input reads as it did. -/
def recordMakesSpec : ChangeSpec := { name := "recordMakes", fn := fun _ => fun
  | [d1, d2, d3, d4] => { results := [.lit (.bool true)], args := [d1, d2, d3, d4] }
  | _ => none }
def recordMakesRow : OpenClaim := { program := "ytncfkkmdhdofpaa", sum := "e7645e6aafcc8718ea1d7b7b08977c558f3debab65b4678028c9069f0aaa6211", func := "countermand/countermandlaw23.RecordMakes", spec := "recordMakes", unfollowed := true, recurses := true, apart := false }
def RecordMakesSaid : Prop := recordMakesRow.holds Try.pinned (OpenSpec.ofChange recordMakesSpec)

/-- ITS FALSE NEIGHBOUR: 'it returns false'. Refute it at one input. -/
def recordMakesWrong : ChangeSpec := { name := "recordMakes", fn := fun _ => fun
  | [d1, d2, d3, d4] => { results := [.lit (.bool false)], args := [d1, d2, d3, d4] }
  | _ => none }
def RecordMakesWrongFalsely : Prop := recordMakesRow.holds Try.pinned (OpenSpec.ofChange recordMakesWrong)

/-- 'countermandlaw20.EntryTells': WHATEVER THE INPUT: true; the input reads as it did. -/
def entryTellsSpec : ChangeSpec := { name := "entryTells", fn := fun _ => fun
  | [d1, d2, d3] => { results := [.lit (.bool true)], args := [d1, d2, d3] }
  | _ => none }
def entryTellsRow : OpenClaim := { program := "ytncfkkmdhdofpaa", sum := "e7645e6aafcc8718ea1d7b7b08977c558f3debab65b4678028c9069f0aaa6211", func := "countermand/countermandlaw20.EntryTells", spec := "entryTells", unfollowed := true, recurses := true, apart := false }
def EntryTellsSaid : Prop := entryTellsRow.holds Try.pinned (OpenSpec.ofChange entryTellsSpec)

/-- ITS FALSE NEIGHBOUR: 'it returns false'. Refute it at one input. -/
def entryTellsWrong : ChangeSpec := { name := "entryTells", fn := fun _ => fun
  | [d1, d2, d3] => { results := [.lit (.bool false)], args := [d1, d2, d3] }
  | _ => none }
def EntryTellsWrongFalsely : Prop := entryTellsRow.holds Try.pinned (OpenSpec.ofChange entryTellsWrong)

/-- 'countermandlaw20.EntryPuts': WHATEVER THE INPUT: true; the input reads as it did. -/
def entryPutsSpec : ChangeSpec := { name := "entryPuts", fn := fun _ => fun
  | [d1, d2] => { results := [.lit (.bool true)], args := [d1, d2] }
  | _ => none }
def entryPutsRow : OpenClaim := { program := "ytncfkkmdhdofpaa", sum := "e7645e6aafcc8718ea1d7b7b08977c558f3debab65b4678028c9069f0aaa6211", func := "countermand/countermandlaw20.EntryPuts", spec := "entryPuts", unfollowed := true, recurses := true, apart := false }
def EntryPutsSaid : Prop := entryPutsRow.holds Try.pinned (OpenSpec.ofChange entryPutsSpec)

/-- ITS FALSE NEIGHBOUR: 'it returns false'. Refute it at one input. -/
def entryPutsWrong : ChangeSpec := { name := "entryPuts", fn := fun _ => fun
  | [d1, d2] => { results := [.lit (.bool false)], args := [d1, d2] }
  | _ => none }
def EntryPutsWrongFalsely : Prop := entryPutsRow.holds Try.pinned (OpenSpec.ofChange entryPutsWrong)

/-- 'countermandlaw20.EntryOnce': WHATEVER THE INPUT: true; the input reads as it did. -/
def entryOnceSpec : ChangeSpec := { name := "entryOnce", fn := fun _ => fun
  | [d1, d2, d3] => { results := [.lit (.bool true)], args := [d1, d2, d3] }
  | _ => none }
def entryOnceRow : OpenClaim := { program := "ytncfkkmdhdofpaa", sum := "e7645e6aafcc8718ea1d7b7b08977c558f3debab65b4678028c9069f0aaa6211", func := "countermand/countermandlaw20.EntryOnce", spec := "entryOnce", unfollowed := true, recurses := true, apart := false }
def EntryOnceSaid : Prop := entryOnceRow.holds Try.pinned (OpenSpec.ofChange entryOnceSpec)

/-- ITS FALSE NEIGHBOUR: 'it returns false'. Refute it at one input. -/
def entryOnceWrong : ChangeSpec := { name := "entryOnce", fn := fun _ => fun
  | [d1, d2, d3] => { results := [.lit (.bool false)], args := [d1, d2, d3] }
  | _ => none }
def EntryOnceWrongFalsely : Prop := entryOnceRow.holds Try.pinned (OpenSpec.ofChange entryOnceWrong)

/- THE SECOND FORM. 'bulk': how many values and letters a reading holds, each counted each time it is reached (what is shared counts as often as it is met; a slice's spare places count too). A statement '..UptoSaid' is the law's where the arguments, and the package variables that the reading takes, are together of bulk at most 1048576: NARROWER than '..Said'. Prove '..Said' where nothing that the law and all that it calls make is longer than what came in: it says more and counts as full. Else prove '..UptoSaid'. A law counts once. -/
mutual
def uptoBulk {H : Type} : DataW H → Nat
  | .lit (.string bytes) => bytes.length + 1
  | .lit _ => 1
  | .nil => 1
  | .ptr d => uptoBulk d + 1
  | .slice elems spare => uptoBulkAll elems + uptoBulkAll spare + 1
  | .agg parts => uptoBulkAll parts + 1
  | .iface _ d => uptoBulk d + 1
  | .map entries => uptoBulkEntries entries + 1
  | .held _ => 1
def uptoBulkAll {H : Type} : List (DataW H) → Nat
  | [] => 0
  | d :: r => uptoBulk d + uptoBulkAll r
def uptoBulkEntries {H : Type} : List (Lit × DataW H) → Nat
  | [] => 0
  | x :: r => uptoBulkEntry x + uptoBulkEntries r
def uptoBulkEntry {H : Type} : Lit × DataW H → Nat
  | (.string bytes, d) => bytes.length + uptoBulk d + 1
  | (_, d) => uptoBulk d + 1
 end
def uptoSmall : (H : Type) → List (DataW H) → Bool := fun _ ds => decide (uptoBulkAll ds ≤ 1048576)
def OpenSpec.upto (s : _root_.Go.ChangeSpec) : _root_.Go.OpenSpec := { _root_.Go.OpenSpec.ofChange s with cond := some uptoSmall }

/-- 'countermandlaw09.ChangePuts', WHERE WHAT IT READS IS OF BULK AT MOST 1048576: true; the input reads as it did. -/
def changePutsUptoRow : OpenClaim := { program := "ytncfkkmdhdofpaa", sum := "e7645e6aafcc8718ea1d7b7b08977c558f3debab65b4678028c9069f0aaa6211", func := "countermand/countermandlaw09.ChangePuts", spec := "changePuts", unfollowed := true, recurses := true, apart := false, narrowed := true }
def ChangePutsUptoSaid : Prop := changePutsUptoRow.holds Try.pinned (OpenSpec.upto changePutsSpec)

/-- 'countermandlaw09.ChangeGets', WHERE WHAT IT READS IS OF BULK AT MOST 1048576: true; the input reads as it did. -/
def changeGetsUptoRow : OpenClaim := { program := "ytncfkkmdhdofpaa", sum := "e7645e6aafcc8718ea1d7b7b08977c558f3debab65b4678028c9069f0aaa6211", func := "countermand/countermandlaw09.ChangeGets", spec := "changeGets", unfollowed := true, recurses := true, apart := false, narrowed := true }
def ChangeGetsUptoSaid : Prop := changeGetsUptoRow.holds Try.pinned (OpenSpec.upto changeGetsSpec)

/-- 'countermandlaw31.CodePuts', WHERE WHAT IT READS IS OF BULK AT MOST 1048576: true; the input reads as it did. -/
def codePutsUptoRow : OpenClaim := { program := "ytncfkkmdhdofpaa", sum := "e7645e6aafcc8718ea1d7b7b08977c558f3debab65b4678028c9069f0aaa6211", func := "countermand/countermandlaw31.CodePuts", spec := "codePuts", unfollowed := true, recurses := true, apart := false, narrowed := true }
def CodePutsUptoSaid : Prop := codePutsUptoRow.holds Try.pinned (OpenSpec.upto codePutsSpec)

/-- 'countermandlaw31.CodeReads', WHERE WHAT IT READS IS OF BULK AT MOST 1048576: true; the input reads as it did. -/
def codeReadsUptoRow : OpenClaim := { program := "ytncfkkmdhdofpaa", sum := "e7645e6aafcc8718ea1d7b7b08977c558f3debab65b4678028c9069f0aaa6211", func := "countermand/countermandlaw31.CodeReads", spec := "codeReads", unfollowed := true, recurses := true, apart := false, narrowed := true }
def CodeReadsUptoSaid : Prop := codeReadsUptoRow.holds Try.pinned (OpenSpec.upto codeReadsSpec)

/-- 'countermandlaw31.CodeTells', WHERE WHAT IT READS IS OF BULK AT MOST 1048576: true; the input reads as it did. -/
def codeTellsUptoRow : OpenClaim := { program := "ytncfkkmdhdofpaa", sum := "e7645e6aafcc8718ea1d7b7b08977c558f3debab65b4678028c9069f0aaa6211", func := "countermand/countermandlaw31.CodeTells", spec := "codeTells", unfollowed := true, recurses := true, apart := false, narrowed := true }
def CodeTellsUptoSaid : Prop := codeTellsUptoRow.holds Try.pinned (OpenSpec.upto codeTellsSpec)

/-- 'countermandlaw09.ChangeLists', WHERE WHAT IT READS IS OF BULK AT MOST 1048576: true; the input reads as it did. -/
def changeListsUptoRow : OpenClaim := { program := "ytncfkkmdhdofpaa", sum := "e7645e6aafcc8718ea1d7b7b08977c558f3debab65b4678028c9069f0aaa6211", func := "countermand/countermandlaw09.ChangeLists", spec := "changeLists", unfollowed := true, recurses := true, apart := false, narrowed := true }
def ChangeListsUptoSaid : Prop := changeListsUptoRow.holds Try.pinned (OpenSpec.upto changeListsSpec)

/-- 'countermandlaw31.CodeLists', WHERE WHAT IT READS IS OF BULK AT MOST 1048576: true; the input reads as it did. -/
def codeListsUptoRow : OpenClaim := { program := "ytncfkkmdhdofpaa", sum := "e7645e6aafcc8718ea1d7b7b08977c558f3debab65b4678028c9069f0aaa6211", func := "countermand/countermandlaw31.CodeLists", spec := "codeLists", unfollowed := true, recurses := true, apart := false, narrowed := true }
def CodeListsUptoSaid : Prop := codeListsUptoRow.holds Try.pinned (OpenSpec.upto codeListsSpec)

/-- 'countermandlaw23.RecordGets', WHERE WHAT IT READS IS OF BULK AT MOST 1048576: true; the input reads as it did. -/
def recordGetsUptoRow : OpenClaim := { program := "ytncfkkmdhdofpaa", sum := "e7645e6aafcc8718ea1d7b7b08977c558f3debab65b4678028c9069f0aaa6211", func := "countermand/countermandlaw23.RecordGets", spec := "recordGets", unfollowed := true, recurses := true, apart := false, narrowed := true }
def RecordGetsUptoSaid : Prop := recordGetsUptoRow.holds Try.pinned (OpenSpec.upto recordGetsSpec)

/-- 'countermandlaw23.RecordMakes', WHERE WHAT IT READS IS OF BULK AT MOST 1048576: true; the input reads as it did. -/
def recordMakesUptoRow : OpenClaim := { program := "ytncfkkmdhdofpaa", sum := "e7645e6aafcc8718ea1d7b7b08977c558f3debab65b4678028c9069f0aaa6211", func := "countermand/countermandlaw23.RecordMakes", spec := "recordMakes", unfollowed := true, recurses := true, apart := false, narrowed := true }
def RecordMakesUptoSaid : Prop := recordMakesUptoRow.holds Try.pinned (OpenSpec.upto recordMakesSpec)

/-- 'countermandlaw20.EntryTells', WHERE WHAT IT READS IS OF BULK AT MOST 1048576: true; the input reads as it did. -/
def entryTellsUptoRow : OpenClaim := { program := "ytncfkkmdhdofpaa", sum := "e7645e6aafcc8718ea1d7b7b08977c558f3debab65b4678028c9069f0aaa6211", func := "countermand/countermandlaw20.EntryTells", spec := "entryTells", unfollowed := true, recurses := true, apart := false, narrowed := true }
def EntryTellsUptoSaid : Prop := entryTellsUptoRow.holds Try.pinned (OpenSpec.upto entryTellsSpec)

/-- 'countermandlaw20.EntryPuts', WHERE WHAT IT READS IS OF BULK AT MOST 1048576: true; the input reads as it did. -/
def entryPutsUptoRow : OpenClaim := { program := "ytncfkkmdhdofpaa", sum := "e7645e6aafcc8718ea1d7b7b08977c558f3debab65b4678028c9069f0aaa6211", func := "countermand/countermandlaw20.EntryPuts", spec := "entryPuts", unfollowed := true, recurses := true, apart := false, narrowed := true }
def EntryPutsUptoSaid : Prop := entryPutsUptoRow.holds Try.pinned (OpenSpec.upto entryPutsSpec)

/-- 'countermandlaw20.EntryOnce', WHERE WHAT IT READS IS OF BULK AT MOST 1048576: true; the input reads as it did. -/
def entryOnceUptoRow : OpenClaim := { program := "ytncfkkmdhdofpaa", sum := "e7645e6aafcc8718ea1d7b7b08977c558f3debab65b4678028c9069f0aaa6211", func := "countermand/countermandlaw20.EntryOnce", spec := "entryOnce", unfollowed := true, recurses := true, apart := false, narrowed := true }
def EntryOnceUptoSaid : Prop := entryOnceUptoRow.holds Try.pinned (OpenSpec.upto entryOnceSpec)

end Rows
end Go.Proofs.Ytncfkkmdhdofpaa
