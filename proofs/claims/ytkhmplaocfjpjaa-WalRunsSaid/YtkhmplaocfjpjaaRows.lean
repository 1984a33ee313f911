/-
  No cell of these rows narrows 'for every input' (looked for: loops, veiled, ifaces, maps, wideKeys, modest, calm, conditions, laid).
  DERIVED. THE GIVEN ROWS OF THIS SEAT. 9 by the template 'for every input the law returns true; each argument reads behind the call as it read before'; 0 by the template 'total and deterministic' (their statements: YtkhmplaocfjpjaaTotals.lean).
  GIVEN WITH THE SEED: the statements are not yours to turn. If you find one false, say at which input.
  Laid BY PROGRAM, IN A SANDBOX (cutbox-rows.mjs): the forced cells as the released guide's own fill.sh prints them over the translation 1f7dc3717303f129… (all of the seat's roots in one cut). By AI agents, Wed Nov 11 2026. No macro, syntax, notation, axiom, sorry.
-/
import Derived.Test.YtkhmplaocfjpjaaChecked
import GoSem.Claim
import GoSem.ClaimJoined
import GoSem.ClaimMapViews
import Derived.JoinedTies
import Derived.KernelRfl
namespace Go.Proofs.Ytkhmplaocfjpjaa
/- THE CELL 'sum', in the pinned program and in every row, IS THE sha256 OF THE DUMP (.gsa) THAT YtkhmplaocfjpjaaProg.lean LOADS. Nothing in Lean hashes anything: it is a label: what it is worth is what the hold of that sum in a sandbox is worth. -/
noncomputable def Try.pinned : Pinned := { name := "ytkhmplaocfjpjaa", sum := "1f7dc3717303f129675b3df2bce901786e59654b7dbff70d896cc686fe73273c", checked := Try.checked }
namespace Rows
def none {H : Type} : Left H := { results := [], args := [] }

/-- 'countermandlaw22.LedgerRuns': WHATEVER THE INPUT: true; the input reads as it did. -/
def ledgerRunsSpec : ChangeSpec := { name := "ledgerRuns", fn := fun _ => fun
  | [d1, d2] => { results := [.lit (.bool true)], args := [d1, d2] }
  | _ => none }
def ledgerRunsRow : OpenClaim := { program := "ytkhmplaocfjpjaa", sum := "1f7dc3717303f129675b3df2bce901786e59654b7dbff70d896cc686fe73273c", func := "countermand/countermandlaw22.LedgerRuns", spec := "ledgerRuns", unfollowed := true, recurses := true, apart := false }
def LedgerRunsSaid : Prop := ledgerRunsRow.holds Try.pinned (OpenSpec.ofChange ledgerRunsSpec)

/-- ITS FALSE NEIGHBOUR: 'it returns false'. Refute it at one input. -/
def ledgerRunsWrong : ChangeSpec := { name := "ledgerRuns", fn := fun _ => fun
  | [d1, d2] => { results := [.lit (.bool false)], args := [d1, d2] }
  | _ => none }
def LedgerRunsWrongFalsely : Prop := ledgerRunsRow.holds Try.pinned (OpenSpec.ofChange ledgerRunsWrong)

/-- 'countermandlaw22.LedgerReady': WHATEVER THE INPUT: true; the input reads as it did. -/
def ledgerReadySpec : ChangeSpec := { name := "ledgerReady", fn := fun _ => fun
  | [d1, d2, d3, d4] => { results := [.lit (.bool true)], args := [d1, d2, d3, d4] }
  | _ => none }
def ledgerReadyRow : OpenClaim := { program := "ytkhmplaocfjpjaa", sum := "1f7dc3717303f129675b3df2bce901786e59654b7dbff70d896cc686fe73273c", func := "countermand/countermandlaw22.LedgerReady", spec := "ledgerReady", unfollowed := true, recurses := true, apart := false }
def LedgerReadySaid : Prop := ledgerReadyRow.holds Try.pinned (OpenSpec.ofChange ledgerReadySpec)

/-- ITS FALSE NEIGHBOUR: 'it returns false'. Refute it at one input. -/
def ledgerReadyWrong : ChangeSpec := { name := "ledgerReady", fn := fun _ => fun
  | [d1, d2, d3, d4] => { results := [.lit (.bool false)], args := [d1, d2, d3, d4] }
  | _ => none }
def LedgerReadyWrongFalsely : Prop := ledgerReadyRow.holds Try.pinned (OpenSpec.ofChange ledgerReadyWrong)

/-- 'countermandlaw22.LedgerLoads': WHATEVER THE INPUT: true; the input reads as it did. -/
def ledgerLoadsSpec : ChangeSpec := { name := "ledgerLoads", fn := fun _ => fun
  | [d1, d2, d3] => { results := [.lit (.bool true)], args := [d1, d2, d3] }
  | _ => none }
def ledgerLoadsRow : OpenClaim := { program := "ytkhmplaocfjpjaa", sum := "1f7dc3717303f129675b3df2bce901786e59654b7dbff70d896cc686fe73273c", func := "countermand/countermandlaw22.LedgerLoads", spec := "ledgerLoads", unfollowed := true, recurses := true, apart := false }
def LedgerLoadsSaid : Prop := ledgerLoadsRow.holds Try.pinned (OpenSpec.ofChange ledgerLoadsSpec)

/-- ITS FALSE NEIGHBOUR: 'it returns false'. Refute it at one input. -/
def ledgerLoadsWrong : ChangeSpec := { name := "ledgerLoads", fn := fun _ => fun
  | [d1, d2, d3] => { results := [.lit (.bool false)], args := [d1, d2, d3] }
  | _ => none }
def LedgerLoadsWrongFalsely : Prop := ledgerLoadsRow.holds Try.pinned (OpenSpec.ofChange ledgerLoadsWrong)

/-- 'countermandlaw12.WalKeeps': WHATEVER THE INPUT: true; the input reads as it did. -/
def walKeepsSpec : ChangeSpec := { name := "walKeeps", fn := fun _ => fun
  | [d1, d2, d3, d4] => { results := [.lit (.bool true)], args := [d1, d2, d3, d4] }
  | _ => none }
def walKeepsRow : OpenClaim := { program := "ytkhmplaocfjpjaa", sum := "1f7dc3717303f129675b3df2bce901786e59654b7dbff70d896cc686fe73273c", func := "countermand/countermandlaw12.WalKeeps", spec := "walKeeps", apart := false }
def WalKeepsSaid : Prop := walKeepsRow.holds Try.pinned (OpenSpec.ofChange walKeepsSpec)

/-- ITS FALSE NEIGHBOUR: 'it returns false'. Refute it at one input. -/
def walKeepsWrong : ChangeSpec := { name := "walKeeps", fn := fun _ => fun
  | [d1, d2, d3, d4] => { results := [.lit (.bool false)], args := [d1, d2, d3, d4] }
  | _ => none }
def WalKeepsWrongFalsely : Prop := walKeepsRow.holds Try.pinned (OpenSpec.ofChange walKeepsWrong)

/-- 'countermandlaw22.LedgerClones': WHATEVER THE INPUT: true; the input reads as it did. -/
def ledgerClonesSpec : ChangeSpec := { name := "ledgerClones", fn := fun _ => fun
  | [d1, d2, d3, d4] => { results := [.lit (.bool true)], args := [d1, d2, d3, d4] }
  | _ => none }
def ledgerClonesRow : OpenClaim := { program := "ytkhmplaocfjpjaa", sum := "1f7dc3717303f129675b3df2bce901786e59654b7dbff70d896cc686fe73273c", func := "countermand/countermandlaw22.LedgerClones", spec := "ledgerClones", unfollowed := true, recurses := true, apart := false }
def LedgerClonesSaid : Prop := ledgerClonesRow.holds Try.pinned (OpenSpec.ofChange ledgerClonesSpec)

/-- ITS FALSE NEIGHBOUR: 'it returns false'. Refute it at one input. -/
def ledgerClonesWrong : ChangeSpec := { name := "ledgerClones", fn := fun _ => fun
  | [d1, d2, d3, d4] => { results := [.lit (.bool false)], args := [d1, d2, d3, d4] }
  | _ => none }
def LedgerClonesWrongFalsely : Prop := ledgerClonesRow.holds Try.pinned (OpenSpec.ofChange ledgerClonesWrong)

/-- 'countermandlaw12.WalTwice': WHATEVER THE INPUT: true; the input reads as it did. -/
def walTwiceSpec : ChangeSpec := { name := "walTwice", fn := fun _ => fun
  | [d1, d2, d3, d4] => { results := [.lit (.bool true)], args := [d1, d2, d3, d4] }
  | _ => none }
def walTwiceRow : OpenClaim := { program := "ytkhmplaocfjpjaa", sum := "1f7dc3717303f129675b3df2bce901786e59654b7dbff70d896cc686fe73273c", func := "countermand/countermandlaw12.WalTwice", spec := "walTwice", apart := false }
def WalTwiceSaid : Prop := walTwiceRow.holds Try.pinned (OpenSpec.ofChange walTwiceSpec)

/-- ITS FALSE NEIGHBOUR: 'it returns false'. Refute it at one input. -/
def walTwiceWrong : ChangeSpec := { name := "walTwice", fn := fun _ => fun
  | [d1, d2, d3, d4] => { results := [.lit (.bool false)], args := [d1, d2, d3, d4] }
  | _ => none }
def WalTwiceWrongFalsely : Prop := walTwiceRow.holds Try.pinned (OpenSpec.ofChange walTwiceWrong)

/-- 'countermandlaw12.WalNobody': WHATEVER THE INPUT: true; the input reads as it did. -/
def walNobodySpec : ChangeSpec := { name := "walNobody", fn := fun _ => fun
  | [d1, d2] => { results := [.lit (.bool true)], args := [d1, d2] }
  | _ => none }
def walNobodyRow : OpenClaim := { program := "ytkhmplaocfjpjaa", sum := "1f7dc3717303f129675b3df2bce901786e59654b7dbff70d896cc686fe73273c", func := "countermand/countermandlaw12.WalNobody", spec := "walNobody", apart := false }
def WalNobodySaid : Prop := walNobodyRow.holds Try.pinned (OpenSpec.ofChange walNobodySpec)

/-- ITS FALSE NEIGHBOUR: 'it returns false'. Refute it at one input. -/
def walNobodyWrong : ChangeSpec := { name := "walNobody", fn := fun _ => fun
  | [d1, d2] => { results := [.lit (.bool false)], args := [d1, d2] }
  | _ => none }
def WalNobodyWrongFalsely : Prop := walNobodyRow.holds Try.pinned (OpenSpec.ofChange walNobodyWrong)

/-- 'countermandlaw12.WalSwaps': WHATEVER THE INPUT: true; the input reads as it did. -/
def walSwapsSpec : ChangeSpec := { name := "walSwaps", fn := fun _ => fun
  | [d1, d2, d3, d4] => { results := [.lit (.bool true)], args := [d1, d2, d3, d4] }
  | _ => none }
def walSwapsRow : OpenClaim := { program := "ytkhmplaocfjpjaa", sum := "1f7dc3717303f129675b3df2bce901786e59654b7dbff70d896cc686fe73273c", func := "countermand/countermandlaw12.WalSwaps", spec := "walSwaps", apart := false }
def WalSwapsSaid : Prop := walSwapsRow.holds Try.pinned (OpenSpec.ofChange walSwapsSpec)

/-- ITS FALSE NEIGHBOUR: 'it returns false'. Refute it at one input. -/
def walSwapsWrong : ChangeSpec := { name := "walSwaps", fn := fun _ => fun
  | [d1, d2, d3, d4] => { results := [.lit (.bool false)], args := [d1, d2, d3, d4] }
  | _ => none }
def WalSwapsWrongFalsely : Prop := walSwapsRow.holds Try.pinned (OpenSpec.ofChange walSwapsWrong)

/-- 'countermandlaw12.WalRuns': WHATEVER THE INPUT: true; the input reads as it did. -/
def walRunsSpec : ChangeSpec := { name := "walRuns", fn := fun _ => fun
  | [d1, d2] => { results := [.lit (.bool true)], args := [d1, d2] }
  | _ => none }
def walRunsRow : OpenClaim := { program := "ytkhmplaocfjpjaa", sum := "1f7dc3717303f129675b3df2bce901786e59654b7dbff70d896cc686fe73273c", func := "countermand/countermandlaw12.WalRuns", spec := "walRuns", apart := false }
def WalRunsSaid : Prop := walRunsRow.holds Try.pinned (OpenSpec.ofChange walRunsSpec)

/-- ITS FALSE NEIGHBOUR: 'it returns false'. Refute it at one input. -/
def walRunsWrong : ChangeSpec := { name := "walRuns", fn := fun _ => fun
  | [d1, d2] => { results := [.lit (.bool false)], args := [d1, d2] }
  | _ => none }
def WalRunsWrongFalsely : Prop := walRunsRow.holds Try.pinned (OpenSpec.ofChange walRunsWrong)

/- THE SECOND FORM. 'bulk': how many values and letters a reading holds, each counted each time it is reached (what is shared counts as often as it is met; a slice's spare places count too). A statement '..UptoSaid' is the law's where the arguments, and the package variables that the reading takes, are together of bulk at most 1048576: NARROWER than '..Said'. Prove '..Said' where nothing that the law and all that it calls make is longer than what came in: it says more and counts as full. Else prove '..UptoSaid'. A law counts once. -/
mutual
def uptoBulk {H : Type} : DataW H → Nat
  | .lit (.string bytes) => bytes.length + 1
  | .lit _ => 1
  | .nil => 1
  | .ptr d => uptoBulk d + 1
  | .slice elems spare => uptoBulkAll elems + uptoBulkAll spare + 1
  | .agg parts => uptoBulkAll parts + 1
  | .iface _ d => uptoBulk d + 1
  | .map entries => uptoBulkEntries entries + 1
  | .held _ => 1
def uptoBulkAll {H : Type} : List (DataW H) → Nat
  | [] => 0
  | d :: r => uptoBulk d + uptoBulkAll r
def uptoBulkEntries {H : Type} : List (Lit × DataW H) → Nat
  | [] => 0
  | x :: r => uptoBulkEntry x + uptoBulkEntries r
def uptoBulkEntry {H : Type} : Lit × DataW H → Nat
  | (.string bytes, d) => bytes.length + uptoBulk d + 1
  | (_, d) => uptoBulk d + 1
 end
def uptoSmall : (H : Type) → List (DataW H) → Bool := fun _ ds => decide (uptoBulkAll ds ≤ 1048576)
def OpenSpec.upto (s : _root_.Go.ChangeSpec) : _root_.Go.OpenSpec := { _root_.Go.OpenSpec.ofChange s with cond := some uptoSmall }

/-- 'countermandlaw22.LedgerRuns', WHERE WHAT IT READS IS OF BULK AT MOST 1048576: true; the input reads as it did. -/
def ledgerRunsUptoRow : OpenClaim := { program := "ytkhmplaocfjpjaa", sum := "1f7dc3717303f129675b3df2bce901786e59654b7dbff70d896cc686fe73273c", func := "countermand/countermandlaw22.LedgerRuns", spec := "ledgerRuns", unfollowed := true, recurses := true, apart := false, narrowed := true }
def LedgerRunsUptoSaid : Prop := ledgerRunsUptoRow.holds Try.pinned (OpenSpec.upto ledgerRunsSpec)

/-- 'countermandlaw22.LedgerReady', WHERE WHAT IT READS IS OF BULK AT MOST 1048576: true; the input reads as it did. -/
def ledgerReadyUptoRow : OpenClaim := { program := "ytkhmplaocfjpjaa", sum := "1f7dc3717303f129675b3df2bce901786e59654b7dbff70d896cc686fe73273c", func := "countermand/countermandlaw22.LedgerReady", spec := "ledgerReady", unfollowed := true, recurses := true, apart := false, narrowed := true }
def LedgerReadyUptoSaid : Prop := ledgerReadyUptoRow.holds Try.pinned (OpenSpec.upto ledgerReadySpec)

/-- 'countermandlaw22.LedgerLoads', WHERE WHAT IT READS IS OF BULK AT MOST 1048576: true; the input reads as it did. -/
def ledgerLoadsUptoRow : OpenClaim := { program := "ytkhmplaocfjpjaa", sum := "1f7dc3717303f129675b3df2bce901786e59654b7dbff70d896cc686fe73273c", func := "countermand/countermandlaw22.LedgerLoads", spec := "ledgerLoads", unfollowed := true, recurses := true, apart := false, narrowed := true }
def LedgerLoadsUptoSaid : Prop := ledgerLoadsUptoRow.holds Try.pinned (OpenSpec.upto ledgerLoadsSpec)

/-- 'countermandlaw12.WalKeeps', WHERE WHAT IT READS IS OF BULK AT MOST 1048576: true; the input reads as it did. -/
def walKeepsUptoRow : OpenClaim := { program := "ytkhmplaocfjpjaa", sum := "1f7dc3717303f129675b3df2bce901786e59654b7dbff70d896cc686fe73273c", func := "countermand/countermandlaw12.WalKeeps", spec := "walKeeps", apart := false, narrowed := true }
def WalKeepsUptoSaid : Prop := walKeepsUptoRow.holds Try.pinned (OpenSpec.upto walKeepsSpec)

/-- 'countermandlaw22.LedgerClones', WHERE WHAT IT READS IS OF BULK AT MOST 1048576: true; the input reads as it did. -/
def ledgerClonesUptoRow : OpenClaim := { program := "ytkhmplaocfjpjaa", sum := "1f7dc3717303f129675b3df2bce901786e59654b7dbff70d896cc686fe73273c", func := "countermand/countermandlaw22.LedgerClones", spec := "ledgerClones", unfollowed := true, recurses := true, apart := false, narrowed := true }
def LedgerClonesUptoSaid : Prop := ledgerClonesUptoRow.holds Try.pinned (OpenSpec.upto ledgerClonesSpec)

/-- 'countermandlaw12.WalTwice', WHERE WHAT IT READS IS OF BULK AT MOST 1048576: true; the input reads as it did. -/
def walTwiceUptoRow : OpenClaim := { program := "ytkhmplaocfjpjaa", sum := "1f7dc3717303f129675b3df2bce901786e59654b7dbff70d896cc686fe73273c", func := "countermand/countermandlaw12.WalTwice", spec := "walTwice", apart := false, narrowed := true }
def WalTwiceUptoSaid : Prop := walTwiceUptoRow.holds Try.pinned (OpenSpec.upto walTwiceSpec)

/-- 'countermandlaw12.WalNobody', WHERE WHAT IT READS IS OF BULK AT MOST 1048576: true; the input reads as it did. -/
def walNobodyUptoRow : OpenClaim := { program := "ytkhmplaocfjpjaa", sum := "1f7dc3717303f129675b3df2bce901786e59654b7dbff70d896cc686fe73273c", func := "countermand/countermandlaw12.WalNobody", spec := "walNobody", apart := false, narrowed := true }
def WalNobodyUptoSaid : Prop := walNobodyUptoRow.holds Try.pinned (OpenSpec.upto walNobodySpec)

/-- 'countermandlaw12.WalSwaps', WHERE WHAT IT READS IS OF BULK AT MOST 1048576: true; the input reads as it did. -/
def walSwapsUptoRow : OpenClaim := { program := "ytkhmplaocfjpjaa", sum := "1f7dc3717303f129675b3df2bce901786e59654b7dbff70d896cc686fe73273c", func := "countermand/countermandlaw12.WalSwaps", spec := "walSwaps", apart := false, narrowed := true }
def WalSwapsUptoSaid : Prop := walSwapsUptoRow.holds Try.pinned (OpenSpec.upto walSwapsSpec)

/-- 'countermandlaw12.WalRuns', WHERE WHAT IT READS IS OF BULK AT MOST 1048576: true; the input reads as it did. -/
def walRunsUptoRow : OpenClaim := { program := "ytkhmplaocfjpjaa", sum := "1f7dc3717303f129675b3df2bce901786e59654b7dbff70d896cc686fe73273c", func := "countermand/countermandlaw12.WalRuns", spec := "walRuns", apart := false, narrowed := true }
def WalRunsUptoSaid : Prop := walRunsUptoRow.holds Try.pinned (OpenSpec.upto walRunsSpec)

end Rows
end Go.Proofs.Ytkhmplaocfjpjaa
