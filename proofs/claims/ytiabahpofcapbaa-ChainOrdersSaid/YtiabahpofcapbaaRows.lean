/-
  No cell of these rows narrows 'for every input' (looked for: loops, veiled, ifaces, maps, wideKeys, modest, calm, conditions, laid).
  DERIVED. THE GIVEN ROWS OF THIS SEAT. 9 by the template 'for every input the law returns true; each argument reads behind the call as it read before'; 0 by the template 'total and deterministic' (their statements: YtiabahpofcapbaaTotals.lean).
  GIVEN WITH THE SEED: the statements are not yours to turn. If you find one false, say at which input.
  Laid BY PROGRAM, IN A SANDBOX (cutbox-rows.mjs): the forced cells as the released guide's own fill.sh prints them over the translation ef9c7f9c275c7cd2… (all of the seat's roots in one cut). By AI agents, Wed Nov 11 2026. No macro, syntax, notation, axiom, sorry.
-/
import Derived.Test.YtiabahpofcapbaaChecked
import GoSem.Claim
import GoSem.ClaimJoined
import GoSem.ClaimMapViews
import Derived.JoinedTies
import Derived.KernelRfl
namespace Go.Proofs.Ytiabahpofcapbaa
/- THE CELL 'sum', in the pinned program and in every row, IS THE sha256 OF THE DUMP (.gsa) THAT YtiabahpofcapbaaProg.lean LOADS. Nothing in Lean hashes anything: it is a label: what it is worth is what the hold of that sum in a sandbox is worth. -/
noncomputable def Try.pinned : Pinned := { name := "ytiabahpofcapbaa", sum := "ef9c7f9c275c7cd26bbe0cbea8fe1f510592994e845c30440654f2014d2070e4", checked := Try.checked }
namespace Rows
def none {H : Type} : Left H := { results := [], args := [] }

/-- 'countermandlaw21.ChainRuns': WHATEVER THE INPUT: true; the input reads as it did. -/
def chainRunsSpec : ChangeSpec := { name := "chainRuns", fn := fun _ => fun
  | [d1, d2] => { results := [.lit (.bool true)], args := [d1, d2] }
  | _ => none }
def chainRunsRow : OpenClaim := { program := "ytiabahpofcapbaa", sum := "ef9c7f9c275c7cd26bbe0cbea8fe1f510592994e845c30440654f2014d2070e4", func := "countermand/countermandlaw21.ChainRuns", spec := "chainRuns", unfollowed := true, recurses := true, apart := false }
def ChainRunsSaid : Prop := chainRunsRow.holds Try.pinned (OpenSpec.ofChange chainRunsSpec)

/-- ITS FALSE NEIGHBOUR: 'it returns false'. Refute it at one input. -/
def chainRunsWrong : ChangeSpec := { name := "chainRuns", fn := fun _ => fun
  | [d1, d2] => { results := [.lit (.bool false)], args := [d1, d2] }
  | _ => none }
def ChainRunsWrongFalsely : Prop := chainRunsRow.holds Try.pinned (OpenSpec.ofChange chainRunsWrong)

/-- 'countermandlaw21.ChainSettles': WHATEVER THE INPUT: true; the input reads as it did. -/
def chainSettlesSpec : ChangeSpec := { name := "chainSettles", fn := fun _ => fun
  | [d1, d2] => { results := [.lit (.bool true)], args := [d1, d2] }
  | _ => none }
def chainSettlesRow : OpenClaim := { program := "ytiabahpofcapbaa", sum := "ef9c7f9c275c7cd26bbe0cbea8fe1f510592994e845c30440654f2014d2070e4", func := "countermand/countermandlaw21.ChainSettles", spec := "chainSettles", unfollowed := true, recurses := true, apart := false }
def ChainSettlesSaid : Prop := chainSettlesRow.holds Try.pinned (OpenSpec.ofChange chainSettlesSpec)

/-- ITS FALSE NEIGHBOUR: 'it returns false'. Refute it at one input. -/
def chainSettlesWrong : ChangeSpec := { name := "chainSettles", fn := fun _ => fun
  | [d1, d2] => { results := [.lit (.bool false)], args := [d1, d2] }
  | _ => none }
def ChainSettlesWrongFalsely : Prop := chainSettlesRow.holds Try.pinned (OpenSpec.ofChange chainSettlesWrong)

/-- 'countermandlaw21.ChainOrders': WHATEVER THE INPUT: true; the input reads as it did. -/
def chainOrdersSpec : ChangeSpec := { name := "chainOrders", fn := fun _ => fun
  | [d1, d2] => { results := [.lit (.bool true)], args := [d1, d2] }
  | _ => none }
def chainOrdersRow : OpenClaim := { program := "ytiabahpofcapbaa", sum := "ef9c7f9c275c7cd26bbe0cbea8fe1f510592994e845c30440654f2014d2070e4", func := "countermand/countermandlaw21.ChainOrders", spec := "chainOrders", unfollowed := true, recurses := true, apart := false }
def ChainOrdersSaid : Prop := chainOrdersRow.holds Try.pinned (OpenSpec.ofChange chainOrdersSpec)

/-- ITS FALSE NEIGHBOUR: 'it returns false'. Refute it at one input. -/
def chainOrdersWrong : ChangeSpec := { name := "chainOrders", fn := fun _ => fun
  | [d1, d2] => { results := [.lit (.bool false)], args := [d1, d2] }
  | _ => none }
def ChainOrdersWrongFalsely : Prop := chainOrdersRow.holds Try.pinned (OpenSpec.ofChange chainOrdersWrong)

/-- 'countermandlaw21.ChainEnds': WHATEVER THE INPUT: true; the input reads as it did. -/
def chainEndsSpec : ChangeSpec := { name := "chainEnds", fn := fun _ => fun
  | [d1, d2, d3] => { results := [.lit (.bool true)], args := [d1, d2, d3] }
  | _ => none }
def chainEndsRow : OpenClaim := { program := "ytiabahpofcapbaa", sum := "ef9c7f9c275c7cd26bbe0cbea8fe1f510592994e845c30440654f2014d2070e4", func := "countermand/countermandlaw21.ChainEnds", spec := "chainEnds", unfollowed := true, recurses := true, apart := false }
def ChainEndsSaid : Prop := chainEndsRow.holds Try.pinned (OpenSpec.ofChange chainEndsSpec)

/-- ITS FALSE NEIGHBOUR: 'it returns false'. Refute it at one input. -/
def chainEndsWrong : ChangeSpec := { name := "chainEnds", fn := fun _ => fun
  | [d1, d2, d3] => { results := [.lit (.bool false)], args := [d1, d2, d3] }
  | _ => none }
def ChainEndsWrongFalsely : Prop := chainEndsRow.holds Try.pinned (OpenSpec.ofChange chainEndsWrong)

/-- 'countermandlaw21.ChainClones': WHATEVER THE INPUT: true; the input reads as it did. -/
def chainClonesSpec : ChangeSpec := { name := "chainClones", fn := fun _ => fun
  | [d1, d2, d3] => { results := [.lit (.bool true)], args := [d1, d2, d3] }
  | _ => none }
def chainClonesRow : OpenClaim := { program := "ytiabahpofcapbaa", sum := "ef9c7f9c275c7cd26bbe0cbea8fe1f510592994e845c30440654f2014d2070e4", func := "countermand/countermandlaw21.ChainClones", spec := "chainClones", unfollowed := true, recurses := true, apart := false }
def ChainClonesSaid : Prop := chainClonesRow.holds Try.pinned (OpenSpec.ofChange chainClonesSpec)

/-- ITS FALSE NEIGHBOUR: 'it returns false'. Refute it at one input. -/
def chainClonesWrong : ChangeSpec := { name := "chainClones", fn := fun _ => fun
  | [d1, d2, d3] => { results := [.lit (.bool false)], args := [d1, d2, d3] }
  | _ => none }
def ChainClonesWrongFalsely : Prop := chainClonesRow.holds Try.pinned (OpenSpec.ofChange chainClonesWrong)

/-- 'countermandlaw21.ChainAsks': WHATEVER THE INPUT: true; the input reads as it did. -/
def chainAsksSpec : ChangeSpec := { name := "chainAsks", fn := fun _ => fun
  | [d1, d2, d3, d4] => { results := [.lit (.bool true)], args := [d1, d2, d3, d4] }
  | _ => none }
def chainAsksRow : OpenClaim := { program := "ytiabahpofcapbaa", sum := "ef9c7f9c275c7cd26bbe0cbea8fe1f510592994e845c30440654f2014d2070e4", func := "countermand/countermandlaw21.ChainAsks", spec := "chainAsks", unfollowed := true, recurses := true, apart := false }
def ChainAsksSaid : Prop := chainAsksRow.holds Try.pinned (OpenSpec.ofChange chainAsksSpec)

/-- ITS FALSE NEIGHBOUR: 'it returns false'. Refute it at one input. -/
def chainAsksWrong : ChangeSpec := { name := "chainAsks", fn := fun _ => fun
  | [d1, d2, d3, d4] => { results := [.lit (.bool false)], args := [d1, d2, d3, d4] }
  | _ => none }
def ChainAsksWrongFalsely : Prop := chainAsksRow.holds Try.pinned (OpenSpec.ofChange chainAsksWrong)

/-- 'countermandlaw26.MsgGets': WHATEVER THE INPUT: true; the input reads as it did. -/
def msgGetsSpec : ChangeSpec := { name := "msgGets", fn := fun _ => fun
  | [d] => { results := [.lit (.bool true)], args := [d] }
  | _ => none }
def msgGetsRow : OpenClaim := { program := "ytiabahpofcapbaa", sum := "ef9c7f9c275c7cd26bbe0cbea8fe1f510592994e845c30440654f2014d2070e4", func := "countermand/countermandlaw26.MsgGets", spec := "msgGets", unfollowed := true, recurses := true, apart := false }
def MsgGetsSaid : Prop := msgGetsRow.holds Try.pinned (OpenSpec.ofChange msgGetsSpec)

/-- ITS FALSE NEIGHBOUR: 'it returns false'. Refute it at one input. -/
def msgGetsWrong : ChangeSpec := { name := "msgGets", fn := fun _ => fun
  | [d] => { results := [.lit (.bool false)], args := [d] }
  | _ => none }
def MsgGetsWrongFalsely : Prop := msgGetsRow.holds Try.pinned (OpenSpec.ofChange msgGetsWrong)

/-- 'countermandlaw26.MsgTurns': WHATEVER THE INPUT: true; the input reads as it did. -/
def msgTurnsSpec : ChangeSpec := { name := "msgTurns", fn := fun _ => fun
  | [d1, d2, d3] => { results := [.lit (.bool true)], args := [d1, d2, d3] }
  | _ => none }
def msgTurnsRow : OpenClaim := { program := "ytiabahpofcapbaa", sum := "ef9c7f9c275c7cd26bbe0cbea8fe1f510592994e845c30440654f2014d2070e4", func := "countermand/countermandlaw26.MsgTurns", spec := "msgTurns", unfollowed := true, recurses := true, apart := false }
def MsgTurnsSaid : Prop := msgTurnsRow.holds Try.pinned (OpenSpec.ofChange msgTurnsSpec)

/-- ITS FALSE NEIGHBOUR: 'it returns false'. Refute it at one input. -/
def msgTurnsWrong : ChangeSpec := { name := "msgTurns", fn := fun _ => fun
  | [d1, d2, d3] => { results := [.lit (.bool false)], args := [d1, d2, d3] }
  | _ => none }
def MsgTurnsWrongFalsely : Prop := msgTurnsRow.holds Try.pinned (OpenSpec.ofChange msgTurnsWrong)

/-- 'countermandlaw26.MsgSame': WHATEVER THE INPUT: true; the input reads as it did. -/
def msgSameSpec : ChangeSpec := { name := "msgSame", fn := fun _ => fun
  | [d1, d2] => { results := [.lit (.bool true)], args := [d1, d2] }
  | _ => none }
def msgSameRow : OpenClaim := { program := "ytiabahpofcapbaa", sum := "ef9c7f9c275c7cd26bbe0cbea8fe1f510592994e845c30440654f2014d2070e4", func := "countermand/countermandlaw26.MsgSame", spec := "msgSame", unfollowed := true, recurses := true, apart := false }
def MsgSameSaid : Prop := msgSameRow.holds Try.pinned (OpenSpec.ofChange msgSameSpec)

/-- ITS FALSE NEIGHBOUR: 'it returns false'. Refute it at one input. -/
def msgSameWrong : ChangeSpec := { name := "msgSame", fn := fun _ => fun
  | [d1, d2] => { results := [.lit (.bool false)], args := [d1, d2] }
  | _ => none }
def MsgSameWrongFalsely : Prop := msgSameRow.holds Try.pinned (OpenSpec.ofChange msgSameWrong)

/- THE SECOND FORM. 'bulk': how many values and letters a reading holds, each counted each time it is reached (what is shared counts as often as it is met; a slice's spare places count too). A statement '..UptoSaid' is the law's where the arguments, and the package variables that the reading takes, are together of bulk at most 1048576: NARROWER than '..Said'. Prove '..Said' where nothing that the law and all that it calls make is longer than what came in: it says more and counts as full. Else prove '..UptoSaid'. A law counts once. -/
mutual
def uptoBulk {H : Type} : DataW H → Nat
  | .lit (.string bytes) => bytes.length + 1
  | .lit _ => 1
  | .nil => 1
  | .ptr d => uptoBulk d + 1
  | .slice elems spare => uptoBulkAll elems + uptoBulkAll spare + 1
  | .agg parts => uptoBulkAll parts + 1
  | .iface _ d => uptoBulk d + 1
  | .map entries => uptoBulkEntries entries + 1
  | .held _ => 1
def uptoBulkAll {H : Type} : List (DataW H) → Nat
  | [] => 0
  | d :: r => uptoBulk d + uptoBulkAll r
def uptoBulkEntries {H : Type} : List (Lit × DataW H) → Nat
  | [] => 0
  | x :: r => uptoBulkEntry x + uptoBulkEntries r
def uptoBulkEntry {H : Type} : Lit × DataW H → Nat
  | (.string bytes, d) => bytes.length + uptoBulk d + 1
  | (_, d) => uptoBulk d + 1
 end
def uptoSmall : (H : Type) → List (DataW H) → Bool := fun _ ds => decide (uptoBulkAll ds ≤ 1048576)
def OpenSpec.upto (s : _root_.Go.ChangeSpec) : _root_.Go.OpenSpec := { _root_.Go.OpenSpec.ofChange s with cond := some uptoSmall }

/-- 'countermandlaw21.ChainRuns', WHERE WHAT IT READS IS OF BULK AT MOST 1048576: true; the input reads as it did. -/
def chainRunsUptoRow : OpenClaim := { program := "ytiabahpofcapbaa", sum := "ef9c7f9c275c7cd26bbe0cbea8fe1f510592994e845c30440654f2014d2070e4", func := "countermand/countermandlaw21.ChainRuns", spec := "chainRuns", unfollowed := true, recurses := true, apart := false, narrowed := true }
def ChainRunsUptoSaid : Prop := chainRunsUptoRow.holds Try.pinned (OpenSpec.upto chainRunsSpec)

/-- 'countermandlaw21.ChainSettles', WHERE WHAT IT READS IS OF BULK AT MOST 1048576: true; the input reads as it did. -/
def chainSettlesUptoRow : OpenClaim := { program := "ytiabahpofcapbaa", sum := "ef9c7f9c275c7cd26bbe0cbea8fe1f510592994e845c30440654f2014d2070e4", func := "countermand/countermandlaw21.ChainSettles", spec := "chainSettles", unfollowed := true, recurses := true, apart := false, narrowed := true }
def ChainSettlesUptoSaid : Prop := chainSettlesUptoRow.holds Try.pinned (OpenSpec.upto chainSettlesSpec)

/-- 'countermandlaw21.ChainOrders', WHERE WHAT IT READS IS OF BULK AT MOST 1048576: true; the input reads as it did. -/
def chainOrdersUptoRow : OpenClaim := { program := "ytiabahpofcapbaa", sum := "ef9c7f9c275c7cd26bbe0cbea8fe1f510592994e845c30440654f2014d2070e4", func := "countermand/countermandlaw21.ChainOrders", spec := "chainOrders", unfollowed := true, recurses := true, apart := false, narrowed := true }
def ChainOrdersUptoSaid : Prop := chainOrdersUptoRow.holds Try.pinned (OpenSpec.upto chainOrdersSpec)

/-- 'countermandlaw21.ChainEnds', WHERE WHAT IT READS IS OF BULK AT MOST 1048576: true; the input reads as it did. -/
def chainEndsUptoRow : OpenClaim := { program := "ytiabahpofcapbaa", sum := "ef9c7f9c275c7cd26bbe0cbea8fe1f510592994e845c30440654f2014d2070e4", func := "countermand/countermandlaw21.ChainEnds", spec := "chainEnds", unfollowed := true, recurses := true, apart := false, narrowed := true }
def ChainEndsUptoSaid : Prop := chainEndsUptoRow.holds Try.pinned (OpenSpec.upto chainEndsSpec)

/-- 'countermandlaw21.ChainClones', WHERE WHAT IT READS IS OF BULK AT MOST 1048576: true; the input reads as it did. -/
def chainClonesUptoRow : OpenClaim := { program := "ytiabahpofcapbaa", sum := "ef9c7f9c275c7cd26bbe0cbea8fe1f510592994e845c30440654f2014d2070e4", func := "countermand/countermandlaw21.ChainClones", spec := "chainClones", unfollowed := true, recurses := true, apart := false, narrowed := true }
def ChainClonesUptoSaid : Prop := chainClonesUptoRow.holds Try.pinned (OpenSpec.upto chainClonesSpec)

/-- 'countermandlaw21.ChainAsks', WHERE WHAT IT READS IS OF BULK AT MOST 1048576: true; the input reads as it did. -/
def chainAsksUptoRow : OpenClaim := { program := "ytiabahpofcapbaa", sum := "ef9c7f9c275c7cd26bbe0cbea8fe1f510592994e845c30440654f2014d2070e4", func := "countermand/countermandlaw21.ChainAsks", spec := "chainAsks", unfollowed := true, recurses := true, apart := false, narrowed := true }
def ChainAsksUptoSaid : Prop := chainAsksUptoRow.holds Try.pinned (OpenSpec.upto chainAsksSpec)

/-- 'countermandlaw26.MsgGets', WHERE WHAT IT READS IS OF BULK AT MOST 1048576: true; the input reads as it did. -/
def msgGetsUptoRow : OpenClaim := { program := "ytiabahpofcapbaa", sum := "ef9c7f9c275c7cd26bbe0cbea8fe1f510592994e845c30440654f2014d2070e4", func := "countermand/countermandlaw26.MsgGets", spec := "msgGets", unfollowed := true, recurses := true, apart := false, narrowed := true }
def MsgGetsUptoSaid : Prop := msgGetsUptoRow.holds Try.pinned (OpenSpec.upto msgGetsSpec)

/-- 'countermandlaw26.MsgTurns', WHERE WHAT IT READS IS OF BULK AT MOST 1048576: true; the input reads as it did. -/
def msgTurnsUptoRow : OpenClaim := { program := "ytiabahpofcapbaa", sum := "ef9c7f9c275c7cd26bbe0cbea8fe1f510592994e845c30440654f2014d2070e4", func := "countermand/countermandlaw26.MsgTurns", spec := "msgTurns", unfollowed := true, recurses := true, apart := false, narrowed := true }
def MsgTurnsUptoSaid : Prop := msgTurnsUptoRow.holds Try.pinned (OpenSpec.upto msgTurnsSpec)

/-- 'countermandlaw26.MsgSame', WHERE WHAT IT READS IS OF BULK AT MOST 1048576: true; the input reads as it did. -/
def msgSameUptoRow : OpenClaim := { program := "ytiabahpofcapbaa", sum := "ef9c7f9c275c7cd26bbe0cbea8fe1f510592994e845c30440654f2014d2070e4", func := "countermand/countermandlaw26.MsgSame", spec := "msgSame", unfollowed := true, recurses := true, apart := false, narrowed := true }
def MsgSameUptoSaid : Prop := msgSameUptoRow.holds Try.pinned (OpenSpec.upto msgSameSpec)

end Rows
end Go.Proofs.Ytiabahpofcapbaa
