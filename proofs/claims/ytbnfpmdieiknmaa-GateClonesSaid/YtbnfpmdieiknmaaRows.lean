/-
  No cell of these rows narrows 'for every input' (looked for: loops, veiled, ifaces, maps, wideKeys, modest, calm, conditions, laid).
  DERIVED. THE GIVEN ROWS OF THIS SEAT. 12 by the template 'for every input the law returns true; each argument reads behind the call as it read before'; 0 by the template 'total and deterministic' (their statements: YtbnfpmdieiknmaaTotals.lean).
  GIVEN WITH THE SEED: the statements are not yours to turn. If you find one false, say at which input.
  Laid BY PROGRAM, IN A SANDBOX (cutbox-rows.mjs): the forced cells as the released guide's own fill.sh prints them over the translation 9f55428174172913… (all of the seat's roots in one cut). By AI agents, Wed Nov 11 2026. No macro, syntax, notation, axiom, sorry.
-/
import Derived.Test.YtbnfpmdieiknmaaChecked
import GoSem.Claim
import GoSem.ClaimJoined
import GoSem.ClaimMapViews
import Derived.JoinedTies
import Derived.KernelRfl
namespace Go.Proofs.Ytbnfpmdieiknmaa
/- THE CELL 'sum', in the pinned program and in every row, IS THE sha256 OF THE DUMP (.gsa) THAT YtbnfpmdieiknmaaProg.lean LOADS. Nothing in Lean hashes anything: it is a label: what it is worth is what the hold of that sum in a sandbox is worth. -/
noncomputable def Try.pinned : Pinned := { name := "ytbnfpmdieiknmaa", sum := "9f55428174172913c1c71df9127a6ffdd9dca5626d612294750cfdb96b162c99", checked := Try.checked }
namespace Rows
def none {H : Type} : Left H := { results := [], args := [] }

/-- 'countermandlaw11.DiskFronts': WHATEVER THE INPUT: true; the input reads as it did. -/
def diskFrontsSpec : ChangeSpec := { name := "diskFronts", fn := fun _ => fun
  | [d1, d2, d3, d4] => { results := [.lit (.bool true)], args := [d1, d2, d3, d4] }
  | _ => none }
def diskFrontsRow : OpenClaim := { program := "ytbnfpmdieiknmaa", sum := "9f55428174172913c1c71df9127a6ffdd9dca5626d612294750cfdb96b162c99", func := "countermand/countermandlaw11.DiskFronts", spec := "diskFronts", plainKeys := false, apart := false }
def DiskFrontsSaid : Prop := diskFrontsRow.holds Try.pinned (OpenSpec.ofChange diskFrontsSpec)

/-- ITS FALSE NEIGHBOUR: 'it returns false'. Refute it at one input. -/
def diskFrontsWrong : ChangeSpec := { name := "diskFronts", fn := fun _ => fun
  | [d1, d2, d3, d4] => { results := [.lit (.bool false)], args := [d1, d2, d3, d4] }
  | _ => none }
def DiskFrontsWrongFalsely : Prop := diskFrontsRow.holds Try.pinned (OpenSpec.ofChange diskFrontsWrong)

/-- 'countermandlaw29.WireOnce': WHATEVER THE INPUT: true; the input reads as it did. -/
def wireOnceSpec : ChangeSpec := { name := "wireOnce", fn := fun _ => fun
  | [d1, d2] => { results := [.lit (.bool true)], args := [d1, d2] }
  | _ => none }
def wireOnceRow : OpenClaim := { program := "ytbnfpmdieiknmaa", sum := "9f55428174172913c1c71df9127a6ffdd9dca5626d612294750cfdb96b162c99", func := "countermand/countermandlaw29.WireOnce", spec := "wireOnce", plainKeys := false, apart := false }
def WireOnceSaid : Prop := wireOnceRow.holds Try.pinned (OpenSpec.ofChange wireOnceSpec)

/-- ITS FALSE NEIGHBOUR: 'it returns false'. Refute it at one input. -/
def wireOnceWrong : ChangeSpec := { name := "wireOnce", fn := fun _ => fun
  | [d1, d2] => { results := [.lit (.bool false)], args := [d1, d2] }
  | _ => none }
def WireOnceWrongFalsely : Prop := wireOnceRow.holds Try.pinned (OpenSpec.ofChange wireOnceWrong)

/-- 'countermandlaw11.DiskRuns': WHATEVER THE INPUT: true; the input reads as it did. -/
def diskRunsSpec : ChangeSpec := { name := "diskRuns", fn := fun _ => fun
  | [d1, d2] => { results := [.lit (.bool true)], args := [d1, d2] }
  | _ => none }
def diskRunsRow : OpenClaim := { program := "ytbnfpmdieiknmaa", sum := "9f55428174172913c1c71df9127a6ffdd9dca5626d612294750cfdb96b162c99", func := "countermand/countermandlaw11.DiskRuns", spec := "diskRuns", plainKeys := false, apart := false }
def DiskRunsSaid : Prop := diskRunsRow.holds Try.pinned (OpenSpec.ofChange diskRunsSpec)

/-- ITS FALSE NEIGHBOUR: 'it returns false'. Refute it at one input. -/
def diskRunsWrong : ChangeSpec := { name := "diskRuns", fn := fun _ => fun
  | [d1, d2] => { results := [.lit (.bool false)], args := [d1, d2] }
  | _ => none }
def DiskRunsWrongFalsely : Prop := diskRunsRow.holds Try.pinned (OpenSpec.ofChange diskRunsWrong)

/-- 'countermandlaw30.GateRuns': WHATEVER THE INPUT: true; the input reads as it did. -/
def gateRunsSpec : ChangeSpec := { name := "gateRuns", fn := fun _ => fun
  | [d] => { results := [.lit (.bool true)], args := [d] }
  | _ => none }
def gateRunsRow : OpenClaim := { program := "ytbnfpmdieiknmaa", sum := "9f55428174172913c1c71df9127a6ffdd9dca5626d612294750cfdb96b162c99", func := "countermand/countermandlaw30.GateRuns", spec := "gateRuns", unfollowed := true, recurses := true, plainKeys := false, apart := false }
def GateRunsSaid : Prop := gateRunsRow.holds Try.pinned (OpenSpec.ofChange gateRunsSpec)

/-- ITS FALSE NEIGHBOUR: 'it returns false'. Refute it at one input. -/
def gateRunsWrong : ChangeSpec := { name := "gateRuns", fn := fun _ => fun
  | [d] => { results := [.lit (.bool false)], args := [d] }
  | _ => none }
def GateRunsWrongFalsely : Prop := gateRunsRow.holds Try.pinned (OpenSpec.ofChange gateRunsWrong)

/-- 'countermandlaw30.GateOnce': WHATEVER THE INPUT: true; the input reads as it did. -/
def gateOnceSpec : ChangeSpec := { name := "gateOnce", fn := fun _ => fun
  | [d] => { results := [.lit (.bool true)], args := [d] }
  | _ => none }
def gateOnceRow : OpenClaim := { program := "ytbnfpmdieiknmaa", sum := "9f55428174172913c1c71df9127a6ffdd9dca5626d612294750cfdb96b162c99", func := "countermand/countermandlaw30.GateOnce", spec := "gateOnce", unfollowed := true, recurses := true, plainKeys := false, apart := false }
def GateOnceSaid : Prop := gateOnceRow.holds Try.pinned (OpenSpec.ofChange gateOnceSpec)

/-- ITS FALSE NEIGHBOUR: 'it returns false'. Refute it at one input. -/
def gateOnceWrong : ChangeSpec := { name := "gateOnce", fn := fun _ => fun
  | [d] => { results := [.lit (.bool false)], args := [d] }
  | _ => none }
def GateOnceWrongFalsely : Prop := gateOnceRow.holds Try.pinned (OpenSpec.ofChange gateOnceWrong)

/-- 'countermandlaw11.DiskClones': WHATEVER THE INPUT: true; the input reads as it did. -/
def diskClonesSpec : ChangeSpec := { name := "diskClones", fn := fun _ => fun
  | [d1, d2, d3, d4] => { results := [.lit (.bool true)], args := [d1, d2, d3, d4] }
  | _ => none }
def diskClonesRow : OpenClaim := { program := "ytbnfpmdieiknmaa", sum := "9f55428174172913c1c71df9127a6ffdd9dca5626d612294750cfdb96b162c99", func := "countermand/countermandlaw11.DiskClones", spec := "diskClones", plainKeys := false, apart := false }
def DiskClonesSaid : Prop := diskClonesRow.holds Try.pinned (OpenSpec.ofChange diskClonesSpec)

/-- ITS FALSE NEIGHBOUR: 'it returns false'. Refute it at one input. -/
def diskClonesWrong : ChangeSpec := { name := "diskClones", fn := fun _ => fun
  | [d1, d2, d3, d4] => { results := [.lit (.bool false)], args := [d1, d2, d3, d4] }
  | _ => none }
def DiskClonesWrongFalsely : Prop := diskClonesRow.holds Try.pinned (OpenSpec.ofChange diskClonesWrong)

/-- 'countermandlaw29.WireRuns': WHATEVER THE INPUT: true; the input reads as it did. -/
def wireRunsSpec : ChangeSpec := { name := "wireRuns", fn := fun _ => fun
  | [d] => { results := [.lit (.bool true)], args := [d] }
  | _ => none }
def wireRunsRow : OpenClaim := { program := "ytbnfpmdieiknmaa", sum := "9f55428174172913c1c71df9127a6ffdd9dca5626d612294750cfdb96b162c99", func := "countermand/countermandlaw29.WireRuns", spec := "wireRuns", plainKeys := false, apart := false }
def WireRunsSaid : Prop := wireRunsRow.holds Try.pinned (OpenSpec.ofChange wireRunsSpec)

/-- ITS FALSE NEIGHBOUR: 'it returns false'. Refute it at one input. -/
def wireRunsWrong : ChangeSpec := { name := "wireRuns", fn := fun _ => fun
  | [d] => { results := [.lit (.bool false)], args := [d] }
  | _ => none }
def WireRunsWrongFalsely : Prop := wireRunsRow.holds Try.pinned (OpenSpec.ofChange wireRunsWrong)

/-- 'countermandlaw29.WireClones': WHATEVER THE INPUT: true; the input reads as it did. -/
def wireClonesSpec : ChangeSpec := { name := "wireClones", fn := fun _ => fun
  | [d1, d2, d3, d4] => { results := [.lit (.bool true)], args := [d1, d2, d3, d4] }
  | _ => none }
def wireClonesRow : OpenClaim := { program := "ytbnfpmdieiknmaa", sum := "9f55428174172913c1c71df9127a6ffdd9dca5626d612294750cfdb96b162c99", func := "countermand/countermandlaw29.WireClones", spec := "wireClones", plainKeys := false, apart := false }
def WireClonesSaid : Prop := wireClonesRow.holds Try.pinned (OpenSpec.ofChange wireClonesSpec)

/-- ITS FALSE NEIGHBOUR: 'it returns false'. Refute it at one input. -/
def wireClonesWrong : ChangeSpec := { name := "wireClones", fn := fun _ => fun
  | [d1, d2, d3, d4] => { results := [.lit (.bool false)], args := [d1, d2, d3, d4] }
  | _ => none }
def WireClonesWrongFalsely : Prop := wireClonesRow.holds Try.pinned (OpenSpec.ofChange wireClonesWrong)

/-- 'countermandlaw30.GateClones': WHATEVER THE INPUT: true; the input reads as it did. -/
def gateClonesSpec : ChangeSpec := { name := "gateClones", fn := fun _ => fun
  | [d1, d2, d3] => { results := [.lit (.bool true)], args := [d1, d2, d3] }
  | _ => none }
def gateClonesRow : OpenClaim := { program := "ytbnfpmdieiknmaa", sum := "9f55428174172913c1c71df9127a6ffdd9dca5626d612294750cfdb96b162c99", func := "countermand/countermandlaw30.GateClones", spec := "gateClones", inPlace := ["maps.clone"], unfollowed := true, recurses := true, plainKeys := false, apart := false }
def GateClonesSaid : Prop := gateClonesRow.holds Try.pinned (OpenSpec.ofChange gateClonesSpec)

/-- ITS FALSE NEIGHBOUR: 'it returns false'. Refute it at one input. -/
def gateClonesWrong : ChangeSpec := { name := "gateClones", fn := fun _ => fun
  | [d1, d2, d3] => { results := [.lit (.bool false)], args := [d1, d2, d3] }
  | _ => none }
def GateClonesWrongFalsely : Prop := gateClonesRow.holds Try.pinned (OpenSpec.ofChange gateClonesWrong)

/-- 'countermandlaw04.FramePuts': WHATEVER THE INPUT: true; the input reads as it did. -/
def framePutsSpec : ChangeSpec := { name := "framePuts", fn := fun _ => fun
  | [d1, d2] => { results := [.lit (.bool true)], args := [d1, d2] }
  | _ => none }
def framePutsRow : OpenClaim := { program := "ytbnfpmdieiknmaa", sum := "9f55428174172913c1c71df9127a6ffdd9dca5626d612294750cfdb96b162c99", func := "countermand/countermandlaw04.FramePuts", spec := "framePuts", plainKeys := false, apart := false }
def FramePutsSaid : Prop := framePutsRow.holds Try.pinned (OpenSpec.ofChange framePutsSpec)

/-- ITS FALSE NEIGHBOUR: 'it returns false'. Refute it at one input. -/
def framePutsWrong : ChangeSpec := { name := "framePuts", fn := fun _ => fun
  | [d1, d2] => { results := [.lit (.bool false)], args := [d1, d2] }
  | _ => none }
def FramePutsWrongFalsely : Prop := framePutsRow.holds Try.pinned (OpenSpec.ofChange framePutsWrong)

/-- 'countermandlaw04.FrameGets': WHATEVER THE INPUT: true; the input reads as it did. -/
def frameGetsSpec : ChangeSpec := { name := "frameGets", fn := fun _ => fun
  | [d] => { results := [.lit (.bool true)], args := [d] }
  | _ => none }
def frameGetsRow : OpenClaim := { program := "ytbnfpmdieiknmaa", sum := "9f55428174172913c1c71df9127a6ffdd9dca5626d612294750cfdb96b162c99", func := "countermand/countermandlaw04.FrameGets", spec := "frameGets", plainKeys := false, apart := false }
def FrameGetsSaid : Prop := frameGetsRow.holds Try.pinned (OpenSpec.ofChange frameGetsSpec)

/-- ITS FALSE NEIGHBOUR: 'it returns false'. Refute it at one input. -/
def frameGetsWrong : ChangeSpec := { name := "frameGets", fn := fun _ => fun
  | [d] => { results := [.lit (.bool false)], args := [d] }
  | _ => none }
def FrameGetsWrongFalsely : Prop := frameGetsRow.holds Try.pinned (OpenSpec.ofChange frameGetsWrong)

/-- 'countermandlaw04.FrameCuts': WHATEVER THE INPUT: true; the input reads as it did. -/
def frameCutsSpec : ChangeSpec := { name := "frameCuts", fn := fun _ => fun
  | [d1, d2, d3] => { results := [.lit (.bool true)], args := [d1, d2, d3] }
  | _ => none }
def frameCutsRow : OpenClaim := { program := "ytbnfpmdieiknmaa", sum := "9f55428174172913c1c71df9127a6ffdd9dca5626d612294750cfdb96b162c99", func := "countermand/countermandlaw04.FrameCuts", spec := "frameCuts", plainKeys := false, apart := false }
def FrameCutsSaid : Prop := frameCutsRow.holds Try.pinned (OpenSpec.ofChange frameCutsSpec)

/-- ITS FALSE NEIGHBOUR: 'it returns false'. Refute it at one input. -/
def frameCutsWrong : ChangeSpec := { name := "frameCuts", fn := fun _ => fun
  | [d1, d2, d3] => { results := [.lit (.bool false)], args := [d1, d2, d3] }
  | _ => none }
def FrameCutsWrongFalsely : Prop := frameCutsRow.holds Try.pinned (OpenSpec.ofChange frameCutsWrong)

/- THE SECOND FORM. 'bulk': how many values and letters a reading holds, each counted each time it is reached (what is shared counts as often as it is met; a slice's spare places count too). A statement '..UptoSaid' is the law's where the arguments, and the package variables that the reading takes, are together of bulk at most 1048576: NARROWER than '..Said'. Prove '..Said' where nothing that the law and all that it calls make is longer than what came in: it says more and counts as full. Else prove '..UptoSaid'. A law counts once. -/
mutual
def uptoBulk {H : Type} : DataW H → Nat
  | .lit (.string bytes) => bytes.length + 1
  | .lit _ => 1
  | .nil => 1
  | .ptr d => uptoBulk d + 1
  | .slice elems spare => uptoBulkAll elems + uptoBulkAll spare + 1
  | .agg parts => uptoBulkAll parts + 1
  | .iface _ d => uptoBulk d + 1
  | .map entries => uptoBulkEntries entries + 1
  | .held _ => 1
def uptoBulkAll {H : Type} : List (DataW H) → Nat
  | [] => 0
  | d :: r => uptoBulk d + uptoBulkAll r
def uptoBulkEntries {H : Type} : List (Lit × DataW H) → Nat
  | [] => 0
  | x :: r => uptoBulkEntry x + uptoBulkEntries r
def uptoBulkEntry {H : Type} : Lit × DataW H → Nat
  | (.string bytes, d) => bytes.length + uptoBulk d + 1
  | (_, d) => uptoBulk d + 1
 end
def uptoSmall : (H : Type) → List (DataW H) → Bool := fun _ ds => decide (uptoBulkAll ds ≤ 1048576)
def OpenSpec.upto (s : _root_.Go.ChangeSpec) : _root_.Go.OpenSpec := { _root_.Go.OpenSpec.ofChange s with cond := some uptoSmall }

/-- 'countermandlaw11.DiskFronts', WHERE WHAT IT READS IS OF BULK AT MOST 1048576: true; the input reads as it did. -/
def diskFrontsUptoRow : OpenClaim := { program := "ytbnfpmdieiknmaa", sum := "9f55428174172913c1c71df9127a6ffdd9dca5626d612294750cfdb96b162c99", func := "countermand/countermandlaw11.DiskFronts", spec := "diskFronts", plainKeys := false, apart := false, narrowed := true }
def DiskFrontsUptoSaid : Prop := diskFrontsUptoRow.holds Try.pinned (OpenSpec.upto diskFrontsSpec)

/-- 'countermandlaw29.WireOnce', WHERE WHAT IT READS IS OF BULK AT MOST 1048576: true; the input reads as it did. -/
def wireOnceUptoRow : OpenClaim := { program := "ytbnfpmdieiknmaa", sum := "9f55428174172913c1c71df9127a6ffdd9dca5626d612294750cfdb96b162c99", func := "countermand/countermandlaw29.WireOnce", spec := "wireOnce", plainKeys := false, apart := false, narrowed := true }
def WireOnceUptoSaid : Prop := wireOnceUptoRow.holds Try.pinned (OpenSpec.upto wireOnceSpec)

/-- 'countermandlaw11.DiskRuns', WHERE WHAT IT READS IS OF BULK AT MOST 1048576: true; the input reads as it did. -/
def diskRunsUptoRow : OpenClaim := { program := "ytbnfpmdieiknmaa", sum := "9f55428174172913c1c71df9127a6ffdd9dca5626d612294750cfdb96b162c99", func := "countermand/countermandlaw11.DiskRuns", spec := "diskRuns", plainKeys := false, apart := false, narrowed := true }
def DiskRunsUptoSaid : Prop := diskRunsUptoRow.holds Try.pinned (OpenSpec.upto diskRunsSpec)

/-- 'countermandlaw30.GateRuns', WHERE WHAT IT READS IS OF BULK AT MOST 1048576: true; the input reads as it did. -/
def gateRunsUptoRow : OpenClaim := { program := "ytbnfpmdieiknmaa", sum := "9f55428174172913c1c71df9127a6ffdd9dca5626d612294750cfdb96b162c99", func := "countermand/countermandlaw30.GateRuns", spec := "gateRuns", unfollowed := true, recurses := true, plainKeys := false, apart := false, narrowed := true }
def GateRunsUptoSaid : Prop := gateRunsUptoRow.holds Try.pinned (OpenSpec.upto gateRunsSpec)

/-- 'countermandlaw30.GateOnce', WHERE WHAT IT READS IS OF BULK AT MOST 1048576: true; the input reads as it did. -/
def gateOnceUptoRow : OpenClaim := { program := "ytbnfpmdieiknmaa", sum := "9f55428174172913c1c71df9127a6ffdd9dca5626d612294750cfdb96b162c99", func := "countermand/countermandlaw30.GateOnce", spec := "gateOnce", unfollowed := true, recurses := true, plainKeys := false, apart := false, narrowed := true }
def GateOnceUptoSaid : Prop := gateOnceUptoRow.holds Try.pinned (OpenSpec.upto gateOnceSpec)

/-- 'countermandlaw11.DiskClones', WHERE WHAT IT READS IS OF BULK AT MOST 1048576: true; the input reads as it did. -/
def diskClonesUptoRow : OpenClaim := { program := "ytbnfpmdieiknmaa", sum := "9f55428174172913c1c71df9127a6ffdd9dca5626d612294750cfdb96b162c99", func := "countermand/countermandlaw11.DiskClones", spec := "diskClones", plainKeys := false, apart := false, narrowed := true }
def DiskClonesUptoSaid : Prop := diskClonesUptoRow.holds Try.pinned (OpenSpec.upto diskClonesSpec)

/-- 'countermandlaw29.WireRuns', WHERE WHAT IT READS IS OF BULK AT MOST 1048576: true; the input reads as it did. -/
def wireRunsUptoRow : OpenClaim := { program := "ytbnfpmdieiknmaa", sum := "9f55428174172913c1c71df9127a6ffdd9dca5626d612294750cfdb96b162c99", func := "countermand/countermandlaw29.WireRuns", spec := "wireRuns", plainKeys := false, apart := false, narrowed := true }
def WireRunsUptoSaid : Prop := wireRunsUptoRow.holds Try.pinned (OpenSpec.upto wireRunsSpec)

/-- 'countermandlaw29.WireClones', WHERE WHAT IT READS IS OF BULK AT MOST 1048576: true; the input reads as it did. -/
def wireClonesUptoRow : OpenClaim := { program := "ytbnfpmdieiknmaa", sum := "9f55428174172913c1c71df9127a6ffdd9dca5626d612294750cfdb96b162c99", func := "countermand/countermandlaw29.WireClones", spec := "wireClones", plainKeys := false, apart := false, narrowed := true }
def WireClonesUptoSaid : Prop := wireClonesUptoRow.holds Try.pinned (OpenSpec.upto wireClonesSpec)

/-- 'countermandlaw30.GateClones', WHERE WHAT IT READS IS OF BULK AT MOST 1048576: true; the input reads as it did. -/
def gateClonesUptoRow : OpenClaim := { program := "ytbnfpmdieiknmaa", sum := "9f55428174172913c1c71df9127a6ffdd9dca5626d612294750cfdb96b162c99", func := "countermand/countermandlaw30.GateClones", spec := "gateClones", inPlace := ["maps.clone"], unfollowed := true, recurses := true, plainKeys := false, apart := false, narrowed := true }
def GateClonesUptoSaid : Prop := gateClonesUptoRow.holds Try.pinned (OpenSpec.upto gateClonesSpec)

/-- 'countermandlaw04.FramePuts', WHERE WHAT IT READS IS OF BULK AT MOST 1048576: true; the input reads as it did. -/
def framePutsUptoRow : OpenClaim := { program := "ytbnfpmdieiknmaa", sum := "9f55428174172913c1c71df9127a6ffdd9dca5626d612294750cfdb96b162c99", func := "countermand/countermandlaw04.FramePuts", spec := "framePuts", plainKeys := false, apart := false, narrowed := true }
def FramePutsUptoSaid : Prop := framePutsUptoRow.holds Try.pinned (OpenSpec.upto framePutsSpec)

/-- 'countermandlaw04.FrameGets', WHERE WHAT IT READS IS OF BULK AT MOST 1048576: true; the input reads as it did. -/
def frameGetsUptoRow : OpenClaim := { program := "ytbnfpmdieiknmaa", sum := "9f55428174172913c1c71df9127a6ffdd9dca5626d612294750cfdb96b162c99", func := "countermand/countermandlaw04.FrameGets", spec := "frameGets", plainKeys := false, apart := false, narrowed := true }
def FrameGetsUptoSaid : Prop := frameGetsUptoRow.holds Try.pinned (OpenSpec.upto frameGetsSpec)

/-- 'countermandlaw04.FrameCuts', WHERE WHAT IT READS IS OF BULK AT MOST 1048576: true; the input reads as it did. -/
def frameCutsUptoRow : OpenClaim := { program := "ytbnfpmdieiknmaa", sum := "9f55428174172913c1c71df9127a6ffdd9dca5626d612294750cfdb96b162c99", func := "countermand/countermandlaw04.FrameCuts", spec := "frameCuts", plainKeys := false, apart := false, narrowed := true }
def FrameCutsUptoSaid : Prop := frameCutsUptoRow.holds Try.pinned (OpenSpec.upto frameCutsSpec)

end Rows
end Go.Proofs.Ytbnfpmdieiknmaa
