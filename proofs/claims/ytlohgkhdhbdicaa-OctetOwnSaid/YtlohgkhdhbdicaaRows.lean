/-
  No cell of these rows narrows 'for every input' (looked for: loops, veiled, ifaces, maps, wideKeys, modest, calm, conditions, laid).
  DERIVED. THE GIVEN ROWS OF THIS SEAT. 8 by the template 'for every input the law returns true; each argument reads behind the call as it read before'; 0 by the template 'total and deterministic' (their statements: YtlohgkhdhbdicaaTotals.lean).
  GIVEN WITH THE SEED: the statements are not yours to turn. If you find one false, say at which input.
  Laid BY PROGRAM, IN A SANDBOX (cutbox-rows.mjs): the forced cells as the released guide's own fill.sh prints them over the translation 02d923c0de13d236… (all of the seat's roots in one cut). By AI agents, Wed Nov 11 2026. No macro, syntax, notation, axiom, sorry.
-/
import Derived.Test.YtlohgkhdhbdicaaChecked
import GoSem.Claim
import GoSem.ClaimJoined
import GoSem.ClaimMapViews
import Derived.JoinedTies
import Derived.KernelRfl
namespace Go.Proofs.Ytlohgkhdhbdicaa
/- THE CELL 'sum', in the pinned program and in every row, IS THE sha256 OF THE DUMP (.gsa) THAT YtlohgkhdhbdicaaProg.lean LOADS. Nothing in Lean hashes anything: it is a label: what it is worth is what the hold of that sum in a sandbox is worth. -/
noncomputable def Try.pinned : Pinned := { name := "ytlohgkhdhbdicaa", sum := "02d923c0de13d236f6412a628d81fc3313735437d2f346111d7e8e2c28af8935", checked := Try.checked }
namespace Rows
def none {H : Type} : Left H := { results := [], args := [] }

/-- 'countermandlaw03.CrcSums': WHATEVER THE INPUT: true; the input reads as it did. -/
def crcSumsSpec : ChangeSpec := { name := "crcSums", fn := fun _ => fun
  | [d] => { results := [.lit (.bool true)], args := [d] }
  | _ => none }
def crcSumsRow : OpenClaim := { program := "ytlohgkhdhbdicaa", sum := "02d923c0de13d236f6412a628d81fc3313735437d2f346111d7e8e2c28af8935", func := "countermand/countermandlaw03.CrcSums", spec := "crcSums", apart := false }
def CrcSumsSaid : Prop := crcSumsRow.holds Try.pinned (OpenSpec.ofChange crcSumsSpec)

/-- ITS FALSE NEIGHBOUR: 'it returns false'. Refute it at one input. -/
def crcSumsWrong : ChangeSpec := { name := "crcSums", fn := fun _ => fun
  | [d] => { results := [.lit (.bool false)], args := [d] }
  | _ => none }
def CrcSumsWrongFalsely : Prop := crcSumsRow.holds Try.pinned (OpenSpec.ofChange crcSumsWrong)

/-- 'countermandlaw05.DelayWaits': WHATEVER THE INPUT: true; the input reads as it did. -/
def delayWaitsSpec : ChangeSpec := { name := "delayWaits", fn := fun _ => fun
  | [d1, d2, d3, d4, d5] => { results := [.lit (.bool true)], args := [d1, d2, d3, d4, d5] }
  | _ => none }
def delayWaitsRow : OpenClaim := { program := "ytlohgkhdhbdicaa", sum := "02d923c0de13d236f6412a628d81fc3313735437d2f346111d7e8e2c28af8935", func := "countermand/countermandlaw05.DelayWaits", spec := "delayWaits", apart := false }
def DelayWaitsSaid : Prop := delayWaitsRow.holds Try.pinned (OpenSpec.ofChange delayWaitsSpec)

/-- ITS FALSE NEIGHBOUR: 'it returns false'. Refute it at one input. -/
def delayWaitsWrong : ChangeSpec := { name := "delayWaits", fn := fun _ => fun
  | [d1, d2, d3, d4, d5] => { results := [.lit (.bool false)], args := [d1, d2, d3, d4, d5] }
  | _ => none }
def DelayWaitsWrongFalsely : Prop := delayWaitsRow.holds Try.pinned (OpenSpec.ofChange delayWaitsWrong)

/-- 'countermandlaw05.DelayRises': WHATEVER THE INPUT: true; the input reads as it did. -/
def delayRisesSpec : ChangeSpec := { name := "delayRises", fn := fun _ => fun
  | [d1, d2, d3] => { results := [.lit (.bool true)], args := [d1, d2, d3] }
  | _ => none }
def delayRisesRow : OpenClaim := { program := "ytlohgkhdhbdicaa", sum := "02d923c0de13d236f6412a628d81fc3313735437d2f346111d7e8e2c28af8935", func := "countermand/countermandlaw05.DelayRises", spec := "delayRises", apart := false }
def DelayRisesSaid : Prop := delayRisesRow.holds Try.pinned (OpenSpec.ofChange delayRisesSpec)

/-- ITS FALSE NEIGHBOUR: 'it returns false'. Refute it at one input. -/
def delayRisesWrong : ChangeSpec := { name := "delayRises", fn := fun _ => fun
  | [d1, d2, d3] => { results := [.lit (.bool false)], args := [d1, d2, d3] }
  | _ => none }
def DelayRisesWrongFalsely : Prop := delayRisesRow.holds Try.pinned (OpenSpec.ofChange delayRisesWrong)

/-- 'countermandlaw05.DelayLate': WHATEVER THE INPUT: true; the input reads as it did. -/
def delayLateSpec : ChangeSpec := { name := "delayLate", fn := fun _ => fun
  | [d1, d2, d3, d4, d5, d6] => { results := [.lit (.bool true)], args := [d1, d2, d3, d4, d5, d6] }
  | _ => none }
def delayLateRow : OpenClaim := { program := "ytlohgkhdhbdicaa", sum := "02d923c0de13d236f6412a628d81fc3313735437d2f346111d7e8e2c28af8935", func := "countermand/countermandlaw05.DelayLate", spec := "delayLate", apart := false }
def DelayLateSaid : Prop := delayLateRow.holds Try.pinned (OpenSpec.ofChange delayLateSpec)

/-- ITS FALSE NEIGHBOUR: 'it returns false'. Refute it at one input. -/
def delayLateWrong : ChangeSpec := { name := "delayLate", fn := fun _ => fun
  | [d1, d2, d3, d4, d5, d6] => { results := [.lit (.bool false)], args := [d1, d2, d3, d4, d5, d6] }
  | _ => none }
def DelayLateWrongFalsely : Prop := delayLateRow.holds Try.pinned (OpenSpec.ofChange delayLateWrong)

/-- 'countermandlaw03.CrcChecks': WHATEVER THE INPUT: true; the input reads as it did. -/
def crcChecksSpec : ChangeSpec := { name := "crcChecks", fn := fun _ => fun
  | [d] => { results := [.lit (.bool true)], args := [d] }
  | _ => none }
def crcChecksRow : OpenClaim := { program := "ytlohgkhdhbdicaa", sum := "02d923c0de13d236f6412a628d81fc3313735437d2f346111d7e8e2c28af8935", func := "countermand/countermandlaw03.CrcChecks", spec := "crcChecks", apart := false }
def CrcChecksSaid : Prop := crcChecksRow.holds Try.pinned (OpenSpec.ofChange crcChecksSpec)

/-- ITS FALSE NEIGHBOUR: 'it returns false'. Refute it at one input. -/
def crcChecksWrong : ChangeSpec := { name := "crcChecks", fn := fun _ => fun
  | [d] => { results := [.lit (.bool false)], args := [d] }
  | _ => none }
def CrcChecksWrongFalsely : Prop := crcChecksRow.holds Try.pinned (OpenSpec.ofChange crcChecksWrong)

/-- 'countermandlaw03.CrcTurns': WHATEVER THE INPUT: true; the input reads as it did. -/
def crcTurnsSpec : ChangeSpec := { name := "crcTurns", fn := fun _ => fun
  | [d1, d2, d3] => { results := [.lit (.bool true)], args := [d1, d2, d3] }
  | _ => none }
def crcTurnsRow : OpenClaim := { program := "ytlohgkhdhbdicaa", sum := "02d923c0de13d236f6412a628d81fc3313735437d2f346111d7e8e2c28af8935", func := "countermand/countermandlaw03.CrcTurns", spec := "crcTurns", apart := false }
def CrcTurnsSaid : Prop := crcTurnsRow.holds Try.pinned (OpenSpec.ofChange crcTurnsSpec)

/-- ITS FALSE NEIGHBOUR: 'it returns false'. Refute it at one input. -/
def crcTurnsWrong : ChangeSpec := { name := "crcTurns", fn := fun _ => fun
  | [d1, d2, d3] => { results := [.lit (.bool false)], args := [d1, d2, d3] }
  | _ => none }
def CrcTurnsWrongFalsely : Prop := crcTurnsRow.holds Try.pinned (OpenSpec.ofChange crcTurnsWrong)

/-- 'countermandlaw02.OctetReads': WHATEVER THE INPUT: true; the input reads as it did. -/
def octetReadsSpec : ChangeSpec := { name := "octetReads", fn := fun _ => fun
  | [d1, d2] => { results := [.lit (.bool true)], args := [d1, d2] }
  | _ => none }
def octetReadsRow : OpenClaim := { program := "ytlohgkhdhbdicaa", sum := "02d923c0de13d236f6412a628d81fc3313735437d2f346111d7e8e2c28af8935", func := "countermand/countermandlaw02.OctetReads", spec := "octetReads", apart := false }
def OctetReadsSaid : Prop := octetReadsRow.holds Try.pinned (OpenSpec.ofChange octetReadsSpec)

/-- ITS FALSE NEIGHBOUR: 'it returns false'. Refute it at one input. -/
def octetReadsWrong : ChangeSpec := { name := "octetReads", fn := fun _ => fun
  | [d1, d2] => { results := [.lit (.bool false)], args := [d1, d2] }
  | _ => none }
def OctetReadsWrongFalsely : Prop := octetReadsRow.holds Try.pinned (OpenSpec.ofChange octetReadsWrong)

/-- 'countermandlaw02.OctetOwn': WHATEVER THE INPUT: true; the input reads as it did. -/
def octetOwnSpec : ChangeSpec := { name := "octetOwn", fn := fun _ => fun
  | [d1, d2] => { results := [.lit (.bool true)], args := [d1, d2] }
  | _ => none }
def octetOwnRow : OpenClaim := { program := "ytlohgkhdhbdicaa", sum := "02d923c0de13d236f6412a628d81fc3313735437d2f346111d7e8e2c28af8935", func := "countermand/countermandlaw02.OctetOwn", spec := "octetOwn", apart := false }
def OctetOwnSaid : Prop := octetOwnRow.holds Try.pinned (OpenSpec.ofChange octetOwnSpec)

/-- ITS FALSE NEIGHBOUR: 'it returns false'. Refute it at one input. -/
def octetOwnWrong : ChangeSpec := { name := "octetOwn", fn := fun _ => fun
  | [d1, d2] => { results := [.lit (.bool false)], args := [d1, d2] }
  | _ => none }
def OctetOwnWrongFalsely : Prop := octetOwnRow.holds Try.pinned (OpenSpec.ofChange octetOwnWrong)

/- THE SECOND FORM. 'bulk': how many values and letters a reading holds, each counted each time it is reached (what is shared counts as often as it is met; a slice's spare places count too). A statement '..UptoSaid' is the law's where the arguments, and the package variables that the reading takes, are together of bulk at most 1048576: NARROWER than '..Said'. Prove '..Said' where nothing that the law and all that it calls make is longer than what came in: it says more and counts as full. Else prove '..UptoSaid'. A law counts once. -/
mutual
def uptoBulk {H : Type} : DataW H → Nat
  | .lit (.string bytes) => bytes.length + 1
  | .lit _ => 1
  | .nil => 1
  | .ptr d => uptoBulk d + 1
  | .slice elems spare => uptoBulkAll elems + uptoBulkAll spare + 1
  | .agg parts => uptoBulkAll parts + 1
  | .iface _ d => uptoBulk d + 1
  | .map entries => uptoBulkEntries entries + 1
  | .held _ => 1
def uptoBulkAll {H : Type} : List (DataW H) → Nat
  | [] => 0
  | d :: r => uptoBulk d + uptoBulkAll r
def uptoBulkEntries {H : Type} : List (Lit × DataW H) → Nat
  | [] => 0
  | x :: r => uptoBulkEntry x + uptoBulkEntries r
def uptoBulkEntry {H : Type} : Lit × DataW H → Nat
  | (.string bytes, d) => bytes.length + uptoBulk d + 1
  | (_, d) => uptoBulk d + 1
 end
def uptoSmall : (H : Type) → List (DataW H) → Bool := fun _ ds => decide (uptoBulkAll ds ≤ 1048576)
def OpenSpec.upto (s : _root_.Go.ChangeSpec) : _root_.Go.OpenSpec := { _root_.Go.OpenSpec.ofChange s with cond := some uptoSmall }

/-- 'countermandlaw03.CrcSums', WHERE WHAT IT READS IS OF BULK AT MOST 1048576: true; the input reads as it did. -/
def crcSumsUptoRow : OpenClaim := { program := "ytlohgkhdhbdicaa", sum := "02d923c0de13d236f6412a628d81fc3313735437d2f346111d7e8e2c28af8935", func := "countermand/countermandlaw03.CrcSums", spec := "crcSums", apart := false, narrowed := true }
def CrcSumsUptoSaid : Prop := crcSumsUptoRow.holds Try.pinned (OpenSpec.upto crcSumsSpec)

/-- 'countermandlaw05.DelayWaits', WHERE WHAT IT READS IS OF BULK AT MOST 1048576: true; the input reads as it did. -/
def delayWaitsUptoRow : OpenClaim := { program := "ytlohgkhdhbdicaa", sum := "02d923c0de13d236f6412a628d81fc3313735437d2f346111d7e8e2c28af8935", func := "countermand/countermandlaw05.DelayWaits", spec := "delayWaits", apart := false, narrowed := true }
def DelayWaitsUptoSaid : Prop := delayWaitsUptoRow.holds Try.pinned (OpenSpec.upto delayWaitsSpec)

/-- 'countermandlaw05.DelayRises', WHERE WHAT IT READS IS OF BULK AT MOST 1048576: true; the input reads as it did. -/
def delayRisesUptoRow : OpenClaim := { program := "ytlohgkhdhbdicaa", sum := "02d923c0de13d236f6412a628d81fc3313735437d2f346111d7e8e2c28af8935", func := "countermand/countermandlaw05.DelayRises", spec := "delayRises", apart := false, narrowed := true }
def DelayRisesUptoSaid : Prop := delayRisesUptoRow.holds Try.pinned (OpenSpec.upto delayRisesSpec)

/-- 'countermandlaw05.DelayLate', WHERE WHAT IT READS IS OF BULK AT MOST 1048576: true; the input reads as it did. -/
def delayLateUptoRow : OpenClaim := { program := "ytlohgkhdhbdicaa", sum := "02d923c0de13d236f6412a628d81fc3313735437d2f346111d7e8e2c28af8935", func := "countermand/countermandlaw05.DelayLate", spec := "delayLate", apart := false, narrowed := true }
def DelayLateUptoSaid : Prop := delayLateUptoRow.holds Try.pinned (OpenSpec.upto delayLateSpec)

/-- 'countermandlaw03.CrcChecks', WHERE WHAT IT READS IS OF BULK AT MOST 1048576: true; the input reads as it did. -/
def crcChecksUptoRow : OpenClaim := { program := "ytlohgkhdhbdicaa", sum := "02d923c0de13d236f6412a628d81fc3313735437d2f346111d7e8e2c28af8935", func := "countermand/countermandlaw03.CrcChecks", spec := "crcChecks", apart := false, narrowed := true }
def CrcChecksUptoSaid : Prop := crcChecksUptoRow.holds Try.pinned (OpenSpec.upto crcChecksSpec)

/-- 'countermandlaw03.CrcTurns', WHERE WHAT IT READS IS OF BULK AT MOST 1048576: true; the input reads as it did. -/
def crcTurnsUptoRow : OpenClaim := { program := "ytlohgkhdhbdicaa", sum := "02d923c0de13d236f6412a628d81fc3313735437d2f346111d7e8e2c28af8935", func := "countermand/countermandlaw03.CrcTurns", spec := "crcTurns", apart := false, narrowed := true }
def CrcTurnsUptoSaid : Prop := crcTurnsUptoRow.holds Try.pinned (OpenSpec.upto crcTurnsSpec)

/-- 'countermandlaw02.OctetReads', WHERE WHAT IT READS IS OF BULK AT MOST 1048576: true; the input reads as it did. -/
def octetReadsUptoRow : OpenClaim := { program := "ytlohgkhdhbdicaa", sum := "02d923c0de13d236f6412a628d81fc3313735437d2f346111d7e8e2c28af8935", func := "countermand/countermandlaw02.OctetReads", spec := "octetReads", apart := false, narrowed := true }
def OctetReadsUptoSaid : Prop := octetReadsUptoRow.holds Try.pinned (OpenSpec.upto octetReadsSpec)

/-- 'countermandlaw02.OctetOwn', WHERE WHAT IT READS IS OF BULK AT MOST 1048576: true; the input reads as it did. -/
def octetOwnUptoRow : OpenClaim := { program := "ytlohgkhdhbdicaa", sum := "02d923c0de13d236f6412a628d81fc3313735437d2f346111d7e8e2c28af8935", func := "countermand/countermandlaw02.OctetOwn", spec := "octetOwn", apart := false, narrowed := true }
def OctetOwnUptoSaid : Prop := octetOwnUptoRow.holds Try.pinned (OpenSpec.upto octetOwnSpec)

end Rows
end Go.Proofs.Ytlohgkhdhbdicaa
