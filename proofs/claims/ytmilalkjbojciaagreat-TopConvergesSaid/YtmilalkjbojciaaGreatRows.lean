/-
  No cell of these rows narrows 'for every input' (looked for: loops, veiled, ifaces, maps, wideKeys, modest, calm, conditions, laid).
  DERIVED. THE GIVEN ROWS OF THIS SEAT. 4 by the template 'for every input the law returns true; each argument reads behind the call as it read before'; 0 by the template 'total and deterministic' (their statements: YtmilalkjbojciaaGreatTotals.lean).
  GIVEN WITH THE SEED: the statements are not yours to turn. If you find one false, say at which input.
  Laid BY PROGRAM, IN A SANDBOX (cutbox-rows.mjs): the forced cells as the released guide's own fill.sh prints them over the translation 1d428ebbf42daa4c… (all of the seat's roots in one cut). By AI agents, Wed Nov 11 2026. No macro, syntax, notation, axiom, sorry.
-/
import Derived.Test.YtmilalkjbojciaaGreatChecked
import GoSem.Claim
import GoSem.ClaimJoined
import GoSem.ClaimMapViews
import Derived.JoinedTies
import Derived.KernelRfl
namespace Go.Proofs.YtmilalkjbojciaaGreat
/- THE CELL 'sum', in the pinned program and in every row, IS THE sha256 OF THE DUMP (.gsa) THAT YtmilalkjbojciaaGreatProg.lean LOADS. Nothing in Lean hashes anything: it is a label: what it is worth is what the hold of that sum in a sandbox is worth. -/
noncomputable def Tryz.pinned : Pinned := { name := "ytmilalkjbojciaagreat", sum := "1d428ebbf42daa4c0af0192ae687b95ce1b827b412ad426b016e72bdcde8dda3", checked := Tryz.checked }
namespace Rows
def none {H : Type} : Left H := { results := [], args := [] }

/-- 'countermandtop.TopAlone': WHATEVER THE INPUT: true; the input reads as it did. -/
def topAloneSpec : ChangeSpec := { name := "topAlone", fn := fun _ => fun
  | [d1, d2] => { results := [.lit (.bool true)], args := [d1, d2] }
  | _ => none }
def topAloneRow : OpenClaim := { program := "ytmilalkjbojciaagreat", sum := "1d428ebbf42daa4c0af0192ae687b95ce1b827b412ad426b016e72bdcde8dda3", func := "countermand/countermandtop.TopAlone", spec := "topAlone", inPlace := ["maps.clone"], unfollowed := true, recurses := true, plainKeys := false, apart := false }
def TopAloneSaid : Prop := topAloneRow.holds Tryz.pinned (OpenSpec.ofChange topAloneSpec)

/-- ITS FALSE NEIGHBOUR: 'it returns false'. Refute it at one input. -/
def topAloneWrong : ChangeSpec := { name := "topAlone", fn := fun _ => fun
  | [d1, d2] => { results := [.lit (.bool false)], args := [d1, d2] }
  | _ => none }
def TopAloneWrongFalsely : Prop := topAloneRow.holds Tryz.pinned (OpenSpec.ofChange topAloneWrong)

/-- 'countermandtop.TopOwn': WHATEVER THE INPUT: true; the input reads as it did. -/
def topOwnSpec : ChangeSpec := { name := "topOwn", fn := fun _ => fun
  | [d1, d2, d3] => { results := [.lit (.bool true)], args := [d1, d2, d3] }
  | _ => none }
def topOwnRow : OpenClaim := { program := "ytmilalkjbojciaagreat", sum := "1d428ebbf42daa4c0af0192ae687b95ce1b827b412ad426b016e72bdcde8dda3", func := "countermand/countermandtop.TopOwn", spec := "topOwn", inPlace := ["maps.clone"], unfollowed := true, recurses := true, plainKeys := false, apart := false }
def TopOwnSaid : Prop := topOwnRow.holds Tryz.pinned (OpenSpec.ofChange topOwnSpec)

/-- ITS FALSE NEIGHBOUR: 'it returns false'. Refute it at one input. -/
def topOwnWrong : ChangeSpec := { name := "topOwn", fn := fun _ => fun
  | [d1, d2, d3] => { results := [.lit (.bool false)], args := [d1, d2, d3] }
  | _ => none }
def TopOwnWrongFalsely : Prop := topOwnRow.holds Tryz.pinned (OpenSpec.ofChange topOwnWrong)

/-- 'countermandtop.TopRefines': WHATEVER THE INPUT: true; the input reads as it did. -/
def topRefinesSpec : ChangeSpec := { name := "topRefines", fn := fun _ => fun
  | [d1, d2] => { results := [.lit (.bool true)], args := [d1, d2] }
  | _ => none }
def topRefinesRow : OpenClaim := { program := "ytmilalkjbojciaagreat", sum := "1d428ebbf42daa4c0af0192ae687b95ce1b827b412ad426b016e72bdcde8dda3", func := "countermand/countermandtop.TopRefines", spec := "topRefines", inPlace := ["maps.clone"], unfollowed := true, recurses := true, plainKeys := false, apart := false }
def TopRefinesSaid : Prop := topRefinesRow.holds Tryz.pinned (OpenSpec.ofChange topRefinesSpec)

/-- ITS FALSE NEIGHBOUR: 'it returns false'. Refute it at one input. -/
def topRefinesWrong : ChangeSpec := { name := "topRefines", fn := fun _ => fun
  | [d1, d2] => { results := [.lit (.bool false)], args := [d1, d2] }
  | _ => none }
def TopRefinesWrongFalsely : Prop := topRefinesRow.holds Tryz.pinned (OpenSpec.ofChange topRefinesWrong)

/-- 'countermandtop.TopConverges': WHATEVER THE INPUT: true; the input reads as it did. -/
def topConvergesSpec : ChangeSpec := { name := "topConverges", fn := fun _ => fun
  | [d1, d2] => { results := [.lit (.bool true)], args := [d1, d2] }
  | _ => none }
def topConvergesRow : OpenClaim := { program := "ytmilalkjbojciaagreat", sum := "1d428ebbf42daa4c0af0192ae687b95ce1b827b412ad426b016e72bdcde8dda3", func := "countermand/countermandtop.TopConverges", spec := "topConverges", inPlace := ["maps.clone"], unfollowed := true, recurses := true, plainKeys := false, apart := false }
def TopConvergesSaid : Prop := topConvergesRow.holds Tryz.pinned (OpenSpec.ofChange topConvergesSpec)

/-- ITS FALSE NEIGHBOUR: 'it returns false'. Refute it at one input. -/
def topConvergesWrong : ChangeSpec := { name := "topConverges", fn := fun _ => fun
  | [d1, d2] => { results := [.lit (.bool false)], args := [d1, d2] }
  | _ => none }
def TopConvergesWrongFalsely : Prop := topConvergesRow.holds Tryz.pinned (OpenSpec.ofChange topConvergesWrong)

/- THE SECOND FORM. 'bulk': how many values and letters a reading holds, each counted each time it is reached (what is shared counts as often as it is met; a slice's spare places count too). A statement '..UptoSaid' is the law's where the arguments, and the package variables that the reading takes, are together of bulk at most 1048576: NARROWER than '..Said'. Prove '..Said' where nothing that the law and all that it calls make is longer than what came in: it says more and counts as full. Else prove '..UptoSaid'. A law counts once. -/
mutual
def uptoBulk {H : Type} : DataW H → Nat
  | .lit (.string bytes) => bytes.length + 1
  | .lit _ => 1
  | .nil => 1
  | .ptr d => uptoBulk d + 1
  | .slice elems spare => uptoBulkAll elems + uptoBulkAll spare + 1
  | .agg parts => uptoBulkAll parts + 1
  | .iface _ d => uptoBulk d + 1
  | .map entries => uptoBulkEntries entries + 1
  | .held _ => 1
def uptoBulkAll {H : Type} : List (DataW H) → Nat
  | [] => 0
  | d :: r => uptoBulk d + uptoBulkAll r
def uptoBulkEntries {H : Type} : List (Lit × DataW H) → Nat
  | [] => 0
  | x :: r => uptoBulkEntry x + uptoBulkEntries r
def uptoBulkEntry {H : Type} : Lit × DataW H → Nat
  | (.string bytes, d) => bytes.length + uptoBulk d + 1
  | (_, d) => uptoBulk d + 1
 end
def uptoSmall : (H : Type) → List (DataW H) → Bool := fun _ ds => decide (uptoBulkAll ds ≤ 1048576)
def OpenSpec.upto (s : _root_.Go.ChangeSpec) : _root_.Go.OpenSpec := { _root_.Go.OpenSpec.ofChange s with cond := some uptoSmall }

/-- 'countermandtop.TopAlone', WHERE WHAT IT READS IS OF BULK AT MOST 1048576: true; the input reads as it did. -/
def topAloneUptoRow : OpenClaim := { program := "ytmilalkjbojciaagreat", sum := "1d428ebbf42daa4c0af0192ae687b95ce1b827b412ad426b016e72bdcde8dda3", func := "countermand/countermandtop.TopAlone", spec := "topAlone", inPlace := ["maps.clone"], unfollowed := true, recurses := true, plainKeys := false, apart := false, narrowed := true }
def TopAloneUptoSaid : Prop := topAloneUptoRow.holds Tryz.pinned (OpenSpec.upto topAloneSpec)

/-- 'countermandtop.TopOwn', WHERE WHAT IT READS IS OF BULK AT MOST 1048576: true; the input reads as it did. -/
def topOwnUptoRow : OpenClaim := { program := "ytmilalkjbojciaagreat", sum := "1d428ebbf42daa4c0af0192ae687b95ce1b827b412ad426b016e72bdcde8dda3", func := "countermand/countermandtop.TopOwn", spec := "topOwn", inPlace := ["maps.clone"], unfollowed := true, recurses := true, plainKeys := false, apart := false, narrowed := true }
def TopOwnUptoSaid : Prop := topOwnUptoRow.holds Tryz.pinned (OpenSpec.upto topOwnSpec)

/-- 'countermandtop.TopRefines', WHERE WHAT IT READS IS OF BULK AT MOST 1048576: true; the input reads as it did. -/
def topRefinesUptoRow : OpenClaim := { program := "ytmilalkjbojciaagreat", sum := "1d428ebbf42daa4c0af0192ae687b95ce1b827b412ad426b016e72bdcde8dda3", func := "countermand/countermandtop.TopRefines", spec := "topRefines", inPlace := ["maps.clone"], unfollowed := true, recurses := true, plainKeys := false, apart := false, narrowed := true }
def TopRefinesUptoSaid : Prop := topRefinesUptoRow.holds Tryz.pinned (OpenSpec.upto topRefinesSpec)

/-- 'countermandtop.TopConverges', WHERE WHAT IT READS IS OF BULK AT MOST 1048576: true; the input reads as it did. -/
def topConvergesUptoRow : OpenClaim := { program := "ytmilalkjbojciaagreat", sum := "1d428ebbf42daa4c0af0192ae687b95ce1b827b412ad426b016e72bdcde8dda3", func := "countermand/countermandtop.TopConverges", spec := "topConverges", inPlace := ["maps.clone"], unfollowed := true, recurses := true, plainKeys := false, apart := false, narrowed := true }
def TopConvergesUptoSaid : Prop := topConvergesUptoRow.holds Tryz.pinned (OpenSpec.upto topConvergesSpec)

end Rows
end Go.Proofs.YtmilalkjbojciaaGreat
