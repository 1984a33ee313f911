/- octet.Put and the document's Put, of so many octets. -/
import Derived.Test.YtiabahpofcapbaaOct3
namespace Go.Proofs.Ytiabahpofcapbaa.Sep
open Go.RowKit Go.Proofs.Ytiabahpofcapbaa.Reg Go.Proofs.Ytiabahpofcapbaa.Oct
open Go.Proofs.Ytiabahpofcapbaa.Mem hiding Rd Own
set_option maxRecDepth 100000
theorem z_octs : ((Try.prog.info? 70).bind (·.zero)).map (·.cells.toList) = some [.slice none 0 0] := by kernel_rfl
theorem z_rdr : ((Try.prog.info? 109).bind (·.zero)).map (·.cells.toList) = some [.pointer none] := by kernel_rfl
def WPost (n' : Nat) (l : List UInt8) (e : Ending) (H' : List Asn) : Prop := ∃ A' c', e = .returned (.slice A' n' c') ∧ (n' ≤ c' ∧ c' ≤ maxLen) ∧ H' = [own octT A' n' c' l]
theorem PutPost.w {nl w n' k : Nat} {W : Int} {l : List UInt8} {e : Ending} {H' : List Asn} (hW : W = w) (hn : nl + w = n') (hw : 1 ≤ w ∧ w ≤ 8) (hnl : nl = l.length) (h : PutPost (Oct.put l k W) e H') : WPost n' (l ++ be k w) e H' := by
  have hp : Oct.put l k W = l ++ be k w := by
    unfold Oct.put
    rw [if_neg (by omega), hW, Int.toNat_natCast]
  have hl : (l ++ be k w).length = n' := by rw [List.length_append, be_length]; omega
  rw [hp] at h
  unfold PutPost at h
  rw [hl] at h
  obtain ⟨A', c', h1, h2, h3, h4⟩ := h
  exact ⟨A', c', h1, ⟨h2, h3⟩, h4⟩
theorem putw_any (E : Env) (A : Option Addr) (nl cap n' w : Nat) (l : List UInt8) (k : Nat) (W : Int) (hW : W = w) (hn : nl + w = n') (hw : 1 ≤ w ∧ w ≤ 8) (hr : Rd E octT A nl cap l) (hk : k < 18446744073709551616) (hl : nl ≤ 140737488355300) :
    Tri Try.prog E 105 #[.slice A nl cap, .int .u64 k, .int .i64 W] [] (WPost n' (l ++ be k w)) :=
  (put_any E A nl cap l k W hr hk hl).mono fun _ _ h => h.w hW hn hw hr.len
theorem rputw_any (E : Env) (A : Option Addr) (nl cap n' w : Nat) (l : List UInt8) (k : Nat) (W : Int) (hW : W = w) (hn : nl + w = n') (hw : 1 ≤ w ∧ w ≤ 8) (hr : Rd E octT A nl cap l) (hk : k < 18446744073709551616) (hl : nl ≤ 140737488355300) :
    Tri Try.prog E 128 #[.slice A nl cap, .int .u64 k, .int .i64 W] [] (WPost n' (l ++ be k w)) :=
  (rput_any E A nl cap l k W hr hk hl (by omega)).mono fun _ _ h => h.w hW hn hw hr.len
end Go.Proofs.Ytiabahpofcapbaa.Sep
