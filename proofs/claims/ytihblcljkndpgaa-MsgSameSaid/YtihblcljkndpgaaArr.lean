/- Elements of arrays in memory. No function in sight. -/
import Derived.Test.YtihblcljkndpgaaFn
namespace Go.Proofs.Ytihblcljkndpgaa.Sep
open Go.RowKit Go.Proofs.Ytihblcljkndpgaa.Reg
open Go.Proofs.Ytihblcljkndpgaa.Mem hiding Rd Own
set_option maxRecDepth 100000
theorem V.indexAddrA {P : Program} {ρ : Operand → Value} {o : Oper} {t e : TypeId} {x i : Operand} {g q : Nat} {k : IntKind} {j : Int} {m len : Nat} {ti : TypeInfo} {b : Addr} {u : World} (ho : o.op = .indexAddr t x i) (hx : ρ x = .pointer (some ⟨g, q, none⟩)) (hi : ρ i = .int k j) (ht : P.underlying t = some (.array len e)) (hti : P.info? e = some ti) (hs : ti.size = 1) (hj : j.toNat = m) (h0 : 0 ≤ j) (hm : m < len) (hb : (⟨g, q, none⟩ : Addr).add m = b) : (execOp ρ o).run P u = .ok (.value (.pointer (some b))) u := by
  subst hj hb
  have hjl : j < len := by omega
  simp [execOp, ho, hx, hi, Instr.indexAt, asIntOf, run_underlying ht, Instr.sureAddr, h0, hjl, sizeOf, typeInfo, hti, hs]
/-- 's[lo:hi:hi]' of what is read -/
theorem Y.sliceFull {α : Type} {T : Ty α} {E : Env} {H : List Asn} {ρ : Operand → Value} {o : Oper} {A : Option Addr} {n c : Nat} {l : List α} {t : TypeId} {x lo hi mx : Operand} {k k2 k3 : IntKind} {i i2 : Int} {j m : Nat} (ho : o.op = .slice t x (some lo) (some hi) (some mx)) (hx : ρ x = .slice A n c) (hlo : ρ lo = .int k i) (hhi : ρ hi = .int k2 i2) (hmx : ρ mx = .int k3 i2) (h : RdH E H T A n c l) (hj : i.toNat = j) (h0 : 0 ≤ i) (hm : i2.toNat = m) (h02 : 0 ≤ i2) (hjm : j ≤ m) (hjn : m ≤ n) (ht : Try.prog.underlying t = some (.slice T.tid)) :
    Yld Try.prog E H ρ o (.slice (if m = j then A else A.map (·.add (j * T.size))) (m - j) (m - j)) := by
  intro u hu
  subst hj hm
  obtain ⟨_, h1, h2, _⟩ := h u hu
  obtain ⟨ti, hti, _, hsz, _⟩ := T.infoOf
  have h0n : i2 ≤ c := by omega
  have h0m : i ≤ i2 := by omega
  have e2 : max i2 0 = i2 := by omega
  simp [execOp, ho, hx, Instr.sliceAt, Instr.slice, Instr.sliceBounds, Instr.sliceBound, asIntOf, run_underlying ht, sizeOf, typeInfo, hti, hlo, hhi, hmx, h0, h02, h0n, h0m, hsz, e2]
end Go.Proofs.Ytihblcljkndpgaa.Sep
