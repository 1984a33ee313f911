/- Octets, as a type of cells. No function in sight. -/
import Derived.Test.YtihblcljkndpgaaOps2
namespace Go.Proofs.Ytihblcljkndpgaa.Sep
open Go.RowKit Go.Proofs.Ytihblcljkndpgaa.Reg
open Go.Proofs.Ytihblcljkndpgaa.Mem hiding Rd Own
set_option maxRecDepth 100000

def octT : Ty UInt8 where
  val b := .int .u8 (b.toNat : Int)
  size := 1
  bytes := 1
  tid := 5
  zero := .int .u8 0
  hlen _ := rfl
  hone a u h := by simp only [Value.cells, List.mem_singleton] at h; subst h; rfl
  hpos := by decide
  hzero := rfl
  hinfo := by kernel_rfl
  hagg := .inr ⟨by kernel_rfl, fun _ => rfl⟩
theorem octT_val (x : Int) (h0 : 0 ≤ x) (h1 : x < 256) : octT.val (UInt8.ofNat x.toNat) = .int .u8 x := by
  have e : ((x.toNat % 256 : Nat) : Int) = x := by omega
  simp [octT, e]
theorem octT_encs (l : List UInt8) : octT.encs l = octE.encs l := rfl
/-- 'string(b)' -/
theorem Y.str {E : Env} {H : List Asn} {ρ : Operand → Value} {o : Oper} {x : Operand} {A : Option Addr} {n c : Nat} {l : List UInt8} (ho : o.op = .convert 22 9 x) (hx : ρ x = .slice A n c) (h : RdH E H octT A n c l) : Yld Try.prog E H ρ o (.string (txt l)) := by
  intro u hu
  obtain ⟨h0, h1, h2, h3⟩ := h u hu
  have hr : Mem.Rd octE u u.heap.size A n c l := by
    refine ⟨h0, h1, h2, ?_, fun hn => ?_⟩
    · rw [octE.encs_length, ← h0]
    · rcases h3 with h3 | ⟨ad, e, hc⟩
      · omega
      · have hl : 0 < (octT.encs l).length := by rw [octT.encs_length, ← h0]; exact Nat.mul_pos hn octT.hpos
        have := World.block_lt_of_cell? _ _ (hc 0 _ (List.getElem?_eq_getElem hl))
        exact ⟨ad, e, by rwa [block_of_add] at this, hc⟩
  exact V.convert ho hx (str_rd hr)
def octT_z : UInt8 := 0
end Go.Proofs.Ytihblcljkndpgaa.Sep
