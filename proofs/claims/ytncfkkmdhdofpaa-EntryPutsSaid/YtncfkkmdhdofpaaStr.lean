/- Strings put together. No function in sight. -/
import Derived.Test.YtncfkkmdhdofpaaOps3
import Derived.Laws.Concat
namespace Go.Proofs.Ytncfkkmdhdofpaa.Sep
open Go.RowKit Go.Proofs.Ytncfkkmdhdofpaa.Reg
open Go.Proofs.Ytncfkkmdhdofpaa.Mem hiding Rd Own
set_option maxRecDepth 100000
theorem V.cat {P : Program} {ρ : Operand → Value} {o : Oper} {u : World} {x y : Operand} {t t' : TypeId} {a b : List UInt8} (ho : o.op = .binOp .add t x y t') (hx : ρ x = .string (txt a)) (hy : ρ y = .string (txt b)) (h : (Nat.ble a.length 8388608 && Nat.ble b.length 8388608) = true) : (execOp ρ o).run P u = .ok (.value (.string (txt (a ++ b)))) u := by
  rw [Bool.and_eq_true] at h
  have h1 := Nat.le_of_ble_eq_true h.1
  have h2 := Nat.le_of_ble_eq_true h.2
  have h3 := run_string_add_lists (P := P) u a b (by omega) (by omega)
  unfold txt at hx hy ⊢
  simp [execOp, ho, hx, hy, eqGuard, binOp_string_add, h3]
end Go.Proofs.Ytncfkkmdhdofpaa.Sep
