/- Equality of arrays of numbers. No function in sight. -/
import Derived.Test.YtihblcljkndpgaaEq
import Derived.ChangeKeysEq
namespace Go.Proofs.Ytihblcljkndpgaa.Sep
open Go.RowKit Go.Proofs.Ytihblcljkndpgaa.Reg
open Go.Proofs.Ytihblcljkndpgaa.Mem hiding Rd Own
set_option maxRecDepth 100000
structure EqR (P : Program) (t : TypeId) (xs ys : Array Value) (r : Bool) : Prop where
  guard : P.eqGuardType P.depth t = false
  run : ∀ u, (Op.equalIn 10000 t (.agg xs) (.agg ys)).run P u = .ok r u
section
variable {P : Program} {ρ : Operand → Value} {o : Oper} {u : World}
theorem V.eqlR {x y : Operand} {t t' : TypeId} {xs ys : Array Value} {r : Bool} (ho : o.op = .binOp .eql t x y t') (hx : ρ x = .agg xs) (hy : ρ y = .agg ys) (h : EqR P t xs ys r) : (execOp ρ o).run P u = .ok (.value (.bool r)) u := by
  have h1 := run_eql_struct (P := P) u t xs ys
  rw [h.run] at h1
  simp [execOp, ho, hx, hy, run_eqGuard_agg u .eql t x y xs ys h.guard, h1]
theorem part_int {e : TypeId} {k : IntKind} {xs : Array Value} {i : Nat} {v : Value} (he : P.underlying e = some (.int k)) (h : xs[i]? = some v) : (part e xs i).run P u = .ok v u := by
  simp [part, isAgg, run_underlying he, h]
theorem EqR.four {t e : TypeId} (ht : P.underlying t = some (.array 4 e)) (he : P.underlying e = some (.int .i64)) (hs : (P.info? e).map (·.size) = some 1) (hg : P.eqGuardType P.depth t = false) {a0 a1 a2 a3 b0 b1 b2 b3 : Int} :
    EqR P t #[.int .i64 a0, .int .i64 a1, .int .i64 a2, .int .i64 a3] #[.int .i64 b0, .int .i64 b1, .int .i64 b2, .int .i64 b3] (decide (a0 = b0) && (decide (a1 = b1) && (decide (a2 = b2) && decide (a3 = b3)))) := by
  obtain ⟨ti, hi, hs⟩ : ∃ ti, P.info? e = some ti ∧ ti.size = 1 := by
    cases h : P.info? e with
    | none => rw [h] at hs; cases hs
    | some ti => rw [h] at hs; injection hs with hs; exact ⟨ti, rfl, hs⟩
  refine ⟨hg, fun u => ?_⟩
  rw [show (10000 : Nat) = 9999 + 1 from rfl, run_equalIn_array u 9999 _ _ ht hi]
  have hc : P.cellsOf e = 1 := by simp [Program.cellsOf, hi, hs]
  rw [hc]
  have hr : List.range 4 = [0, 1, 2, 3] := rfl
  rw [hr]
  have q : ∀ (a b : Int) (u : World), (Op.equalIn 9999 e (.int .i64 a) (.int .i64 b)).run P u = .ok (a == b) u := fun a b u => run_equalIn_int u 9998 e .i64 .i64 a b he
  have p0 : ∀ (c0 c1 c2 c3 : Int) (u : World), (part e #[.int .i64 c0, .int .i64 c1, .int .i64 c2, .int .i64 c3] 0).run P u = .ok (.int .i64 c0) u := fun _ _ _ _ u => part_int he rfl
  have p1 : ∀ (c0 c1 c2 c3 : Int) (u : World), (part e #[.int .i64 c0, .int .i64 c1, .int .i64 c2, .int .i64 c3] 1).run P u = .ok (.int .i64 c1) u := fun _ _ _ _ u => part_int he rfl
  have p2 : ∀ (c0 c1 c2 c3 : Int) (u : World), (part e #[.int .i64 c0, .int .i64 c1, .int .i64 c2, .int .i64 c3] 2).run P u = .ok (.int .i64 c2) u := fun _ _ _ _ u => part_int he rfl
  have p3 : ∀ (c0 c1 c2 c3 : Int) (u : World), (part e #[.int .i64 c0, .int .i64 c1, .int .i64 c2, .int .i64 c3] 3).run P u = .ok (.int .i64 c3) u := fun _ _ _ _ u => part_int he rfl
  simp only [Op.eqItems, Sem.run_bind, Nat.zero_mul, Nat.one_mul, show 2 * 1 = 2 from rfl, show 3 * 1 = 3 from rfl, p0, p3, q, Result.andThen_ok]
  by_cases h0 : a0 = b0 <;> by_cases h1 : a1 = b1 <;> by_cases h2 : a2 = b2 <;> by_cases h3 : a3 = b3 <;> simp [h0, h1, h2, h3, p1, p2, p3, q]
end
end Go.Proofs.Ytihblcljkndpgaa.Sep
