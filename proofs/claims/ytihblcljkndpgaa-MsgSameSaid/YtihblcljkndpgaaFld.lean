/- Fields of elements that are stored; calls of function values with what they hold. No function in sight. -/
import Derived.Test.YtihblcljkndpgaaRet
namespace Go.Proofs.Ytihblcljkndpgaa.Sep
open Go.RowKit Go.Proofs.Ytihblcljkndpgaa.Reg
open Go.Proofs.Ytihblcljkndpgaa.Mem hiding Rd Own
set_option maxRecDepth 100000
/-- the element e with its cell j turned to v is e' -/
def Fset {α : Type} (T : Ty α) (e : α) (j : Nat) (v : Value) (e' : α) : Prop := j + v.cells.size ≤ T.size ∧ (T.enc e).take j ++ v.cells.toList ++ (T.enc e).drop (j + v.cells.size) = T.enc e'
theorem Fset.mk1 {α : Type} {T : Ty α} {e e' : α} {j : Nat} {v : Value} (h1 : v.cells = #[v]) (hj : j < T.size) (h : (T.enc e).take j ++ [v] ++ (T.enc e).drop (j + 1) = T.enc e') : Fset T e j v e' := by
  refine ⟨by rw [h1]; exact hj, ?_⟩
  rw [h1]; exact h
section
variable {α : Type} {T : Ty α} {N : Nat} {E : Env} {F : Nat → Value} {H H' R : List Asn} {o : Oper} {A : Option Addr} {n c : Nat} {l : List α}
theorem S.storeFK {x y : Operand} {t : TypeId} {q k j : Nat} {v : Value} {e e' : α} {ti : TypeInfo} (ho : o.op = .store t x y) (hx : ev F x = .pointer (some (((ad A).add q).add j))) (hy : ev F y = v) (hr : Repl (own T A n c l) [own T A n c (l.set k e')] H H')
    (hf : Fset T e j v e') (hq : q = k * T.size) (he : l[k]? = some e) (h1 : ∀ x ∈ v.cells.toList, x.oneCell' = true)
    (hi : Try.prog.info? t = some ti) (hs : v.cells.size = ti.size) : Stp Try.prog N E F H o fun r H1 => r = undef ∧ H1 = H' := by
  subst hq
  exact S.storeElem (T := T) (q := k * T.size + j) ho hx hy (add_of_add _ _ _) h1 hi hs rfl he hf.1 hf.2 hr ⟨rfl, rfl⟩
/-- its first cell -/
theorem S.storeF0K {x y : Operand} {t : TypeId} {q k : Nat} {v : Value} {e e' : α} {ti : TypeInfo} (ho : o.op = .store t x y) (hx : ev F x = .pointer (some ((ad A).add q))) (hy : ev F y = v) (hr : Repl (own T A n c l) [own T A n c (l.set k e')] H H')
    (hf : Fset T e 0 v e') (hq : q = k * T.size) (he : l[k]? = some e) (h1 : ∀ x ∈ v.cells.toList, x.oneCell' = true)
    (hi : Try.prog.info? t = some ti) (hs : v.cells.size = ti.size) : Stp Try.prog N E F H o fun r H1 => r = undef ∧ H1 = H' := by
  subst hq
  exact S.storeElem (T := T) (q := k * T.size) (j := 0) ho hx hy rfl h1 hi hs (by omega) he hf.1 hf.2 hr ⟨rfl, rfl⟩
/-- a call of a function value -/
theorem S.callVL {P : Program} {f : FuncId} {fn : Func} {x : Operand} {cs : List Value} {ops : List Operand} {tys : Array TypeId} {Hp : List Asn} {vs vs' : List Value} {K : Value → List Asn → Prop} {Q1 : Ending → List Asn → Prop} (ho : o.op = .call { callee := .value x, args := ops.toArray, argTypes := tys }) (hx : ev F x = .func (.func f) #[] cs.toArray) (hvs : evs F ops = vs) (hv2 : vs ++ cs = vs')
    (hfn : P.funcs[f]? = some fn) (hname : (fn.name == "runtime.NumGoroutine") = false) (hbody : fn.body.isNone = false)
    (hp : Picks Hp H R) (h : ∀ E', Sub E R E' → Tri P E' f vs'.toArray Hp Q1) (hQ : ∀ e H', Q1 e H' → ∃ v, e = .returned v ∧ ∃ H2, Cat H' R H2 ∧ K v H2) : Stp P N E F H o K := by
  subst hvs hv2
  intro a u ha hu Kw Q' hK
  obtain ⟨E', _, hE, hst, hback⟩ := (hu.picks hp).enter
  unfold Oper.wp
  have hr : (execOp a.eval o).run P u = .ok (.enter f (evs F ops ++ cs).toArray) u := by
    have h1 : ¬ fn.name = "runtime.NumGoroutine" := by simpa using hname
    have h2 : ¬ fn.body = none := by intro h; rw [h] at hbody; cases hbody
    rw [ha.eval, evs_eq]
    simp [execOp, ho, resolve, hx, Deferred.ofValue, invoke, callFunc, hfn, h1, h2]
  rw [hr]
  refine (h E' hE u hst).mono ?_
  rintro e w' ⟨H', h3, h4⟩
  obtain ⟨v, rfl, H2, hcat, h5⟩ := hQ e H' h4
  exact hK v _ w' h5 (by rw [hcat.eq]; exact hback H' w' h3)
end
end Go.Proofs.Ytihblcljkndpgaa.Sep
