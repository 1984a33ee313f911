/- Function values that hold one variable. No function in sight. -/
import Derived.Test.YtihblcljkndpgaaOps3
namespace Go.Proofs.Ytihblcljkndpgaa.Sep
open Go.RowKit Go.Proofs.Ytihblcljkndpgaa.Reg
open Go.Proofs.Ytihblcljkndpgaa.Mem hiding Rd Own
set_option maxRecDepth 100000
section
variable {P : Program} {N : Nat} {E : Env} {F : Nat → Value} {H R : List Asn} {o : Oper} {K : Value → List Asn → Prop} {ρ : Operand → Value}
theorem V.func1 {f : FuncId} {x : Operand} {v : Value} {u : World} (ho : o.op = .makeFunc (.func f) #[] #[x]) (hx : ρ x = v) : (execOp ρ o).run P u = .ok (.value (.func (.func f) #[] #[v])) u := by
  simp [execOp, ho, hx, Instr.makeFunc]
theorem S.callV {f : FuncId} {fn : Func} {x : Operand} {c : Value} {ops : List Operand} {tys : Array TypeId} {Hp : List Asn} {vs vs' : List Value} {Q1 : Ending → List Asn → Prop} (ho : o.op = .call { callee := .value x, args := ops.toArray, argTypes := tys }) (hx : ev F x = .func (.func f) #[] #[c]) (hvs : evs F ops = vs) (hv2 : vs ++ [c] = vs')
    (hfn : P.funcs[f]? = some fn) (hname : (fn.name == "runtime.NumGoroutine") = false) (hbody : fn.body.isNone = false)
    (hp : Picks Hp H R) (h : ∀ E', Sub E R E' → Tri P E' f vs'.toArray Hp Q1) (hQ : ∀ e H', Q1 e H' → ∃ v, e = .returned v ∧ ∃ H2, Cat H' R H2 ∧ K v H2) : Stp P N E F H o K := by
  subst hvs hv2
  intro a u ha hu Kw Q' hK
  obtain ⟨E', _, hE, hst, hback⟩ := (hu.picks hp).enter
  unfold Oper.wp
  have hr : (execOp a.eval o).run P u = .ok (.enter f (evs F ops ++ [c]).toArray) u := by
    have h1 : ¬ fn.name = "runtime.NumGoroutine" := by simpa using hname
    have h2 : ¬ fn.body = none := by intro h; rw [h] at hbody; cases hbody
    rw [ha.eval, evs_eq]
    simp [execOp, ho, resolve, hx, Deferred.ofValue, invoke, callFunc, hfn, h1, h2]
  rw [hr]
  refine (h E' hE u hst).mono ?_
  rintro e w' ⟨H', h3, h4⟩
  obtain ⟨v, rfl, H2, hcat, h5⟩ := hQ e H' h4
  exact hK v _ w' h5 (by rw [hcat.eq]; exact hback H' w' h3)
/-- an element of an array that is a value: one cell -/
theorem V.indexA {t e : TypeId} {x i : Operand} {L : List Value} {k : IntKind} {j : Int} {m len : Nat} {v : Value} {ti : TypeInfo} {d : TypeDesc} {u : World} (ho : o.op = .index t x i) (hx : ρ x = .agg L.toArray) (hi : ρ i = .int k j) (ht : P.underlying t = some (.array len e)) (hti : P.info? e = some ti) (hs : ti.size = 1) (hd : P.underlying e = some d) (hda : aggD d = false) (hj : j.toNat = m) (h0 : 0 ≤ j) (hm : m < len) (hv : L[m]? = some v) : (execOp ρ o).run P u = .ok (.value v) u := by
  subst hj
  have hjl : j < len := by omega
  cases d <;> simp [aggD] at hda <;> simp [execOp, ho, hx, hi, Instr.index, asIntOf, run_underlying ht, h0, hjl, sizeOf, typeInfo, hti, hs, part, isAgg, run_underlying hd, hv]
/-- an array type: its zero's cells, where its elements lie -/
structure RecA (P : Program) (t : TypeId) (z : List Value) (pl : List (Nat × Nat)) (sz : Nat) : Prop where
  zero : ((P.info? t).bind (·.zero)).map (·.cells.toList) = some z
  elem : (match P.underlying t with | some (.array _ e) => (P.info? e).map (·.size) | _ => none) = some sz
  places : pl = (List.range pl.length).map fun i => (i * sz, sz)
theorem fill_more {f g : Nat → Option (Nat × Nat)} (h : ∀ i p, f i = some p → g i = some p) : ∀ (vs : List (Nat × Value)) (z out : Array Value), Instr.fill f z vs = some out → Instr.fill g z vs = some out
  | [], z, out, hh => by simpa [Instr.fill] using hh
  | (i, v) :: rest, z, out, hh => by
    unfold Instr.fill at hh ⊢
    cases hp : f i with
    | none => simp [hp] at hh
    | some q =>
      rw [h i q hp]
      rw [hp] at hh
      simp only at hh ⊢
      split at hh
      · cases hh
      · rename_i hc
        rw [if_neg hc]
        exact fill_more h rest _ _ hh
theorem Y.buildA {t : TypeId} {sz : Nat} {parts : List (Nat × Operand)} {vs : List (Nat × Value)} {z : List Value} {pl : List (Nat × Nat)} {cells : List Value} (ho : o.op = .build t parts.toArray) (hp : PV ρ parts vs) (hr : RecA P t z pl sz) (hb : Fil pl z vs cells) : Yld P E H ρ o (.agg cells.toArray) := by
  intro u _
  have hb := hb.eq
  have hp := hp.eq
  subst hp
  have h1 := hr.zero
  have h2 := hr.elem
  have : P.built t (parts.toArray.map fun (i, x) => (i, ρ x)).toList = some cells.toArray := by
    rw [pv_eq]
    unfold Program.built
    cases hi : P.info? t with
    | none => simp [hi] at h1
    | some ti =>
      cases hz : ti.zero with
      | none => simp [hi, hz] at h1
      | some zv =>
        simp [hi, hz] at h1
        cases hu : P.underlying t with
        | none => simp [hu] at h2
        | some d =>
          cases d <;> simp [hu] at h2
          obtain ⟨ie, h3, h4⟩ := h2
          simp only [hz, h3]
          refine fill_more (f := (pl.toArray[·]?)) ?_ _ _ _ (fillL_eq pl _ _ _ (by rw [h1]; exact hb))
          intro i p hip
          simp only [List.getElem?_toArray] at hip
          rw [hr.places] at hip
          simp only [List.getElem?_map] at hip
          cases hq : (List.range pl.length)[i]? with
          | none => rw [hq] at hip; cases hip
          | some j =>
            rw [hq] at hip
            have hj := (List.getElem?_eq_some_iff.1 hq).2
            simp at hj
            subst hj
            rw [h4]
            simpa using hip
  have hrun := run_build u t _ cells.toArray this
  simp only [execOp, ho, Sem.run_bind]
  rw [hrun]
  rfl
end
section
variable {α : Type} {T : Ty α} {N : Nat} {E : Env} {F : Nat → Value} {H : List Asn} {o : Oper}
theorem S.buildSlice2K {t : TypeId} {x y : Operand} {e1 e2 : α} {v1 v2 : Value} (ho : o.op = .buildSlice t 2 #[(0, x), (1, y)]) (hx : ev F x = v1) (h1 : T.val e1 = v1) (hy : ev F y = v2) (h2 : T.val e2 = v2)
    (ht : Try.prog.underlying t = some (.slice T.tid)) (hbig : 2 * T.size ≤ 2 ^ 24) : Stp Try.prog N E F H o fun r H1 => ∃ g, r = .slice (some ⟨g, 0, none⟩) 2 2 ∧ H1 = own T (some ⟨g, 0, none⟩) 2 2 [e1, e2] :: H :=
  S.buildSliceK (parts0 := [(0, x), (1, y)]) (l := [e1, e2]) ho (by simp [pv, hx, hy, h1, h2]) ht rfl hbig
theorem S.buildSlice3K {t : TypeId} {x y z : Operand} {e1 e2 e3 : α} {v1 v2 v3 : Value} (ho : o.op = .buildSlice t 3 #[(0, x), (1, y), (2, z)]) (hx : ev F x = v1) (h1 : T.val e1 = v1) (hy : ev F y = v2) (h2 : T.val e2 = v2) (hz : ev F z = v3) (h3 : T.val e3 = v3)
    (ht : Try.prog.underlying t = some (.slice T.tid)) (hbig : 3 * T.size ≤ 2 ^ 24) : Stp Try.prog N E F H o fun r H1 => ∃ g, r = .slice (some ⟨g, 0, none⟩) 3 3 ∧ H1 = own T (some ⟨g, 0, none⟩) 3 3 [e1, e2, e3] :: H :=
  S.buildSliceK (parts0 := [(0, x), (1, y), (2, z)]) (l := [e1, e2, e3]) ho (by simp [pv, hx, hy, hz, h1, h2, h3]) ht rfl hbig
end
end Go.Proofs.Ytihblcljkndpgaa.Sep
