/- Maps whose keys are keys, whose values are true: as a list of keys. No function in sight. -/
import Derived.Test.YtbnfpmdieiknmaaRet
import Derived.Test.YtbnfpmdieiknmaaApiGate
import Derived.WideKeyRuns
namespace Go.Proofs.Ytbnfpmdieiknmaa.Sep
open Go.RowKit Go.Proofs.Ytbnfpmdieiknmaa.Reg
open Go.Proofs.Ytbnfpmdieiknmaa.Mem hiding Rd Own
set_option maxRecDepth 100000
/-- the entries -/
def mesFrom : Nat → List Keyv → List MapEntry
  | _, [] => []
  | i, k :: ks => { key := .agg k.cs.toArray, val := .bool true, born := i } :: mesFrom (i + 1) ks
abbrev mes (ks : List Keyv) : Array MapEntry := (mesFrom 0 ks).toArray
theorem mesFrom_push (i : Nat) (ks : List Keyv) (k : Keyv) : mesFrom i ks ++ [{ key := .agg k.cs.toArray, val := .bool true, born := i + ks.length }] = mesFrom i (ks ++ [k]) := by
  induction ks generalizing i with
  | nil => rfl
  | cons x ks ih =>
    have := ih (i + 1)
    rw [List.cons_append, mesFrom, mesFrom, List.cons_append, ← this, List.length_cons, show i + 1 + ks.length = i + (ks.length + 1) by omega]
theorem Conv.ownFront {α : Type} {T : Ty α} {E : Env} {A : Option Addr} {n c k : Nat} {l l' : List α} {H H' : List Asn} (hk : k ≤ n) (hl : l.take k = l') (hr : Repl (own T A n c l) [own T A k c l'] H H') : Conv E H H' := by
  subst hl; exact Conv.ownTake hk hr
/-- a map (or nil) -/
def mpA (m : Option Nat) (ks : List Keyv) : Asn where
  holds F w := match m with
    | none => ks = [] ∧ ∀ b, ¬ F b
    | some g => (∀ b, F b ↔ b = g) ∧ w.heap[g]? = some (.map (mes ks) ks.length)
  loc := by
    intro F w w' h hk
    cases m with
    | none => exact h
    | some g => exact ⟨h.1, (hk _ ((h.1 _).2 rfl)).trans h.2⟩
  lt := by
    intro F w b h hb
    cases m with
    | none => exact absurd hb (h.2 b)
    | some g => rw [(h.1 _).1 hb]; exact (Array.getElem?_eq_some_iff.1 h.2).1
section
variable {E : Env} {H H' R : List Asn} {N : Nat} {F : Nat → Value} {o : Oper} {ρ : Operand → Value} {m : Option Nat} {ks : List Keyv}
theorem Conv.mp0 : Conv E H (mpA none [] :: H) := fun w hw =>
  hw.conv fun F h => ⟨F, ⟨fun _ => False, F, fun b => by simp, fun b h => h.elim, ⟨rfl, fun _ h => h⟩, h⟩, fun _ h => h⟩
theorem run_checkKey_key (k : Keyv) (em : Bool) (w : World) : (Instr.checkKey em 10000 66 (.agg k.cs.toArray)).run Try.prog w = .ok () w := by
  have hu := Try.underlying66
  have hv := Try.underlying64
  have hi := Try.underlying3
  have hb := Try.underlying4
  rw [show (10000 : Nat) = 9999 + 1 from rfl, Instr.checkKey]
  simp only [Sem.run_bind, run_underlying hu, Result.andThen_ok]
  rw [← Array.forIn_toList]
  obtain ⟨ti, hti, _, hts, _⟩ := idnT.infoOf
  have p0 : (part 64 k.cs.toArray 0).run Try.prog w = .ok (.agg #[.int .i64 k.id.rep, .int .i64 k.id.seq]) w := by
    have hti' : Try.prog.info? 64 = some ti := hti
    have hts' : ti.size = 2 := hts
    simp [part, isAgg, sizeOf, typeInfo, run_underlying hv, hti', hts', Keyv.cs]
  have p1 : (part 3 k.cs.toArray 2).run Try.prog w = .ok (.int .i64 k.ord) w := by simp [part, isAgg, run_underlying hi, Keyv.cs]
  have p2 : (part 4 k.cs.toArray 3).run Try.prog w = .ok (.bool k.undo) w := by simp [part, isAgg, run_underlying hb, Keyv.cs]
  have q0 : ∀ (x : Int) n, (Instr.checkKey em (n + 1) 3 (.int .i64 x)).run Try.prog w = .ok () w := fun x n => by simp [Instr.checkKey, run_underlying hi]
  have q1 : ∀ (x : Bool) n, (Instr.checkKey em (n + 1) 4 (.bool x)).run Try.prog w = .ok () w := fun x n => by simp [Instr.checkKey, run_underlying hb]
  have r0 : (part 3 #[.int .i64 k.id.rep, .int .i64 k.id.seq] 0).run Try.prog w = .ok (.int .i64 k.id.rep) w := by simp [part, isAgg, run_underlying hi]
  have r1 : (part 3 #[.int .i64 k.id.rep, .int .i64 k.id.seq] 1).run Try.prog w = .ok (.int .i64 k.id.seq) w := by simp [part, isAgg, run_underlying hi]
  have c0 : (Instr.checkKey em 9999 64 (.agg #[.int .i64 k.id.rep, .int .i64 k.id.seq])).run Try.prog w = .ok () w := by
    rw [show (9999 : Nat) = 9998 + 1 from rfl, Instr.checkKey]
    simp only [Sem.run_bind, run_underlying hv, Result.andThen_ok]
    rw [← Array.forIn_toList]
    simp only [List.forIn_cons, List.forIn_nil, Sem.run_bind, ne_eq, String.reduceEq, not_false_eq_true, if_true, Result.andThen_ok, r0, r1, Sem.run_pure, show (9998 : Nat) = 9997 + 1 from rfl, q0]
  have q2 := q0 k.ord 9998
  have q3 := q1 k.undo 9998
  simp only [List.forIn_cons, List.forIn_nil, Sem.run_bind, ne_eq, String.reduceEq, not_false_eq_true, if_true, Result.andThen_ok, p0, p1, p2, c0, Sem.run_pure, q2, q3]
theorem key_wide : (match Try.prog.underlying 66 with | some (.array _ _) | some (.struct _) => true | _ => false) = true := by kernel_rfl
theorem run_find (k : Keyv) (w : World) : ∀ (ks : List Keyv) (i : Nat) (j : Nat), ∃ r, (Instr.findAsking 66 (.agg k.cs.toArray) (mesFrom j ks) i).run Try.prog w = .ok r w ∧ (k ∈ ks → ∃ q, r = some (q, .bool true)) ∧ (k ∉ ks → r = none)
  | [], i, j => ⟨none, rfl, fun h => (List.not_mem_nil h).elim, fun _ => rfl⟩
  | x :: ks, i, j => by
    have h1 : (Op.equalIn 10000 66 (.agg k.cs.toArray) (.agg x.cs.toArray)).run Try.prog w = .ok (decide (k = x)) w := (keyT_eqa (a0 := k.id.rep) (a1 := k.id.seq) (a2 := k.ord) (a3 := k.undo) (b0 := x.id.rep) (b1 := x.id.seq) (b2 := x.ord) (b3 := x.undo)).run w
    have h2 : (Op.equal 66 (.agg k.cs.toArray) (.agg x.cs.toArray)).run Try.prog w = .ok (decide (k = x)) w := h1
    obtain ⟨r, h3, h4, h5⟩ := run_find k w ks (i + 1) (j + 1)
    by_cases hkx : k = x
    · refine ⟨some (i, .bool true), ?_, fun _ => ⟨_, rfl⟩, fun h => absurd (by rw [hkx]; exact List.mem_cons_self ..) h⟩
      rw [mesFrom, Instr.findAsking]
      simp only [Sem.run_bind, h2, Result.andThen_ok, decide_eq_true hkx, if_true, Sem.run_pure]
    · refine ⟨r, ?_, fun h => h4 (by rcases List.mem_cons.1 h with h | h; exact absurd h hkx; exact h), fun h => h5 fun h' => h (List.mem_cons_of_mem _ h')⟩
      rw [mesFrom, Instr.findAsking]
      simp only [Sem.run_bind, h2, Result.andThen_ok, decide_eq_false hkx, Bool.false_eq_true, if_false, h3]
/-- 'm[k]' -/
theorem Y.lookupM {t : TypeId} {x i : Operand} {k : Keyv} (ho : o.op = .lookup t x i false) (hx : ρ x = .map m) (hi : ρ i = .agg k.cs.toArray) (ht : Try.prog.underlying t = some (.map 66 4)) (hm : Has (mpA m ks) H R) : Yld Try.prog E H ρ o (.bool (decide (k ∈ ks))) := by
  intro u hu
  obtain ⟨F, h1, _⟩ := hu.has hm
  have hz : ∀ w, (zeroValue 4).run Try.prog w = .ok (.bool false) w := fun w => by kernel_rfl
  unfold execOp
  simp only [ho, hx, hi, Instr.lookup, Sem.run_bind, run_underlying ht, Result.andThen_ok]
  cases m with
  | none =>
    obtain ⟨rfl, _⟩ := h1
    have hc := run_checkKey_key k (#[] : Array MapEntry).isEmpty u
    have hf : (Instr.findKey 66 (.agg k.cs.toArray) (#[] : Array MapEntry).toList).run Try.prog u = .ok none u := by rw [run_findKey_eq u key_wide]; rfl
    simp only [Sem.run_pure, Result.andThen_ok, Sem.run_bind, hc, hf, hz]
    simp
  | some g =>
    obtain ⟨_, hb⟩ := h1
    have hc := run_checkKey_key k (mes ks).isEmpty u
    obtain ⟨r, hr, hyes, hno⟩ := run_find k u ks 0 0
    have hf : (Instr.findKey 66 (.agg k.cs.toArray) (mes ks).toList).run Try.prog u = .ok r u := by rw [run_findKey_eq u key_wide]; exact hr
    simp only [MapKept.run_getObj_map hb, Sem.run_pure, Result.andThen_ok, Sem.run_bind, hc, hf]
    by_cases hk : k ∈ ks
    · obtain ⟨q, rfl⟩ := hyes hk
      simp [hk]
    · rw [hno hk]
      simp [hk, hz]
/-- 'm[k] = true' of a key that is not there yet -/
theorem S.mapUpdateM {t : TypeId} {x i v : Operand} {g : Nat} {k : Keyv} (ho : o.op = .mapUpdate t x i v) (hx : ev F x = .map (some g)) (hi : ev F i = .agg k.cs.toArray) (hv : ev F v = .bool true) (ht : Try.prog.underlying t = some (.map 66 4)) (hk : k ∉ ks) {ks' : List Keyv} (hl : ks ++ [k] = ks') (hr : Repl (mpA (some g) ks) [mpA (some g) ks'] H H') :
    Stp Try.prog N E F H o fun r H1 => r = undef ∧ H1 = H' := by
  subst hl
  intro a u ha hu Kw Q' hK
  obtain ⟨R, hhas, F0, h0⟩ := hu.repl1 hr
  obtain ⟨h1, hb⟩ := h0
  have hc := run_checkKey_key k false u
  obtain ⟨r, hr2, hyes, hno⟩ := run_find k u ks 0 0
  have hf : (Instr.findKey 66 (.agg k.cs.toArray) (mes ks).toList).run Try.prog u = .ok none u := by rw [run_findKey_eq u key_wide, ← hno hk]; exact hr2
  have hpush : (mes ks).push { key := .agg k.cs.toArray, val := .bool true, born := ks.length } = mes (ks ++ [k]) := by
    apply Array.ext'
    have := mesFrom_push 0 ks k
    rw [Nat.zero_add] at this
    simpa using this
  have hrun : (execOp (ev F) o).run Try.prog u = .ok .skip { u with heap := u.heap.setIfInBounds g (.map (mes (ks ++ [k])) (ks ++ [k]).length) } := by
    unfold execOp
    simp only [ho, hx, hi, hv, Instr.mapUpdate, Sem.run_bind, run_underlying ht, Result.andThen_ok, MapKept.run_getObj_map hb, hc, hf, hpush, MapKept.run_setObj_map _ hb]
    simp
  unfold Oper.wp
  rw [ha.eval, hrun]
  refine hK undef _ _ ⟨rfl, rfl⟩ ?_
  have hlt : g < u.heap.size := (Array.getElem?_eq_some_iff.1 hb).1
  refine hu.repl hr rfl rfl rfl (by simp) (G := fun b => b = g) (fun b _ hb => ?_) fun F1 k1 => ?_
  · show (u.heap.setIfInBounds g _)[b]? = _
    rw [Array.getElem?_setIfInBounds_ne (Ne.symm hb)]
  · refine ⟨F1, ⟨F1, fun _ => False, fun b => by simp, fun _ _ h => h, ⟨k1.1, ?_⟩, fun _ h => h⟩, fun b hb => .inl hb, fun b _ hb => (k1.1 b).2 hb⟩
    show (u.heap.setIfInBounds g _)[g]? = _
    simp [hlt]
theorem S.makeMapM {t : TypeId} (ho : o.op = .makeMap t none) : Stp Try.prog N E F H o fun r H1 => ∃ g, r = .map (some g) ∧ H1 = mpA (some g) [] :: H := by
  intro a u ha hu Kw Q' hK
  have hrun : (execOp (ev F) o).run Try.prog u = .ok (.value (.map (some u.heap.size))) (u.alloc (.map #[] 0)) := by
    unfold execOp
    simp only [ho, Option.map_none, run_makeMap, Sem.run_bind, Result.andThen_ok, Sem.run_pure]
  unfold Oper.wp
  rw [ha.eval, hrun]
  refine hK _ _ _ ⟨_, rfl, rfl⟩ ?_
  refine hu.grow (l := [mpA (some u.heap.size) []]) rfl rfl rfl (by simp) (fun b hb => Below.heap_alloc _ _ _ hb) (F1 := fun b => b = u.heap.size) ⟨_, fun _ => False, fun b => by simp, fun b _ h => h, ⟨fun b => Iff.rfl, heap_alloc_new _ _⟩, fun b h => h⟩ (fun b hb => by omega)
theorem V.eqlM {x y : Operand} {t t' k e : TypeId} {p : Option Nat} {u : World} (ho : o.op = .binOp .eql t x y t') (ht : Try.prog.underlying t = some (.map k e)) (hx : ρ x = .map p) (hy : ρ y = .map none) : (execOp ρ o).run Try.prog u = .ok (.value (.bool p.isNone)) u := by
  have h : ∀ d, (Op.equalIn (d + 1) t (.map p) (.map none)).run Try.prog u = .ok p.isNone u := fun d => by cases p <;> simp [Op.equalIn, run_underlying ht]
  have h2 : (binOp .eql t (.map p) (.map none)).run Try.prog u = .ok (.bool p.isNone) u := by
    simp only [binOp]
    simp [show Op.equal t (.map p) (.map none) = Op.equalIn (9999 + 1) t (.map p) (.map none) from rfl, h]
  simp [execOp, ho, hx, hy, eqGuard, h2]
/-! ### bound methods -/
theorem V.funcF {f : FuncId} {x : Operand} {v : Value} {u : World} {P : Program} (ho : o.op = .makeFunc (.func f) #[x] #[]) (hx : ρ x = v) : (execOp ρ o).run P u = .ok (.value (.func (.func f) #[v] #[])) u := by
  simp [execOp, ho, hx, Instr.makeFunc]
theorem S.callF {P : Program} {f : FuncId} {fn : Func} {x : Operand} {c : Value} {ops : List Operand} {tys : Array TypeId} {Hp : List Asn} {vs vs' : List Value} {K : Value → List Asn → Prop} {Q1 : Ending → List Asn → Prop} (ho : o.op = .call { callee := .value x, args := ops.toArray, argTypes := tys }) (hx : ev F x = .func (.func f) #[c] #[]) (hvs : evs F ops = vs) (hv2 : c :: vs = vs')
    (hfn : P.funcs[f]? = some fn) (hname : (fn.name == "runtime.NumGoroutine") = false) (hbody : fn.body.isNone = false)
    (hp : Picks Hp H R) (h : ∀ E', Sub E R E' → Tri P E' f vs'.toArray Hp Q1) (hQ : ∀ e H', Q1 e H' → ∃ v, e = .returned v ∧ ∃ H2, Cat H' R H2 ∧ K v H2) : Stp P N E F H o K := by
  subst hvs hv2
  intro a u ha hu Kw Q' hK
  obtain ⟨E', _, hE, hst, hback⟩ := (hu.picks hp).enter
  unfold Oper.wp
  have hr : (execOp a.eval o).run P u = .ok (.enter f (c :: evs F ops).toArray) u := by
    have h1 : ¬ fn.name = "runtime.NumGoroutine" := by simpa using hname
    have h2 : ¬ fn.body = none := by intro h; rw [h] at hbody; cases hbody
    rw [ha.eval, evs_eq]
    simp [execOp, ho, resolve, hx, Deferred.ofValue, invoke, callFunc, hfn, h1, h2]
  rw [hr]
  refine (h E' hE u hst).mono ?_
  rintro e w' ⟨H', h3, h4⟩
  obtain ⟨v, rfl, H2, hcat, h5⟩ := hQ e H' h4
  exact hK v _ w' h5 (by rw [hcat.eq]; exact hback H' w' h3)
end
end Go.Proofs.Ytbnfpmdieiknmaa.Sep
