/- The walk: a frame is a function, memory is a list of parts, no world in sight; each operation has one law. No program in sight. -/
import Derived.Test.YtihblcljkndpgaaSep
namespace Go.Proofs.Ytihblcljkndpgaa.Sep
open Go.RowKit Go.Proofs.Ytihblcljkndpgaa.Mem Go.Proofs.Ytihblcljkndpgaa.Reg

/-! ### frames -/
def upd (F : Nat → Value) (d : Nat) (v : Value) : Nat → Value := fun i => bif Nat.beq i d then v else F i
def at_ : List Value → Nat → Value
  | [], _ => undef
  | v :: _, 0 => v
  | _ :: l, i + 1 => at_ l i
theorem at_eq (l : List Value) (i : Nat) : at_ l i = l.getD i undef := by
  induction l generalizing i with
  | nil => simp [at_]
  | cons v l ih => cases i <;> simp [at_, ih]
def ini (args : Array Value) : Nat → Value := fun i => at_ args.toList i
def ev (F : Nat → Value) : Operand → Value
  | .tmp t => F t
  | .const v => v
  | .global g => .pointer (some ⟨g, 0, none⟩)
  | .func f => .func (.func f) #[] #[]
structure Rep (N : Nat) (F : Nat → Value) (a : Act) : Prop where
  defers : a.defers = []
  size : a.tmps.size = N
  get : ∀ i, a.tmps.getD i undef = F i
theorem Rep.eval {N : Nat} {F : Nat → Value} {a : Act} (h : Rep N F a) : a.eval = ev F := by
  funext x; cases x <;> simp only [Act.eval, ev]
  exact h.get _
theorem Rep.put {N : Nat} {F : Nat → Value} {a : Act} (h : Rep N F a) {d : Nat} (hd : d < N) (v : Value) : Rep N (upd F d v) (a.put (some d) v) := by
  refine ⟨h.defers, by simpa [Act.put] using h.size, fun i => ?_⟩
  simp only [Act.put, upd]
  by_cases hi : i = d
  · subst hi
    simp [h.size, hd]
  · have : Nat.beq i d = false := by
      cases h : Nat.beq i d
      · rfl
      · exact absurd (Nat.eq_of_beq_eq_true h) hi
    rw [this, cond_false, ← h.get i]
    simp [Array.getD_eq_getD_getElem?, Array.getElem?_setIfInBounds, Ne.symm hi]


/-! ### judgements -/
inductive Ex where
  | normal | ret | exit (id : Nat)
abbrev QF := Ex → (Nat → Value) → List Asn → Prop
def lift (N : Nat) (E : Env) (Q : QF) : Exit → Act → World → Prop
  | .normal, a, w => ∃ F H, Rep N F a ∧ St E H w ∧ Q .normal F H
  | .ret, a, w => ∃ F H, Rep N F a ∧ St E H w ∧ Q .ret F H
  | .exit id, a, w => ∃ F H, Rep N F a ∧ St E H w ∧ Q (.exit id) F H
  | _, _, _ => False
structure C (P : Program) (N : Nat) (E : Env) (c : Code) (Q : QF) (F : Nat → Value) (H : List Asn) : Prop where
  get : ∀ a w, Rep N F a → St E H w → c.wp P (lift N E Q) a w
structure L (P : Program) (N : Nat) (E : Env) (ops : List Oper) (Q : QF) (l : List Oper) (F : Nat → Value) (H : List Asn) : Prop where
  get : ∀ a w, Rep N F a → St E H w → wpList P ops.toArray (lift N E Q) l a w
def thenF (k : (Nat → Value) → List Asn → Prop) (Q : QF) : QF
  | .normal, F, H => k F H
  | .ret, F, H => Q .ret F H
  | .exit id, F, H => Q (.exit id) F H
def inF (id : Nat) (Q : QF) : QF
  | .exit id', F, H => if id' = id then Q .normal F H else Q (.exit id') F H
  | .normal, F, H => Q .normal F H
  | .ret, F, H => Q .ret F H
/-- parts H give parts H' -/
def Conv (E : Env) (H H' : List Asn) : Prop := ∀ w, St E H w → St E H' w
/-- the operation yields v and turns nothing -/
def Yld (P : Program) (E : Env) (H : List Asn) (ρ : Operand → Value) (o : Oper) (v : Value) : Prop := ∀ u, St E H u → (execOp ρ o).run P u = .ok (.value v) u
/-- the operation, from frame F and parts H: K holds of what it yields and of the parts behind it -/
def Stp (P : Program) (N : Nat) (E : Env) (F : Nat → Value) (H : List Asn) (o : Oper) (K : Value → List Asn → Prop) : Prop :=
  ∀ a u, Rep N F a → St E H u → ∀ (Kw : Act → World → Prop) (Q' : Exit → Act → World → Prop), (∀ v H' u', K v H' → St E H' u' → Kw (a.put o.dst v) u') → o.wp P a u Kw Q'

section
variable {P : Program} {N : Nat} {E : Env} {Q : QF} {F : Nat → Value} {H H' R : List Asn}
theorem lift_mono {Q' : QF} (hq : ∀ e F H, Q e F H → Q' e F H) : ∀ e a w, lift N E Q e a w → lift N E Q' e a w := by
  intro e a w h
  cases e with
  | normal => obtain ⟨F, H, h1, h2, h3⟩ := h; exact ⟨F, H, h1, h2, hq _ _ _ h3⟩
  | ret => obtain ⟨F, H, h1, h2, h3⟩ := h; exact ⟨F, H, h1, h2, hq _ _ _ h3⟩
  | exit id => obtain ⟨F, H, h1, h2, h3⟩ := h; exact ⟨F, H, h1, h2, hq _ _ _ h3⟩
  | _ => exact h.elim
theorem Conv.refl : Conv E H H := fun _ h => h
theorem Conv.trans {H1 H2 H3 : List Asn} (h : Conv E H1 H2) (k : Conv E H2 H3) : Conv E H1 H3 := fun w hw => k w (h w hw)
theorem Conv.picks {l : List Asn} (h : Picks l H R) : Conv E H l := fun _ hw => hw.weaken h
theorem T.n {k : (Nat → Value) → List Asn → Prop} (h : k F H) : thenF k Q .normal F H := h
theorem T.ret {k : (Nat → Value) → List Asn → Prop} (h : Q .ret F H) : thenF k Q .ret F H := h
theorem T.exit {k : (Nat → Value) → List Asn → Prop} {id : Nat} (h : Q (.exit id) F H) : thenF k Q (.exit id) F H := h
theorem I.n {id : Nat} (h : Q .normal F H) : inF id Q .normal F H := h
theorem I.ret {id : Nat} (h : Q .ret F H) : inF id Q .ret F H := h
theorem I.hit {id : Nat} (h : Q .normal F H) : inF id Q (.exit id) F H := by
  show if id = id then Q .normal F H else Q (.exit id) F H
  rw [if_pos rfl]; exact h
theorem I.miss {id id' : Nat} (hne : id' ≠ id) (h : Q (.exit id') F H) : inF id Q (.exit id') F H := by
  show if id' = id then Q .normal F H else Q (.exit id') F H
  rw [if_neg hne]; exact h
theorem C.mono {c : Code} {Q' : QF} (h : C P N E c Q F H) (hq : ∀ e F H, Q e F H → Q' e F H) : C P N E c Q' F H := ⟨fun a w ha hw => wp_mono (h.get a w ha hw) (lift_mono hq)⟩
/-- the parts are told otherwise -/
theorem C.conv {c : Code} (hc : Conv E H H') (h : C P N E c Q F H') : C P N E c Q F H := ⟨fun a w ha hw => h.get a w ha (hc w hw)⟩
theorem C.seq {x y : Code} (h : C P N E x (thenF (fun F H => C P N E y Q F H) Q) F H) : C P N E (.seq x y) Q F H := by
  refine ⟨fun a w ha hw => wp_seq (wp_mono (h.get a w ha hw) ?_)⟩
  intro e a w hq
  cases e with
  | normal => obtain ⟨F, H, h1, h2, h3⟩ := hq; exact C.get h3 a w h1 h2
  | ret => exact hq
  | exit id => exact hq
  | _ => exact hq.elim
theorem C.block {id : Nat} {c : Code} (h : C P N E c (inF id Q) F H) : C P N E (.block id c) Q F H := by
  refine ⟨fun a w ha hw => wp_block (wp_mono (h.get a w ha hw) ?_)⟩
  intro e a w hq
  cases e with
  | exit id' =>
    obtain ⟨F, H, h1, h2, h3⟩ := hq
    simp only [Exit.inBlock, inF] at *
    split at h3
    · rw [if_pos ‹_›]; exact ⟨F, H, h1, h2, h3⟩
    · rw [if_neg ‹_›]; exact ⟨F, H, h1, h2, h3⟩
  | normal => exact hq
  | ret => exact hq
  | _ => exact hq.elim
theorem C.exit {id : Nat} (h : Q (.exit id) F H) : C P N E (.exit id) Q F H := ⟨fun _ _ ha hw => wp_exit ⟨F, H, ha, hw, h⟩⟩
theorem C.skip (h : Q .normal F H) : C P N E .skip Q F H := ⟨fun _ _ ha hw => wp_skip ⟨F, H, ha, hw, h⟩⟩
theorem C.ret (h : Q .ret F H) : C P N E .ret Q F H := ⟨fun _ _ ha hw => wp_ret ⟨F, H, ha, hw, h⟩⟩
theorem C.cond {c : Operand} {x y : Code} {b : Bool} (hc : ev F c = .bool b) (hx : b = true → C P N E x Q F H) (hy : b = false → C P N E y Q F H) : C P N E (.cond c x y) Q F H := by
  refine ⟨fun a w ha hw => ?_⟩
  exact wp_cond_split (by rw [ha.eval]; exact hc) (fun h => (hx h).get a w ha hw) (fun h => (hy h).get a w ha hw)
theorem C.condT {c : Operand} {x y : Code} {b : Bool} (hc : ev F c = .bool b) (hb : b = true) (hx : C P N E x Q F H) : C P N E (.cond c x y) Q F H :=
  C.cond hc (fun _ => hx) (fun h => by rw [hb] at h; cases h)
theorem C.condF {c : Operand} {x y : Code} {b : Bool} (hc : ev F c = .bool b) (hb : b = false) (hy : C P N E y Q F H) : C P N E (.cond c x y) Q F H :=
  C.cond hc (fun h => by rw [hb] at h; cases h) (fun _ => hy)
theorem C.condD {c : Operand} {x y : Code} {p : Prop} [Decidable p] (hc : ev F c = .bool (decide p)) (hx : p → C P N E x Q F H) (hy : ¬ p → C P N E y Q F H) : C P N E (.cond c x y) Q F H :=
  C.cond hc (fun h => hx (of_decide_eq_true h)) (fun h => hy (of_decide_eq_false h))
def ups : List (Nat × Value) → (Nat → Value) → Nat → Value
  | [], G => G
  | (d, v) :: l, G => upd (ups l G) d v
def Holds (F : Nat → Value) : List (Nat × Value) → Prop
  | [] => True
  | (d, v) :: l => F d = v ∧ Holds F l
theorem ups_self {F : Nat → Value} : ∀ {l : List (Nat × Value)}, Holds F l → ups l F = F
  | [], _ => rfl
  | (d, v) :: l, h => by
    funext i
    simp only [ups, upd]
    rw [ups_self h.2]
    cases e : Nat.beq i d
    · rfl
    · rw [Nat.eq_of_beq_eq_true e, cond_true]; exact h.1.symm
theorem least {p : Nat → Prop} (h : ∃ m, p m) : ∃ m, p m ∧ ∀ k, p k → m ≤ k := by
  obtain ⟨m, hm⟩ := h
  induction m using Nat.strongRecOn with
  | ind m ih =>
    by_cases hk : ∃ k, k < m ∧ p k
    · obtain ⟨k, h1, h2⟩ := hk; exact ih k h1 h2
    · exact ⟨m, hm, fun k hp => Nat.le_of_not_lt fun hlt => hk ⟨k, hlt, hp⟩⟩
open Classical in
noncomputable def low (p : Nat → Prop) : Nat := if h : ∃ m, p m then Classical.choose (least h) else 0
theorem low_spec {p : Nat → Prop} (h : ∃ m, p m) : p (low p) ∧ ∀ k, p k → low p ≤ k := by
  unfold low; rw [dif_pos h]; exact Classical.choose_spec (least h)
/-- a loop: slots S x hold what they hold, parts HX x, R x holds -/
theorem C.loop {c : Code} {X : Type} (S : X → List (Nat × Value)) (HX : X → List Asn) (R : X → Prop) (μ : X → Nat) (x0 : X) (hF : Holds F (S x0)) (hH : Conv E H (HX x0)) (h0 : R x0)
    (round : ∀ x G, R x → C P N E c (thenF (fun F' H' => ∃ x', Holds F' (S x') ∧ Conv E H' (HX x') ∧ R x' ∧ μ x' < μ x) Q) (ups (S x) G) (HX x)) : C P N E (.loop c) Q F H := by
  refine ⟨fun a w ha hw => ?_⟩
  let p : Act → World → Nat → Prop := fun a w m => ∃ x F, Rep N F a ∧ Holds F (S x) ∧ St E (HX x) w ∧ R x ∧ μ x = m
  refine wp_loop (fun a w => ∃ m, p a w m) (fun a w => low (p a w)) ⟨_, x0, F, ha, hF, hH w hw, h0, rfl⟩ ?_
  intro a w hI
  obtain ⟨⟨x, F, hr, hS, hw, hR, hx⟩, _⟩ := low_spec hI
  have h := round x F hR
  rw [ups_self hS] at h
  refine wp_mono (h.get a w hr hw) ?_
  intro e a' w' hq
  cases e with
  | normal =>
    obtain ⟨F', H', h1, h2, x', h3, h4, h5, h6⟩ := hq
    have hp : p a' w' (μ x') := ⟨x', F', h1, h3, h4 w' h2, h5, rfl⟩
    refine ⟨⟨_, hp⟩, ?_⟩
    refine Nat.lt_of_le_of_lt ((low_spec (p := p a' w') ⟨_, hp⟩).2 _ hp) ?_
    rw [← hx]; exact h6
  | ret => exact hq
  | exit id => exact hq
  | _ => exact hq.elim
/-- two parts, and what holds between them -/
theorem C.cut {x y : Code} {X : Type} (S : X → List (Nat × Value)) (HX : X → List Asn) (R : X → Prop) (hx : C P N E x (thenF (fun F' H' => ∃ z, Holds F' (S z) ∧ Conv E H' (HX z) ∧ R z) Q) F H)
    (hy : ∀ z G, R z → C P N E y Q (ups (S z) G) (HX z)) : C P N E (.seq x y) Q F H := by
  refine C.seq (hx.mono ?_)
  intro e F' H' hq
  cases e with
  | normal => obtain ⟨z, hS, hH, hR⟩ := hq; have h := hy z F' hR; rw [ups_self hS] at h; exact h.conv hH
  | ret => exact hq
  | exit id => exact hq
/-- .. where the second part waits already -/
theorem C.mid {x y : Code} {X : Type} (S : X → List (Nat × Value)) (HX : X → List Asn) (R : X → Prop) (hx : C P N E x (thenF (fun F' H' => ∃ z, Holds F' (S z) ∧ Conv E H' (HX z) ∧ R z) Q) F H)
    (hy : ∀ z G, R z → C P N E y Q (ups (S z) G) (HX z)) : C P N E x (thenF (fun F H => C P N E y Q F H) Q) F H := by
  refine hx.mono ?_
  intro e F' H' hq
  cases e with
  | normal => obtain ⟨z, hS, hH, hR⟩ := hq; have h := hy z F' hR; rw [ups_self hS] at h; exact h.conv hH
  | ret => exact hq
  | exit id => exact hq
theorem C.region {id : Nat} {l : List Oper} (h : L P N E l Q l F H) : C P N E (.region id l.toArray false) Q F H := ⟨fun a w ha hw => wp_region_lit (h.get a w ha hw)⟩

/-! ### the body -/
def resF (fn : Func) (F : Nat → Value) : Sem Value := do
  let vs ← fn.results.mapM fun
    | .tmp t => pure (F t)
    | .cell a t => do loadVar t (← asAddr (F a))
  pure (if h : vs.size = 1 then vs[0] else .tuple vs)
theorem resF_eq {fn : Func} {a : Act} (h : Rep N F a) : results fn a.tmps = resF fn F := by
  unfold results resF
  congr 1
  congr 1
  funext x
  cases x <;> simp only [h.get]
def postF (P : Program) (E : Env) (fn : Func) (R : Ending → List Asn → Prop) : QF
  | .normal, F, H | .ret, F, H => ∃ v H', (∀ w, St E H w → (resF fn F).run P w = .ok v w) ∧ Conv E H H' ∧ R (.returned v) H'
  | _, _, _ => False
theorem tri {f : FuncId} {fn : Func} {c : Code} {args : Array Value} {R : Ending → List Asn → Prop} (hf : P.funcs[f]? = some fn) (hb : fn.body = some c) (hn : fn.ntmps = N) (ha : args.size ≤ N)
    (h : C P N E c (postF P E fn R) (ini args) H) : Tri P E f args H R := by
  intro w hw
  refine calls_of_wp hf hb ?_
  have hr : Rep N (ini args) { tmps := args ++ Array.replicate (fn.ntmps - args.size) undef, defers := [] } := by
    refine ⟨rfl, by simp; omega, fun i => ?_⟩
    simp only [ini, at_eq, List.getD_eq_getElem?_getD, Array.getElem?_toList, Array.getD_eq_getD_getElem?, Array.getElem?_append, Array.getElem?_replicate]
    split
    · rfl
    · rename_i h
      rw [Array.getElem?_eq_none (by omega)]
      split <;> rfl
  refine wp_mono (h.get _ w hr hw) ?_
  intro e a w hq
  cases e with
  | normal => obtain ⟨F, H, hr, hw, v, H', h1, h2, h3⟩ := hq; exact ⟨hr.defers, v, by rw [resF_eq hr]; exact h1 w hw, H', h2 w hw, h3⟩
  | ret => obtain ⟨F, H, hr, hw, v, H', h1, h2, h3⟩ := hq; exact ⟨hr.defers, v, by rw [resF_eq hr]; exact h1 w hw, H', h2 w hw, h3⟩
  | exit id => obtain ⟨_, _, _, _, h⟩ := hq; exact h.elim
  | _ => exact hq.elim
theorem ret1 {fn : Func} {R : Ending → List Asn → Prop} {t : Nat} {v : Value} (hr : fn.results = #[.tmp t]) (hv : F t = v) (hc : Conv E H H') (h : R (.returned v) H') : postF P E fn R .ret F H := by
  refine ⟨v, H', fun w _ => ?_, hc, h⟩
  subst hv
  simp [resF, hr]
theorem ret2 {fn : Func} {R : Ending → List Asn → Prop} {t u : Nat} {v v' : Value} (hr : fn.results = #[.tmp t, .tmp u]) (hv : F t = v) (hv' : F u = v') (hc : Conv E H H') (h : R (.returned (.tuple #[v, v'])) H') : postF P E fn R .ret F H := by
  refine ⟨.tuple #[v, v'], H', fun w _ => ?_, hc, h⟩
  subst hv hv'
  simp [resF, hr]
theorem ret3 {fn : Func} {R : Ending → List Asn → Prop} {t u s : Nat} {v v' v'' : Value} (hr : fn.results = #[.tmp t, .tmp u, .tmp s]) (hv : F t = v) (hv' : F u = v') (hv'' : F s = v'') (hc : Conv E H H') (h : R (.returned (.tuple #[v, v', v''])) H') : postF P E fn R .ret F H := by
  refine ⟨.tuple #[v, v', v''], H', fun w _ => ?_, hc, h⟩
  subst hv hv' hv''
  simp [resF, hr]
theorem ret0 {fn : Func} {R : Ending → List Asn → Prop} (hr : fn.results = #[]) (hc : Conv E H H') (h : R (.returned (.tuple #[])) H') : postF P E fn R .ret F H := by
  refine ⟨.tuple #[], H', fun w _ => ?_, hc, h⟩
  simp [resF, hr]
theorem end0 {fn : Func} {R : Ending → List Asn → Prop} (hr : fn.results = #[]) (hc : Conv E H H') (h : R (.returned (.tuple #[])) H') : postF P E fn R .normal F H := by
  refine ⟨.tuple #[], H', fun w _ => ?_, hc, h⟩
  simp [resF, hr]

/-! ### operations -/
theorem L.nil {ops : List Oper} (h : Q .normal F H) : L P N E ops Q [] F H := ⟨fun _ _ ha hw => wpList_nil ⟨F, H, ha, hw, h⟩⟩
theorem L.val {ops rest : List Oper} {d : Nat} {op : Op} {ty : TypeId} {pos : String} {af : Array Edge} {v : Value} (hd : d < N)
    (hr : Yld P E H (ev F) ⟨some d, op, ty, pos, af, none⟩ v) (h : L P N E ops Q rest (upd F d v) H) : L P N E ops Q (⟨some d, op, ty, pos, af, none⟩ :: rest) F H := by
  refine ⟨fun a w ha hw => wpList_plain rfl fun K hK => ?_⟩
  unfold Oper.wp
  rw [ha.eval, hr w hw]
  exact hK _ _ (h.get _ w (ha.put hd v) hw)
theorem L.step {ops rest : List Oper} {d : Nat} {op : Op} {ty : TypeId} {pos : String} {af : Array Edge} (hd : d < N)
    (h : Stp P N E F H ⟨some d, op, ty, pos, af, none⟩ fun v H' => L P N E ops Q rest (upd F d v) H') : L P N E ops Q (⟨some d, op, ty, pos, af, none⟩ :: rest) F H :=
  ⟨fun a w ha hw => wpList_plain rfl fun _ hK => h a w ha hw _ _ fun v _ u' hl hw' => hK _ _ (hl.get _ u' (ha.put hd v) hw')⟩
theorem L.step0 {ops rest : List Oper} {op : Op} {ty : TypeId} {pos : String} {af : Array Edge}
    (h : Stp P N E F H ⟨none, op, ty, pos, af, none⟩ fun _ H' => L P N E ops Q rest F H') : L P N E ops Q (⟨none, op, ty, pos, af, none⟩ :: rest) F H :=
  ⟨fun a w ha hw => wpList_plain rfl fun _ hK => h a w ha hw _ _ fun _ _ u' hl hw' => hK _ _ (hl.get _ u' ha hw')⟩
theorem L.stepK {ops rest : List Oper} {d : Nat} {op : Op} {ty : TypeId} {pos : String} {af : Array Edge} {K : Value → List Asn → Prop} (hd : d < N)
    (h : Stp P N E F H ⟨some d, op, ty, pos, af, none⟩ K) (hk : ∀ v H', K v H' → L P N E ops Q rest (upd F d v) H') : L P N E ops Q (⟨some d, op, ty, pos, af, none⟩ :: rest) F H :=
  L.step hd fun a u ha hu Kw Q' hK => h a u ha hu Kw Q' fun v H' u' hq hu' => hK v H' u' (hk v H' hq) hu'
theorem L.step0K {ops rest : List Oper} {op : Op} {ty : TypeId} {pos : String} {af : Array Edge} {K : Value → List Asn → Prop}
    (h : Stp P N E F H ⟨none, op, ty, pos, af, none⟩ K) (hk : ∀ v H', K v H' → L P N E ops Q rest F H') : L P N E ops Q (⟨none, op, ty, pos, af, none⟩ :: rest) F H :=
  L.step0 fun a u ha hu Kw Q' hK => h a u ha hu Kw Q' fun v H' u' hq hu' => hK v H' u' (hk v H' hq) hu'
theorem L.on {ops rest : List Oper} {d : Option Nat} {op : Op} {ty : TypeId} {pos : String} {af : Array Edge} {j g : Nat} {want b : Bool} (hn : (nth ops j).bind (·.dst) = some g) (hg : g < N) (hv : F g = .bool b) (hb : b = want)
    (h : L P N E ops Q (⟨d, op, ty, pos, af, none⟩ :: rest) F H) : L P N E ops Q (⟨d, op, ty, pos, af, some (j, want)⟩ :: rest) F H := by
  subst hb
  refine ⟨fun a w ha hw => ?_⟩
  have h2 := h.get a w ha hw
  have hy : yielded ops.toArray a.tmps j = some b := by
    unfold yielded
    rw [← nth_eq, hn]
    have h3 := ha.get g
    rw [hv, Array.getD_eq_getD_getElem?, Array.getElem?_eq_getElem (by rw [ha.size]; exact hg)] at h3
    simp only [Option.getD_some] at h3
    simp [Array.getElem?_eq_getElem (show g < a.tmps.size by rw [ha.size]; exact hg), h3]
  unfold wpList at h2 ⊢
  rw [if_pos (by simp [Region.wanted])] at h2
  rw [if_pos (by simp [Region.wanted, hy])]
  exact h2
theorem L.off {ops rest : List Oper} {d : Nat} {op : Op} {ty : TypeId} {pos : String} {af : Array Edge} {j g : Nat} {want b : Bool} (hd : d < N) (hn : (nth ops j).bind (·.dst) = some g) (hg : g < N) (hv : F g = .bool b) (hb : b = !want)
    (h : L P N E ops Q rest (upd F d undef) H) : L P N E ops Q (⟨some d, op, ty, pos, af, some (j, want)⟩ :: rest) F H := by
  subst hb
  refine ⟨fun a w ha hw => ?_⟩
  have hy : yielded ops.toArray a.tmps j = some (!want) := by
    unfold yielded
    rw [← nth_eq, hn]
    have h3 := ha.get g
    rw [hv, Array.getD_eq_getD_getElem?, Array.getElem?_eq_getElem (by rw [ha.size]; exact hg)] at h3
    simp only [Option.getD_some] at h3
    simp [Array.getElem?_eq_getElem (show g < a.tmps.size by rw [ha.size]; exact hg), h3]
  unfold wpList
  rw [if_neg (by simp [Region.wanted, hy])]
  exact h.get _ w (ha.put hd undef) hw
/-- a test that is not decided: both ways -/
theorem L.fork {ops rest : List Oper} {d : Nat} {op : Op} {ty : TypeId} {pos : String} {af : Array Edge} {j g : Nat} {want b : Bool} (hd : d < N) (hn : (nth ops j).bind (·.dst) = some g) (hg : g < N) (hv : F g = .bool b)
    (h : b = want → L P N E ops Q (⟨some d, op, ty, pos, af, none⟩ :: rest) F H) (h' : b = !want → L P N E ops Q rest (upd F d undef) H) : L P N E ops Q (⟨some d, op, ty, pos, af, some (j, want)⟩ :: rest) F H := by
  by_cases hb : b = want
  · exact L.on hn hg hv hb (h hb)
  · have hb : b = !want := by cases b <;> cases want <;> simp_all
    exact L.off hd hn hg hv hb (h' hb)
/-- a test that is not decided: both ways -/
theorem L.forkT {ops rest : List Oper} {d : Nat} {op : Op} {ty : TypeId} {pos : String} {af : Array Edge} {j g : Nat} {p : Prop} [Decidable p] (hd : d < N) (hn : (nth ops j).bind (·.dst) = some g) (hg : g < N) (hv : F g = .bool (decide p))
    (h : p → L P N E ops Q (⟨some d, op, ty, pos, af, none⟩ :: rest) F H) (h' : ¬ p → L P N E ops Q rest (upd F d undef) H) : L P N E ops Q (⟨some d, op, ty, pos, af, some (j, true)⟩ :: rest) F H := by
  by_cases hp : p
  · exact L.on hn hg hv (by simpa using hp) (h hp)
  · exact L.off hd hn hg hv (by simpa using hp) (h' hp)
theorem L.forkF {ops rest : List Oper} {d : Nat} {op : Op} {ty : TypeId} {pos : String} {af : Array Edge} {j g : Nat} {p : Prop} [Decidable p] (hd : d < N) (hn : (nth ops j).bind (·.dst) = some g) (hg : g < N) (hv : F g = .bool (decide p))
    (h : p → L P N E ops Q rest (upd F d undef) H) (h' : ¬ p → L P N E ops Q (⟨some d, op, ty, pos, af, none⟩ :: rest) F H) : L P N E ops Q (⟨some d, op, ty, pos, af, some (j, false)⟩ :: rest) F H := by
  by_cases hp : p
  · exact L.off hd hn hg hv (by simpa using hp) (h hp)
  · exact L.on hn hg hv (by simpa using hp) (h' hp)
/-- a guard that was itself not reached -/
theorem L.offU {ops rest : List Oper} {d : Nat} {op : Op} {ty : TypeId} {pos : String} {af : Array Edge} {j g : Nat} {want : Bool} (hd : d < N) (hn : (nth ops j).bind (·.dst) = some g) (hg : g < N) (hv : F g = undef)
    (h : L P N E ops Q rest (upd F d undef) H) : L P N E ops Q (⟨some d, op, ty, pos, af, some (j, want)⟩ :: rest) F H := by
  refine ⟨fun a w ha hw => ?_⟩
  have hy : yielded ops.toArray a.tmps j = none := by
    unfold yielded
    rw [← nth_eq, hn]
    have h3 := ha.get g
    rw [hv, Array.getD_eq_getD_getElem?, Array.getElem?_eq_getElem (by rw [ha.size]; exact hg)] at h3
    simp only [Option.getD_some] at h3
    simp [Array.getElem?_eq_getElem (show g < a.tmps.size by rw [ha.size]; exact hg), h3, undef]
  unfold wpList
  rw [if_neg (by simp [Region.wanted, hy])]
  exact h.get _ w (ha.put hd undef) hw
theorem Stp.yld {o : Oper} {K : Value → List Asn → Prop} {v : Value} (hr : Yld P E H (ev F) o v) (h : K v H) : Stp P N E F H o K := by
  intro a u ha hu Kw Q' hK
  unfold Oper.wp
  rw [ha.eval, hr u hu]
  exact hK _ _ _ h hu
theorem Stp.conv {o : Oper} {K : Value → List Asn → Prop} (hc : Conv E H H') (h : Stp P N E F H' o K) : Stp P N E F H o K := fun a u ha hu => h a u ha (hc u hu)

/-! ### regions that draw their order -/
def updo (F : Nat → Value) : Option Nat → Value → Nat → Value
  | some d, v => upd F d v
  | none, _ => F
/-- the operation j waits for number i -/
def waits (l : List Oper) : Nat → Nat → Nat → Bool
  | 0, _, _ => false
  | k + 1, j, i => match nth l j with
    | none => false
    | some o => o.after.toList.any fun e => Region.binds .any e && (Nat.beq e.on i || waits l k e.on i)
def late (l : List Oper) (z i : Nat) : Bool := Nat.ble l.length z || Nat.beq i z || waits l l.length z i
/-- whoever was listed had all listed that it waits for -/
def Closed (l : List Oper) (listed : Array Bool) : Prop := ∀ j o, l.toArray[j]? = some o → listed.getD j false = true → ∀ e ∈ o.after, Region.binds .any e = true → listed.getD e.on false = true
theorem Closed.start (l : List Oper) : Closed l (Array.replicate l.length false) := by
  intro j o _ h
  rw [Array.getD_eq_getD_getElem?, Array.getElem?_replicate] at h
  split at h <;> cases h
theorem Closed.set {l : List Oper} {listed : Array Bool} {i : Nat} (h : Closed l listed) (hr : i ∈ Region.ready .any l.toArray listed) : Closed l (listed.setIfInBounds i true) := by
  intro j o ho hj e he hb
  obtain ⟨h0, o', ho', hall⟩ := mem_ready.1 hr
  by_cases hij : i = j
  · subst hij
    rw [ho] at ho'
    injection ho' with ho'
    subst ho'
    exact getD_set_true (hall e he hb)
  · rw [getD_set_ne false hij] at hj
    exact getD_set_true (h j o ho hj e he hb)
theorem waits_listed {l : List Oper} {listed : Array Bool} (h : Closed l listed) {i : Nat} : ∀ {k j : Nat}, waits l k j i = true → listed.getD j false = true → listed.getD i false = true
  | 0, _, hw, _ => by cases hw
  | k + 1, j, hw, hj => by
    unfold waits at hw
    cases ho : nth l j with
    | none => rw [ho] at hw; cases hw
    | some o =>
      rw [ho] at hw
      simp only [List.any_eq_true, Bool.and_eq_true, Bool.or_eq_true] at hw
      obtain ⟨e, he, hb, hw⟩ := hw
      have h1 := h j o ((nth_eq l j).symm.trans ho) hj e (Array.mem_toList_iff.1 he) hb
      rcases hw with hw | hw
      · rwa [← Nat.eq_of_beq_eq_true hw]
      · exact waits_listed h hw h1
/-- whatever order is picked: S holds behind each operation until z, which waits for all that are taken ahead; behind z nothing need hold -/
def wpZ (P : Program) (l : List Oper) (Q : Exit → Act → World → Prop) (S : World → Prop) (z : Nat) : Nat → Array Bool → Act → World → Prop
  | 0, listed, a, w => Region.ready .any l.toArray listed = [] ∧ Q .normal a w
  | k + 1, listed, a, w => (Region.ready .any l.toArray listed = [] → Q .normal a w) ∧
    ∀ i ∈ Region.ready .any l.toArray listed, wpOp P l.toArray Q i (fun a' w' => (i ≠ z → S w' ∧ wpZ P l Q S z k (listed.setIfInBounds i true) a' w') ∧ (i = z → wpAny P .any l.toArray Q k (listed.setIfInBounds i true) a' w')) a w
theorem wpZ_any {P : Program} {l : List Oper} {Q : Exit → Act → World → Prop} {S : World → Prop} {z : Nat} : ∀ (k : Nat) (listed : Array Bool) (a : Act) (w : World), wpZ P l Q S z k listed a w → wpAny P .any l.toArray Q k listed a w
  | 0, _, _, _, h => h
  | k + 1, _, _, _, h => ⟨h.1, fun i hi => wpOp_mono (fun a' w' h' => by
      by_cases hz : i = z
      · exact h'.2 hz
      · exact wpZ_any k _ a' w' (h'.1 hz).2) (h.2 i hi)⟩
theorem wpZ_more {P : Program} {l : List Oper} {Q : Exit → Act → World → Prop} {S S' : World → Prop} {z : Nat} (hs : ∀ u, S' u → S u) : ∀ (k : Nat) (listed : Array Bool) (a : Act) (w : World), wpZ P l Q S' z k listed a w → wpZ P l Q S z k listed a w
  | 0, _, _, _, h => h
  | k + 1, _, _, _, h => ⟨h.1, fun i hi => wpOp_mono (fun a' w' h' => ⟨fun hz => ⟨hs _ (h'.1 hz).1, wpZ_more hs k _ a' w' (h'.1 hz).2⟩, h'.2⟩) (h.2 i hi)⟩
/-- what is not yet listed keeps z back -/
theorem late_not {l : List Oper} {z i : Nat} (hl : late l z i = true) (hz : i ≠ z) {listed : Array Bool} (hcl : Closed l listed) (hr : i ∈ Region.ready .any l.toArray listed) : z ∉ Region.ready .any l.toArray listed := by
  intro hm
  obtain ⟨_, o, ho, hall⟩ := mem_ready.1 hm
  have h0 := (mem_ready.1 hr).1
  have h3 : listed.getD i false ≠ true := by
    intro h
    rcases Nat.lt_or_ge i listed.size with h' | h'
    · simp [h'] at h0 h; rw [h0] at h; cases h
    · simp [Array.getElem?_eq_none h'] at h
  unfold late at hl
  simp only [Bool.or_eq_true] at hl
  rcases hl with (hl | hl) | hl
  · have h4 := Nat.le_of_ble_eq_true hl
    rw [Array.getElem?_eq_none (by simpa using h4)] at ho
    cases ho
  · exact hz (Nat.eq_of_beq_eq_true hl)
  · cases hll : l.length with
    | zero => rw [hll] at hl; cases hl
    | succ k =>
      rw [hll] at hl
      unfold waits at hl
      rw [nth_eq, ho] at hl
      simp only [List.any_eq_true, Bool.and_eq_true, Bool.or_eq_true] at hl
      obtain ⟨e, he, hb, hw⟩ := hl
      have h1 := hall e (Array.mem_toList_iff.1 he) hb
      rcases hw with hw | hw
      · rw [Nat.eq_of_beq_eq_true hw] at h1; exact h3 h1
      · exact h3 (waits_listed hcl hw h1)
/-- an operation that yields wherever S holds is taken first -/
theorem wpZ_first {P : Program} {l : List Oper} {Q : Exit → Act → World → Prop} {S : World → Prop} {z i : Nat} {oi : Oper} {v : Value} (hi : l.toArray[i]? = some oi) (hsel : ∀ (j : Nat) (o : Oper) cs b, l.toArray[j]? = some o → o.op ≠ .select cs b)
    (hQ : ∀ c a w, Q (.panic c) (a.put oi.dst v) w → Q (.panic c) a w) (hz : late l z i = true) (hne : i ≠ z) :
    ∀ (k : Nat) (listed : Array Bool) (a : Act) (w : World), Closed l listed →
      (∀ j oj, l.toArray[j]? = some oj → j ≠ i → listed.getD j true = false → (∀ e ∈ oj.after, Region.binds .any e = true → e.on ≠ i) → oi.apart l.toArray oj = true) →
      i ∈ Region.ready .any l.toArray listed → YieldsIf P l.toArray S oi v a → S w →
      wpZ P l Q S z k (listed.setIfInBounds i true) (a.put oi.dst v) w → wpZ P l Q S z (k + 1) listed a w := by
  intro k
  induction k with
  | zero =>
    intro listed a w _ _ hr hy hS h
    refine ⟨fun h0 => (by rw [h0] at hr; cases hr), fun j hj => ?_⟩
    by_cases hji : j = i
    · subst hji; exact hy.wpOp hi hS ⟨fun _ => ⟨hS, h⟩, fun e => absurd e hne⟩
    · have := ready_mono hj hji
      rw [h.1] at this
      cases this
  | succ k ih =>
    intro listed a w hcl hfree hr hy hS h
    refine ⟨fun h0 => (by rw [h0] at hr; cases hr), fun j hj => ?_⟩
    by_cases hji : j = i
    · subst hji; exact hy.wpOp hi hS ⟨fun _ => ⟨hS, h⟩, fun e => absurd e hne⟩
    · have hjz : j ≠ z := fun e => late_not hz hne hcl hr (e ▸ hj)
      have h1 := h.2 j (ready_mono hj hji)
      obtain ⟨hjun, oj, hoj, hall⟩ := mem_ready.1 hj
      have hnot : ∀ e ∈ oj.after, Region.binds .any e = true → e.on ≠ i := fun e he hb heq => by
        have h1 := hall e he hb
        have h0 := (mem_ready.1 hr).1
        rw [heq] at h1
        rcases Nat.lt_or_ge i listed.size with h' | h'
        · simp [h'] at h0 h1; rw [h0] at h1; cases h1
        · simp [Array.getElem?_eq_none h'] at h1
      have h2 := wpOp_putIf hoj (hfree j oj hoj hji hjun hnot) (fun cs b => hsel i oi cs b hi) (fun cs b => hsel j oj cs b hoj) hQ hy h1
      refine wpOp_mono (fun a' w' h3 => ⟨fun _ => ⟨(h3.2.1 hjz).1, ih (listed.setIfInBounds j true) a' w' (hcl.set hj) (fun m om hm hmi hun hno => hfree m om hm hmi ?_ hno) (ready_mono hr (Ne.symm hji)) h3.1 (h3.2.1 hjz).1 ?_⟩, fun e => absurd e hjz⟩) h2
      · by_cases hjm : j = m
        · subst hjm; exact hjun
        · rw [getD_set_ne true hjm] at hun; exact hun
      · rw [Array.setIfInBounds_comm _ _ hji]
        exact (h3.2.1 hjz).2
/-- an order in which a region's operations may be walked: those marked are the one that may come up then; two: one of two may, each is gone on from -/
inductive Td where
  | nil
  | one (i : Nat) (go : Bool) (t : Td)
  | two (i : Nat) (s : Td) (j : Nat) (t : Td)
def Td.len : Td → Nat
  | .nil => 0
  | .one _ _ t => t.len + 1
  | .two _ s _ _ => s.len + 1
def chk (l : List Oper) (z : Nat) : Array Bool → Td → Bool
  | listed, .nil => (Region.ready .any l.toArray listed).isEmpty
  | listed, .one i go t => (bif go then Region.ready .any l.toArray listed == [i] else Region.free .any l.toArray listed i && (Region.ready .any l.toArray listed).contains i && late l z i && !Nat.beq i z) && chk l z (listed.setIfInBounds i true) t
  | listed, .two i s j t => Region.ready .any l.toArray listed == [i, j] && Nat.beq s.len t.len && chk l z (listed.setIfInBounds i true) s && chk l z (listed.setIfInBounds j true) t
structure Dr (P : Program) (N : Nat) (E : Env) (z : Nat) (l : List Oper) (Q : QF) (Hk : List Asn) (todo : Td) (F : Nat → Value) (H : List Asn) : Prop where
  get : ∀ listed a u, Closed l listed → Region.noSelect l.toArray = true → chk l z listed todo = true → Rep N F a → St E H u → St E Hk u → wpZ P l (lift N E Q) (St E Hk) z todo.len listed a u
/-- z: the one behind which what is kept need not hold (a number that none has: there is no such one) -/
theorem C.regionA {id : Nat} {l : List Oper} (z : Nat) (todo : Td) (Hk : List Asn) (hm : P.follows .mixedOrders = true) (hchk : (Region.noSelect l.toArray && Nat.beq todo.len l.length && chk l z (Array.replicate l.length false) todo) = true) (hk : Conv E H Hk) (h : Dr P N E z l Q Hk todo F H) : C P N E (.region id l.toArray true) Q F H := by
  simp only [Bool.and_eq_true] at hchk
  obtain ⟨⟨h1, h2⟩, h3⟩ := hchk
  have h2 := Nat.eq_of_beq_eq_true h2
  refine ⟨fun a w ha hw => ?_⟩
  have := h.get _ a w.drew (Closed.start l) h1 h3 ha hw.drew (hk _ hw.drew)
  rw [h2] at this
  exact wp_region_any hm (wpZ_any _ _ _ _ (by simpa using this))
theorem yield_at {l : List Oper} {j g : Nat} {b : Bool} (hn : (nth l j).bind (·.dst) = some g) (hg : g < N) (hv : F g = .bool b) {a : Act} (ha : Rep N F a) : yielded l.toArray a.tmps j = some b := by
  unfold yielded
  rw [← nth_eq, hn]
  have h3 := ha.get g
  rw [hv, Array.getD_eq_getD_getElem?, Array.getElem?_eq_getElem (by rw [ha.size]; exact hg)] at h3
  simp only [Option.getD_some] at h3
  simp [Array.getElem?_eq_getElem (show g < a.tmps.size by rw [ha.size]; exact hg), h3]
/-- the guard's side: taken or not -/
inductive Grd (l : List Oper) (N : Nat) (F : Nat → Value) (b : Bool) : Option (Nat × Bool) → Prop
  | none (h : b = true) : Grd l N F b none
  | some {j g : Nat} {want c : Bool} (hn : (nth l j).bind (·.dst) = some g) (hg : g < N) (hv : F g = .bool c) (hb : (c == want) = b) : Grd l N F b (some (j, want))
  | undef {j g : Nat} {want : Bool} (hn : (nth l j).bind (·.dst) = some g) (hg : g < N) (hv : F g = Go.undef) (hb : b = false) : Grd l N F b (some (j, want))
theorem Grd.on {l : List Oper} {j g : Nat} {want c : Bool} (hn : (nth l j).bind (·.dst) = Option.some g) (hg : g < N) (hv : F g = .bool c) (hb : c = want) : Grd l N F true (Option.some (j, want)) := .some hn hg hv (by simp [hb])
theorem Grd.off {l : List Oper} {j g : Nat} {want c : Bool} (hn : (nth l j).bind (·.dst) = Option.some g) (hg : g < N) (hv : F g = .bool c) (hb : c = !want) : Grd l N F false (Option.some (j, want)) := .some hn hg hv (by cases want <;> simp [hb])
theorem Grd.offU {l : List Oper} {j g : Nat} {want : Bool} (hn : (nth l j).bind (·.dst) = Option.some g) (hg : g < N) (hv : F g = Go.undef) : Grd l N F false (Option.some (j, want)) := .undef hn hg hv rfl
theorem Grd.wanted {l : List Oper} {b : Bool} {o : Oper} (h : Grd l N F b o.guard) {a : Act} (ha : Rep N F a) : Region.wanted o (yielded l.toArray a.tmps) = b := by
  generalize e : o.guard = g at h
  cases h with
  | none h => simp [Region.wanted, e, h]
  | some hn hg hv hb => simp [Region.wanted, e, yield_at hn hg hv ha, ← hb]
  | @undef j g want hn hg hv hb =>
    have hy : yielded l.toArray a.tmps j = Option.none := by
      unfold yielded
      rw [← nth_eq, hn]
      have h3 := ha.get g
      rw [hv, Array.getD_eq_getD_getElem?, Array.getElem?_eq_getElem (by rw [ha.size]; exact hg)] at h3
      simp only [Option.getD_some] at h3
      simp [Array.getElem?_eq_getElem (show g < a.tmps.size by rw [ha.size]; exact hg), h3, Go.undef]
    simp [Region.wanted, e, hy, hb]
theorem lift_panic {c : List PanicEntry} {a a' : Act} {w : World} (h : lift N E Q (.panic c) a w) : lift N E Q (.panic c) a' w := h.elim
theorem ne_of_beq {i z : Nat} (h : (!Nat.beq i z) = true) : i ≠ z := by
  rintro rfl
  rw [Nat.beq_refl] at h
  cases h
section
variable {z : Nat}
theorem Dr.first {i : Nat} {todo : Td} {l : List Oper} {Hk : List Asn} {o : Oper} {d : Nat} {v : Value} (hi : nth l i = some o) (hod : o.dst = some d) (hd : d < N) (hy : ∀ a, Rep N F a → YieldsIf P l.toArray (St E Hk) o v a) (h : Dr P N E z l Q Hk todo (upd F d v) H) : Dr P N E z l Q Hk (.one i false todo) F H := by
  refine ⟨fun listed a u hcl hs hc ha hu hk => ?_⟩
  simp only [chk, cond_false, Bool.and_eq_true] at hc
  refine wpZ_first ((nth_eq l i).symm.trans hi) (Region.noSelect_spec hs) (fun c a w h => lift_panic h) hc.1.1.2 (ne_of_beq hc.1.2) _ _ _ _ hcl (Region.free_spec ((nth_eq l i).symm.trans hi) hc.1.1.1.1) (by simpa using hc.1.1.1.2) (hy a ha) hk ?_
  rw [hod]
  exact h.get _ _ u (hcl.set (by simpa using hc.1.1.1.2)) hs hc.2 (ha.put hd v) hu hk
theorem Dr.take {i : Nat} {todo : Td} {l : List Oper} {Hk : List Asn} {d : Nat} {op : Op} {ty : TypeId} {pos : String} {af : Array Edge} {gd : Option (Nat × Bool)} {v : Value} (hi : nth l i = some ⟨some d, op, ty, pos, af, gd⟩) (hd : d < N) (hg : Grd l N F true gd)
    (hy : Yld P E Hk (ev F) ⟨some d, op, ty, pos, af, gd⟩ v) (h : Dr P N E z l Q Hk todo (upd F d v) H) : Dr P N E z l Q Hk (.one i false todo) F H :=
  Dr.first hi rfl hd (fun a ha => .inl ⟨hg.wanted (o := ⟨some d, op, ty, pos, af, gd⟩) ha, fun u hu => by rw [ha.eval]; exact hy u hu⟩) h
theorem Dr.skip {i : Nat} {todo : Td} {l : List Oper} {Hk : List Asn} {d : Nat} {op : Op} {ty : TypeId} {pos : String} {af : Array Edge} {gd : Option (Nat × Bool)} (hi : nth l i = some ⟨some d, op, ty, pos, af, gd⟩) (hd : d < N) (hg : Grd l N F false gd)
    (h : Dr P N E z l Q Hk todo (upd F d undef) H) : Dr P N E z l Q Hk (.one i false todo) F H :=
  Dr.first hi rfl hd (fun a ha => .inr ⟨hg.wanted (o := ⟨some d, op, ty, pos, af, gd⟩) ha, rfl⟩) h
theorem Dr.more {todo : Td} {l : List Oper} {Hk Hk' : List Asn} (h1 : Conv E Hk' Hk) (h2 : Conv E H Hk') (h : Dr P N E z l Q Hk' todo F H) : Dr P N E z l Q Hk todo F H :=
  ⟨fun listed a u hcl hs hc ha hu _ => wpZ_more (S := St E Hk) (S' := St E Hk') h1 _ _ _ _ (h.get listed a u hcl hs hc ha hu (h2 u hu))⟩
theorem Dr.conv {todo : Td} {l : List Oper} {Hk H' : List Asn} (h : Conv E H H') (hd : Dr P N E z l Q Hk todo F H') : Dr P N E z l Q Hk todo F H := ⟨fun listed a u hcl hs hc ha hu hk => hd.get listed a u hcl hs hc ha (h u hu) hk⟩
/-- one operation is carried out, number i, and all that follows -/
structure Go1 (P : Program) (N : Nat) (E : Env) (z : Nat) (l : List Oper) (Q : QF) (Hk : List Asn) (i : Nat) (todo : Td) (F : Nat → Value) (H : List Asn) : Prop where
  get : ∀ (listed : Array Bool) (a : Act) (u : World), Closed l (listed.setIfInBounds i true) → Region.noSelect l.toArray = true → chk l z (listed.setIfInBounds i true) todo = true → Rep N F a → St E H u → St E Hk u → wpOp P l.toArray (lift N E Q) i (fun a' w' => (i ≠ z → St E Hk w' ∧ wpZ P l (lift N E Q) (St E Hk) z todo.len (listed.setIfInBounds i true) a' w') ∧ (i = z → wpAny P .any l.toArray (lift N E Q) todo.len (listed.setIfInBounds i true) a' w')) a u
theorem Dr.all {i : Nat} {todo : Td} {l : List Oper} {Hk : List Asn} (h : Go1 P N E z l Q Hk i todo F H) : Dr P N E z l Q Hk (.one i true todo) F H := by
  refine ⟨fun listed a u hcl hs hc ha hu hk => ?_⟩
  simp only [chk, cond_true, Bool.and_eq_true, beq_iff_eq] at hc
  refine ⟨fun h0 => absurd (hc.1 ▸ h0) (by simp), ?_⟩
  rw [hc.1]
  intro j hj
  obtain rfl : j = i := by simpa using hj
  exact h.get _ a u (hcl.set (by rw [hc.1]; simp)) hs hc.2 ha hu hk
/-- one of two may come up -/
theorem Dr.two {i j : Nat} {s t : Td} {l : List Oper} {Hk : List Asn} (h1 : Go1 P N E z l Q Hk i s F H) (h2 : Go1 P N E z l Q Hk j t F H) : Dr P N E z l Q Hk (.two i s j t) F H := by
  refine ⟨fun listed a u hcl hs hc ha hu hk => ?_⟩
  simp only [chk, Bool.and_eq_true, beq_iff_eq] at hc
  obtain ⟨⟨⟨hr, hlen⟩, hc1⟩, hc2⟩ := hc
  have hlen := Nat.eq_of_beq_eq_true hlen
  refine ⟨fun h0 => absurd (hr ▸ h0) (by simp), ?_⟩
  rw [hr]
  intro m hm
  rcases List.mem_cons.1 hm with rfl | hm
  · exact h1.get _ a u (hcl.set (by rw [hr]; simp)) hs hc1 ha hu hk
  · obtain rfl : m = j := by simpa using hm
    have := h2.get _ a u (hcl.set (by rw [hr]; simp)) hs hc2 ha hu hk
    rw [← hlen] at this
    exact this
/-- the one operation that may come up; behind it what is kept may be told anew -/
theorem Go1.go {i : Nat} {todo : Td} {l : List Oper} {Hk : List Asn} {d : Option Nat} {op : Op} {ty : TypeId} {pos : String} {af : Array Edge} {gd : Option (Nat × Bool)} (hi : nth l i = some ⟨d, op, ty, pos, af, gd⟩) (hd : ∀ k, d = some k → k < N) (hg : Grd l N F true gd)
    (h : Stp P N E F H ⟨d, op, ty, pos, af, gd⟩ fun v H' => Conv E H' Hk ∧ Dr P N E z l Q Hk todo (updo F d v) H') : Go1 P N E z l Q Hk i todo F H := by
  refine ⟨fun listed a u hcl hs hc ha hu hk => ?_⟩
  have hi' : l.toArray[i]? = some _ := (nth_eq l i).symm.trans hi
  unfold wpOp
  simp only [hi', hg.wanted (o := ⟨d, op, ty, pos, af, gd⟩) ha, if_true]
  refine .inl (h a u ha hu _ _ ?_)
  rintro v H' u' ⟨hc2, hA⟩ hu'
  have hgo := hA.get (listed.setIfInBounds i true) (a.put d v) u' hcl hs hc ?_ hu' (hc2 u' hu')
  · exact ⟨fun _ => ⟨hc2 u' hu', hgo⟩, fun _ => wpZ_any _ _ _ _ hgo⟩
  cases d with
  | none => exact ha
  | some k => exact ha.put (hd k rfl) v
theorem Dr.go {i : Nat} {todo : Td} {l : List Oper} {Hk : List Asn} {d : Option Nat} {op : Op} {ty : TypeId} {pos : String} {af : Array Edge} {gd : Option (Nat × Bool)} (hi : nth l i = some ⟨d, op, ty, pos, af, gd⟩) (hd : ∀ k, d = some k → k < N) (hg : Grd l N F true gd)
    (h : Stp P N E F H ⟨d, op, ty, pos, af, gd⟩ fun v H' => Conv E H' Hk ∧ Dr P N E z l Q Hk todo (updo F d v) H') : Dr P N E z l Q Hk (.one i true todo) F H := Dr.all (Go1.go hi hd hg h)
theorem Go1.goK {i : Nat} {todo : Td} {l : List Oper} {Hk : List Asn} {d : Option Nat} {op : Op} {ty : TypeId} {pos : String} {af : Array Edge} {gd : Option (Nat × Bool)} {K : Value → List Asn → Prop} (hi : nth l i = some ⟨d, op, ty, pos, af, gd⟩) (hd : ∀ k, d = some k → k < N) (hg : Grd l N F true gd)
    (h : Stp P N E F H ⟨d, op, ty, pos, af, gd⟩ K) (hk : ∀ v H', K v H' → Conv E H' Hk ∧ Dr P N E z l Q Hk todo (updo F d v) H') : Go1 P N E z l Q Hk i todo F H :=
  Go1.go hi hd hg fun a u ha hu Kw Q' hK => h a u ha hu Kw Q' fun v H' u' hq hu' => hK v H' u' (hk v H' hq) hu'
theorem Dr.goK {i : Nat} {todo : Td} {l : List Oper} {Hk : List Asn} {d : Option Nat} {op : Op} {ty : TypeId} {pos : String} {af : Array Edge} {gd : Option (Nat × Bool)} {K : Value → List Asn → Prop} (hi : nth l i = some ⟨d, op, ty, pos, af, gd⟩) (hd : ∀ k, d = some k → k < N) (hg : Grd l N F true gd)
    (h : Stp P N E F H ⟨d, op, ty, pos, af, gd⟩ K) (hk : ∀ v H', K v H' → Conv E H' Hk ∧ Dr P N E z l Q Hk todo (updo F d v) H') : Dr P N E z l Q Hk (.one i true todo) F H :=
  Dr.go hi hd hg fun a u ha hu Kw Q' hK => h a u ha hu Kw Q' fun v H' u' hq hu' => hK v H' u' (hk v H' hq) hu'
/-- .. the last one, z -/
theorem Dr.goZ {l : List Oper} {Hk : List Asn} {d : Option Nat} {op : Op} {ty : TypeId} {pos : String} {af : Array Edge} {gd : Option (Nat × Bool)} {K : Value → List Asn → Prop} (hi : nth l z = some ⟨d, op, ty, pos, af, gd⟩) (hd : ∀ k, d = some k → k < N) (hg : Grd l N F true gd)
    (h : Stp P N E F H ⟨d, op, ty, pos, af, gd⟩ K) (hk : ∀ v H', K v H' → Q .normal (updo F d v) H') : Dr P N E z l Q Hk (.one z true .nil) F H := by
  refine Dr.all ⟨fun listed a u hcl hs hc ha hu hk2 => ?_⟩
  have hi' : l.toArray[z]? = some _ := (nth_eq l z).symm.trans hi
  unfold wpOp
  simp only [hi', hg.wanted (o := ⟨d, op, ty, pos, af, gd⟩) ha, if_true]
  refine .inl (h a u ha hu _ _ ?_)
  intro v H' u' hA hu'
  refine ⟨fun hz => absurd rfl hz, fun _ => ⟨by simpa [chk] using hc, _, H', ?_, hu', hk v H' hA⟩⟩
  cases d with
  | none => exact ha
  | some k => exact ha.put (hd k rfl) v
/-- .. whose guard is false -/
theorem Dr.goSkip {i : Nat} {todo : Td} {l : List Oper} {Hk : List Asn} {d : Nat} {op : Op} {ty : TypeId} {pos : String} {af : Array Edge} {gd : Option (Nat × Bool)} (hi : nth l i = some ⟨some d, op, ty, pos, af, gd⟩) (hd : d < N) (hg : Grd l N F false gd)
    (h : Dr P N E z l Q Hk todo (upd F d undef) H) : Dr P N E z l Q Hk (.one i true todo) F H := by
  refine Dr.all ⟨fun listed a u hcl hs hc ha hu hk => ?_⟩
  have hi' : l.toArray[i]? = some _ := (nth_eq l i).symm.trans hi
  unfold wpOp
  simp only [hi', hg.wanted (o := ⟨some d, op, ty, pos, af, gd⟩) ha]
  have hgo := h.get _ _ u hcl hs hc (ha.put hd undef) hu hk
  exact ⟨fun _ => ⟨hk, hgo⟩, fun _ => wpZ_any _ _ _ _ hgo⟩
theorem Dr.done {l : List Oper} {Hk : List Asn} (h : Q .normal F H) : Dr P N E z l Q Hk .nil F H :=
  ⟨fun listed _ _ _ _ hc ha hu _ => ⟨by simpa [chk] using hc, F, H, ha, hu, h⟩⟩
/-- behind z: each the only one that may come up, nothing kept -/
structure DrA (P : Program) (N : Nat) (E : Env) (z : Nat) (l : List Oper) (Q : QF) (todo : Td) (F : Nat → Value) (H : List Asn) : Prop where
  get : ∀ listed a u, chk l z listed todo = true → Rep N F a → St E H u → wpAny P .any l.toArray (lift N E Q) todo.len listed a u
theorem Dr.goZs {todo : Td} {l : List Oper} {Hk : List Asn} {d : Option Nat} {op : Op} {ty : TypeId} {pos : String} {af : Array Edge} {gd : Option (Nat × Bool)} {K : Value → List Asn → Prop} (hi : nth l z = some ⟨d, op, ty, pos, af, gd⟩) (hd : ∀ k, d = some k → k < N) (hg : Grd l N F true gd)
    (h : Stp P N E F H ⟨d, op, ty, pos, af, gd⟩ K) (hk : ∀ v H', K v H' → DrA P N E z l Q todo (updo F d v) H') : Dr P N E z l Q Hk (.one z true todo) F H := by
  refine Dr.all ⟨fun listed a u hcl hs hc ha hu hk2 => ?_⟩
  have hi' : l.toArray[z]? = some _ := (nth_eq l z).symm.trans hi
  unfold wpOp
  simp only [hi', hg.wanted (o := ⟨d, op, ty, pos, af, gd⟩) ha, if_true]
  refine .inl (h a u ha hu _ _ ?_)
  intro v H' u' hA hu'
  refine ⟨fun hz => absurd rfl hz, fun _ => (hk v H' hA).get _ _ u' hc ?_ hu'⟩
  cases d with
  | none => exact ha
  | some k => exact ha.put (hd k rfl) v
theorem DrA.take {i : Nat} {todo : Td} {l : List Oper} {d : Nat} {op : Op} {ty : TypeId} {pos : String} {af : Array Edge} {gd : Option (Nat × Bool)} {v : Value} (hi : nth l i = some ⟨some d, op, ty, pos, af, gd⟩) (hd : d < N) (hg : Grd l N F true gd)
    (hy : Yld P E H (ev F) ⟨some d, op, ty, pos, af, gd⟩ v) (h : DrA P N E z l Q todo (upd F d v) H) : DrA P N E z l Q (.one i true todo) F H := by
  refine ⟨fun listed a u hc ha hu => ?_⟩
  simp only [chk, cond_true, Bool.and_eq_true, beq_iff_eq] at hc
  refine ⟨fun h0 => absurd (hc.1 ▸ h0) (by simp), ?_⟩
  rw [hc.1]
  intro j hj
  obtain rfl : j = i := by simpa using hj
  have hi' : l.toArray[j]? = some _ := (nth_eq l j).symm.trans hi
  unfold wpOp
  simp only [hi', hg.wanted (o := ⟨some d, op, ty, pos, af, gd⟩) ha, if_true]
  refine .inl ?_
  unfold Oper.wp
  rw [ha.eval, hy u hu]
  exact h.get _ _ u hc.2 (ha.put hd v) hu
theorem DrA.done {l : List Oper} (h : Q .normal F H) : DrA P N E z l Q .nil F H :=
  ⟨fun listed _ _ hc ha hu => ⟨by simpa [chk] using hc, F, H, ha, hu, h⟩⟩
end
end

/-! ### what operations yield -/
section
variable {P : Program} {ρ : Operand → Value} {o : Oper} {u : World}
theorem V.move {x : Operand} {v : Value} (ho : o.op = .move x) (hv : ρ x = v) : (execOp ρ o).run P u = .ok (.value v) u := by simp [execOp, ho, hv]
theorem V.assign {x : Operand} {v : Value} (ho : o.op = .assign x) (hv : ρ x = v) : (execOp ρ o).run P u = .ok (.value v) u := by simp [execOp, ho, hv]
theorem V.pickT {c x y : Operand} {b : Bool} {v : Value} (ho : o.op = .pick c x y) (hc : ρ c = .bool b) (hb : b = true) (hv : ρ x = v) : (execOp ρ o).run P u = .ok (.value v) u := by simp [execOp, ho, hc, hb, hv, asBool]
theorem V.pickF {c x y : Operand} {b : Bool} {v : Value} (ho : o.op = .pick c x y) (hc : ρ c = .bool b) (hb : b = false) (hv : ρ y = v) : (execOp ρ o).run P u = .ok (.value v) u := by simp [execOp, ho, hc, hb, hv, asBool]
theorem V.extract {t : Operand} {i : Nat} {vs : Array Value} {v : Value} (ho : o.op = .extract t i) (ht : ρ t = .tuple vs) (hv : vs[i]? = some v) : (execOp ρ o).run P u = .ok (.value v) u := by simp [execOp, ho, ht, Instr.extract, hv]
theorem V.nilCheck {x : Operand} {a : Addr} (ho : o.op = .nilCheck x) (hx : ρ x = .pointer (some a)) : (execOp ρ o).run P u = .ok (.value (.pointer (some a))) u := by simp [execOp, ho, hx]
theorem V.not {t : TypeId} {x : Operand} {b : Bool} (ho : o.op = .unOp .not t x) (hx : ρ x = .bool b) : (execOp ρ o).run P u = .ok (.value (.bool (!b))) u := by simp [execOp, ho, hx, Op.unary]

section ints
variable {x y : Operand} {t t' : TypeId} {k : IntKind} {a b c : Int}
theorem V.add (ho : o.op = .binOp .add t x y t') (hx : ρ x = .int k a) (hy : ρ y = .int k b) (hr : k.wrap (a + b) = c) : (execOp ρ o).run P u = .ok (.value (.int k c)) u := by simp [execOp, ho, hx, hy, eqGuard, binOp, Op.intArith, hr]
theorem V.sub (ho : o.op = .binOp .sub t x y t') (hx : ρ x = .int k a) (hy : ρ y = .int k b) (hr : k.wrap (a - b) = c) : (execOp ρ o).run P u = .ok (.value (.int k c)) u := by simp [execOp, ho, hx, hy, eqGuard, binOp, Op.intArith, hr]
theorem V.mul (ho : o.op = .binOp .mul t x y t') (hx : ρ x = .int k a) (hy : ρ y = .int k b) (hr : k.wrap (a * b) = c) : (execOp ρ o).run P u = .ok (.value (.int k c)) u := by simp [execOp, ho, hx, hy, eqGuard, binOp, Op.intArith, hr]
theorem V.quo (ho : o.op = .binOp .quo t x y t') (hx : ρ x = .int k a) (hy : ρ y = .int k b) (hb : b ≠ 0) (hr : k.wrap (a.tdiv b) = c) : (execOp ρ o).run P u = .ok (.value (.int k c)) u := by simp [execOp, ho, hx, hy, eqGuard, binOp, Op.intDiv, hb, hr]
theorem V.rem (ho : o.op = .binOp .rem t x y t') (hx : ρ x = .int k a) (hy : ρ y = .int k b) (hb : b ≠ 0) (hr : a.tmod b = c) : (execOp ρ o).run P u = .ok (.value (.int k c)) u := by simp [execOp, ho, hx, hy, eqGuard, binOp, Op.intDiv, hb, hr]
theorem V.lss (ho : o.op = .binOp .lss t x y t') (hx : ρ x = .int k a) (hy : ρ y = .int k b) : (execOp ρ o).run P u = .ok (.value (.bool (decide (a < b)))) u := by simp [execOp, ho, hx, hy, eqGuard, binOp, Op.intCmp]
theorem V.leq (ho : o.op = .binOp .leq t x y t') (hx : ρ x = .int k a) (hy : ρ y = .int k b) : (execOp ρ o).run P u = .ok (.value (.bool (decide (a ≤ b)))) u := by simp [execOp, ho, hx, hy, eqGuard, binOp, Op.intCmp]
theorem V.gtr (ho : o.op = .binOp .gtr t x y t') (hx : ρ x = .int k a) (hy : ρ y = .int k b) : (execOp ρ o).run P u = .ok (.value (.bool (decide (b < a)))) u := by simp [execOp, ho, hx, hy, eqGuard, binOp, Op.intCmp]
theorem V.geq (ho : o.op = .binOp .geq t x y t') (hx : ρ x = .int k a) (hy : ρ y = .int k b) : (execOp ρ o).run P u = .ok (.value (.bool (decide (b ≤ a)))) u := by simp [execOp, ho, hx, hy, eqGuard, binOp, Op.intCmp]
theorem V.eql (ho : o.op = .binOp .eql t x y t') (hx : ρ x = .int k a) (hy : ρ y = .int k b) : (execOp ρ o).run P u = .ok (.value (.bool (decide (a = b)))) u := by
  have : decide (a = b) = (a == b) := by rw [Bool.eq_iff_iff]; simp
  simp [execOp, ho, hx, hy, eqGuard, binOp, Op.intCmp, this]
theorem V.neq (ho : o.op = .binOp .neq t x y t') (hx : ρ x = .int k a) (hy : ρ y = .int k b) : (execOp ρ o).run P u = .ok (.value (.bool (decide (a ≠ b)))) u := by
  have : decide (a ≠ b) = (a != b) := by rw [Bool.eq_iff_iff]; simp
  simp [execOp, ho, hx, hy, eqGuard, binOp, Op.intCmp, this]
theorem V.bits_ {op : BinOp} (ho : o.op = .binOp op t x y t') (hop : op = .and ∨ op = .or ∨ op = .xor ∨ op = .andNot) (hx : ρ x = .int k a) (hy : ρ y = .int k b) (hr : Go.bits op k a b = c) : (execOp ρ o).run P u = .ok (.value (.int k c)) u := by
  rcases hop with rfl | rfl | rfl | rfl <;> simp [execOp, ho, hx, hy, eqGuard, binOp, Op.intBits, Go.bits] at hr ⊢ <;> exact hr
theorem V.shl {k2 : IntKind} (ho : o.op = .binOp .shl t x y t') (hx : ρ x = .int k a) (hy : ρ y = .int k2 b) (hb : 0 ≤ b) (hr : k.wrap (a * 2 ^ min b.toNat k.bits) = c) : (execOp ρ o).run P u = .ok (.value (.int k c)) u := by
  simp [execOp, ho, hx, hy, eqGuard, binOp, shift_shl_any _ _ _ _ hb, hr]
theorem V.shr {k2 : IntKind} (ho : o.op = .binOp .shr t x y t') (hx : ρ x = .int k a) (hy : ρ y = .int k2 b) (hb : 0 ≤ b) (hr : a / 2 ^ min b.toNat k.bits = c) : (execOp ρ o).run P u = .ok (.value (.int k c)) u := by
  simp [execOp, ho, hx, hy, eqGuard, binOp, shift_shr_any _ _ _ _ hb, hr]
theorem V.neg (ho : o.op = .unOp .neg t x) (hx : ρ x = .int k a) (hr : k.wrap (-a) = c) : (execOp ρ o).run P u = .ok (.value (.int k c)) u := by
  simp [execOp, ho, hx, Op.unary, Op.intArith, hr]
theorem V.conv {k2 : IntKind} {s : TypeDesc} (ho : o.op = .convert t t' x) (hx : ρ x = .int k2 a) (hs : P.underlying t = some s) (hd : P.underlying t' = some (.int k)) (hr : k.wrap a = c) : (execOp ρ o).run P u = .ok (.value (.int k c)) u := by
  simp [execOp, ho, hx, convert, run_underlying hs, run_underlying hd, Conv.intToInt, hr]
end ints

theorem run_equalIn_bool (d : Nat) {t : TypeId} (ht : P.underlying t = some .bool) (a b : Bool) : (Op.equalIn (d + 1) t (.bool a) (.bool b)).run P u = .ok (a == b) u := by
  simp [Op.equalIn, run_underlying ht]
theorem run_eql_bool {t : TypeId} (ht : P.underlying t = some .bool) (a b : Bool) : (binOp .eql t (.bool a) (.bool b)).run P u = .ok (.bool (a == b)) u := by
  simp only [binOp]
  simp [Op.equal, Op.maxDepth, run_equalIn_bool 9999 ht]
theorem run_neq_bool {t : TypeId} (ht : P.underlying t = some .bool) (a b : Bool) : (binOp .neq t (.bool a) (.bool b)).run P u = .ok (.bool (!(a == b))) u := by
  simp only [binOp]
  simp [Op.equal, Op.maxDepth, run_equalIn_bool 9999 ht]
theorem V.eqlB {x y : Operand} {t t' : TypeId} {a b : Bool} (ho : o.op = .binOp .eql t x y t') (ht : P.underlying t = some .bool) (hx : ρ x = .bool a) (hy : ρ y = .bool b) : (execOp ρ o).run P u = .ok (.value (.bool (a == b))) u := by
  have h := run_eql_bool (u := u) ht a b
  simp only [execOp, ho, hx, hy, eqGuard]
  simp [h]
theorem V.neqB {x y : Operand} {t t' : TypeId} {a b : Bool} (ho : o.op = .binOp .neq t x y t') (ht : P.underlying t = some .bool) (hx : ρ x = .bool a) (hy : ρ y = .bool b) : (execOp ρ o).run P u = .ok (.value (.bool (!(a == b)))) u := by
  have h := run_neq_bool (u := u) ht a b
  simp only [execOp, ho, hx, hy, eqGuard]
  simp [h]
theorem V.eqlS {x y : Operand} {t t' : TypeId} {a b : List UInt8} (ho : o.op = .binOp .eql t x y t') (hx : ρ x = .string (txt a)) (hy : ρ y = .string (txt b)) : (execOp ρ o).run P u = .ok (.value (.bool (decide (a = b)))) u := by
  have e : (a == b) = decide (a = b) := by rw [Bool.eq_iff_iff]; simp
  simp [execOp, ho, hx, hy, eqGuard, binOp_string_eql, txt_toList, e]
theorem V.neqS {x y : Operand} {t t' : TypeId} {a b : List UInt8} (ho : o.op = .binOp .neq t x y t') (hx : ρ x = .string (txt a)) (hy : ρ y = .string (txt b)) : (execOp ρ o).run P u = .ok (.value (.bool (decide (a ≠ b)))) u := by
  have e : (a == b) = decide (a = b) := by rw [Bool.eq_iff_iff]; simp
  simp [execOp, ho, hx, hy, eqGuard, binOp_string_neq, txt_toList, e]
theorem run_equal_ptr (d : Nat) {t e : TypeId} (ht : P.underlying t = some (.pointer e)) (a : Option Addr) : (Op.equalIn (d + 1) t (.pointer a) (.pointer none)).run P u = .ok a.isNone u := by
  cases a <;> simp [Op.equalIn, run_underlying ht]
theorem run_neq_ptr {t e : TypeId} (ht : P.underlying t = some (.pointer e)) (a : Option Addr) : (binOp .neq t (.pointer a) (.pointer none)).run P u = .ok (.bool a.isSome) u := by
  simp only [binOp]
  cases a <;> simp [Op.equal, Op.maxDepth, run_equal_ptr 9999 ht]
theorem run_eql_ptr {t e : TypeId} (ht : P.underlying t = some (.pointer e)) (a : Option Addr) : (binOp .eql t (.pointer a) (.pointer none)).run P u = .ok (.bool a.isNone) u := by
  simp only [binOp]
  cases a <;> simp [Op.equal, Op.maxDepth, run_equal_ptr 9999 ht]
theorem V.neqP {x y : Operand} {t t' e : TypeId} {a : Option Addr} (ho : o.op = .binOp .neq t x y t') (ht : P.underlying t = some (.pointer e)) (hx : ρ x = .pointer a) (hy : ρ y = .pointer none) : (execOp ρ o).run P u = .ok (.value (.bool a.isSome)) u := by
  have h := run_neq_ptr (u := u) ht a
  simp only [execOp, ho, hx, hy, eqGuard]
  simp [h]
theorem V.eqlP {x y : Operand} {t t' e : TypeId} {a : Option Addr} (ho : o.op = .binOp .eql t x y t') (ht : P.underlying t = some (.pointer e)) (hx : ρ x = .pointer a) (hy : ρ y = .pointer none) : (execOp ρ o).run P u = .ok (.value (.bool a.isNone)) u := by
  have h := run_eql_ptr (u := u) ht a
  simp only [execOp, ho, hx, hy, eqGuard]
  simp [h]
theorem V.len {x : Operand} {t e : TypeId} {A : Option Addr} {n m : Nat} (ho : o.op = .call { callee := .builtin .len, args := #[x], argTypes := #[t] }) (ht : P.underlying t = some (.slice e)) (hx : ρ x = .slice A n m) (hn : n ≤ maxLen) : (execOp ρ o).run P u = .ok (.value (.int .i64 n)) u := by
  have h : IntKind.i64.wrap (n : Int) = n := IntWalk.i64_in _ (by unfold maxLen at hn; omega)
  simp [execOp, ho, resolve, hx, invoke, builtin, Builtin.len_, run_underlying ht, goInt, h]
theorem V.fieldAddr {s : TypeId} {x : Operand} {i q : Nat} {fs : Array Field} {f : Field} {a b : Addr} {ti : TypeInfo} (ho : o.op = .fieldAddr s x i) (hx : ρ x = .pointer (some a)) (hs : P.underlying s = some (.struct fs)) (hf : fs[i]? = some f) (hi : P.info? f.type = some ti) (hz : ti.size ≠ 0) (hq : f.offset = q) (hb : a.add q = b) :
    (execOp ρ o).run P u = .ok (.value (.pointer (some b))) u := by
  simp [execOp, ho, hx, Instr.fieldAt, run_underlying hs, hf, Instr.sureAddr, fieldPlace, sizeOf, typeInfo, hi, hz, hq, hb]
theorem V.indexAddr {t e : TypeId} {x i : Operand} {a b : Addr} {n c : Nat} {k : IntKind} {j : Int} {ti : TypeInfo} (ho : o.op = .indexAddr t x i) (hx : ρ x = .slice (some a) n c) (hi : ρ i = .int k j) (ht : P.underlying t = some (.slice e)) (he : P.info? e = some ti) (h0 : 0 ≤ j) (h1 : j < n) {m q : Nat} (hj : j.toNat = m) (hq : ti.size = q) (hb : a.add (m * q) = b) :
    (execOp ρ o).run P u = .ok (.value (.pointer (some b))) u := by
  simp [execOp, ho, hx, hi, Instr.indexAt, asIntOf, run_underlying ht, sizeOf, typeInfo, he, h0, h1, hj, hq, hb]
theorem V.load {t : TypeId} {x : Operand} {a : Addr} {v : Value} {d : TypeDesc} (ho : o.op = .load t x) (hx : ρ x = .pointer (some a)) (ht : P.underlying t = some d) (hd : (d matches .struct _ | .array _ _) = false) (hc : u.cell? a = some v) : (execOp ρ o).run P u = .ok (.value v) u := by
  cases d <;> simp at hd <;> simp [execOp, ho, hx, Instr.loadAt, Instr.sureAddr, loadVar, isAgg, run_underlying ht, load, Sem.run, hc]
theorem run_storeVar1 {t : TypeId} {a : Addr} {v v0 : Value} {ti : TypeInfo} (h1 : v.oneCell' = true) (hi : P.info? t = some ti) (hs : ti.size = 1) (hc : u.cell? a = some v0) (hf : u.frozen? a = false) : (storeVar t a v).run P u = .ok () (u.setCell a v) := by
  have h0 : a.add 0 = a := by simp [Addr.add]
  have hst : (store a v).run P u = .ok () (u.setCell a v) := by rw [run_store P u a v _ h1, hc, hf]; rfl
  have hcs : v.cells = #[v] := by cases v <;> first | rfl | cases h1
  simp [storeVar, sizeOf, typeInfo, hi, hs, hcs, storeCells, h0, hst]
theorem V.store {t : TypeId} {x y : Operand} {a : Addr} {v v0 : Value} {ti : TypeInfo} (ho : o.op = .store t x y) (hx : ρ x = .pointer (some a)) (hy : ρ y = v) (h1 : v.oneCell' = true) (hi : P.info? t = some ti) (hs : ti.size = 1) (hc : u.cell? a = some v0) (hf : u.frozen? a = false) :
    (execOp ρ o).run P u = .ok .skip (u.setCell a v) ∨ ∃ r, (execOp ρ o).run P u = .ok (.value r) (u.setCell a v) := by
  left
  simp [execOp, ho, hx, hy, Instr.storeAt, Instr.sureAddr, run_storeVar1 h1 hi hs hc hf]
theorem V.slice {t e : TypeId} {x : Operand} {lo hi mx : Option Operand} {A : Option Addr} {n c : Nat} {v : Value} (ho : o.op = .slice t x lo hi mx) (hx : ρ x = .slice A n c) (ht : P.underlying t = some (.slice e))
    (hv : (Instr.slice t (.slice A n c) (lo.map ρ) (hi.map ρ) (mx.map ρ)).run P u = .ok v u) : (execOp ρ o).run P u = .ok (.value v) u := by
  simp [execOp, ho, hx, Instr.sliceAt, run_underlying ht, hv]
/-- 's[lo:]' -/
theorem S.from_ {t e : TypeId} {A : Option Addr} {n c j : Nat} {k : IntKind} {i : Int} {ti : TypeInfo} (ht : P.underlying t = some (.slice e)) (he : P.info? e = some ti) (hi : i = j) (hj : j ≤ n) (hc : n ≤ c) :
    (Instr.slice t (.slice A n c) (some (.int k i)) none none).run P u = .ok (.slice (if c = j then A else A.map (·.add (j * ti.size))) (n - j) (c - j)) u := by
  subst hi
  simp [Instr.slice, Instr.sliceBounds, Instr.sliceBound, asIntOf, run_underlying ht, sizeOf, typeInfo, he, hj]
  try (intro h; omega)
/-- 's[:hi]' -/
theorem S.upto {t e : TypeId} {A : Option Addr} {n c j : Nat} {k : IntKind} {i : Int} {ti : TypeInfo} (ht : P.underlying t = some (.slice e)) (he : P.info? e = some ti) (hi : i = j) (hj : j ≤ c) :
    (Instr.slice t (.slice A n c) none (some (.int k i)) none).run P u = .ok (.slice A j c) u := by
  subst hi
  have e : (if c = 0 then A else Option.map (fun x => x.add 0) A) = A := by cases A <;> simp [Addr.add]
  simp [Instr.slice, Instr.sliceBounds, Instr.sliceBound, asIntOf, run_underlying ht, sizeOf, typeInfo, he, hj, e]
/-- 's[lo:hi]' -/
theorem S.both {t e : TypeId} {A : Option Addr} {n c j m : Nat} {k k2 : IntKind} {i i2 : Int} {ti : TypeInfo} (ht : P.underlying t = some (.slice e)) (he : P.info? e = some ti) (hi : i = j) (hi2 : i2 = m) (hj : j ≤ m) (hm : m ≤ c) :
    (Instr.slice t (.slice A n c) (some (.int k i)) (some (.int k2 i2)) none).run P u = .ok (.slice (if c = j then A else A.map (·.add (j * ti.size))) (m - j) (c - j)) u := by
  subst hi hi2
  simp [Instr.slice, Instr.sliceBounds, Instr.sliceBound, asIntOf, run_underlying ht, sizeOf, typeInfo, he, hj, hm]
/-- any operation whose run is known -/
theorem V.convert {t t' : TypeId} {x : Operand} {vx v : Value} (ho : o.op = .convert t t' x) (hx : ρ x = vx) (h : (Go.convert t t' vx).run P u = .ok v u) : (execOp ρ o).run P u = .ok (.value v) u := by
  simp [execOp, ho, hx, h]
/-- a new variable -/
theorem V.box {t : TypeId} {x : Operand} {v : Value} (ho : o.op = .box t x) (hx : ρ x = v) : (execOp ρ o).run P u = .ok (.value (.pointer (some ⟨u.heap.size, 0, none⟩))) (u.alloc (.cells v.cells t)) := by
  simp [execOp, ho, hx, Instr.box, newVar, newRow]
end


end Go.Proofs.Ytihblcljkndpgaa.Sep
