/- One element of a slice, cell by cell, beside the others. No function in sight. -/
import Derived.Test.YtkhmplaocfjpjaaRet
namespace Go.Proofs.Ytkhmplaocfjpjaa.Sep
open Go.RowKit Go.Proofs.Ytkhmplaocfjpjaa.Reg
open Go.Proofs.Ytkhmplaocfjpjaa.Mem hiding Rd Own
set_option maxRecDepth 100000
section
variable {α : Type} {T : Ty α} {P : Program} {N : Nat} {E : Env} {F : Nat → Value} {ρ : Operand → Value} {H H' R : List Asn} {o : Oper} {A : Option Addr} {n c k : Nat} {l : List α} {cs cs' : List Value}
/-- a slice that starts its own row; its element k is just the cells cs -/
def elt (T : Ty α) (A : Option Addr) (n c : Nat) (l : List α) (k : Nat) (cs : List Value) : Asn where
  holds F w := n = l.length ∧ k < n ∧ n ≤ c ∧ c ≤ maxLen ∧ cs.length = T.size ∧ ∃ g cur, A = some ⟨g, 0, none⟩ ∧ (∀ b, F b ↔ b = g) ∧ w.heap[g]? = some (.cells cur T.tid (0, 0)) ∧ cur.size = c * T.size ∧ cur.toList.take (n * T.size) = T.encs (l.take k) ++ cs ++ T.encs (l.drop (k + 1))
  loc := by
    rintro F w w' ⟨h0, h1, h2, h3, h4, g, cur, h5, h6, h7, h8⟩ hk
    exact ⟨h0, h1, h2, h3, h4, g, cur, h5, h6, (hk _ ((h6 _).2 rfl)).trans h7, h8⟩
  lt := by
    rintro F w b ⟨h0, h1, h2, h3, h4, g, cur, h5, h6, h7, h8⟩ hb
    rw [(h6 _).1 hb]; exact (Array.getElem?_eq_some_iff.1 h7).1
theorem encs_split {e : α} (he : l[k]? = some e) : T.encs l = T.encs (l.take k) ++ T.enc e ++ T.encs (l.drop (k + 1)) := by
  obtain ⟨hk, rfl⟩ := List.getElem?_eq_some_iff.1 he
  rw [List.append_assoc, ← T.encs_cons, ← List.drop_eq_getElem_cons hk, ← T.encs_append, List.take_append_drop]
theorem Conv.elt {e : α} (he : l[k]? = some e) (hr : Repl (own T A n c l) [Sep.elt T A n c l k (T.enc e)] H H') : Conv E H H' := fun w hw =>
  hw.repl hr rfl rfl rfl (Nat.le_refl _) (G := fun _ => False) (fun _ _ _ => rfl) fun F1 h1 => by
    have hk := (List.getElem?_eq_some_iff.1 he).1
    obtain ⟨h0, ⟨h2, _⟩ | ⟨g, cur, h2, h3, h4, h5, h6, h7, h8⟩⟩ := h1
    · omega
    · exact ⟨F1, ⟨F1, fun _ => False, fun b => by simp, fun _ _ h => h, ⟨h0, by omega, h5, h6, T.enc_length e, g, cur, h2, h3, h4, h7, by rw [h8]; exact encs_split he⟩, fun _ h => h⟩, fun b hb => .inl hb, fun b _ hb => hb.elim⟩
theorem Conv.unelt {e : α} {l' : List α} (hl : l.set k e = l') (hr : Repl (Sep.elt T A n c l k (T.enc e)) [own T A n c l'] H H') : Conv E H H' := fun w hw =>
  hw.repl hr rfl rfl rfl (Nat.le_refl _) (G := fun _ => False) (fun _ _ _ => rfl) fun F1 h1 => by
    subst hl
    obtain ⟨h0, h1, h2, h3, h4, g, cur, h5, h6, h7, h8, h9⟩ := h1
    refine ⟨F1, ⟨F1, fun _ => False, fun b => by simp, fun _ _ h => h, ⟨by rw [List.length_set]; exact h0, .inr ⟨g, cur, h5, h6, h7, h2, h3, h8, ?_⟩⟩, fun _ h => h⟩, fun b hb => .inl hb, fun b _ hb => hb.elim⟩
    rw [h9, T.encs_set (by omega), T.encs_take, T.encs_drop]
theorem Cells.elt (h : Has (Sep.elt T A n c l k cs) H R) {q : Nat} (hq : q = k * T.size) : Cells E H ((ad A).add q) cs := by
  subst hq
  intro w hw j u hu
  obtain ⟨F0, h1, _⟩ := hw.has h
  obtain ⟨h0, h1, h2, h3, h4, g, cur, rfl, h6, h7, h8, h9⟩ := h1
  have hj := (List.getElem?_eq_some_iff.1 hu).1
  show w.cell? (((⟨g, 0, none⟩ : Addr).add (k * T.size)).add j) = _
  rw [add_none, add_none, Nat.zero_add, cell_of_row _ _ _ _ _ _ h7]
  have hlen : (T.encs (l.take k)).length = k * T.size := by rw [T.encs_length, List.length_take, Nat.min_eq_left (by omega)]
  have hkn : (k + 1) * T.size ≤ n * T.size := Nat.mul_le_mul_right _ h1
  rw [Nat.add_mul, Nat.one_mul] at hkn
  have e1 : (cur.toList.take (n * T.size))[k * T.size + j]? = some u := by
    rw [h9, List.append_assoc, List.getElem?_append_right (by omega), hlen, Nat.add_sub_cancel_left, List.getElem?_append_left hj, hu]
  rw [List.getElem?_take] at e1
  split at e1
  · simpa using e1
  · cases e1
theorem Cell.elt (h : Has (Sep.elt T A n c l k cs) H R) {q j : Nat} (hq : q = k * T.size) {v : Value} (hv : cs[j]? = some v) : Cell E H (((ad A).add q).add j) v := fun w hw => Cells.elt h hq w hw j v hv
theorem Cell.elt0 (h : Has (Sep.elt T A n c l k cs) H R) {q : Nat} (hq : q = k * T.size) {v : Value} (hv : cs[0]? = some v) : Cell E H ((ad A).add q) v := fun w hw => by have := Cells.elt h hq w hw 0 v hv; simpa [Addr.add] using this
theorem Y.loadE {t : TypeId} {x : Operand} {q j : Nat} {v : Value} {d : TypeDesc} (ho : o.op = .load t x) (hx : ρ x = .pointer (some (((ad A).add q).add j))) (ht : P.underlying t = some d) (hd : aggD d = false) (h : Has (Sep.elt T A n c l k cs) H R) (hq : q = k * T.size) (hv : cs[j]? = some v) : Yld P E H ρ o v :=
  Y.load ho hx ht hd (Cell.elt h hq hv)
theorem Y.loadE0 {t : TypeId} {x : Operand} {q : Nat} {v : Value} {d : TypeDesc} (ho : o.op = .load t x) (hx : ρ x = .pointer (some ((ad A).add q))) (ht : P.underlying t = some d) (hd : aggD d = false) (h : Has (Sep.elt T A n c l k cs) H R) (hq : q = k * T.size) (hv : cs[0]? = some v) : Yld P E H ρ o v :=
  Y.load ho hx ht hd (Cell.elt0 h hq hv)
theorem Y.loadEA {t : TypeId} {x : Operand} {q j m : Nat} {vs : List Value} {d : TypeDesc} {ti : TypeInfo} (ho : o.op = .load t x) (hx : ρ x = .pointer (some (((ad A).add q).add j))) (ht : P.underlying t = some d) (hd : aggD d = true) (hi : P.info? t = some ti) (hm : ti.size = m)
    (h : Has (Sep.elt T A n c l k cs) H R) (hq : q = k * T.size) (hs : Seg cs j m vs) : Yld P E H ρ o (.agg vs.toArray) :=
  Y.loadAgg ho hx ht hd hi (hm.trans hs.eq.1.symm) fun w hw i u hu => by
    rw [add_of_add]
    exact Cells.elt h hq w hw (j + i) u (hs.eq.2 i u hu)
theorem Y.loadEA0 {t : TypeId} {x : Operand} {q m : Nat} {vs : List Value} {d : TypeDesc} {ti : TypeInfo} (ho : o.op = .load t x) (hx : ρ x = .pointer (some ((ad A).add q))) (ht : P.underlying t = some d) (hd : aggD d = true) (hi : P.info? t = some ti) (hm : ti.size = m)
    (h : Has (Sep.elt T A n c l k cs) H R) (hq : q = k * T.size) (hs : Seg cs 0 m vs) : Yld P E H ρ o (.agg vs.toArray) :=
  Y.loadAgg ho hx ht hd hi (hm.trans hs.eq.1.symm) fun w hw i u hu => by
    have := hs.eq.2 i u hu
    rw [Nat.zero_add] at this
    exact Cells.elt h hq w hw i u this
theorem S.store1E {t : TypeId} {x y : Operand} {q j : Nat} {v : Value} {ti : TypeInfo} (ho : o.op = .store t x y) (hx : ev F x = .pointer (some (((ad A).add q).add j))) (hy : ev F y = v) (h1 : v.oneCell' = true) (hi : Try.prog.info? t = some ti) (hs : ti.size = 1) (hq : q = k * T.size)
    (hr : Repl (Sep.elt T A n c l k cs) [Sep.elt T A n c l k cs'] H H') (hj : j < cs.length) (hcs : cs.set j v = cs') : Stp Try.prog N E F H o fun r H1 => r = undef ∧ H1 = H' := by
  subst hcs hq
  intro a u ha hu Kw Q' hK
  obtain ⟨R, hhas, F0, h0⟩ := hu.repl1 hr
  obtain ⟨k0, k1, k2, k3, k4, g, cur, rfl, k6, k7, k8, k9⟩ := h0
  have hcv : v.cells = #[v] := by cases v <;> first | rfl | cases h1
  have hlen : (T.encs (l.take k)).length = k * T.size := by rw [T.encs_length, List.length_take, Nat.min_eq_left (by omega)]
  have hkn : (k + 1) * T.size ≤ n * T.size := Nat.mul_le_mul_right _ k1
  have hnc : n * T.size ≤ c * T.size := Nat.mul_le_mul_right _ k2
  rw [Nat.add_mul, Nat.one_mul] at hkn
  have e0 : ((ad (some ⟨g, 0, none⟩)).add (k * T.size)).add j = ⟨g, k * T.size + j, none⟩ := by show ((⟨g, 0, none⟩ : Addr).add _).add _ = _; rw [add_none, add_none, Nat.zero_add]
  have hst := run_storeVar_row (P := Try.prog) (u := u) (v := v) (q := k * T.size + j) hi (by rw [hcv, hs]; rfl) (by rw [hcv]; intro x hx; simp at hx; subst hx; exact h1) k7 (by rw [hcv]; simp; omega)
  unfold Oper.wp
  rw [ha.eval]
  have hrun : (execOp (ev F) o).run Try.prog u = .ok .skip (u.setRow g (cur.toList.take (k * T.size + j) ++ v.cells.toList ++ cur.toList.drop (k * T.size + j + v.cells.size)).toArray) := by
    simp only [execOp, ho, hx, hy, Instr.storeAt, Instr.sureAddr, e0, Sem.run_bind, Sem.run_pure, Result.andThen_ok, hst]
  rw [hrun]
  refine hK undef _ _ ⟨rfl, rfl⟩ (St.setRow hu hr g _ fun F1 j1 => ?_)
  obtain ⟨m0, m1, m2, m3, m4, g', cur', m5, m6, m7, m8, m9⟩ := j1
  injection m5 with m5; injection m5 with m5 _; subst m5
  rw [k7] at m7
  injection m7 with m7; injection m7 with m7 _ _
  subst m7
  have hset : cur.toList.take (k * T.size + j) ++ v.cells.toList ++ cur.toList.drop (k * T.size + j + v.cells.size) = cur.toList.set (k * T.size + j) v := by
    rw [hcv, List.set_eq_take_append_cons_drop, if_pos (by simp; omega)]
    simp
  refine ⟨(m6 _).2 rfl, m0, m1, m2, m3, by rw [List.length_set]; exact m4, g, _, rfl, m6, setRow_heap u g _ _ _ _ k7, ?_, ?_⟩
  · rw [hset]; simp; exact k8
  · rw [hset]
    show (cur.toList.set (k * T.size + j) v).take (n * T.size) = _
    rw [List.take_set, k9, List.append_assoc, List.set_append_right _ _ (by omega), hlen, Nat.add_sub_cancel_left, List.set_append_left _ _ (by omega), List.append_assoc]
theorem Conv.elt' {e : α} (he : l[k]? = some e) (hcs : T.enc e = cs) (hr : Repl (own T A n c l) [Sep.elt T A n c l k cs] H H') : Conv E H H' := by subst hcs; exact Conv.elt he hr
theorem Conv.unelt' {e : α} {l' : List α} (hcs : T.enc e = cs) (hl : l.set k e = l') (hr : Repl (Sep.elt T A n c l k cs) [own T A n c l'] H H') : Conv E H H' := by subst hcs; exact Conv.unelt hl hr
/-- a struct into the element's front -/
theorem S.storeAggE0 {t : TypeId} {x y : Operand} {q : Nat} {vs : List Value} {ti : TypeInfo} (ho : o.op = .store t x y) (hx : ev F x = .pointer (some ((ad A).add q))) (hy : ev F y = .agg vs.toArray) (h1 : vs.all Value.oneCell' = true) (hi : Try.prog.info? t = some ti) (hs : vs.length = ti.size) (hq : q = k * T.size)
    (hr : Repl (Sep.elt T A n c l k cs) [Sep.elt T A n c l k cs'] H H') (hj : vs.length ≤ cs.length) (hcs : vs ++ cs.drop vs.length = cs') : Stp Try.prog N E F H o fun r H1 => r = undef ∧ H1 = H' := by
  subst hcs hq
  intro a u ha hu Kw Q' hK
  obtain ⟨R, hhas, F0, h0⟩ := hu.repl1 hr
  obtain ⟨k0, k1, k2, k3, k4, g, cur, rfl, k6, k7, k8, k9⟩ := h0
  have hcv : (Value.agg vs.toArray).cells.toList = vs := by simp [Value.cells]
  have hcz : (Value.agg vs.toArray).cells.size = vs.length := by simp [Value.cells]
  have hlen : (T.encs (l.take k)).length = k * T.size := by rw [T.encs_length, List.length_take, Nat.min_eq_left (by omega)]
  have hkn : (k + 1) * T.size ≤ n * T.size := Nat.mul_le_mul_right _ k1
  have hnc : n * T.size ≤ c * T.size := Nat.mul_le_mul_right _ k2
  rw [Nat.add_mul, Nat.one_mul] at hkn
  have e0 : (ad (some ⟨g, 0, none⟩)).add (k * T.size) = ⟨g, k * T.size, none⟩ := by show (⟨g, 0, none⟩ : Addr).add _ = _; rw [add_none, Nat.zero_add]
  have hst := run_storeVar_row (P := Try.prog) (u := u) (v := .agg vs.toArray) (q := k * T.size) hi (by rw [hcz, hs]) (by rw [hcv]; exact List.all_eq_true.1 h1) k7 (by rw [hcz]; omega)
  rw [hcv, hcz] at hst
  unfold Oper.wp
  rw [ha.eval]
  have hrun : (execOp (ev F) o).run Try.prog u = .ok .skip (u.setRow g (cur.toList.take (k * T.size) ++ vs ++ cur.toList.drop (k * T.size + vs.length)).toArray) := by
    simp only [execOp, ho, hx, hy, Instr.storeAt, Instr.sureAddr, e0, Sem.run_bind, Sem.run_pure, Result.andThen_ok, hst]
  rw [hrun]
  refine hK undef _ _ ⟨rfl, rfl⟩ (St.setRow hu hr g _ fun F1 j1 => ?_)
  obtain ⟨m0, m1, m2, m3, m4, g', cur', m5, m6, m7, m8, m9⟩ := j1
  injection m5 with m5; injection m5 with m5 _; subst m5
  rw [k7] at m7
  injection m7 with m7; injection m7 with m7 _ _
  subst m7
  refine ⟨(m6 _).2 rfl, m0, m1, m2, m3, by simp; omega, g, _, rfl, m6, setRow_heap u g _ _ _ _ k7, ?_, ?_⟩
  · simp; omega
  · show (cur.toList.take (k * T.size) ++ vs ++ cur.toList.drop (k * T.size + vs.length)).take (n * T.size) = _
    have hp : cur.toList.take (k * T.size) = T.encs (l.take k) := by
      have := congrArg (List.take (k * T.size)) k9
      rw [List.take_take, Nat.min_eq_left (by omega), List.append_assoc, List.take_left' hlen] at this
      exact this
    have hd : (cur.toList.take (n * T.size)).drop (k * T.size + vs.length) = cs.drop vs.length ++ T.encs (l.drop (k + 1)) := by
      rw [k9, List.append_assoc, ← List.drop_drop, List.drop_left' hlen, List.drop_append_of_le_length hj]
    have hcl : (cur.toList.take (k * T.size) ++ vs).length = k * T.size + vs.length := by rw [List.length_append, hp, hlen]
    rw [List.take_append, hcl, List.take_of_length_le (by omega), ← List.drop_take, hd, hp]
    simp
end
section
variable {E : Env} {X : Type} {f : X → Asn} {l : List X} {H R : List Asn}
/-- one of the parts is another now -/
theorem Conv.swap {i : Nat} {x x' : X} (hx : l[i]? = some x) (hp : Picks [f x', each f l] H R) : Conv E H (each f (l.set i x') :: R) := by
  have hi := (List.getElem?_eq_some_iff.1 hx).1
  have h1 : Conv E H (f x' :: each f l :: R) := fun w hw => hw.picks hp
  have h2 : Conv E (f x' :: each f l :: R) (f x :: each f (l.eraseIdx i) :: f x' :: R) := Conv.out (f := f) (l := l) (Has.there Has.here) hx
  have h3 : Conv E (f x :: each f (l.eraseIdx i) :: f x' :: R) (each f (l.set i x') :: f x :: R) := Conv.in_ (f := f) (l := l.eraseIdx i) (i := i) (x := x') (.cons (.there (.there .here)) (.cons (.there .here) .nil)) (erase_set hi)
  have h4 : Conv E (each f (l.set i x') :: f x :: R) (each f (l.set i x') :: R) := fun w hw => (hw.picks (l := [f x]) (.cons (.there .here) .nil)).right
  exact h1.trans (h2.trans (h3.trans h4))
end
section
variable {P : Program} {N z : Nat} {E : Env} {Q : QF} {F : Nat → Value} {H : List Asn}
/-- an operation that yields, carried out where it stands -/
theorem Go1.val {i : Nat} {todo : Td} {l : List Oper} {Hk : List Asn} {d : Nat} {op : Op} {ty : TypeId} {pos : String} {af : Array Edge} {gd : Option (Nat × Bool)} {v : Value} (hi : nth l i = some ⟨some d, op, ty, pos, af, gd⟩) (hd : d < N) (hg : Grd l N F true gd)
    (hy : Yld P E H (ev F) ⟨some d, op, ty, pos, af, gd⟩ v) (hc : Conv E H Hk) (h : Dr P N E z l Q Hk todo (upd F d v) H) : Go1 P N E z l Q Hk i todo F H :=
  Go1.go hi (by rintro k ⟨⟩; exact hd) hg (Stp.yld hy ⟨hc, h⟩)
theorem Dr.val {i : Nat} {todo : Td} {l : List Oper} {Hk : List Asn} {d : Nat} {op : Op} {ty : TypeId} {pos : String} {af : Array Edge} {gd : Option (Nat × Bool)} {v : Value} (hi : nth l i = some ⟨some d, op, ty, pos, af, gd⟩) (hd : d < N) (hg : Grd l N F true gd)
    (hy : Yld P E H (ev F) ⟨some d, op, ty, pos, af, gd⟩ v) (hc : Conv E H Hk) (h : Dr P N E z l Q Hk todo (upd F d v) H) : Dr P N E z l Q Hk (.one i true todo) F H :=
  Dr.all (Go1.val hi hd hg hy hc h)
/-- behind z, as one of two -/
theorem Go1.goZs {todo : Td} {l : List Oper} {Hk : List Asn} {d : Option Nat} {op : Op} {ty : TypeId} {pos : String} {af : Array Edge} {gd : Option (Nat × Bool)} {K : Value → List Asn → Prop} (hi : nth l z = some ⟨d, op, ty, pos, af, gd⟩) (hd : ∀ k, d = some k → k < N) (hg : Grd l N F true gd)
    (h : Stp P N E F H ⟨d, op, ty, pos, af, gd⟩ K) (hk : ∀ v H', K v H' → DrA P N E z l Q todo (updo F d v) H') : Go1 P N E z l Q Hk z todo F H := by
  refine ⟨fun listed a u hcl hs hc ha hu hk2 => ?_⟩
  have hi' : l.toArray[z]? = some _ := (nth_eq l z).symm.trans hi
  unfold wpOp
  simp only [hi', hg.wanted (o := ⟨d, op, ty, pos, af, gd⟩) ha, if_true]
  refine .inl (h a u ha hu _ _ ?_)
  intro v H' u' hA hu'
  refine ⟨fun hz => absurd rfl hz, fun _ => (hk v H' hA).get _ _ u' hc ?_ hu'⟩
  cases d with
  | none => exact ha
  | some k => exact ha.put (hd k rfl) v
end
theorem sCatL {a b : List Value} (h : a = b := by first | (conv => lhs; simp only [List.length_cons, List.length_nil, List.drop_succ_cons, List.drop_zero, List.drop_nil, List.cons_append, List.nil_append, Nat.reduceAdd]) | rfl) : a = b := h
end Go.Proofs.Ytkhmplaocfjpjaa.Sep
