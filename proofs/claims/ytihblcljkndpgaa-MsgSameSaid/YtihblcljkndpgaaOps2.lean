/- More operations: make, an array's slice, copy. No program in sight. -/
import Derived.Test.YtihblcljkndpgaaOps
namespace Go.Proofs.Ytihblcljkndpgaa.Sep
open Go.RowKit Go.Proofs.Ytihblcljkndpgaa.Reg
open Go.Proofs.Ytihblcljkndpgaa.Mem hiding Rd Own

section
variable {N : Nat} {E : Env} {F : Nat → Value} {H H' R : List Asn} {ρ : Operand → Value} {o : Oper} {α β : Type} {T : Ty α} {U : Ty β} {A : Option Addr} {n c : Nat} {l : List α}

/-! ### make -/
theorem madeCells_ty (T : Ty α) (z : α) (hz : T.val z = T.zero) (k : Nat) : (madeCells T.zero.cells (k * T.size)).toList = T.encs (List.replicate k z) := by
  have hs := T.hzero
  apply List.ext_getElem?
  intro i
  by_cases hi : i < k * T.size
  · have hq : i / T.size < k := Nat.div_lt_of_lt_mul (by rw [Nat.mul_comm]; exact hi)
    have hr : i % T.size < T.size := Nat.mod_lt _ T.hpos
    have h1 : (List.replicate k z)[i / T.size]? = some z := by rw [List.getElem?_replicate, if_pos hq]
    have h2 : (T.enc z)[i % T.size]? = some ((T.enc z)[i % T.size]'(by rw [T.enc_length]; exact hr)) := List.getElem?_eq_getElem _
    have h3 := T.encs_at h1 h2
    rw [show i / T.size * T.size + i % T.size = i by rw [Nat.mul_comm]; exact Nat.div_add_mod i T.size] at h3
    rw [h3]
    have h4 : i % T.zero.cells.size < T.zero.cells.size := by rw [hs]; exact hr
    simp [madeCells, hi, Ty.enc, hz, hs]
    rw [getElem!_pos T.zero.cells (i % T.size) (by rw [hs]; exact hr)]
  · rw [List.getElem?_eq_none (by simp [madeCells]; omega), List.getElem?_eq_none (by rw [T.encs_length, List.length_replicate]; omega)]
theorem S.makeSliceK {t : TypeId} {x y : Operand} {k k2 : IntKind} {i : Int} {z : α} {m : Nat} (ho : o.op = .makeSlice t x y) (hx : ev F x = .int k i) (hy : ev F y = .int k2 i) (hj : i.toNat = m) (h0 : 0 ≤ i) (hz : T.val z = T.zero) (ht : Try.prog.underlying t = some (.slice T.tid)) {by_ : Nat} (hb : T.bytes = by_) (hbig : by_ * i ≤ 281474976710656) (h63 : i ≤ 9223372036854775807) :
    Stp Try.prog N E F H o fun r H1 => ∃ g, r = .slice (some ⟨g, 0, none⟩) m m ∧ H1 = own T (some ⟨g, 0, none⟩) m m (List.replicate m z) :: H := by
  subst hj hb
  intro a u ha hu Kw Q' hK
  obtain ⟨ti, hi, hzz, hsz, hbt⟩ := T.infoOf
  have hrun := run_make (P := Try.prog) u t T.tid ti T.zero ht hi hzz k k2 i i h0 (Int.le_refl _) (by rw [hbt]; exact hbig) h63
  unfold Oper.wp
  rw [ha.eval]
  have hx2 : (execOp (ev F) o).run Try.prog u = .ok (.value (.slice (some ⟨u.heap.size, 0, none⟩) i.toNat i.toNat)) (u.alloc (.cells (madeCells T.zero.cells (i.toNat * ti.size)) T.tid)) := by
    simp [execOp, ho, hx, hy, hrun]
  rw [hx2]
  refine hK _ _ _ ⟨u.heap.size, rfl, rfl⟩ ?_
  refine hu.grow (l := [own T (some ⟨u.heap.size, 0, none⟩) i.toNat i.toNat (List.replicate i.toNat z)]) rfl rfl rfl (by simp) (fun b hb => Below.heap_alloc _ _ _ hb) (F1 := fun b => b = u.heap.size) ⟨_, fun _ => False, fun b => by simp, fun b _ h => h, ⟨by simp, .inr ⟨u.heap.size, _, rfl, fun b => Iff.rfl, heap_alloc_new _ _, Nat.le_refl _, ?_, ?_, ?_⟩⟩, fun b h => h⟩ (fun b hb => by omega)
  · unfold maxLen; omega
  · rw [hsz, size_madeCells]
  · rw [hsz, madeCells_ty T z hz, List.take_of_length_le (by rw [T.encs_length]; simp)]

/-- 'a[:]' of an array behind a pointer -/
theorem Y.sliceArr {P : Program} {t e : TypeId} {x : Operand} {a : Addr} {m : Nat} {ti : TypeInfo} (ho : o.op = .slice t x none none none) (hx : ρ x = .pointer (some a)) (ht : P.underlying t = some (.array m e)) (hi : P.info? e = some ti) : Yld P E H ρ o (.slice (some a) m m) := by
  intro u _
  have e0 : (if m = 0 then a else a.add 0) = a := by split <;> simp [Addr.add]
  simp [execOp, ho, hx, Instr.sliceAt, run_underlying ht, Instr.sureAddr, Instr.sliceBounds, sizeOf, typeInfo, hi]
  try (intro _; simp [Addr.add])

/-! ### copy into an array of a slice -/
theorem own_patch {F1 : Nat → Prop} {u : World} {g k j : Nat} {e e' : α} {cur : Array Value} {vs : List Value} (h0 : (own T (some ⟨g, 0, none⟩) n c l).holds F1 u) (hh : u.heap[g]? = some (.cells cur T.tid (0, 0))) (he : l[k]? = some e)
    (hjs : j + vs.length ≤ T.size) (hv : (T.enc e).take j ++ vs ++ (T.enc e).drop (j + vs.length) = T.enc e') :
    k * T.size + j + vs.length ≤ cur.size ∧ F1 g ∧ (own T (some ⟨g, 0, none⟩) n c (l.set k e')).holds F1 (u.setRow g (cur.toList.take (k * T.size + j) ++ vs ++ cur.toList.drop (k * T.size + j + vs.length)).toArray) := by
  have hk := (List.getElem?_eq_some_iff.1 he).1
  have hn := h0.1
  obtain ⟨m1, _, _, cur', m2, m3, m4, m5, m6⟩ := own_row (g := g) (q := 0) h0 rfl (by omega)
  rw [hh] at m2
  injection m2 with m2; injection m2 with m2 _ _
  subst m2
  have hFF : ∀ b, F1 b ↔ b = g := by
    obtain ⟨_, ⟨h6, _⟩ | ⟨g', _, h6, h7, _⟩⟩ := h0
    · omega
    · injection h6 with h6; injection h6 with h6; subst h6; exact h7
  have hlen : (k + 1) * T.size ≤ n * T.size := Nat.mul_le_mul_right _ (by omega)
  have hl2 : (k + 1) * T.size = k * T.size + T.size := by rw [Nat.add_mul, Nat.one_mul]
  have hnc : n * T.size ≤ c * T.size := Nat.mul_le_mul_right _ m3
  refine ⟨by omega, m1, by rw [List.length_set]; exact hn, .inr ⟨g, _, rfl, hFF, setRow_heap u g _ _ _ _ hh, m3, m4, ?_, ?_⟩⟩
  · simp; omega
  · rw [T.encs_set hk, ← hv]
    have hgete : T.enc e = ((T.encs l).drop (k * T.size)).take T.size := by
      rw [T.encs_drop, List.drop_eq_getElem_cons hk, T.encs_cons, List.take_left' (T.enc_length _)]
      rw [(List.getElem?_eq_some_iff.1 he).2]
    rw [hgete, ← m6, hl2]
    refine seg_eq _ _ _ hjs (by omega) ?_
    rw [Array.length_toList, m5]
    exact hnc
theorem run_firstCells {X : Option Addr} {nx cx : Nat} {l2 : List β} {u : World} (h : RdH E H U X nx cx l2) (hu : St E H u) : (Builtin.firstCells U.size nx (.slice X nx cx)).run Try.prog u = .ok (U.encs l2).toArray u := by
  obtain ⟨h0, h1, h2, h3⟩ := h u hu
  have hl : (U.encs l2).length = nx * U.size := by rw [U.encs_length, h0]
  rcases h3 with h3 | ⟨a, rfl, hc⟩
  · subst h3
    have h4 : U.encs l2 = [] := List.eq_nil_of_length_eq_zero (by rw [hl, Nat.zero_mul])
    rw [h4]
    cases X with
    | none => rfl
    | some a =>
      have := run_loadCells_list (P := Try.prog) u a [] (by simp)
      simpa [Builtin.firstCells] using this
  · have := run_loadCells_list (P := Try.prog) u a (U.encs l2) hc
    rw [hl] at this
    simpa [Builtin.firstCells] using this
theorem S.copyInK {m : Nat} {xs : α → List β} {d s : Operand} {t t2 : TypeId} {k q cd nx cx : Nat} {X : Option Addr} {l2 : List β} {e e' : α} (ho : o.op = .call { callee := .builtin .copy, args := #[d, s], argTypes := #[t, t2] })
    (hd : ev F d = .slice (some ((ad A).add q)) m cd) (hs : ev F s = .slice X nx cx) (hA : Arr T U m xs) (hr : Repl (own T A n c l) [own T A n c (l.set k e')] H H') (hrd : RdH E H U X nx cx l2) (he : l[k]? = some e) (hq : q = k * T.size) (hn : nx ≤ m)
    (hv : xs e' = l2 ++ (xs e).drop nx) (ht : Try.prog.underlying t = some (.slice U.tid)) (hm : m ≤ maxLen) : Stp Try.prog N E F H o fun r H1 => r = .int .i64 (nx : Int) ∧ H1 = H' := by
  subst hq
  intro a u ha hu Kw Q' hK
  obtain ⟨R, hhas, F0, h0⟩ := hu.repl1 hr
  have hk := (List.getElem?_eq_some_iff.1 he).1
  have hn0 := h0.1
  obtain ⟨g, hA0⟩ : ∃ g, A = some ⟨g, 0, none⟩ := by
    obtain ⟨_, ⟨rfl, h2, _⟩ | ⟨g, cur, rfl, _⟩⟩ := h0
    · omega
    · exact ⟨g, rfl⟩
  subst hA0
  obtain ⟨hF, _, _, cur, hh, h2, h3, h4, h5⟩ := own_row (g := g) (q := 0) h0 rfl (by omega)
  obtain ⟨k0, _, _, _⟩ := hrd u hu
  have hfc := run_firstCells hrd hu
  have hvl : (U.encs l2).length = nx * U.size := by rw [U.encs_length, k0]
  have hms : m * U.size = T.size := by have h1 := (hA e).1; have h2 := (hA e).2; rw [← T.enc_length e, h1, U.encs_length, h2]
  have hle : nx * U.size ≤ m * U.size := Nat.mul_le_mul_right _ hn
  have hpe : (T.enc e).take 0 ++ U.encs l2 ++ (T.enc e).drop (0 + (U.encs l2).length) = T.enc e' := by
    rw [(hA e').1, hv, U.encs_append, (hA e).1, List.take_zero, List.nil_append, Nat.zero_add, hvl, U.encs_drop]
  have hp : ∀ F1, (own T (some ⟨g, 0, none⟩) n c l).holds F1 u → _ := fun F1 h => own_patch h hh he (by rw [Nat.zero_add, hvl, ← hms]; exact hle) hpe
  have hst := run_storeCells_at Try.prog g (k * T.size) T.tid (U.encs l2) 0 cur u hh (by have := (hp F0 h0).1; omega) (U.encs_hone l2)
  obtain ⟨tu, hi, _, hsz, _⟩ := U.infoOf
  have e0 : (ad (some ⟨g, 0, none⟩)).add (k * T.size) = ⟨g, k * T.size, none⟩ := by show (⟨g, 0, none⟩ : Addr).add _ = _; rw [add_none, Nat.zero_add]
  have hmin : Nat.min nx m = nx := Nat.min_eq_left hn
  unfold Oper.wp
  rw [ha.eval]
  have hw : IntKind.i64.wrap (nx : Int) = nx := IntWalk.i64_in _ (by unfold maxLen at hm; omega)
  have hrun : (execOp (ev F) o).run Try.prog u = .ok (.value (.int .i64 (nx : Int))) (u.setRow g (cur.toList.take (k * T.size + 0) ++ U.encs l2 ++ cur.toList.drop (k * T.size + 0 + (U.encs l2).length)).toArray) := by
    simp [execOp, ho, resolve, invoke, builtin, hd, hs, Builtin.copy_, run_underlying ht, Builtin.lenOf, hmin, sizeOf, typeInfo, hi, hsz, hfc, e0, hst, goInt, hw]
  rw [hrun]
  exact hK _ _ _ ⟨rfl, rfl⟩ (St.setRow hu hr g _ fun F1 k1 => ⟨(hp F1 k1).2.1, (hp F1 k1).2.2⟩)

/-! ### a new variable; whole structs -/
theorem S.allocK {P : Program} {t : TypeId} {z : List Value} (ho : o.op = .alloc t) (hz : ((P.info? t).bind (·.zero)).map (·.cells.toList) = some z) : Stp P N E F H o fun r H' => ∃ g, r = .pointer (some ⟨g, 0, none⟩) ∧ H' = blk g t z :: H := by
  intro a u ha hu Kw Q' hK
  cases hi : P.info? t with
  | none => simp [hi] at hz
  | some ti =>
    cases hzz : ti.zero with
    | none => simp [hi, hzz] at hz
    | some zv =>
      simp [hi, hzz] at hz
      have hrun : (execOp (ev F) o).run P u = .ok (.value (.pointer (some ⟨u.heap.size, 0, none⟩))) (u.alloc (.cells zv.cells t)) := by
        simp [execOp, ho, Instr.alloc, newVar, newRow, zeroValue, typeInfo, hi, hzz]
      unfold Oper.wp
      rw [ha.eval, hrun]
      refine hK _ _ _ ⟨u.heap.size, rfl, rfl⟩ ?_
      refine hu.grow (l := [blk u.heap.size t z]) rfl rfl rfl (by simp) (fun b hb => Below.heap_alloc _ _ _ hb) (F1 := fun b => b = u.heap.size) ⟨_, fun _ => False, fun b => by simp, fun b _ h => h, ⟨fun b => Iff.rfl, ?_⟩, fun b h => h⟩ (fun b hb => by omega)
      rw [heap_alloc_new, ← hz]
/-- the part vs of n cells at k -/
inductive Seg : List Value → Nat → Nat → List Value → Prop
  | done {cs : List Value} : Seg cs 0 0 []
  | here {c : Value} {cs vs : List Value} {n : Nat} (h : Seg cs 0 n vs) : Seg (c :: cs) 0 (n + 1) (c :: vs)
  | next {c : Value} {cs vs : List Value} {k n : Nat} (h : Seg cs k n vs) : Seg (c :: cs) (k + 1) n vs
theorem Seg.eq {cs vs : List Value} {k n : Nat} (h : Seg cs k n vs) : vs.length = n ∧ ∀ j v, vs[j]? = some v → cs[k + j]? = some v := by
  induction h with
  | done => simp
  | @here c cs vs n h ih =>
    refine ⟨by simp [ih.1], fun j v hj => ?_⟩
    cases j with
    | zero => simpa using hj
    | succ j => have := ih.2 j v (by simpa using hj); rw [Nat.zero_add] at this ⊢; simpa using this
  | @next c cs vs k n h ih =>
    refine ⟨ih.1, fun j v hj => ?_⟩
    have := ih.2 j v hj
    rw [show k + 1 + j = (k + j) + 1 by omega]
    simpa using this
theorem Cells.seg {g : Nat} {t : TypeId} {cs vs : List Value} {i m : Nat} (h : Has (Sep.blk g t cs) H R) (hs : Seg cs i m vs) : Cells E H ⟨g, i, none⟩ vs := fun w hw j u hu => by
  obtain ⟨F0, ⟨_, h1⟩, _⟩ := hw.has h
  rw [add_none, cell_of_row _ _ _ _ _ _ h1]
  simpa using hs.eq.2 j u hu
/-- a struct out of a block -/
theorem Y.loadBlk {P : Program} {t : TypeId} {x : Operand} {g i m : Nat} {bt : TypeId} {cs vs : List Value} {d : TypeDesc} {ti : TypeInfo} (ho : o.op = .load t x) (hx : ρ x = .pointer (some ⟨g, i, none⟩)) (ht : P.underlying t = some d) (hd : aggD d = true) (hi : P.info? t = some ti) (hm : ti.size = m)
    (hb : Has (blk g bt cs) H R) (hs : Seg cs i m vs) : Yld P E H ρ o (.agg vs.toArray) :=
  Y.loadAgg ho hx ht hd hi (hm.trans hs.eq.1.symm) (Cells.seg hb hs)
/-- a struct out of an element -/
theorem Y.loadPart {P : Program} {t : TypeId} {x : Operand} {q j k m : Nat} {e : α} {vs : List Value} {d : TypeDesc} {ti : TypeInfo} (ho : o.op = .load t x) (hx : ρ x = .pointer (some (((ad A).add q).add j))) (h : RdH E H T A n c l) (he : l[k]? = some e) (hq : q = k * T.size) (ht : P.underlying t = some d) (hd : aggD d = true) (hi : P.info? t = some ti) (hm : ti.size = m)
    (hs : Seg (T.enc e) j m vs) : Yld P E H ρ o (.agg vs.toArray) := by
  refine Y.loadAgg ho hx ht hd hi (hm.trans hs.eq.1.symm) fun w hw i u hu => ?_
  rw [add_of_add]
  exact Cells.elem h he hq w hw _ u (hs.eq.2 i u hu)
/-- a struct into a block -/
theorem S.storeAggK {P : Program} {t : TypeId} {x y : Operand} {g i : Nat} {vs : List Value} {ti : TypeInfo} {bt : TypeId} {cs cs' : List Value} (ho : o.op = .store t x y) (hx : ev F x = .pointer (some ⟨g, i, none⟩)) (hy : ev F y = .agg vs.toArray) (h1 : vs.all Value.oneCell' = true) (hi : P.info? t = some ti) (hs : vs.length = ti.size)
    (hr : Repl (blk g bt cs) [blk g bt cs'] H H') (hcs : Put cs i vs cs') : Stp P N E F H o fun r H1 => r = undef ∧ H1 = H' := by
  have h2 := hcs.eq
  refine S.store ho hx hy ?_ hi (by simpa [Value.cells] using hs) hr (by simpa [Value.cells] using h2.1) ?_ ⟨rfl, rfl⟩
  · intro v hv
    exact List.all_eq_true.1 h1 v (by simpa [Value.cells] using hv)
  · rw [← h2.2, put1_eq _ _ _ h2.1]
    simp [Value.cells]
/-- a slice, nil or not -/
theorem Y.fieldL {P : Program} {s : TypeId} {x : Operand} {i : Nat} {fs : Array Field} {f : Field} {vs : List Value} {d : TypeDesc} {v : Value} (ho : o.op = .field s x i) (hx : ρ x = .agg vs.toArray) (hs : P.underlying s = some (.struct fs)) (hf : fs[i]? = some f)
    (ht : P.underlying f.type = some d) (hd : aggD d = false) (hv : vs[f.offset]? = some v) : Yld P E H ρ o v :=
  Y.field1 ho hx hs hf ht hd (by simpa using hv)
theorem Y.fieldS {P : Program} {s : TypeId} {x : Operand} {i j m : Nat} {fs : Array Field} {f : Field} {cs vs : List Value} {d : TypeDesc} {ti : TypeInfo} (ho : o.op = .field s x i) (hx : ρ x = .agg cs.toArray) (hs : P.underlying s = some (.struct fs)) (hf : fs[i]? = some f)
    (ht : P.underlying f.type = some d) (hd : aggD d = true) (hi : P.info? f.type = some ti) (hj : f.offset = j) (hm : ti.size = m) (hv : Seg cs j m vs) : Yld P E H ρ o (.agg vs.toArray) := by
  subst hj hm
  refine Y.fieldAgg ho hx hs hf ht hd hi ?_
  apply Array.ext'
  have h := hv.eq
  simp only [List.extract_toArray]
  apply List.ext_getElem?
  intro k
  simp only [List.extract_eq_take_drop, List.getElem?_take, List.getElem?_drop]
  split
  · rename_i hk
    have hk2 : k < vs.length := by omega
    rw [List.getElem?_eq_getElem hk2]
    exact h.2 k _ (List.getElem?_eq_getElem hk2)
  · rw [List.getElem?_eq_none (by omega)]
theorem run_equal_sl {P : Program} {u : World} (d : Nat) {t e : TypeId} (ht : P.underlying t = some (.slice e)) (A : Option Addr) (n c : Nat) : (Op.equalIn (d + 1) t (.slice A n c) (.slice none 0 0)).run P u = .ok A.isNone u := by
  cases A <;> simp [Op.equalIn, run_underlying ht]
theorem run_neq_sl {P : Program} {u : World} {t e : TypeId} (ht : P.underlying t = some (.slice e)) (A : Option Addr) (n c : Nat) : (binOp .neq t (.slice A n c) (.slice none 0 0)).run P u = .ok (.bool A.isSome) u := by
  simp only [binOp]
  cases A <;> simp [Op.equal, Op.maxDepth, run_equal_sl 9999 ht]
theorem run_eql_sl {P : Program} {u : World} {t e : TypeId} (ht : P.underlying t = some (.slice e)) (A : Option Addr) (n c : Nat) : (binOp .eql t (.slice A n c) (.slice none 0 0)).run P u = .ok (.bool A.isNone) u := by
  simp only [binOp]
  cases A <;> simp [Op.equal, Op.maxDepth, run_equal_sl 9999 ht]
theorem V.eqlN {P : Program} {x y : Operand} {t t' e : TypeId} {n c : Nat} {A : Option Addr} {u : World} (ho : o.op = .binOp .eql t x y t') (ht : P.underlying t = some (.slice e)) (hx : ρ x = .slice A n c) (hy : ρ y = .slice none 0 0) : (execOp ρ o).run P u = .ok (.value (.bool A.isNone)) u := by
  have h := run_eql_sl (u := u) ht A n c
  simp only [execOp, ho, hx, hy, eqGuard]
  simp [h]
theorem V.neqN {P : Program} {x y : Operand} {t t' e : TypeId} {n c : Nat} {A : Option Addr} {u : World} (ho : o.op = .binOp .neq t x y t') (ht : P.underlying t = some (.slice e)) (hx : ρ x = .slice A n c) (hy : ρ y = .slice none 0 0) : (execOp ρ o).run P u = .ok (.value (.bool A.isSome)) u := by
  have h := run_neq_sl (u := u) ht A n c
  simp only [execOp, ho, hx, hy, eqGuard]
  simp [h]
theorem Conv.nil0 (T : Ty α) (A : Option Addr) : Conv E H (own T A 0 0 [] :: H) := fun w hw =>
  hw.grow (l := [own T A 0 0 []]) rfl rfl rfl (Nat.le_refl _) (fun _ _ => rfl) (F1 := fun _ => False) ⟨fun _ => False, fun _ => False, fun b => by simp, fun _ h => h.elim, ⟨rfl, .inl ⟨rfl, rfl, fun _ h => h⟩⟩, fun _ h => h⟩ (fun _ h => h.elim)
end
theorem sSeg {cs : List Value} {k n : Nat} {vs : List Value} (h : Seg cs k n vs := by (iterate 40 first | exact Seg.done | apply Seg.here | apply Seg.next | skip); first | done | fail) : Seg cs k n vs := h
end Go.Proofs.Ytihblcljkndpgaa.Sep
