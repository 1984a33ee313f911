/- What operations on memory do to parts. No program in sight. -/
import Derived.Test.YtihblcljkndpgaaRun
import Derived.Laws.Tables
import Derived.Laws.MakeOwn
namespace Go.Proofs.Ytihblcljkndpgaa.Sep
open Go.RowKit Go.Proofs.Ytihblcljkndpgaa.Mem Go.Proofs.Ytihblcljkndpgaa.Reg

section
variable {P : Program} {N : Nat} {E : Env} {F : Nat → Value} {H H' R : List Asn} {ρ : Operand → Value} {o : Oper} {K : Value → List Asn → Prop}

theorem V.shl8 {x y : Operand} {t t' : TypeId} {k k2 : IntKind} {a c : Int} {u : World} (ho : o.op = .binOp .shl t x y t') (hx : ρ x = .int k a) (hy : ρ y = .int k2 8) (hr : k.wrap (a * 256) = c) : (execOp ρ o).run P u = .ok (.value (.int k c)) u := by
  refine V.shl ho hx hy (by omega) ?_
  subst hr
  cases k <;> first | rfl | (simp [IntKind.bits])
theorem V.max {x y : Operand} {tys : Array TypeId} {k : IntKind} {a b : Int} {u : World} (ho : o.op = .call { callee := .builtin .max, args := #[x, y], argTypes := tys }) (hx : ρ x = .int k a) (hy : ρ y = .int k b) : (execOp ρ o).run P u = .ok (.value (.int k (Max.max a b))) u := by
  have e : (if b > a then b else a) = Max.max a b := by rw [Int.max_def]; split <;> split <;> omega
  have h := run_max_int2 (P := P) (w := u) tys o.type k k a b
  rw [e] at h
  simp [execOp, ho, resolve, hx, hy, invoke, builtin, h]
theorem V.min {x y : Operand} {tys : Array TypeId} {k : IntKind} {a b : Int} {u : World} (ho : o.op = .call { callee := .builtin .min, args := #[x, y], argTypes := tys }) (hx : ρ x = .int k a) (hy : ρ y = .int k b) : (execOp ρ o).run P u = .ok (.value (.int k (Min.min a b))) u := by
  have e : (if b < a then b else a) = Min.min a b := by rw [Int.min_def]; split <;> split <;> omega
  have h := run_min_int2 (P := P) (w := u) tys o.type k k a b
  rw [e] at h
  simp [execOp, ho, resolve, hx, hy, invoke, builtin, h]
/-! ### readings -/
theorem Y.load {t : TypeId} {x : Operand} {a : Addr} {v : Value} {d : TypeDesc} (ho : o.op = .load t x) (hx : ρ x = .pointer (some a)) (ht : P.underlying t = some d) (hd : aggD d = false) (hc : Cell E H a v) : Yld P E H ρ o v :=
  fun u hu => V.load ho hx ht (by cases d <;> first | rfl | cases hd) (hc u hu)
theorem run_loadVar_agg {t : TypeId} {a : Addr} {vs : List Value} {d : TypeDesc} {ti : TypeInfo} {u : World} (ht : P.underlying t = some d) (hd : aggD d = true) (hi : P.info? t = some ti) (hs : ti.size = vs.length)
    (hc : ∀ j v, vs[j]? = some v → u.cell? (a.add j) = some v) : (loadVar t a).run P u = .ok (.agg vs.toArray) u := by
  have hl := run_loadCells_list (P := P) u a vs hc
  cases d <;> simp [aggD] at hd <;> simp [loadVar, isAgg, run_underlying ht, sizeOf, typeInfo, hi, hs, hl]
theorem Y.loadAgg {t : TypeId} {x : Operand} {a : Addr} {vs : List Value} {d : TypeDesc} {ti : TypeInfo} (ho : o.op = .load t x) (hx : ρ x = .pointer (some a)) (ht : P.underlying t = some d) (hd : aggD d = true) (hi : P.info? t = some ti) (hs : ti.size = vs.length)
    (hc : Cells E H a vs) : Yld P E H ρ o (.agg vs.toArray) := by
  intro u hu
  have h := run_loadVar_agg (u := u) ht hd hi hs (hc u hu)
  simp [execOp, ho, hx, Instr.loadAt, Instr.sureAddr, h]
section
variable {α : Type} {T : Ty α} {A : Option Addr} {n c : Nat} {l : List α}
/-- an element -/
theorem Y.loadElem {x : Operand} {t : TypeId} {k q : Nat} {e : α} (ho : o.op = .load t x) (hx : ρ x = .pointer (some ((ad A).add q))) (h : RdH E H T A n c l) (he : l[k]? = some e) (hq : q = k * T.size) (ht : T.tid = t) : Yld Try.prog E H ρ o (T.val e) := by
  subst hq ht
  have hi := T.hinfo
  cases hj : Try.prog.info? T.tid with
  | none => simp [hj] at hi
  | some ti =>
    simp [hj] at hi
    rcases T.hagg with ⟨h1, h2⟩ | ⟨h1, h2⟩
    · obtain ⟨d, hd, hm⟩ := Option.map_eq_some_iff.1 h1
      obtain ⟨cs, hcs⟩ := h2 e
      have := Y.loadAgg (P := Try.prog) (E := E) (H := H) ho hx hd hm hj (vs := T.enc e) (by rw [T.enc_length]; exact hi.2.1) (Cells.elem h he rfl)
      have e2 : Value.agg (T.enc e).toArray = T.val e := by simp [Ty.enc, hcs, Value.cells]
      rwa [e2] at this
    · obtain ⟨d, hd, hm⟩ := Option.map_eq_some_iff.1 h1
      have hv : (T.enc e)[0]? = some (T.val e) := by
        have := h2 e
        unfold Ty.enc
        cases hq : T.val e <;> simp [hq, Value.oneCell', Value.cells] at this ⊢
      exact Y.load ho hx hd hm (Cell.elem0 h he rfl hv)
theorem Y.indexAddr {t : TypeId} {x i : Operand} {k : IntKind} {j : Int} {m : Nat} {e : α} (ho : o.op = .indexAddr t x i) (hx : ρ x = .slice A n c) (hi : ρ i = .int k j) (h : RdH E H T A n c l) (hj : j.toNat = m) (h0 : 0 ≤ j) (he : l[m]? = some e) (ht : Try.prog.underlying t = some (.slice T.tid)) {q : Nat} (hq : m * T.size = q) :
    Yld Try.prog E H ρ o (.pointer (some ((ad A).add q))) := by
  subst hq
  intro u hu
  obtain ⟨h1, h2, h3, h4⟩ := h u hu
  have hk := (List.getElem?_eq_some_iff.1 he).1
  have hinf := T.hinfo
  cases hq : Try.prog.info? T.tid with
  | none => simp [hq] at hinf
  | some ti =>
    simp [hq] at hinf
    rcases h4 with h4 | ⟨a, rfl, _⟩
    · omega
    · exact V.indexAddr ho hx hi ht hq h0 (by omega) hj hinf.2.1 rfl
theorem Y.len {x : Operand} {t : TypeId} (ho : o.op = .call { callee := .builtin .len, args := #[x], argTypes := #[t] }) (hx : ρ x = .slice A n c) (h : RdH E H T A n c l) (ht : Try.prog.underlying t = some (.slice T.tid)) : Yld Try.prog E H ρ o (.int .i64 n) := by
  intro u hu
  obtain ⟨_, h1, h2, _⟩ := h u hu
  exact V.len ho ht hx (Nat.le_trans h1 h2)
theorem Ty.infoOf (T : Ty α) : ∃ ti, Try.prog.info? T.tid = some ti ∧ ti.zero = some T.zero ∧ ti.size = T.size ∧ ti.bytes = T.bytes := by
  have hi := T.hinfo
  cases hj : Try.prog.info? T.tid with
  | none => simp [hj] at hi
  | some ti => simp [hj] at hi; exact ⟨ti, rfl, hi.1, hi.2.1, hi.2.2⟩
/-- 's[lo:hi:max]', some of them none -/
theorem Y.sliceLo {t : TypeId} {x lo : Operand} {k : IntKind} {i : Int} {j : Nat} (ho : o.op = .slice t x (some lo) none none) (hx : ρ x = .slice A n c) (hlo : ρ lo = .int k i) (h : RdH E H T A n c l) (hj : i.toNat = j) (h0 : 0 ≤ i) (hjn : j ≤ n) (ht : Try.prog.underlying t = some (.slice T.tid)) :
    Yld Try.prog E H ρ o (.slice (if c = j then A else A.map (·.add (j * T.size))) (n - j) (c - j)) := by
  intro u hu
  subst hj
  obtain ⟨_, h1, h2, _⟩ := h u hu
  obtain ⟨ti, hi, _, hsz, _⟩ := T.infoOf
  have h0n : i.toNat ≤ n ↔ i ≤ n := by omega
  simp [execOp, ho, hx, Instr.sliceAt, Instr.slice, Instr.sliceBounds, Instr.sliceBound, asIntOf, run_underlying ht, sizeOf, typeInfo, hi, hlo, h0, h0n.1 hjn, hsz]
  try (intro h; omega)
theorem Y.sliceHi {t : TypeId} {x hi : Operand} {k : IntKind} {i : Int} {j : Nat} (ho : o.op = .slice t x none (some hi) none) (hx : ρ x = .slice A n c) (hhi : ρ hi = .int k i) (h : RdH E H T A n c l) (hj : i.toNat = j) (h0 : 0 ≤ i) (hjn : j ≤ n) (ht : Try.prog.underlying t = some (.slice T.tid)) :
    Yld Try.prog E H ρ o (.slice A j c) := by
  intro u hu
  subst hj
  obtain ⟨_, h1, h2, _⟩ := h u hu
  obtain ⟨ti, hi, _, hsz, _⟩ := T.infoOf
  have e : (if c = 0 then A else Option.map (fun x => x.add 0) A) = A := by cases A <;> simp [Addr.add]
  have h0n : i ≤ c := by omega
  simp [execOp, ho, hx, Instr.sliceAt, Instr.slice, Instr.sliceBounds, Instr.sliceBound, asIntOf, run_underlying ht, sizeOf, typeInfo, hi, hhi, h0, h0n, e]
theorem Y.sliceHiMax {t : TypeId} {x hi mx : Operand} {k k2 : IntKind} {i i2 : Int} {j m : Nat} (ho : o.op = .slice t x none (some hi) (some mx)) (hx : ρ x = .slice A n c) (hhi : ρ hi = .int k i) (hmx : ρ mx = .int k2 i2) (h : RdH E H T A n c l) (hj : i.toNat = j) (h0 : 0 ≤ i) (hm : i2.toNat = m) (h02 : 0 ≤ i2) (hjm : j ≤ m) (hjn : m ≤ n) (ht : Try.prog.underlying t = some (.slice T.tid)) :
    Yld Try.prog E H ρ o (.slice A j m) := by
  intro u hu
  subst hj hm
  obtain ⟨_, h1, h2, _⟩ := h u hu
  obtain ⟨ti, hi, _, hsz, _⟩ := T.infoOf
  have e : Option.map (fun x => x.add 0) A = A := by cases A <;> simp [Addr.add]
  have h0n : i2 ≤ c := by omega
  have h0m : i ≤ i2 := by omega
  have e2 : max i2 0 = i2 := by omega
  simp [execOp, ho, hx, Instr.sliceAt, Instr.slice, Instr.sliceBounds, Instr.sliceBound, asIntOf, run_underlying ht, sizeOf, typeInfo, hi, hhi, hmx, h0, h02, h0n, h0m, e, e2]
theorem Y.sliceLoHi {t : TypeId} {x lo hi : Operand} {k k2 : IntKind} {i i2 : Int} {j m : Nat} (ho : o.op = .slice t x (some lo) (some hi) none) (hx : ρ x = .slice A n c) (hlo : ρ lo = .int k i) (hhi : ρ hi = .int k2 i2) (h : RdH E H T A n c l) (hj : i.toNat = j) (h0 : 0 ≤ i) (hm : i2.toNat = m) (h02 : 0 ≤ i2) (hjm : j ≤ m) (hjn : m ≤ n) (ht : Try.prog.underlying t = some (.slice T.tid)) :
    Yld Try.prog E H ρ o (.slice (if c = j then A else A.map (·.add (j * T.size))) (m - j) (c - j)) := by
  intro u hu
  subst hj hm
  obtain ⟨_, h1, h2, _⟩ := h u hu
  obtain ⟨ti, hi, _, hsz, _⟩ := T.infoOf
  have h0n : i2 ≤ c := by omega
  have h0m : i ≤ i2 := by omega
  have e2 : max i2 0 = i2 := by omega
  simp [execOp, ho, hx, Instr.sliceAt, Instr.slice, Instr.sliceBounds, Instr.sliceBound, asIntOf, run_underlying ht, sizeOf, typeInfo, hi, hlo, hhi, h0, h02, h0n, h0m, hsz, e2]
/-- 's[lo:]' of what is read -/
theorem RdH.cap (h : RdH E H T A n c l) : ∀ u, St E H u → n = l.length ∧ n ≤ c ∧ c ≤ maxLen := fun u hu => ⟨(h u hu).1, (h u hu).2.1, (h u hu).2.2.1⟩
end
theorem Y.indexStr {t : TypeId} {x i : Operand} {l : List UInt8} {k : IntKind} {j : Int} {m : Nat} {b : UInt8} (ho : o.op = .index t x i) (hx : ρ x = .string (txt l)) (hi : ρ i = .int k j) (ht : P.underlying t = some .string) (hj : j.toNat = m) (h0 : 0 ≤ j) (hb : l[m]? = some b) : Yld P E H ρ o (.int .u8 (b.toNat : Int)) := by
  intro u _
  obtain ⟨hk, rfl⟩ := List.getElem?_eq_some_iff.1 hb
  have e : (txt l)[m]? = some l[m] := by
    have : m < (txt l).size := by show m < l.toArray.size; simpa using hk
    rw [getElem?_pos (txt l) m this]
    rfl
  simp [execOp, ho, hx, hi, Instr.index, asIntOf, run_underlying ht, h0, hj, e]
theorem Y.strLen {x : Operand} {t : TypeId} {l : List UInt8} (ho : o.op = .call { callee := .builtin .len, args := #[x], argTypes := #[t] }) (ht : P.underlying t = some .string) (hx : ρ x = .string (txt l)) (hn : l.length ≤ maxLen) : Yld P E H ρ o (.int .i64 l.length) := by
  intro u _
  have h : IntKind.i64.wrap (l.length : Int) = l.length := IntWalk.i64_in _ (by unfold maxLen at hn; omega)
  have e : (txt l).size = l.length := by show l.toArray.size = _; simp
  simp [execOp, ho, resolve, hx, invoke, builtin, Builtin.len_, run_underlying ht, goInt, e]

/-- a field of a struct that is a value: one cell -/
theorem Y.field1 {s : TypeId} {x : Operand} {i : Nat} {fs : Array Field} {f : Field} {cs : Array Value} {d : TypeDesc} {v : Value} (ho : o.op = .field s x i) (hx : ρ x = .agg cs) (hs : P.underlying s = some (.struct fs)) (hf : fs[i]? = some f)
    (ht : P.underlying f.type = some d) (hd : aggD d = false) (hv : cs[f.offset]? = some v) : Yld P E H ρ o v := by
  intro u _
  cases d <;> simp [aggD] at hd <;> simp [execOp, ho, hx, Instr.field, run_underlying hs, hf, asAgg, part, isAgg, run_underlying ht, hv]
theorem Y.fieldAgg {s : TypeId} {x : Operand} {i : Nat} {fs : Array Field} {f : Field} {cs : Array Value} {d : TypeDesc} {ti : TypeInfo} {vs : Array Value} (ho : o.op = .field s x i) (hx : ρ x = .agg cs) (hs : P.underlying s = some (.struct fs)) (hf : fs[i]? = some f)
    (ht : P.underlying f.type = some d) (hd : aggD d = true) (hi : P.info? f.type = some ti) (hv : cs.extract f.offset (f.offset + ti.size) = vs) : Yld P E H ρ o (.agg vs) := by
  intro u _
  cases d <;> simp [aggD] at hd <;> simp [execOp, ho, hx, Instr.field, run_underlying hs, hf, asAgg, part, isAgg, run_underlying ht, sizeOf, typeInfo, hi, hv]
/-- a struct type: its zero's cells, where its fields lie -/
structure Rec (P : Program) (t : TypeId) (z : List Value) (pl : List (Nat × Nat)) : Prop where
  zero : ((P.info? t).bind (·.zero)).map (·.cells.toList) = some z
  places : (match P.underlying t with | some (.struct fields) => fields.toList.mapM (fun f => (P.info? f.type).map fun i => (f.offset, i.size)) | _ => none) = some pl
def put1 : List Value → Nat → List Value → List Value
  | cs, _, [] => cs
  | [], _, _ => []
  | _ :: cs, 0, v :: vs => v :: put1 cs 0 vs
  | c :: cs, k + 1, vs => c :: put1 cs k vs
def fillL (pl : List (Nat × Nat)) (z : List Value) : List (Nat × Value) → Option (List Value)
  | [] => some z
  | (i, v) :: rest => match pl[i]? with
    | none => none
    | some (off, size) => bif Nat.beq v.cells.toList.length size && Nat.ble (off + v.cells.toList.length) z.length then fillL pl (put1 z off v.cells.toList) rest else none
theorem put1_eq : ∀ (cs : List Value) (k : Nat) (vs : List Value), k + vs.length ≤ cs.length → put1 cs k vs = cs.take k ++ vs ++ cs.drop (k + vs.length)
  | cs, k, [], _ => by cases cs <;> simp [put1]
  | [], k, v :: vs, h => by simp at h
  | c :: cs, 0, v :: vs, h => by rw [put1, put1_eq cs 0 vs (by simp at h ⊢; omega)]; simp [Nat.add_comm]
  | c :: cs, k + 1, v :: vs, h => by
    have e0 : put1 (c :: cs) (k + 1) (v :: vs) = c :: put1 cs k (v :: vs) := by simp [put1]
    rw [e0, put1_eq cs k (v :: vs) (by simp at h ⊢; omega)]
    rw [show k + 1 + (v :: vs).length = (k + (v :: vs).length) + 1 by omega]; simp
theorem fillL_eq (pl : List (Nat × Nat)) : ∀ (parts : List (Nat × Value)) (z : Array Value) (out : List Value), fillL pl z.toList parts = some out → Instr.fill (pl.toArray[·]?) z parts = some out.toArray
  | [], z, out, h => by simp [fillL] at h; subst h; simp [Instr.fill]
  | (i, v) :: rest, z, out, h => by
    unfold fillL at h
    cases hp : pl[i]? with
    | none => simp [hp] at h
    | some q =>
      obtain ⟨off, size⟩ := q
      simp only [hp] at h
      cases hc : (Nat.beq v.cells.toList.length size && Nat.ble (off + v.cells.toList.length) z.toList.length) with
      | false => rw [hc] at h; cases h
      | true =>
        rw [hc, cond_true] at h
        rw [Bool.and_eq_true] at hc
        have h1 : v.cells.toList.length = size := Nat.eq_of_beq_eq_true hc.1
        have h2 : off + v.cells.toList.length ≤ z.toList.length := Nat.le_of_ble_eq_true hc.2
        rw [put1_eq _ _ _ h2] at h
        have hf : ∀ (cs : List Value) (j : Nat) (acc : Array Value), off + j + cs.length ≤ acc.size → ((cs.zipIdx j).foldl (fun cs (x : Value × Nat) => cs.setIfInBounds (off + x.2) x.1) acc).toList = acc.toList.take (off + j) ++ cs ++ acc.toList.drop (off + j + cs.length) := by
          intro cs
          induction cs with
          | nil => intro j acc _; simp
          | cons c cs ih =>
            intro j acc hl
            simp only [List.length_cons] at hl
            rw [List.zipIdx_cons, List.foldl_cons, ih (j + 1) _ (by simp; omega)]
            simp only [Array.toList_setIfInBounds, List.length_cons]
            have e := list_seg_step acc.toList (off + j) c cs (by simp; omega)
            simpa [Nat.add_assoc] using e
        have h3 := hf v.cells.toList 0 z (by simpa using h2)
        have h4 := fillL_eq pl rest (v.cells.zipIdx.foldl (fun cs (x : Value × Nat) => cs.setIfInBounds (off + x.2) x.1) z) out (by
          rw [← Array.foldl_toList, Array.toList_zipIdx, h3]; simpa using h)
        rw [Instr.fill]
        simp only [List.getElem?_toArray, hp]
        rw [if_neg (by simp at h1 h2 ⊢; omega)]
        simpa using h4
def pv (ρ : Operand → Value) : List (Nat × Operand) → List (Nat × Value)
  | [] => []
  | (i, x) :: l => (i, ρ x) :: pv ρ l
theorem pv_eq (ρ : Operand → Value) : ∀ l : List (Nat × Operand), (l.toArray.map fun (i, x) => (i, ρ x)).toList = pv ρ l
  | [] => by simp [pv]
  | (i, x) :: l => by have := pv_eq ρ l; simp [pv] at this ⊢; exact this
inductive PV (ρ : Operand → Value) : List (Nat × Operand) → List (Nat × Value) → Prop
  | nil : PV ρ [] []
  | cons {i : Nat} {x : Operand} {v : Value} {l : List (Nat × Operand)} {vs : List (Nat × Value)} (h : ρ x = v) (t : PV ρ l vs) : PV ρ ((i, x) :: l) ((i, v) :: vs)
theorem PV.eq {ρ : Operand → Value} {l : List (Nat × Operand)} {vs : List (Nat × Value)} (h : PV ρ l vs) : pv ρ l = vs := by
  induction h with
  | nil => rfl
  | cons h _ ih => rw [pv, h, ih]
inductive Cel : Value → List Value → Prop
  | agg {l : List Value} : Cel (.agg l.toArray) l
  | one {v : Value} (h : v.oneCell' = true) : Cel v [v]
theorem Cel.eq {v : Value} {l : List Value} (h : Cel v l) : v.cells.toList = l := by
  cases h with
  | agg => simp [Value.cells]
  | one h => cases v <;> first | rfl | cases h
inductive Put : List Value → Nat → List Value → List Value → Prop
  | done {cs : List Value} : Put cs 0 [] cs
  | here {c v : Value} {cs vs out : List Value} (h : Put cs 0 vs out) : Put (c :: cs) 0 (v :: vs) (v :: out)
  | next {c : Value} {cs vs out : List Value} {k : Nat} (h : Put cs k vs out) : Put (c :: cs) (k + 1) vs (c :: out)
theorem Put.eq {z : List Value} {k : Nat} {vs out : List Value} (h : Put z k vs out) : k + vs.length ≤ z.length ∧ put1 z k vs = out := by
  induction h with
  | done => simp [put1]
  | here h ih => exact ⟨by have := ih.1; simp at this ⊢; omega, by rw [put1, ih.2]⟩
  | @next c cs vs out k h ih =>
    refine ⟨by have := ih.1; simp at this ⊢; omega, ?_⟩
    rw [← ih.2]
    cases vs with
    | nil => simp [put1]
    | cons v vs => simp [put1]
inductive Fil (pl : List (Nat × Nat)) : List Value → List (Nat × Value) → List Value → Prop
  | nil {z : List Value} : Fil pl z [] z
  | cons {z z' cs out : List Value} {i off size : Nat} {v : Value} {rest : List (Nat × Value)} (h : pl[i]? = some (off, size)) (hc : Cel v cs) (hp : Put z off cs z') (hs : cs.length = size) (t : Fil pl z' rest out) : Fil pl z ((i, v) :: rest) out
theorem Fil.eq {pl : List (Nat × Nat)} {z out : List Value} {vs : List (Nat × Value)} (h : Fil pl z vs out) : fillL pl z vs = some out := by
  induction h with
  | nil => rfl
  | cons h hc hp hs t ih =>
    rw [fillL, h]
    simp only
    rw [hc.eq, show Nat.beq _ _ = true from (by subst hs; exact Nat.beq_refl _), show Nat.ble _ _ = true from Nat.ble_eq_true_of_le hp.eq.1]
    simp only [Bool.and_self, cond_true]
    rw [hp.eq.2, ih]
theorem Y.build {t : TypeId} {parts : List (Nat × Operand)} {vs : List (Nat × Value)} {z : List Value} {pl : List (Nat × Nat)} {cells : List Value} (ho : o.op = .build t parts.toArray) (hp : PV ρ parts vs) (hr : Rec P t z pl) (hb : Fil pl z vs cells) : Yld P E H ρ o (.agg cells.toArray) := by
  intro u _
  have hb := hb.eq
  have hp := hp.eq
  subst hp
  have h1 := hr.zero
  have h2 := hr.places
  have : P.built t (parts.toArray.map fun (i, x) => (i, ρ x)).toList = some cells.toArray := by
    rw [pv_eq]
    unfold Program.built
    cases hi : P.info? t with
    | none => simp [hi] at h1
    | some ti =>
      cases hz : ti.zero with
      | none => simp [hi, hz] at h1
      | some zv =>
        simp [hi, hz] at h1
        cases hu : P.underlying t with
        | none => simp [hu] at h2
        | some d =>
          cases d <;> simp [hu] at h2
          simp only [hz, h2]
          exact fillL_eq pl _ _ _ (by rw [h1]; exact hb)
  have hrun := run_build u t _ cells.toArray this
  simp only [execOp, ho, Sem.run_bind]
  rw [hrun]
  rfl

/-! ### new blocks -/
theorem S.box {t : TypeId} {x : Operand} {v : Value} {cs : List Value} (ho : o.op = .box t x) (hx : ev F x = v) (hcs : Cel v cs) (h : ∀ g, K (.pointer (some ⟨g, 0, none⟩)) (blk g t cs :: H)) : Stp P N E F H o K := by
  intro a u ha hu Kw Q' hK
  unfold Oper.wp
  rw [ha.eval, V.box (u := u) ho hx]
  refine hK _ _ _ (h u.heap.size) ?_
  refine hu.grow (l := [blk u.heap.size t cs]) rfl rfl rfl (by simp) (fun b hb => Below.heap_alloc _ _ _ hb) (F1 := fun b => b = u.heap.size) ⟨_, fun _ => False, fun b => by simp, fun b _ h => h, ⟨fun b => Iff.rfl, ?_⟩, fun b h => h⟩ (fun b hb => by omega)
  rw [heap_alloc_new, ← hcs.eq]

/-! ### stores -/
theorem run_storeVar_row {t : TypeId} {g q : Nat} {v : Value} {ti : TypeInfo} {u : World} {cur : Array Value} {e : TypeId} (hi : P.info? t = some ti) (hs : v.cells.size = ti.size) (h1 : ∀ x ∈ v.cells.toList, x.oneCell' = true) (hg : u.heap[g]? = some (.cells cur e (0, 0))) (hq : q + v.cells.size ≤ cur.size) :
    (storeVar t ⟨g, q, none⟩ v).run P u = .ok () (u.setRow g (cur.toList.take q ++ v.cells.toList ++ cur.toList.drop (q + v.cells.size)).toArray) := by
  have := run_storeCells_at P g q e v.cells.toList 0 cur u hg (by simpa using hq) h1
  simp [storeVar, sizeOf, typeInfo, hi, hs] at this ⊢
  exact this
theorem St.setRow {u : World} (hu : St E H u) {a b : Asn} (hr : Repl a [b] H H') (g : Nat) (cs : Array Value) (ha : ∀ F1, a.holds F1 u → F1 g ∧ b.holds F1 (u.setRow g cs)) : St E H' (u.setRow g cs) := by
  refine hu.repl hr rfl rfl rfl (by simp) (G := fun k => k = g) (fun k _ hk => setRow_other u g k cs hk) fun F1 h1 => ?_
  obtain ⟨h2, h3⟩ := ha F1 h1
  exact ⟨F1, ⟨F1, fun _ => False, fun b => by simp, fun _ _ h => h, h3, fun _ h => h⟩, fun b hb => .inl hb, fun b _ hb => by rw [hb]; exact h2⟩
/-- a store into a block that is known whole -/
theorem S.store {t : TypeId} {x y : Operand} {g i : Nat} {v : Value} {ti : TypeInfo} {bt : TypeId} {cs cs' : List Value} (ho : o.op = .store t x y) (hx : ev F x = .pointer (some ⟨g, i, none⟩)) (hy : ev F y = v) (h1 : ∀ x ∈ v.cells.toList, x.oneCell' = true) (hi : P.info? t = some ti) (hs : v.cells.size = ti.size)
    (hr : Repl (blk g bt cs) [blk g bt cs'] H H') (hq : i + v.cells.size ≤ cs.length) (hcs : cs.take i ++ v.cells.toList ++ cs.drop (i + v.cells.size) = cs') (h : K undef H') : Stp P N E F H o K := by
  intro a u ha hu Kw Q' hK
  have hh : u.heap[g]? = some (.cells cs.toArray bt (0, 0)) := by
    obtain ⟨F0, h0, _⟩ := hu.fp
    have : ∀ {H H' : List Asn} {F0}, Repl (blk g bt cs) [blk g bt cs'] H H' → stars H F0 u → u.heap[g]? = some (.cells cs.toArray bt (0, 0)) := by
      intro H H' F0 hr
      induction hr generalizing F0 with
      | here => rintro ⟨F1, F2, _, _, ⟨_, h⟩, _⟩; exact h
      | there _ ih => rintro ⟨F1, F2, _, _, _, h⟩; exact ih h
    exact this hr h0
  have hst := run_storeVar_row (u := u) (q := i) hi hs h1 hh (by simpa using hq)
  unfold Oper.wp
  rw [ha.eval]
  have hrun : (execOp (ev F) o).run P u = .ok .skip (u.setRow g cs'.toArray) := by
    simp only [List.toList_toArray] at hst
    rw [hcs] at hst
    simp [execOp, ho, hx, hy, Instr.storeAt, Instr.sureAddr, hst]
  rw [hrun]
  refine hK undef _ _ h (St.setRow hu hr g _ fun F1 ⟨k1, k2⟩ => ⟨(k1 _).2 rfl, k1, ?_⟩)
  exact setRow_heap u g _ _ _ _ hh

/-! ### a slice of the call's own -/
section
variable {α : Type} {T : Ty α} {A : Option Addr} {n c : Nat} {l : List α}
theorem own_owns {F1 : Nat → Prop} {u : World} (hc : c ≠ 0) (h : (own T A n c l).holds F1 u) : u.ownsRow 0 T.tid T.size (.slice A n c) n (T.encs l) ∧ (∀ b, F1 b ↔ Value.ownBlock (.slice A n c) = some b) := by
  obtain ⟨h0, ⟨_, h, _⟩ | ⟨g, cur, rfl, hF, hh, h1, h2, h3, h4⟩⟩ := h
  · exact absurd h hc
  · exact ⟨⟨by rw [T.encs_length, ← h0], .inr ⟨g, c, cur, rfl, Nat.zero_le _, hh, h1, h2, h3, h4⟩⟩, fun b => by simp [Value.ownBlock, hF b, eq_comm]⟩
theorem run_append_zero {t ty : TypeId} {X : Option Addr} {nx cx : Nat} {u : World} (ht : Try.prog.underlying t = some (.slice T.tid)) (A : Option Addr) (h0 : nx = 0) : (Builtin.append_ #[t, t] ty #[.slice A 0 0, .slice X nx cx]).run Try.prog u = .ok (.slice A 0 0) u := by
  subst h0
  obtain ⟨ti, hi, hz, hsz, hbt⟩ := T.infoOf
  have hl : ∀ a : Addr, (loadCells a 0).run Try.prog u = .ok #[] u := fun a => run_loadCells_list (P := Try.prog) u a [] (fun j v h => by simp at h)
  cases A <;> cases X <;> simp [Builtin.append_, run_underlying ht, sizeOf, typeInfo, hi, Builtin.lenOf, Builtin.firstCells, storeCells, hl]
theorem run_append_base {t ty : TypeId} {X : Option Addr} {nx cx : Nat} {u : World} (ht : Try.prog.underlying t = some (.slice T.tid)) (A : Option Addr) (h0 : nx ≠ 0) (hn0 : nx ≤ 140737488355328) (hb : nx * T.bytes ≤ 140737488355328) : (Builtin.append_ #[t, t] ty #[.slice A 0 0, .slice X nx cx]).run Try.prog u = (Builtin.append_ #[t, t] ty #[.slice none 0 0, .slice X nx cx]).run Try.prog u := by
  obtain ⟨ti, hi, hz, hsz, hbt⟩ := T.infoOf
  have hl : ∀ (a : Addr) (w : World), (loadCells a 0).run Try.prog w = .ok #[] w := fun a w => run_loadCells_list (P := Try.prog) w a [] (fun j v h => by simp at h)
  have h2 : ¬ ((9223372036854775807 : Int) < nx ∧ ti.bytes = 0) := by omega
  have h3 : (Question.appendCap nx 0 T.tid).forced = false := rfl
  have hn : Builtin.nextslicecap nx 0 = nx := by unfold Builtin.nextslicecap; rw [if_pos (by omega)]
  have h1 : ¬ (281474976710656 < nx * ti.bytes) := by rw [hbt]; omega
  cases A with
  | none => rfl
  | some a =>
    simp [Builtin.append_, run_underlying ht, sizeOf, typeInfo, hi, Builtin.lenOf, Builtin.firstCells, h0, hn, h1, h2, h3, hl]
theorem owns_own {u : World} (h0 : n = l.length) (h : u.ownsRow 0 T.tid T.size (.slice A n c) n (T.encs l)) : (own T A n c l).holds (fun b => Value.ownBlock (.slice A n c) = some b) u := by
  obtain ⟨_, ⟨hv, hz⟩ | ⟨g, cap, cur, hv, _, hh, h1, h2, h3, h4⟩⟩ := h
  · injection hv with a b d
    subst a; subst d
    exact ⟨h0, .inl ⟨hz, rfl, fun b hb => by simp [Value.ownBlock] at hb⟩⟩
  · injection hv with a b d
    subst a; subst d
    exact ⟨h0, .inr ⟨g, cur, rfl, fun b => by simp [Value.ownBlock, eq_comm], hh, h1, h2, h3, h4⟩⟩
theorem Repl.has {a : Asn} {l : List Asn} (h : Repl a l H H') : ∃ R, Has a H R := by
  induction h with
  | here => exact ⟨_, .here⟩
  | there _ ih => obtain ⟨R, h⟩ := ih; exact ⟨_, .there h⟩
/-- 'append(s, x...)' -/
theorem S.append_ {s x : Operand} {t : TypeId} {X : Option Addr} {nx cx : Nat} {l2 : List α} (ho : o.op = .call { callee := .builtin .append, args := #[s, x], argTypes := #[t, t] })
    (hs : ev F s = .slice A n c) (hx : ev F x = .slice X nx cx) {HX : Option Addr → Nat → List Asn} (hr : ∀ A' c', Repl (own T A n c l) [own T A' (n + nx) c' (l ++ l2)] H (HX A' c')) (hrd : RdH E H T X nx cx l2) (ht : Try.prog.underlying t = some (.slice T.tid)) {by_ : Nat} (hbb : T.bytes = by_) (hlen : n + nx ≤ 140737488355328) (hby : (n + nx) * by_ ≤ 140737488355328)
    (h : ∀ A' c', n + nx ≤ c' → c' ≤ maxLen → K (.slice A' (n + nx) c') (HX A' c')) : Stp Try.prog N E F H o K := by
  subst hbb
  intro a u ha hu Kw Q' hK
  obtain ⟨R, hhas⟩ := (hr none 0).has
  obtain ⟨F0, h0, _⟩ := hu.has hhas
  have hn := h0.1
  obtain ⟨ti, hi, hz, hsz, hbt⟩ := T.infoOf
  obtain ⟨k0, k1, k2, k3⟩ := hrd u hu
  have hncap := (own_rd h0).2.1
  have hreads : Reads u u.heap.size T.size X nx (T.encs l2) := ⟨by rw [T.encs_length, ← k0], fun hpos => by
    rcases k3 with k3 | ⟨ad, e, hc⟩
    · omega
    · refine ⟨ad, e, ?_, hc⟩
      have hl : 0 < (T.encs l2).length := by rw [T.encs_length, ← k0]; exact Nat.mul_pos hpos T.hpos
      have := World.block_lt_of_cell? _ _ (hc 0 _ (List.getElem?_eq_getElem hl))
      rwa [block_of_add] at this⟩
  by_cases hc0 : c = 0
  · subst hc0
    obtain rfl : n = 0 := by omega
    obtain rfl : l = [] := List.eq_nil_of_length_eq_zero hn.symm
    by_cases hx0 : nx = 0
    · subst hx0
      obtain rfl : l2 = [] := List.eq_nil_of_length_eq_zero k0.symm
      have hrun := run_append_zero (T := T) (ty := o.type) (X := X) (cx := cx) (u := u) ht A rfl
      unfold Oper.wp
      rw [ha.eval]
      have hx2 : (execOp (ev F) o).run Try.prog u = .ok (.value (.slice A 0 0)) u := by
        unfold execOp
        simp only [ho, resolve, invoke, builtin, Sem.run_bind, Sem.run_pure, Result.andThen_ok, List.map_toArray, List.map_cons, List.map_nil, hs, hx, hrun]
      rw [hx2]
      refine hK _ _ _ (h A 0 (Nat.le_refl _) (Nat.zero_le _)) ?_
      exact hu.repl (hr A 0) rfl rfl rfl (Nat.le_refl _) (G := fun _ => False) (fun _ _ _ => rfl) fun F1 h1 => ⟨fun _ => False, ⟨fun _ => False, fun _ => False, fun b => by simp, fun _ h => h.elim, ⟨rfl, .inl ⟨rfl, rfl, fun _ h => h⟩⟩, fun _ h => h⟩, fun b hb => hb.elim, fun b _ hb => hb.elim⟩
    · obtain ⟨v', w', hrun, hown', hg, hb⟩ := run_append_any u 0 t o.type T.tid ti T.zero T.size T.bytes ht hi hz hsz hbt T.hzero T.hpos (.slice none 0 0) 0 [] (World.ownsRow_nil u 0 _ _) u.heap.size X nx cx (T.encs l2) hreads (T.encs_hone _) (by unfold maxLen; omega) hby (Nat.zero_le _)
      rw [← run_append_base (T := T) ht A hx0 (by omega) (by rw [Nat.zero_add] at hby; exact hby)] at hrun
      obtain ⟨A', c', rfl⟩ : ∃ A' c', v' = .slice A' (0 + nx) c' := by
        rcases hown'.2 with ⟨rfl, h0⟩ | ⟨g, cap, cur, rfl, _⟩
        · omega
        · exact ⟨_, _, rfl⟩
      have hO := owns_own (T := T) (A := A') (n := 0 + nx) (c := c') (l := l2) (by rw [Nat.zero_add]; exact k0) hown'
      have hcap := own_rd hO
      unfold Oper.wp
      rw [ha.eval]
      have hx2 : (execOp (ev F) o).run Try.prog u = .ok (.value (.slice A' (0 + nx) c')) w' := by
        unfold execOp
        simp only [ho, resolve, invoke, builtin, Sem.run_bind, Sem.run_pure, Result.andThen_ok, List.map_toArray, List.map_cons, List.map_nil, hs, hx, hrun]
      rw [hx2]
      refine hK _ _ _ (h A' c' hcap.2.1 hcap.2.2.1) ?_
      refine hu.repl (hr A' c') hg.os hg.tape hg.output hg.size (G := fun _ => False) (fun b hlt _ => hg.block b hlt (by simp [Value.ownBlock])) fun F1 h1 => ?_
      refine ⟨fun b => Value.ownBlock (.slice A' (0 + nx) c') = some b, ⟨fun b => Value.ownBlock (.slice A' (0 + nx) c') = some b, fun _ => False, fun b => by simp, fun _ _ h => h, by rw [List.nil_append]; exact hO, fun _ h => h⟩, fun b hbb => ?_, fun b _ hG => hG.elim⟩
      rcases hb with hb | hb
      · rw [hb] at hbb; simp [Value.ownBlock] at hbb
      · right
        have : some b = some u.heap.size := by rw [← hbb, hb]
        injection this with this; omega
  obtain ⟨hown, _⟩ := own_owns hc0 h0
  have key : ∃ v' w', (Builtin.append_ #[t, t] o.type #[.slice A n c, .slice X nx cx]).run Try.prog u = .ok v' w' ∧ w'.ownsRow 0 T.tid T.size v' (n + nx) (T.encs l ++ T.encs l2) ∧ u.grownBy w' (Value.ownBlock (.slice A n c)) ∧
      (v'.ownBlock = Value.ownBlock (.slice A n c) ∨ v'.ownBlock = some u.heap.size) := by
    exact run_append_any u 0 t o.type T.tid ti T.zero T.size T.bytes ht hi hz hsz hbt T.hzero T.hpos _ n _ hown u.heap.size X nx cx (T.encs l2) hreads (T.encs_hone _) (by unfold maxLen; omega) hby (Nat.zero_le _)
  obtain ⟨v', w', hrun, hown', hg, hb⟩ := key
  obtain ⟨A', c', rfl⟩ : ∃ A' c', v' = .slice A' (n + nx) c' := by
    rcases hown'.2 with ⟨rfl, h0⟩ | ⟨g, cap, cur, rfl, _⟩
    · exact ⟨none, 0, by rw [h0]⟩
    · exact ⟨_, _, rfl⟩
  have hown2 : w'.ownsRow 0 T.tid T.size (.slice A' (n + nx) c') (n + nx) (T.encs (l ++ l2)) := by rw [T.encs_append]; exact hown'
  have hO := owns_own (T := T) (l := l ++ l2) (by rw [List.length_append, hn, k0]) hown2
  have hcap := own_rd hO
  unfold Oper.wp
  rw [ha.eval]
  have hx2 : (execOp (ev F) o).run Try.prog u = .ok (.value (.slice A' (n + nx) c')) w' := by
    unfold execOp
    simp only [ho, resolve, invoke, builtin, Sem.run_bind, Sem.run_pure, Result.andThen_ok, List.map_toArray, List.map_cons, List.map_nil, hs, hx, hrun]
  rw [hx2]
  refine hK _ _ _ (h A' c' hcap.2.1 hcap.2.2.1) ?_
  refine hu.repl (hr A' c') hg.os hg.tape hg.output hg.size (G := fun b => Value.ownBlock (.slice A n c) = some b) (fun b hlt hne => hg.block b hlt (fun e => hne e.symm)) fun F1 h1 => ?_
  obtain ⟨_, hF⟩ := own_owns hc0 h1
  refine ⟨fun b => Value.ownBlock (.slice A' (n + nx) c') = some b, ⟨fun b => Value.ownBlock (.slice A' (n + nx) c') = some b, fun _ => False, fun b => by simp, fun _ _ h => h, hO, fun _ h => h⟩, fun b hbb => ?_, fun b _ hG => (hF b).2 hG⟩
  rcases hb with hb | hb
  · exact .inl ((hF b).2 (hb ▸ hbb))
  · right
    have : some b = some u.heap.size := by rw [← hbb, hb]
    injection this with this; omega
/-- 'append(s, x)': the new slice of one is on top, and goes -/
theorem S.append1_ {s x : Operand} {t : TypeId} {X : Option Addr} {nx cx : Nat} {l2 : List α} (ho : o.op = .call { callee := .builtin .append, args := #[s, x], argTypes := #[t, t] })
    (hs : ev F s = .slice A n c) (hx : ev F x = .slice X nx cx) {HX : Option Addr → Nat → List Asn} (hr : ∀ A' c', Repl (own T A n c l) [own T A' (n + nx) c' (l ++ l2)] H (HX A' c')) (ht : Try.prog.underlying t = some (.slice T.tid)) {by_ : Nat} (hbb : T.bytes = by_) (hlen : n + nx ≤ 140737488355328) (hby : (n + nx) * by_ ≤ 140737488355328)
    (h : ∀ A' c', n + nx ≤ c' → c' ≤ maxLen → K (.slice A' (n + nx) c') (HX A' c')) : Stp Try.prog N E F (own T X nx cx l2 :: H) o K := by
  intro a u ha hu Kw Q' hK
  exact S.append_ ho hs hx (HX := fun A' c' => own T X nx cx l2 :: HX A' c') (K := fun v H' => ∃ H2, H' = own T X nx cx l2 :: H2 ∧ K v H2) (fun A' c' => .there (hr A' c')) (RdH.own .here) ht hbb hlen hby (fun A' c' h1 h2 => ⟨_, rfl, h A' c' h1 h2⟩) a u ha hu Kw Q' fun v H' u' ⟨H2, e, hk⟩ hu' => hK v H2 u' hk (by subst e; exact hu'.right (l := [own T X nx cx l2]))
theorem S.append {s x : Operand} {t : TypeId} {X : Option Addr} {nx cx n' : Nat} {l2 l' : List α} (ho : o.op = .call { callee := .builtin .append, args := #[s, x], argTypes := #[t, t] })
    (hs : ev F s = .slice A n c) (hx : ev F x = .slice X nx cx) (hn' : n + nx = n') {HX : Option Addr → Nat → List Asn} (hr : ∀ A' c', Repl (own T A n c l) [own T A' n' c' l'] H (HX A' c')) (hrd : RdH E H T X nx cx l2) (hl' : l ++ l2 = l') (ht : Try.prog.underlying t = some (.slice T.tid)) {by_ : Nat} (hbb : T.bytes = by_) (hlen : n' ≤ 140737488355328) (hby : n' * by_ ≤ 140737488355328)
    (h : ∀ A' c', n' ≤ c' → c' ≤ maxLen → K (.slice A' n' c') (HX A' c')) : Stp Try.prog N E F H o K := by
  subst hn' hl'
  exact S.append_ ho hs hx hr hrd ht hbb hlen hby h
theorem S.append1 {s x : Operand} {t : TypeId} {X : Option Addr} {nx cx n' : Nat} {l2 l' : List α} (ho : o.op = .call { callee := .builtin .append, args := #[s, x], argTypes := #[t, t] })
    (hs : ev F s = .slice A n c) (hx : ev F x = .slice X nx cx) {H0 : List Asn} (hH : H0 = own T X nx cx l2 :: H) (hn' : n + nx = n') {HX : Option Addr → Nat → List Asn} (hr : ∀ A' c', Repl (own T A n c l) [own T A' n' c' l'] H (HX A' c')) (hl' : l ++ l2 = l') (ht : Try.prog.underlying t = some (.slice T.tid)) {by_ : Nat} (hbb : T.bytes = by_) (hlen : n' ≤ 140737488355328) (hby : n' * by_ ≤ 140737488355328)
    (h : ∀ A' c', n' ≤ c' → c' ≤ maxLen → K (.slice A' n' c') (HX A' c')) : Stp Try.prog N E F H0 o K := by
  subst hn' hl' hH
  exact S.append1_ ho hs hx hr ht hbb hlen hby h
/-- 'append(nil, x...)' -/
theorem S.appendNil {s x : Operand} {t : TypeId} {X : Option Addr} {nx cx : Nat} {l2 : List α} (ho : o.op = .call { callee := .builtin .append, args := #[s, x], argTypes := #[t, t] })
    (hs : ev F s = .slice none 0 0) (hx : ev F x = .slice X nx cx) (hrd : RdH E H T X nx cx l2) (ht : Try.prog.underlying t = some (.slice T.tid)) {by_ : Nat} (hbb : T.bytes = by_) (hlen : nx ≤ 140737488355328) (hby : nx * by_ ≤ 140737488355328)
    (h : ∀ A' c', nx ≤ c' → c' ≤ maxLen → K (.slice A' nx c') (own T A' nx c' l2 :: H)) : Stp Try.prog N E F H o K := by
  have hc : Conv E H (own T none 0 0 [] :: H) := fun w hw => by
    have := hw.grow (l := [own T none 0 0 []]) rfl rfl rfl (Nat.le_refl _) (fun _ _ => rfl) (F1 := fun _ => False) ⟨fun _ => False, fun _ => False, fun b => by simp, fun _ h => h.elim, ⟨rfl, .inl ⟨rfl, rfl, fun _ h => h⟩⟩, fun _ h => h⟩ (fun _ h => h.elim)
    exact this
  refine Stp.conv hc (S.append_ (T := T) (l2 := l2) (l := []) ho hs hx (HX := fun A' c' => own T A' (0 + nx) c' ([] ++ l2) :: H) (fun A' c' => Repl.here) (fun w hw => hrd w (hw.right (l := [own T none 0 0 []]))) ht hbb (by omega) (by rw [Nat.zero_add]; exact hby) ?_)
  intro A' c' h1 h2
  rw [Nat.zero_add] at h1 ⊢
  exact h A' c' h1 h2
theorem fill_list {sz : Nat} : ∀ (vs : List Value) (k : Nat) (cells : Array Value), (∀ v ∈ vs, v.cells.size = sz) → k * sz + vs.length * sz = cells.size →
    ∃ out, Instr.fill (fun i => some (i * sz, sz)) cells (vs.zipIdx k |>.map fun p => (p.2, p.1)) = some out ∧ out.toList = cells.toList.take (k * sz) ++ vs.flatMap (fun v => v.cells.toList)
  | [], k, cells, _, h => ⟨cells, rfl, by simp at h ⊢; rw [List.take_of_length_le (by simp; omega)]⟩
  | v :: vs, k, cells, hv, h => by
    have h1 := hv v (by simp)
    have hsum : (vs.length + 1) * sz = vs.length * sz + sz := by rw [Nat.add_mul, Nat.one_mul]
    have hk1 : (k + 1) * sz = k * sz + sz := by rw [Nat.add_mul, Nat.one_mul]
    rw [List.length_cons, hsum] at h
    have h2 : k * sz + v.cells.size ≤ cells.size := by rw [h1]; omega
    have hf : ∀ (cs : List Value) (j : Nat) (acc : Array Value), k * sz + j + cs.length ≤ acc.size → ((cs.zipIdx j).foldl (fun cs (x : Value × Nat) => cs.setIfInBounds (k * sz + x.2) x.1) acc).toList = acc.toList.take (k * sz + j) ++ cs ++ acc.toList.drop (k * sz + j + cs.length) := by
      intro cs
      induction cs with
      | nil => intro j acc _; simp
      | cons c cs ih =>
        intro j acc hl
        simp only [List.length_cons] at hl
        rw [List.zipIdx_cons, List.foldl_cons, ih (j + 1) _ (by simp; omega)]
        simp only [Array.toList_setIfInBounds, List.length_cons]
        have e := list_seg_step acc.toList (k * sz + j) c cs (by simp; omega)
        simpa [Nat.add_assoc] using e
    have h3 := hf v.cells.toList 0 cells (by simpa using h2)
    obtain ⟨acc, hacc⟩ : ∃ acc, acc = (v.cells.zipIdx.foldl (fun cs (x : Value × Nat) => cs.setIfInBounds (k * sz + x.2) x.1) cells) := ⟨_, rfl⟩
    have h4 : acc.toList = cells.toList.take (k * sz) ++ v.cells.toList ++ cells.toList.drop (k * sz + v.cells.size) := by
      rw [hacc, ← Array.foldl_toList, Array.toList_zipIdx]
      simpa using h3
    have hsz : acc.size = cells.size := by rw [← Array.length_toList, h4]; simp; omega
    obtain ⟨out, ho, hout⟩ := fill_list vs (k + 1) acc (fun x hx => hv x (by simp [hx])) (by rw [hsz, hk1]; omega)
    refine ⟨out, ?_, ?_⟩
    · rw [List.zipIdx_cons, List.map_cons, Instr.fill]
      simp only [h1]
      rw [if_neg (by rw [h1] at h2; simp [h1]; omega), ← hacc]
      exact ho
    · rw [hout, List.flatMap_cons, ← List.append_assoc]
      congr 1
      rw [h4, hk1, List.take_left' (by simp [h1]; rw [h1] at h2; omega)]
/-- a slice literal -/
theorem S.buildSlice {t : TypeId} {m : Nat} {parts0 : List (Nat × Operand)} {l : List α} (ho : o.op = .buildSlice t m parts0.toArray) (hp : pv (ev F) parts0 = (l.map T.val).zipIdx.map fun p => (p.2, p.1))
    (ht : Try.prog.underlying t = some (.slice T.tid)) (hm : l.length = m) (hbig : m * T.size ≤ 2 ^ 24)
    (h : ∀ g, K (.slice (some ⟨g, 0, none⟩) m m) (own T (some ⟨g, 0, none⟩) m m l :: H)) : Stp Try.prog N E F H o K := by
  subst hm
  rw [← pv_eq] at hp
  obtain ⟨parts, hparts⟩ : ∃ parts, parts = parts0.toArray := ⟨_, rfl⟩
  rw [← hparts] at ho hp
  clear hparts
  intro a u ha hu Kw Q' hK
  obtain ⟨ti, hi, hz, hsz, hbt⟩ := T.infoOf
  unfold Oper.wp
  rw [ha.eval]
  have key : ∃ out : Array Value, (execOp (ev F) o).run Try.prog u = .ok (.value (.slice (some ⟨u.heap.size, 0, none⟩) l.length l.length)) (u.alloc (.cells out T.tid)) ∧ out.toList = T.encs l := by
    by_cases h0 : l.length * T.size = 0
    · have hl : l = [] := by
        rcases Nat.mul_eq_zero.1 h0 with h | h
        · exact List.eq_nil_of_length_eq_zero h
        · have := T.hpos; omega
      subst hl
      refine ⟨#[], ?_, by simp [Ty.encs]⟩
      have hp2 : parts.map (fun (i, x) => (i, ev F x)) = #[] := by apply Array.ext'; simpa using hp
      simp [execOp, ho, Instr.buildSlice, run_underlying ht, sizeOf, typeInfo, hi, hp2, Instr.fill, newRow, Array.range_zero']
    · obtain ⟨out, ho2, hout⟩ := fill_list (sz := T.size) (l.map T.val) 0 ((Array.range (l.length * T.size)).map (fun i => T.zero.cells[i % T.zero.cells.size]!)) (by intro v hv; obtain ⟨x, _, rfl⟩ := List.mem_map.1 hv; exact T.hlen x) (by simp)
      refine ⟨out, ?_, ?_⟩
      · have h1 : ¬ l.length * T.size > 2 ^ 24 := by omega
        have hmap : (parts.map fun (i, x) => (i, ev F x)).toList = ((l.map T.val).zipIdx 0).map fun p => (p.2, p.1) := hp
        have hs1 : (sizeOf T.tid).run Try.prog u = .ok T.size u := by simp [sizeOf, typeInfo, hi, hsz]
        have hz1 : (zeroValue T.tid).run Try.prog u = .ok T.zero u := by simp [zeroValue, typeInfo, hi, hz]
        simp only [execOp, ho, Instr.buildSlice, Sem.run_bind, run_underlying ht, Result.andThen_ok, hs1, if_neg h1, if_neg h0, Sem.run_pure, hz1, hmap, ho2]
        simp [newRow]
      · rw [hout]; simp [Ty.encs, List.flatMap_map]; rfl
  obtain ⟨out, hrun, hout⟩ := key
  rw [hrun]
  refine hK _ _ _ (h u.heap.size) ?_
  refine hu.grow (l := [own T (some ⟨u.heap.size, 0, none⟩) l.length l.length l]) rfl rfl rfl (by simp) (fun b hb => Below.heap_alloc _ _ _ hb) (F1 := fun b => b = u.heap.size) ⟨_, fun _ => False, fun b => by simp, fun b _ h => h, ⟨rfl, .inr ⟨u.heap.size, out, rfl, fun b => Iff.rfl, heap_alloc_new _ _, Nat.le_refl _, ?_, ?_, ?_⟩⟩, fun b h => h⟩ (fun b hb => by omega)
  · have : l.length * 1 ≤ l.length * T.size := Nat.mul_le_mul_left _ T.hpos
    unfold maxLen; omega
  · rw [← Array.length_toList, hout, T.encs_length]
  · rw [hout, ← T.encs_length]; simp
/-- the row of what is owned -/
theorem own_row {F1 : Nat → Prop} {u : World} {g q : Nat} (h : (own T A n c l).holds F1 u) (hA : ad A = ⟨g, q, none⟩) (hn : 0 < n) : F1 g ∧ q = 0 ∧ A = some ⟨g, 0, none⟩ ∧ ∃ cur : Array Value, u.heap[g]? = some (.cells cur T.tid (0, 0)) ∧ n ≤ c ∧ c ≤ maxLen ∧ cur.size = c * T.size ∧ cur.toList.take (n * T.size) = T.encs l := by
  obtain ⟨h0, ⟨rfl, rfl, hF⟩ | ⟨g', cur, rfl, hF, hh, h1, h2, h3, h4⟩⟩ := h
  · omega
  · have e : g' = g ∧ 0 = q := by simpa [ad] using hA
    obtain ⟨rfl, rfl⟩ := e
    exact ⟨(hF _).2 rfl, rfl, rfl, cur, hh, h1, h2, h3, h4⟩
theorem S.buildSlice1 {t : TypeId} {x : Operand} {e : α} {v : Value} (ho : o.op = .buildSlice t 1 #[(0, x)]) (hx : ev F x = v) (hv : T.val e = v)
    (ht : Try.prog.underlying t = some (.slice T.tid)) (hbig : 1 * T.size ≤ 2 ^ 24)
    (h : ∀ g, K (.slice (some ⟨g, 0, none⟩) 1 1) (own T (some ⟨g, 0, none⟩) 1 1 [e] :: H)) : Stp Try.prog N E F H o K :=
  S.buildSlice (l := [e]) (parts0 := [(0, x)]) ho (by simp [pv, hx, hv]) ht rfl hbig h
theorem Repl.one {a b : Asn} {R : List Asn} : Repl a [b] (a :: R) (b :: R) := Repl.here
theorem S.store1 {P : Program} {t : TypeId} {x y : Operand} {g i : Nat} {v : Value} {ti : TypeInfo} {bt : TypeId} {cs cs' : List Value} (ho : o.op = .store t x y) (hx : ev F x = .pointer (some ⟨g, i, none⟩)) (hy : ev F y = v) (h1 : v.oneCell' = true) (hi : P.info? t = some ti) (hs : ti.size = 1)
    (hr : Repl (blk g bt cs) [blk g bt cs'] H H') (hq : i < cs.length) (hcs : cs.set i v = cs') (h : K undef H') : Stp P N E F H o K := by
  have hc : v.cells = #[v] := by cases v <;> first | rfl | cases h1
  refine S.store ho hx hy ?_ hi ?_ hr ?_ ?_ h
  · rw [hc]; intro x hx; simp at hx; subst hx; exact h1
  · rw [hc, hs]; rfl
  · rw [hc]; exact hq
  · rw [hc, ← hcs, List.set_eq_take_append_cons_drop, if_pos hq]; simp
theorem St.repl1 {u : World} (hu : St E H u) {a b : Asn} (hr : Repl a [b] H H') : ∃ R, Has a H R ∧ ∃ F1, a.holds F1 u := by
  obtain ⟨R, h⟩ := hr.has
  obtain ⟨F0, h0, _⟩ := hu.has h
  exact ⟨R, h, F0, h0⟩
theorem seg_lists {β : Type} (a b c d e f vs : List β) (hv : vs.length = c.length) :
    ((a ++ (b ++ (c ++ (d ++ (e ++ f))))).take (a.length + b.length) ++ vs ++ (a ++ (b ++ (c ++ (d ++ (e ++ f))))).drop (a.length + b.length + vs.length)).take (a.length + b.length + c.length + d.length + e.length) =
      a ++ (b ++ vs ++ d) ++ e := by
  rw [hv]
  have h1 : (a ++ (b ++ (c ++ (d ++ (e ++ f))))).take (a.length + b.length) = a ++ b := by
    rw [← List.append_assoc, List.take_left' (by simp)]
  have h2 : (a ++ (b ++ (c ++ (d ++ (e ++ f))))).drop (a.length + b.length + c.length) = d ++ (e ++ f) := by
    rw [← List.append_assoc, ← List.append_assoc, List.drop_left' (by simp; omega)]
  rw [h1, h2]
  have : a ++ b ++ vs ++ (d ++ (e ++ f)) = (a ++ (b ++ vs ++ d) ++ e) ++ f := by simp
  rw [this, List.take_left' (by simp; omega)]
theorem seg_eq {β : Type} (L vs : List β) (K1 : Nat) {j S1 N1 : Nat} (hj : j + vs.length ≤ S1) (hS : K1 + S1 ≤ N1) (hN : N1 ≤ L.length) :
    (L.take (K1 + j) ++ vs ++ L.drop (K1 + j + vs.length)).take N1 = (L.take N1).take K1 ++ ((((L.take N1).drop K1).take S1).take j ++ vs ++ (((L.take N1).drop K1).take S1).drop (j + vs.length)) ++ (L.take N1).drop (K1 + S1) := by
  obtain ⟨a, L1, rfl, ha⟩ : ∃ a L1, L = a ++ L1 ∧ a.length = K1 := ⟨L.take K1, L.drop K1, by simp, by simp; omega⟩
  obtain ⟨b, L2, rfl, hb⟩ : ∃ b L2, L1 = b ++ L2 ∧ b.length = j := ⟨L1.take j, L1.drop j, by simp, by simp at hN ⊢; omega⟩
  obtain ⟨c, L3, rfl, hc⟩ : ∃ c L3, L2 = c ++ L3 ∧ c.length = vs.length := ⟨L2.take vs.length, L2.drop vs.length, by simp, by simp at hN ⊢; omega⟩
  obtain ⟨d, L4, rfl, hd⟩ : ∃ d L4, L3 = d ++ L4 ∧ d.length = S1 - j - vs.length := ⟨L3.take (S1 - j - vs.length), L3.drop (S1 - j - vs.length), by simp, by simp at hN ⊢; omega⟩
  obtain ⟨e, f, rfl, he⟩ : ∃ e f, L4 = e ++ f ∧ e.length = N1 - K1 - S1 := ⟨L4.take (N1 - K1 - S1), L4.drop (N1 - K1 - S1), by simp, by simp at hN ⊢; omega⟩
  have hM : (a ++ (b ++ (c ++ (d ++ (e ++ f))))).take N1 = a ++ (b ++ (c ++ (d ++ e))) := by
    have : a ++ (b ++ (c ++ (d ++ (e ++ f)))) = (a ++ (b ++ (c ++ (d ++ e)))) ++ f := by simp
    rw [this, List.take_left' (by simp; omega)]
  have h3 : (a ++ (b ++ (c ++ (d ++ e)))).drop (K1 + S1) = e := by
    have : a ++ (b ++ (c ++ (d ++ e))) = (a ++ (b ++ (c ++ d))) ++ e := by simp
    rw [this, List.drop_left' (by simp; omega)]
  have h4 : ((a ++ (b ++ (c ++ (d ++ e)))).drop K1).take S1 = b ++ (c ++ d) := by
    rw [List.drop_left' ha]
    have : b ++ (c ++ (d ++ e)) = (b ++ (c ++ d)) ++ e := by simp
    rw [this, List.take_left' (by simp; omega)]
  have h5 : (b ++ (c ++ d)).drop (j + vs.length) = d := by
    rw [← List.append_assoc, List.drop_left' (by simp; omega)]
  rw [hM, h3, h4, List.take_left' ha, List.take_left' hb, h5]
  have := seg_lists a b c d e f vs hc.symm
  rw [ha, hb] at this
  rw [← this]
  congr 1
  omega
/-- cells of an element are written: the list is l' -/
theorem S.storeElem {x y : Operand} {t : TypeId} {q : Nat} {v : Value} {ti : TypeInfo} {k j : Nat} {e e' : α} {a0 : Addr} (ho : o.op = .store t x y) (hx : ev F x = .pointer (some a0)) (hy : ev F y = v) (ha : a0 = (ad A).add q) (h1 : ∀ x ∈ v.cells.toList, x.oneCell' = true)
    (hi : Try.prog.info? t = some ti) (hs : v.cells.size = ti.size) (hq : q = k * T.size + j) (he : l[k]? = some e) (hjs : j + v.cells.size ≤ T.size) (hv : (T.enc e).take j ++ v.cells.toList ++ (T.enc e).drop (j + v.cells.size) = T.enc e')
    (hr : Repl (own T A n c l) [own T A n c (l.set k e')] H H') (h : K undef H') : Stp Try.prog N E F H o K := by
  subst ha hq
  intro a u ha hu Kw Q' hK
  obtain ⟨R, hhas, F0, h0⟩ := hu.repl1 hr
  have hk := (List.getElem?_eq_some_iff.1 he).1
  have hn := h0.1
  obtain ⟨g, hA⟩ : ∃ g, A = some ⟨g, 0, none⟩ := by
    obtain ⟨_, ⟨rfl, h2, _⟩ | ⟨g, cur, rfl, _⟩⟩ := h0
    · omega
    · exact ⟨g, rfl⟩
  subst hA
  obtain ⟨hF, _, _, cur, hh, h2, h3, h4, h5⟩ := own_row (g := g) (q := 0) h0 rfl (by omega)
  have hbound : k * T.size + j + v.cells.size ≤ cur.size := by
    have e1 : (k + 1) * T.size ≤ c * T.size := Nat.mul_le_mul_right _ (by omega)
    rw [Nat.add_mul, Nat.one_mul] at e1
    omega
  have hst := run_storeVar_row (P := Try.prog) (u := u) (q := k * T.size + j) hi hs h1 hh hbound
  have e0 : (ad (some ⟨g, 0, none⟩)).add (k * T.size + j) = ⟨g, k * T.size + j, none⟩ := by show (⟨g, 0, none⟩ : Addr).add _ = _; rw [add_none, Nat.zero_add]
  unfold Oper.wp
  rw [ha.eval]
  have hrun : (execOp (ev F) o).run Try.prog u = .ok .skip (u.setRow g (cur.toList.take (k * T.size + j) ++ v.cells.toList ++ cur.toList.drop (k * T.size + j + v.cells.size)).toArray) := by
    simp only [execOp, ho, hx, hy, Instr.storeAt, Instr.sureAddr, e0, Sem.run_bind, Sem.run_pure, Result.andThen_ok, hst]
  rw [hrun]
  refine hK undef _ _ h (St.setRow hu hr g _ fun F1 k1 => ?_)
  obtain ⟨m1, _, _, cur', m2, m3, m4, m5, m6⟩ := own_row (g := g) (q := 0) k1 rfl (by omega)
  rw [hh] at m2
  injection m2 with m2; injection m2 with m2 _ _
  subst m2
  have hFF : ∀ b, F1 b ↔ b = g := by
    obtain ⟨_, ⟨h6, _⟩ | ⟨g', _, h6, h7, _⟩⟩ := k1
    · omega
    · injection h6 with h6; injection h6 with h6; subst h6; exact h7
  have hlen : (k + 1) * T.size ≤ n * T.size := Nat.mul_le_mul_right _ (by omega)
  have hl2 : (k + 1) * T.size = k * T.size + T.size := by rw [Nat.add_mul, Nat.one_mul]
  refine ⟨m1, by rw [List.length_set]; exact hn, .inr ⟨g, _, rfl, hFF, setRow_heap u g _ _ _ _ hh, m3, m4, ?_, ?_⟩⟩
  · simp; omega
  · rw [T.encs_set hk, ← hv]
    have hgete : T.enc e = ((T.encs l).drop (k * T.size)).take T.size := by
      rw [T.encs_drop, List.drop_eq_getElem_cons hk, T.encs_cons, List.take_left' (T.enc_length _)]
      rw [(List.getElem?_eq_some_iff.1 he).2]
    rw [hgete, ← m6]
    have hvl : v.cells.size = v.cells.toList.length := by simp
    rw [hvl, hl2]
    refine seg_eq _ _ _ (by simpa using hjs) (by omega) ?_
    rw [Array.length_toList, m5]
    exact Nat.mul_le_mul_right _ m3
/-- what holds whatever the world -/
theorem L.fact {ops : List Oper} {Q : QF} {os : List Oper} {p : Prop} {P : Program} (hp : ∀ w, St E H w → p) (h : p → L P N E ops Q os F H) : L P N E ops Q os F H := ⟨fun a w ha hw => (h (hp w hw)).get a w ha hw⟩
theorem C.fact {Q : QF} {cd : Code} {p : Prop} {P : Program} (hp : ∀ w, St E H w → p) (h : p → C P N E cd Q F H) : C P N E cd Q F H := ⟨fun a w ha hw => (h (hp w hw)).get a w ha hw⟩
theorem Tri.fact {f : FuncId} {args : Array Value} {Q : Ending → List Asn → Prop} {p : Prop} {P : Program} (hp : ∀ w, St E H w → p) (h : p → Tri P E f args H Q) : Tri P E f args H Q := fun w hw => h (hp w hw) w hw
theorem L.conv {ops : List Oper} {Q : QF} {os : List Oper} {P : Program} (hc : Conv E H H') (h : L P N E ops Q os F H') : L P N E ops Q os F H := ⟨fun a w ha hw => h.get a w ha (hc w hw)⟩
theorem Tri.conv {f : FuncId} {args : Array Value} {Q : Ending → List Asn → Prop} {P : Program} (hc : Conv E H H') (h : Tri P E f args H' Q) : Tri P E f args H Q := fun w hw => h w (hc w hw)

/-! ### packed parts -/
theorem St.unpack {X : Type} {l : X → List Asn} {u : World} (h : St E H u) (hh : Has (pack l) H R) : ∃ x, St E (l x ++ R) u := by
  obtain ⟨F0, h1, h2⟩ := h.fp
  obtain ⟨F1, F2, h3, h4, ⟨x, h5⟩, h6⟩ := hh.stars h1
  exact ⟨x, h.os, h.tape, h.output, h.size, h.dom, h.keep, F0, stars_append.2 ⟨F1, F2, h3, h4, h5, h6⟩, h2⟩
theorem Tri.unpack {f : FuncId} {args : Array Value} {Q : Ending → List Asn → Prop} {P : Program} {X : Type} {l : X → List Asn} (hh : Has (pack l) H R) (h : ∀ x, Tri P E f args (l x ++ R) Q) : Tri P E f args H Q := fun w hw => by
  obtain ⟨x, hx⟩ := St.unpack hw hh
  exact h x w hx
theorem C.unpack {Q : QF} {cd : Code} {P : Program} {X : Type} {l : X → List Asn} (hh : Has (pack l) H R) (h : ∀ x, C P N E cd Q F (l x ++ R)) : C P N E cd Q F H := ⟨fun a w ha hw => by
  obtain ⟨x, hx⟩ := St.unpack hw hh
  exact (h x).get a w ha hx⟩
theorem L.unpack {Q : QF} {ops os : List Oper} {P : Program} {X : Type} {l : X → List Asn} (hh : Has (pack l) H R) (h : ∀ x, L P N E ops Q os F (l x ++ R)) : L P N E ops Q os F H := ⟨fun a w ha hw => by
  obtain ⟨x, hx⟩ := St.unpack hw hh
  exact (h x).get a w ha hx⟩
theorem Conv.pack {X : Type} {l : X → List Asn} (x : X) (hp : Picks (l x) H R) : Conv E H (pack l :: R) := fun w hw => by
  have h := hw.picks hp
  refine h.conv fun F0 hs => ⟨F0, ?_, fun _ h => h⟩
  obtain ⟨F1, F2, h3, h4, h5, h6⟩ := stars_append.1 hs
  exact ⟨F1, F2, h3, h4, ⟨x, h5⟩, h6⟩
theorem Conv.unpack {X : Type} {l : X → List Asn} (h : ∀ x, Conv E (l x ++ R) H') (hh : Has (Sep.pack l) H R) : Conv E H H' := fun w hw => by
  obtain ⟨x, hx⟩ := St.unpack hw hh
  exact h x w hx
theorem Conv.sl (hr : Repl (own T A n c l) [sl T A n c l] H H') : Conv E H H' := fun w hw =>
  hw.repl hr rfl rfl rfl (Nat.le_refl _) (G := fun _ => False) (fun _ _ _ => rfl) fun F1 h1 => by
    obtain ⟨k0, k1, k2, k3⟩ := own_rd h1
    exact ⟨F1, ⟨F1, fun _ => False, fun b => by simp, fun _ _ h => h, ⟨k0, k1, k2, k3, fun b hb => Asn.lt _ h1 hb⟩, fun _ h => h⟩, fun b hb => .inl hb, fun b _ hb => hb.elim⟩
theorem Conv.nil (T : Ty α) : Conv E H (own T none 0 0 [] :: H) := fun w hw =>
  hw.grow (l := [own T none 0 0 []]) rfl rfl rfl (Nat.le_refl _) (fun _ _ => rfl) (F1 := fun _ => False) ⟨fun _ => False, fun _ => False, fun b => by simp, fun _ h => h.elim, ⟨rfl, .inl ⟨rfl, rfl, fun _ h => h⟩⟩, fun _ h => h⟩ (fun _ h => h.elim)
/-- 's[k:]' of what is held, only read -/
theorem Conv.slFrom {k : Nat} (hk : k ≤ n) (hr : Repl (Sep.sl T A n c l) [Sep.sl T (if c = k then A else A.map (·.add (k * T.size))) (n - k) (c - k) (l.drop k)] H H') : Conv E H H' := fun w hw =>
  hw.repl hr rfl rfl rfl (Nat.le_refl _) (G := fun _ => False) (fun _ _ _ => rfl) fun F1 ⟨h1, h2, h3, h4, h5⟩ => by
    refine ⟨F1, ⟨F1, fun _ => False, fun b => by simp, fun _ _ h => h, ⟨by rw [List.length_drop, h1], by omega, by omega, ?_, h5⟩, fun _ h => h⟩, fun b hb => .inl hb, fun b _ hb => hb.elim⟩
    by_cases hn : n - k = 0
    · exact .inl hn
    · rcases h4 with h4 | ⟨ad, rfl, hD, hc⟩
      · omega
      · rw [if_neg (by omega)]
        refine .inr ⟨ad.add (k * T.size), rfl, by rw [block_of_add]; exact hD, fun j u hu => ?_⟩
        rw [add_of_add]
        refine hc _ u ?_
        rw [← hu, ← T.encs_drop, List.getElem?_drop]

theorem Tri.frame {f : FuncId} {args : Array Value} {Q : Ending → List Asn → Prop} {P : Program} {Hp : List Asn} (hp : Picks Hp H R) (h : ∀ E', Sub E R E' → Tri P E' f args Hp fun e H' => Q e (H' ++ R)) : Tri P E f args H Q := fun w hw => by
  obtain ⟨E', _, hE, hst, hback⟩ := (hw.picks hp).enter
  exact (h E' hE w hst).mono fun e w' ⟨H', h1, h2⟩ => ⟨H' ++ R, hback _ _ h1, h2⟩
/-! ### calls -/
def evs (F : Nat → Value) : List Operand → List Value
  | [] => []
  | x :: l => ev F x :: evs F l
theorem evs_eq (F : Nat → Value) (l : List Operand) : evs F l = l.map (ev F) := by
  induction l with
  | nil => rfl
  | cons x l ih => simp [evs, ih]
inductive Cat : List Asn → List Asn → List Asn → Prop
  | nil {R : List Asn} : Cat [] R R
  | cons {a : Asn} {l R H : List Asn} (h : Cat l R H) : Cat (a :: l) R (a :: H)
theorem Cat.eq {l R H : List Asn} (h : Cat l R H) : H = l ++ R := by
  induction h with
  | nil => rfl
  | cons _ ih => rw [ih]; rfl
theorem S.call {P : Program} {f : FuncId} {fn : Func} {ops : List Operand} {tys : Array TypeId} {Hp : List Asn} {vs : List Value} {Q1 : Ending → List Asn → Prop} (ho : o.op = .call { callee := .value (.func f), args := ops.toArray, argTypes := tys }) (hvs : evs F ops = vs)
    (hfn : P.funcs[f]? = some fn) (hname : (fn.name == "runtime.NumGoroutine") = false) (hbody : fn.body.isNone = false)
    (hp : Picks Hp H R) (h : ∀ E', Sub E R E' → Tri P E' f vs.toArray Hp Q1) (hQ : ∀ e H', Q1 e H' → ∃ v, e = .returned v ∧ ∃ H2, Cat H' R H2 ∧ K v H2) : Stp P N E F H o K := by
  subst hvs
  intro a u ha hu Kw Q' hK
  obtain ⟨E', _, hE, hst, hback⟩ := (hu.picks hp).enter
  unfold Oper.wp
  have hr : (execOp a.eval o).run P u = .ok (.enter f (evs F ops).toArray) u := by
    have h1 : ¬ fn.name = "runtime.NumGoroutine" := by simpa using hname
    have h2 : ¬ fn.body = none := by intro h; rw [h] at hbody; cases hbody
    rw [ha.eval, evs_eq]
    simp [execOp, ho, resolve, ev, Deferred.ofValue, invoke, callFunc, hfn, h1, h2]
  rw [hr]
  refine (h E' hE u hst).mono ?_
  rintro e w' ⟨H', h3, h4⟩
  obtain ⟨v, rfl, H2, hcat, h5⟩ := hQ e H' h4
  exact hK v _ w' h5 (by rw [hcat.eq]; exact hback H' w' h3)

/-! ### what behind holds, told apart -/
theorem S.boxK {P : Program} {t : TypeId} {x : Operand} {v : Value} {cs : List Value} (ho : o.op = .box t x) (hx : ev F x = v) (hcs : Cel v cs) : Stp P N E F H o fun r H' => ∃ g, r = .pointer (some ⟨g, 0, none⟩) ∧ H' = blk g t cs :: H :=
  S.box ho hx hcs fun g => ⟨g, rfl, rfl⟩
theorem S.store1K {P : Program} {t : TypeId} {x y : Operand} {g i : Nat} {v : Value} {ti : TypeInfo} {bt : TypeId} {cs cs' : List Value} (ho : o.op = .store t x y) (hx : ev F x = .pointer (some ⟨g, i, none⟩)) (hy : ev F y = v) (h1 : v.oneCell' = true) (hi : P.info? t = some ti) (hs : ti.size = 1)
    (hr : Repl (blk g bt cs) [blk g bt cs'] H H') (hq : i < cs.length) (hcs : cs.set i v = cs') : Stp P N E F H o fun r H1 => r = undef ∧ H1 = H' := S.store1 ho hx hy h1 hi hs hr hq hcs ⟨rfl, rfl⟩
theorem S.appendK {s x : Operand} {t : TypeId} {X : Option Addr} {nx cx n' : Nat} {l2 l' : List α} (ho : o.op = .call { callee := .builtin .append, args := #[s, x], argTypes := #[t, t] })
    (hs : ev F s = .slice A n c) (hx : ev F x = .slice X nx cx) (hn' : n + nx = n') {HX : Option Addr → Nat → List Asn} (hr : ∀ A' c', Repl (own T A n c l) [own T A' n' c' l'] H (HX A' c')) (hrd : RdH E H T X nx cx l2) (hl' : l ++ l2 = l') (ht : Try.prog.underlying t = some (.slice T.tid)) {by_ : Nat} (hbb : T.bytes = by_) (hlen : n' ≤ 140737488355328) (hby : n' * by_ ≤ 140737488355328) :
    Stp Try.prog N E F H o fun r H1 => ∃ A' c', (n' ≤ c' ∧ c' ≤ maxLen) ∧ r = .slice A' n' c' ∧ H1 = HX A' c' := S.append ho hs hx hn' hr hrd hl' ht hbb hlen hby fun A' c' h1 h2 => ⟨A', c', ⟨h1, h2⟩, rfl, rfl⟩
theorem S.append1K {s x : Operand} {t : TypeId} {X : Option Addr} {nx cx n' : Nat} {l2 l' : List α} (ho : o.op = .call { callee := .builtin .append, args := #[s, x], argTypes := #[t, t] })
    (hs : ev F s = .slice A n c) (hx : ev F x = .slice X nx cx) {H0 : List Asn} (hH : H0 = own T X nx cx l2 :: H) (hn' : n + nx = n') {HX : Option Addr → Nat → List Asn} (hr : ∀ A' c', Repl (own T A n c l) [own T A' n' c' l'] H (HX A' c')) (hl' : l ++ l2 = l') (ht : Try.prog.underlying t = some (.slice T.tid)) {by_ : Nat} (hbb : T.bytes = by_) (hlen : n' ≤ 140737488355328) (hby : n' * by_ ≤ 140737488355328) :
    Stp Try.prog N E F H0 o fun r H1 => ∃ A' c', (n' ≤ c' ∧ c' ≤ maxLen) ∧ r = .slice A' n' c' ∧ H1 = HX A' c' := S.append1 ho hs hx hH hn' hr hl' ht hbb hlen hby fun A' c' h1 h2 => ⟨A', c', ⟨h1, h2⟩, rfl, rfl⟩
theorem S.appendNilK {s x : Operand} {t : TypeId} {X : Option Addr} {nx cx : Nat} {l2 : List α} (ho : o.op = .call { callee := .builtin .append, args := #[s, x], argTypes := #[t, t] })
    (hs : ev F s = .slice none 0 0) (hx : ev F x = .slice X nx cx) (hrd : RdH E H T X nx cx l2) (ht : Try.prog.underlying t = some (.slice T.tid)) {by_ : Nat} (hbb : T.bytes = by_) (hlen : nx ≤ 140737488355328) (hby : nx * by_ ≤ 140737488355328) :
    Stp Try.prog N E F H o fun r H1 => ∃ A' c', (nx ≤ c' ∧ c' ≤ maxLen) ∧ r = .slice A' nx c' ∧ H1 = own T A' nx c' l2 :: H := S.appendNil ho hs hx hrd ht hbb hlen hby fun A' c' h1 h2 => ⟨A', c', ⟨h1, h2⟩, rfl, rfl⟩
theorem S.buildSliceK {t : TypeId} {m : Nat} {parts0 : List (Nat × Operand)} {l : List α} (ho : o.op = .buildSlice t m parts0.toArray) (hp : pv (ev F) parts0 = (l.map T.val).zipIdx.map fun p => (p.2, p.1))
    (ht : Try.prog.underlying t = some (.slice T.tid)) (hm : l.length = m) (hbig : m * T.size ≤ 2 ^ 24) : Stp Try.prog N E F H o fun r H1 => ∃ g, r = .slice (some ⟨g, 0, none⟩) m m ∧ H1 = own T (some ⟨g, 0, none⟩) m m l :: H :=
  S.buildSlice ho hp ht hm hbig fun g => ⟨g, rfl, rfl⟩
theorem S.buildSlice1K {t : TypeId} {x : Operand} {e : α} {v : Value} (ho : o.op = .buildSlice t 1 #[(0, x)]) (hx : ev F x = v) (hv : T.val e = v)
    (ht : Try.prog.underlying t = some (.slice T.tid)) (hbig : 1 * T.size ≤ 2 ^ 24) : Stp Try.prog N E F H o fun r H1 => ∃ g, r = .slice (some ⟨g, 0, none⟩) 1 1 ∧ H1 = own T (some ⟨g, 0, none⟩) 1 1 [e] :: H :=
  S.buildSlice1 ho hx hv ht hbig fun g => ⟨g, rfl, rfl⟩
end
end
theorem S.storeEK {α : Type} {T : Ty α} {N : Nat} {E : Env} {F : Nat → Value} {H H' : List Asn} {o : Oper} {A : Option Addr} {n c : Nat} {l : List α} {x y : Operand} {t : TypeId} {q k : Nat} {v : Value} {e e' : α} (ho : o.op = .store t x y) (hx : ev F x = .pointer (some ((ad A).add q))) (hy : ev F y = v) (hr : Repl (own T A n c l) [own T A n c (l.set k e')] H H')
    (he : l[k]? = some e) (hq : q = k * T.size) (hv : T.val e' = v) (ht : T.tid = t) : Stp Try.prog N E F H o fun r H1 => r = undef ∧ H1 = H' := by
  subst ht
  obtain ⟨ti, hi, _, hs, _⟩ := T.infoOf
  refine S.storeElem (k := k) (j := 0) (e := e) (e' := e') ho hx hy rfl (by rw [← hv]; exact T.hone e') hi (by rw [← hv, T.hlen, hs]) (by rw [hq]; rfl) he (by rw [← hv, T.hlen]; omega) ?_ hr ⟨rfl, rfl⟩
  rw [← hv, T.hlen, List.take_zero, List.nil_append, Nat.zero_add, List.drop_of_length_le (by rw [T.enc_length]; exact Nat.le_refl _), List.append_nil]
  rfl
theorem sHas {a : Asn} {H R : List Asn} (h : Has a H R := by (iterate 30 first | with_reducible exact Has.here | apply Has.there | skip); first | done | fail) : Has a H R := h
theorem sPicks {l H R : List Asn} (h : Picks l H R := by (iterate 24 first | with_reducible exact Picks.nil | (apply Picks.cons; (· exact sHas)) | skip); first | done | fail) : Picks l H R := h
theorem sRepl {a b : Asn} {H H' : List Asn} (h : Repl a [b] H H' := by (iterate 30 first | with_reducible exact Repl.one | apply Repl.there | skip); first | done | fail) : Repl a [b] H H' := h
theorem sCat {l R H : List Asn} (h : Cat l R H := by (iterate 30 first | with_reducible exact Cat.nil | apply Cat.cons | skip); first | done | fail) : Cat l R H := h
theorem sLk {α : Type} {a b : α} (h : a = b := by conv => lhs; whnf) : a = b := h
theorem sRet {α : Type} {a b : α} (h : a = b := by (conv => lhs; whnf); first | done | rfl) : a = b := h
theorem sNum {a b : Int} (h : a = b := by first | with_reducible assumption | exact IntWalk.i64_in _ (by omega) | exact IntWalk.u8_in _ (by omega) | exact IntWalk.u64_in _ (by omega) | exact IntWalk.u32_in _ (by omega) | exact IntWalk.i32_in _ (by omega) | exact IntKind.wrap_u8 _ | exact IntKind.wrap_u64 _ | exact IntKind.wrap_u32 _ | rfl) : a = b := h
theorem sQuo {a b : Int} (h : a = b := by first | with_reducible assumption | exact IntWalk.i64_quo _ _ (by omega) | exact IntWalk.u8_quo _ _ (by omega) | exact IntWalk.u64_quo _ _ (by omega) | exact IntWalk.u32_quo _ _ (by omega) | exact IntWalk.i32_quo _ _ (by omega) | rfl) : a = b := h
theorem sRem {a b : Int} (h : a = b := by first | with_reducible assumption | exact IntWalk.rem_in _ _ (by omega) | rfl) : a = b := h
theorem sTst {a b : Bool} (h : a = b := by first | rfl | assumption | exact decide_eq_true (by omega) | exact decide_eq_false (by omega)) : a = b := h
theorem sOm {p : Prop} (h : p := by omega) : p := h
theorem sDc {p : Prop} (h : p := by decide) : p := h
theorem sAsm {p : Prop} (h : p := by with_reducible assumption) : p := h
theorem sRfl {α : Type} {a b : α} (h : a = b := by rfl) : a = b := h
theorem sMax {p : Prop} (h : p := by first | assumption | (unfold maxLen at *; omega)) : p := h
theorem sRd {α : Type} {E' : Env} {T : Ty α} {A : Option Addr} {n c : Nat} {l : List α} (h : Rd E' T A n c l := by first | exact Rd.sub (by assumption) sAsm | exact Sub.own (by assumption) sHas | exact Sub.sl (by assumption) sHas | exact Rd.nil _ _) : Rd E' T A n c l := h
theorem sRdH0 {α : Type} {E : Env} {H : List Asn} {T : Ty α} {A : Option Addr} {n c : Nat} {l : List α} (h : RdH E H T A n c l := by first | exact RdH.rd sAsm | exact RdH.own sHas | exact RdH.sl sHas) : RdH E H T A n c l := h
theorem sRdH {α : Type} {E : Env} {H : List Asn} {T : Ty α} {A : Option Addr} {n c : Nat} {l : List α} (h : RdH E H T A n c l := by first | exact RdH.rd sAsm | exact RdH.own sHas | exact RdH.sl sHas | exact RdH.rd (Rd.nil _ _) | (apply RdH.inner; (· exact sAsm); (· exact sMax); (· exact sRdH0); rotate_left; (· exact sRfl); rotate_right; (· exact sAsm)) | exact RdH.from_ sRdH0 sOm | exact RdH.cut sRdH0 sOm sOm | exact RdH.up sRdH0 sOm | exact RdH.upto sRdH0 sOm sOm sOm) : RdH E H T A n c l := h
theorem sCell {E : Env} {H : List Asn} {a : Addr} {v : Value} (h : Cell E H a v := by first | exact Cell.blk sHas sRfl | (apply Cell.elem; (· exact sRdH); rotate_left; (· exact sRfl); rotate_right; (· exact sAsm); (· exact sRfl)) | (apply Cell.elem0; (· exact sRdH); rotate_left; (· exact sRfl); rotate_right; (· exact sAsm); (· exact sRfl)) | exact Cell.kc sAsm) : Cell E H a v := h
theorem sSetL {a b : List Value} (h : a = b := by first | (conv => lhs; simp only [List.set_cons_zero, List.set_cons_succ]) | rfl) : a = b := h
theorem sAdd {a b : Addr} (h : a = b := by first | (conv => lhs; simp only [add_none, Nat.zero_add, Nat.add_zero, Nat.zero_mul, Nat.mul_one, Nat.reduceAdd, Nat.reduceMul]) | rfl) : a = b := h
theorem sJ {a b : Nat} (h : a = b := by first | (conv => lhs; simp only [Int.toNat_natCast, Int.reduceToNat]) | exact Int.toNat_natCast (@OfNat.ofNat Nat _ (instOfNatNat _)) | rfl) : a = b := h
theorem sNN {a b : Nat} (h : a = b := by first | (conv => lhs; simp only [Nat.zero_add, Nat.add_zero]) | rfl) : a = b := h
theorem sNL {α : Type} {a b : List α} (h : a = b := by first | (conv => lhs; simp only [List.nil_append]) | rfl) : a = b := h
theorem sLn {p : Prop} (h : p := by simp only [List.length_cons, List.length_nil]; omega) : p := h
theorem sCel {v : Value} {l : List Value} (h : Cel v l := by first | exact Cel.agg | exact Cel.one rfl | exact Cel.one (by assumption)) : Cel v l := h
theorem sPut {cs : List Value} {k : Nat} {vs o : List Value} (h : Put cs k vs o := by (iterate 40 first | exact Put.done | apply Put.here | apply Put.next | skip); first | done | fail) : Put cs k vs o := h
theorem sFil {pl : List (Nat × Nat)} {z : List Value} {vs : List (Nat × Value)} {o : List Value} (h : Fil pl z vs o := by (iterate 24 first | exact Fil.nil | (apply Fil.cons; (· exact rfl); (· exact sCel); (· exact sPut); (· exact rfl)) | skip); first | done | fail) : Fil pl z vs o := h
theorem sPv {ρ : Operand → Value} {l : List (Nat × Operand)} {vs : List (Nat × Value)} (h : PV ρ l vs := by (iterate 24 first | exact PV.nil | (apply PV.cons; (· exact sLk)) | skip); first | done | fail) : PV ρ l vs := h
theorem sHolds {F : Nat → Value} {l : List (Nat × Value)} (h : Holds F l := by (iterate 60 first | exact trivial | (apply And.intro; (· (first | rfl | assumption | ((conv => lhs; whnf); first | done | (congr 1; first | omega | (dsimp only; omega) | (simp [*]; done) | (simp [*]; omega)))))) | skip); first | done | fail) : Holds F l := h
theorem sConv {E : Env} {H H' : List Asn} (h : Conv E H H' := by first | first | exact Conv.refl | exact Conv.picks sPicks | (simp only [Bool.not_true, Bool.not_false, Bool.or_true, Bool.or_false, Bool.false_or, Bool.true_or, Bool.and_true, Bool.and_false, Bool.true_and, Bool.false_and]; first | exact Conv.refl | exact Conv.picks sPicks)) : Conv E H H' := h
theorem sGon {l : List Oper} {N : Nat} {F : Nat → Value} {g : Option (Nat × Bool)} (h : Grd l N F true g := by first | exact Grd.none rfl | exact Grd.on rfl (by decide) rfl sTst) : Grd l N F true g := h
theorem sGoff {l : List Oper} {N : Nat} {F : Nat → Value} {g : Option (Nat × Bool)} (h : Grd l N F false g := by first | exact Grd.off rfl (by decide) rfl sTst | exact Grd.offU rfl (by decide) rfl) : Grd l N F false g := h
end Go.Proofs.Ytihblcljkndpgaa.Sep
