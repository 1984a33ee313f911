/- Equality of structs, as of lists of cells. No function in sight. -/
import Derived.Test.YtihblcljkndpgaaOps2
import Derived.Laws.StructEq
namespace Go.Proofs.Ytihblcljkndpgaa.Sep
open Go.RowKit Go.Proofs.Ytihblcljkndpgaa.Reg
open Go.Proofs.Ytihblcljkndpgaa.Mem hiding Rd Own
set_option maxRecDepth 100000
/-- a value whose cells these are -/
def Isv (P : Program) (t : TypeId) (x : Value) (xs : List Value) : Prop := match P.underlying t with
  | some (.struct _) => x = .agg xs.toArray
  | _ => xs = [x]
def eqf (P : Program) (ask : TypeId → List Value → List Value → Option Bool) (xs ys : List Value) : List Field → Option Bool
  | [] => some true
  | f :: fs => if f.name = "_" then none else match P.info? f.type with
    | none => none
    | some ti => match ask f.type ((xs.drop f.offset).take ti.size) ((ys.drop f.offset).take ti.size), eqf P ask xs ys fs with
      | some a, some b => some (a && b)
      | _, _ => none
/-- what '==' tells of cells -/
def eqv (P : Program) : Nat → TypeId → List Value → List Value → Option Bool
  | 0, _, _, _ => none
  | d + 1, t, xs, ys => match P.underlying t with
    | some (.int _) => match xs, ys with
      | [.int k a], [.int k' b] => if k = k' then some (decide (a = b)) else none
      | _, _ => none
    | some .bool => match xs, ys with
      | [.bool a], [.bool b] => some (decide (a = b))
      | _, _ => none
    | some (.struct fs) => if P.stoodInHeld t then none else eqf P (eqv P d) xs ys fs.toList
    | _ => none
section
variable {P : Program}
theorem part_seg {t : TypeId} {xs seg ys : List Value} {off d : Nat} {ti : TypeInfo} {r : Bool} (hi : P.info? t = some ti) (hs : (xs.drop off).take ti.size = seg) (h : eqv P d t seg ys = some r ∨ eqv P d t ys seg = some r) (u : World) :
    ∃ x, (part t xs.toArray off).run P u = .ok x u ∧ Isv P t x seg := by
  cases d with
  | zero => simp [eqv] at h
  | succ d =>
    have one : ∀ v, seg = [v] → xs[off]? = some v := by
      intro v hv
      rw [hv] at hs
      cases hq : xs.drop off with
      | nil => rw [hq] at hs; simp at hs
      | cons a l =>
        rw [hq] at hs
        cases hz : ti.size with
        | zero => rw [hz] at hs; simp at hs
        | succ n =>
          rw [hz, List.take_succ_cons] at hs
          injection hs with h1 _
          have h2 : (xs.drop off)[0]? = some a := by rw [hq]; rfl
          rw [List.getElem?_drop] at h2
          rw [← h1]; simpa using h2
    cases ht : P.underlying t with
    | none => simp [eqv, ht] at h
    | some D =>
      have sng : (∀ fs, D ≠ .struct fs) → ∃ v, seg = [v] := by
        intro hD
        unfold eqv at h
        rw [ht] at h
        cases D <;> simp only [or_self, reduceCtorEq] at h
        all_goals first
          | exact absurd rfl (hD _)
          | (rcases h with h | h
             · split at h
               · exact ⟨_, rfl⟩
               · cases h
             · split at h
               · exact ⟨_, rfl⟩
               · cases h)
      by_cases hD : ∃ fs, D = .struct fs
      · obtain ⟨fs, rfl⟩ := hD
        refine ⟨.agg seg.toArray, ?_, by simp [Isv, ht]⟩
        simp only [part, isAgg, sizeOf, typeInfo, Sem.run_bind, run_underlying ht, Result.andThen_ok, run_program]
        simp [hi, ← hs, List.extract_eq_take_drop]
      · obtain ⟨v, hv⟩ := sng (fun fs e => hD ⟨fs, e⟩)
        have h1 := one v hv
        unfold eqv at h
        rw [ht] at h
        refine ⟨v, ?_, ?_⟩
        · cases D <;> simp only [or_self, reduceCtorEq] at h
          all_goals first
            | exact absurd ⟨_, rfl⟩ hD
            | simp [part, isAgg, run_underlying ht, h1]
        · unfold Isv
          rw [ht]
          cases D <;> first | exact absurd ⟨_, rfl⟩ hD | exact hv
theorem eqv_run (d : Nat) : ∀ (k : Nat) (t : TypeId) (xs ys : List Value) (r : Bool) (x y : Value) (u : World), eqv P d t xs ys = some r → Isv P t x xs → Isv P t y ys → (Op.equalIn (d + k) t x y).run P u = .ok r u := by
  induction d with
  | zero => intro k t xs ys r x y u h; simp [eqv] at h
  | succ d ih =>
    intro k t xs ys r x y u h hx hy
    rw [Nat.add_right_comm]
    unfold eqv at h
    unfold Isv at hx hy
    cases ht : P.underlying t with
    | none => simp [ht] at h
    | some D =>
      rw [ht] at h hx hy
      cases D <;> simp only [reduceCtorEq] at h
      case bool =>
        split at h
        · injection hx with hx _; injection hy with hy _
          subst hx hy
          injection h with h
          rw [run_equalIn_bool _ ht, ← h]
          rename_i a b
          cases a <;> cases b <;> rfl
        · cases h
      case int =>
        split at h
        · split at h
          · rename_i hk
            subst hk
            injection hx with hx _; injection hy with hy _
            subst hx hy
            injection h with h
            rw [run_equalIn_int _ _ _ _ _ _ _ ht, ← h]
            rfl
          · cases h
        · cases h
      case struct fs =>
        split at h
        · cases h
        · rename_i hst
          simp only at hx hy
          subst hx hy
          have hfs : P.fieldsOf t = fs := by simp [Program.fieldsOf, ht]
          rw [run_equalIn_struct _ _ _ _ _ (by rw [hfs]; exact ht) (by simpa using hst), hfs]
          generalize fs.toList = l at h
          clear ht hfs
          induction l generalizing r u with
          | nil =>
            injection h with h
            rw [← h]
            simp [Op.eqFields]
          | cons f l ihl =>
            unfold eqf at h
            split at h
            · cases h
            · rename_i hn
              split at h
              · cases h
              · rename_i ti hi
                split at h
                · rename_i a b ha hb
                  injection h with h
                  obtain ⟨v1, h1, g1⟩ := part_seg hi rfl (.inl ha) u
                  obtain ⟨v2, h2, g2⟩ := part_seg hi rfl (.inr ha) u
                  have h3 := ih k _ _ _ _ _ _ u ha g1 g2
                  simp only [Op.eqFields, ne_eq, hn, not_false_eq_true, if_true, Sem.run_bind, h1, h2, h3, Result.andThen_ok]
                  cases a
                  · simp only [Bool.false_and] at h
                    rw [← h]
                    simp
                  · simp only [Bool.true_and] at h
                    subst h
                    simpa using ihl _ u hb
                · cases h
/-- '==' of two structs -/
structure EqA (P : Program) (t : TypeId) (xs ys : Array Value) (r : Bool) : Prop where
  ty : ∃ fs, P.underlying t = some (.struct fs)
  guard : P.eqGuardType P.depth t = false
  val : eqv P 5 t xs.toList ys.toList = some r
theorem EqA.run {t : TypeId} {xs ys : Array Value} {r : Bool} (h : EqA P t xs ys r) (u : World) : (Op.equalIn 10000 t (.agg xs) (.agg ys)).run P u = .ok r u := by
  obtain ⟨fs, ht⟩ := h.ty
  exact eqv_run 5 9995 t _ _ _ _ _ u h.val (by simp [Isv, ht]) (by simp [Isv, ht])
variable {ρ : Operand → Value} {o : Oper} {u : World}
theorem V.eqlA {x y : Operand} {t t' : TypeId} {xs ys : Array Value} {r : Bool} (ho : o.op = .binOp .eql t x y t') (hx : ρ x = .agg xs) (hy : ρ y = .agg ys) (h : EqA P t xs ys r) : (execOp ρ o).run P u = .ok (.value (.bool r)) u := by
  have h1 := run_eql_struct (P := P) u t xs ys
  rw [h.run] at h1
  simp [execOp, ho, resolve, hx, hy, run_eqGuard_agg u .eql t x y xs ys h.guard, h1]
theorem V.neqA {x y : Operand} {t t' : TypeId} {xs ys : Array Value} {r : Bool} (ho : o.op = .binOp .neq t x y t') (hx : ρ x = .agg xs) (hy : ρ y = .agg ys) (h : EqA P t xs ys r) : (execOp ρ o).run P u = .ok (.value (.bool (!r))) u := by
  have h1 := run_neq_struct (P := P) u t xs ys
  rw [h.run] at h1
  simp [execOp, ho, resolve, hx, hy, run_eqGuard_agg u .neq t x y xs ys h.guard, h1]
end
end Go.Proofs.Ytihblcljkndpgaa.Sep
