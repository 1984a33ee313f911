/- the law LedgerLoads, by parts of memory. -/
import Derived.Test.YtkhmplaocfjpjaaLodPlain
namespace Go.Proofs.Ytkhmplaocfjpjaa.Sep
open Go.RowKit Go.Proofs.Ytkhmplaocfjpjaa.Reg
open Go.Proofs.Ytkhmplaocfjpjaa.Mem hiding Rd Own
-- types: entT enrT effT lineT rchT chvT efsT op22T keyT reqT
-- recs: idnT_rec effT_rec cfgT_rec entT_rec enrT_rec keyT_rec reqT_rec chain_rec chref_rec op22T_rec lineT_rec ledger_rec bk22_rec
-- eqs: idnT_eqa effT_eqa entT_eqa enrT_eqa keyT_eqa reqT_eqa
-- funcs
-- flds
-- elts
-- eachs
set_option maxRecDepth 100000
set_option maxHeartbeats 4000000
def Op22.cl (x : Op22) : Op22 := ⟨x.kind, x.seq, x.want, x.key, min (max x.now 0) 1073741824⟩
theorem cl_set (x : Op22) : Fset op22T x 7 (.int .i64 (min (max x.now 0) 1073741824)) x.cl := Fset.mk1 rfl (by decide) rfl
def clL (i : Nat) (l : List Op22) : List Op22 := (l.take i).map Op22.cl ++ l.drop i
theorem clL_at {i : Nat} {l : List Op22} {x : Op22} (h : l[i]? = some x) : (clL i l)[i]? = some x := by
  have hi := (List.getElem?_eq_some_iff.1 h).1
  unfold clL
  rw [List.getElem?_append_right (by rw [List.length_map, List.length_take]; omega), List.length_map, List.length_take, Nat.min_eq_left (by omega), Nat.sub_self, List.getElem?_drop]
  exact h
theorem clL_succ {i : Nat} {l : List Op22} {x : Op22} (h : l[i]? = some x) : (clL i l).set i x.cl = clL (i + 1) l := by
  have hi := (List.getElem?_eq_some_iff.1 h).1
  have hx : l[i] = x := (List.getElem?_eq_some_iff.1 h).2
  unfold clL
  rw [List.set_append_right _ _ (by rw [List.length_map, List.length_take]; omega), List.length_map, List.length_take, Nat.min_eq_left (by omega), Nat.sub_self, List.drop_eq_getElem_cons hi, List.set_cons_zero,
    List.take_succ_eq_append_getElem hi, List.map_append, hx, List.append_assoc]
  rfl
theorem clL_length {i : Nat} {l : List Op22} : (clL i l).length = l.length := by
  unfold clL
  rw [List.length_append, List.length_map, List.length_take, List.length_drop]; omega
def Eff.fine (f : Eff) : Prop := 1 ≤ f.kind ∧ f.kind ≤ 11 ∧ 0 ≤ f.a ∧ f.a ≤ 255 ∧ f.ref = ⟨0, 0⟩
theorem Eff.fine_check {f : Eff} (h : f.fine) : f.check = 0 := by
  obtain ⟨h1, h2, h3, h4, h5⟩ := h
  unfold Eff.check
  rw [h5]
  simp only
  repeat (first | rfl | (rw [if_neg (by omega)]) | (rw [if_pos (by omega)]))
theorem cl_now (x : Op22) : 0 ≤ x.cl.now ∧ x.cl.now ≤ 1073741824 := by
  unfold Op22.cl
  dsimp only
  omega
theorem lput_next {ps : List S21} {i : Nat} {s : S21} (h : ps[i]? = some s) : puts22 (ps.take i) ((i + 1 : Nat) : Int) s.w = (true, ps.take i ++ [s0.put s.w]) := by
  have hi := (List.getElem?_eq_some_iff.1 h).1
  have hl : (ps.take i).length = i := by rw [List.length_take]; omega
  unfold puts22
  rw [if_pos (by rw [hl]; omega), toNat_at]
  unfold put22
  rw [if_neg (by rw [hl]; omega)]
theorem take_last {ps : List S21} {i : Nat} {s t : S21} (h : ps[i]? = some s) : (ps.take i ++ [t]).set i s = ps.take (i + 1) := by
  have hi := (List.getElem?_eq_some_iff.1 h).1
  have hl : (ps.take i).length = i := by rw [List.length_take]; omega
  rw [List.set_append_right _ _ (by omega), hl, Nat.sub_self, List.set_cons_zero, List.take_succ_eq_append_getElem hi, (List.getElem?_eq_some_iff.1 h).2]
section
variable (E : Env) (g : Nat) (B : Option Addr) (n d : Nat) (r : Int)
def at22 (r : Int) (n : Nat) (a : Idn) : Int := if Here r n a then a.seq - 1 else -1
theorem bat_any (a : Idn) (hn : n ≤ 100000) : Tri Try.prog E 29 #[.pointer (some ⟨g, 0, none⟩), .agg a.cs.toArray] [bg g B n d r] fun e H' => e = .returned (.int .i64 (at22 r n a)) ∧ H' = [bg g B n d r] := by
  by_cases h : Here r n a
  · obtain ⟨x, s⟩ := a
    obtain ⟨h1, h2, h3⟩ := h
    dsimp only at h1 h2 h3
    subst h1
    obtain ⟨i, hi, rfl⟩ := seq_at ⟨h2, h3⟩
    have ha : at22 x n ⟨x, ((i + 1 : Nat) : Int)⟩ = (i : Int) := by unfold at22; rw [if_pos ⟨rfl, h2, h3⟩]; dsimp only; omega
    rw [ha]
    exact bat_yes E g B n d x i hn hi
  · have ha : at22 r n a = -1 := by unfold at22; rw [if_neg h]
    rw [ha]
    exact bat_no E g B n d r a hn h
end
/-- the first loop: times are bounded; an effect that may not be ends it -/
abbrev LoadsA (g5 : Nat) (v : Chv) : Asn := blk g5 61 v.cs
end Go.Proofs.Ytkhmplaocfjpjaa.Sep
