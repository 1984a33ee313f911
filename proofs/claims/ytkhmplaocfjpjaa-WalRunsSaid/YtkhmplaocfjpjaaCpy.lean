/- copy into, and clear, a stretch of a slice that starts its own row. No program in sight. -/
import Derived.Test.YtkhmplaocfjpjaaOps3
namespace Go.Proofs.Ytkhmplaocfjpjaa.Sep
open Go.RowKit Go.Proofs.Ytkhmplaocfjpjaa.Reg
open Go.Proofs.Ytkhmplaocfjpjaa.Mem hiding Rd Own
section
variable {E : Env} {H : List Asn} {α : Type} {T : Ty α} {A : Option Addr} {n c : Nat} {l : List α} {N : Nat} {F : Nat → Value} {o : Oper} {H' : List Asn}
/-- elements l2 stand from k on -/
def lay (l : List α) (k : Nat) (l2 : List α) : List α := l.take k ++ l2 ++ l.drop (k + l2.length)
theorem lay_length {k : Nat} {l2 : List α} (h : k + l2.length ≤ l.length) : (lay l k l2).length = l.length := by
  unfold lay
  simp only [List.length_append, List.length_take, List.length_drop]; omega
theorem own_lay {F1 : Nat → Prop} {u : World} {g k : Nat} {l2 : List α} {cur : Array Value} (h0 : (own T (some ⟨g, 0, none⟩) n c l).holds F1 u) (hh : u.heap[g]? = some (.cells cur T.tid (0, 0))) (hk : k + l2.length ≤ n) (hn0 : 0 < n) :
    k * T.size + (T.encs l2).length ≤ cur.size ∧ F1 g ∧ (own T (some ⟨g, 0, none⟩) n c (lay l k l2)).holds F1 (u.setRow g (cur.toList.take (k * T.size + 0) ++ T.encs l2 ++ cur.toList.drop (k * T.size + 0 + (T.encs l2).length)).toArray) := by
  have hn := h0.1
  obtain ⟨m1, _, _, cur', m2, m3, m4, m5, m6⟩ := own_row (g := g) (q := 0) h0 rfl hn0
  rw [hh] at m2
  injection m2 with m2; injection m2 with m2 _ _
  subst m2
  have hFF : ∀ b, F1 b ↔ b = g := by
    obtain ⟨_, ⟨h6, _⟩ | ⟨g', _, h6, h7, _⟩⟩ := h0
    · omega
    · injection h6 with h6; injection h6 with h6; subst h6; exact h7
  have hel : (T.encs l2).length = l2.length * T.size := T.encs_length l2
  have hlen : (k + l2.length) * T.size ≤ n * T.size := Nat.mul_le_mul_right _ hk
  have hl2 : (k + l2.length) * T.size = k * T.size + l2.length * T.size := Nat.add_mul _ _ _
  have hnc : n * T.size ≤ c * T.size := Nat.mul_le_mul_right _ m3
  refine ⟨by omega, m1, by rw [lay_length (by omega)]; exact hn, .inr ⟨g, _, rfl, hFF, setRow_heap u g _ _ _ _ hh, m3, m4, ?_, ?_⟩⟩
  · simp; omega
  · unfold lay
    rw [T.encs_append, T.encs_append, ← T.encs_take, ← T.encs_drop, ← m6, Nat.add_mul, ← hel, Nat.add_zero]
    have hc : cur.toList.length = c * T.size := by rw [Array.length_toList, m5]
    simp only
    rw [List.take_append, List.take_append, List.take_take, List.take_take, Nat.min_eq_right (by omega), Nat.min_eq_left (by omega), List.take_of_length_le (l := T.encs l2) (by rw [List.length_take]; omega), List.drop_take]
    congr 2
    rw [List.length_append, List.length_take, Nat.min_eq_left (by omega)]
theorem cut_addr {g k : Nat} (hkc : k < c) : (if c = k then (some (⟨g, 0, none⟩ : Addr)) else (some (⟨g, 0, none⟩ : Addr)).map (·.add (k * T.size))) = some ⟨g, k * T.size, none⟩ := by
  rw [if_neg (by omega)]
  show some ((⟨g, 0, none⟩ : Addr).add _) = _
  rw [add_none, Nat.zero_add]
/-- 'copy(s[k:], x)' -/
theorem S.copyCutK {x d : Operand} {t t2 : TypeId} {k m nx cx : Nat} {X : Option Addr} {l2 : List α} (ho : o.op = .call { callee := .builtin .copy, args := #[d, x], argTypes := #[t, t2] })
    (hd : ev F d = .slice (if c = k then A else A.map (·.add (k * T.size))) m (c - k)) (hx : ev F x = .slice X nx cx) (hrd : RdH E H T X nx cx l2) (hr : Repl (own T A n c l) [own T A n c (lay l k l2)] H H')
    (ht : Try.prog.underlying t = some (.slice T.tid)) (hkm : k + m ≤ n) (h0 : 0 < m) (hnx : nx ≤ m) (hm : m ≤ maxLen) : Stp Try.prog N E F H o fun r H1 => r = .int .i64 (nx : Int) ∧ H1 = H' := by
  intro a u ha hu Kw Q' hK
  obtain ⟨R, hhas, F0, h1⟩ := hu.repl1 hr
  obtain ⟨g, hA0⟩ : ∃ g, A = some ⟨g, 0, none⟩ := by
    obtain ⟨_, ⟨rfl, h2, _⟩ | ⟨g, cur, rfl, _⟩⟩ := h1
    · omega
    · exact ⟨g, rfl⟩
  subst hA0
  obtain ⟨hF, _, _, cur, hh, h2, h3, h4, h5⟩ := own_row (g := g) (q := 0) h1 rfl (by omega)
  rw [cut_addr (by omega)] at hd
  obtain ⟨k0, _, _, _⟩ := hrd u hu
  have hfc := run_firstCells hrd hu
  have hp : ∀ F1, (own T (some ⟨g, 0, none⟩) n c l).holds F1 u → _ := fun F1 h => own_lay (k := k) (l2 := l2) h hh (by omega) (by omega)
  have hst := run_storeCells_at Try.prog g (k * T.size) T.tid (T.encs l2) 0 cur u hh (by have := (hp F0 h1).1; omega) (T.encs_hone l2)
  obtain ⟨tu, hi, _, hsz, _⟩ := T.infoOf
  have hmin : Nat.min nx m = nx := Nat.min_eq_left hnx
  unfold Oper.wp
  rw [ha.eval]
  have hw : IntKind.i64.wrap (nx : Int) = nx := IntWalk.i64_in _ (by unfold maxLen at hm; omega)
  have hrun : (execOp (ev F) o).run Try.prog u = .ok (.value (.int .i64 (nx : Int))) (u.setRow g (cur.toList.take (k * T.size + 0) ++ T.encs l2 ++ cur.toList.drop (k * T.size + 0 + (T.encs l2).length)).toArray) := by
    simp [execOp, ho, resolve, invoke, builtin, hd, hx, Builtin.copy_, run_underlying ht, Builtin.lenOf, hmin, sizeOf, typeInfo, hi, hsz, hfc, goInt, hw] at hst ⊢
    simp [hst]
  rw [hrun]
  exact hK _ _ _ ⟨rfl, rfl⟩ (St.setRow hu hr g _ fun F1 k1 => ⟨(hp F1 k1).2.1, (hp F1 k1).2.2⟩)
/-- 'clear(s[k:..])' -/
theorem S.clearCutK {x : Operand} {t : TypeId} {z : α} {k m : Nat} (ho : o.op = .call { callee := .builtin .clear, args := #[x], argTypes := #[t] }) (hx : ev F x = .slice (if c = k then A else A.map (·.add (k * T.size))) m (c - k))
    (ht : Try.prog.underlying t = some (.slice T.tid)) (hz : T.val z = T.zero) (hkm : k + m ≤ n) (h0 : 0 < m) (hr : Repl (own T A n c l) [own T A n c (lay l k (List.replicate m z))] H H') : Stp Try.prog N E F H o fun r H1 => r = .tuple #[] ∧ H1 = H' := by
  intro a u ha hu Kw Q' hK
  obtain ⟨R, hhas, F0, h1⟩ := hu.repl1 hr
  obtain ⟨g, hA0⟩ : ∃ g, A = some ⟨g, 0, none⟩ := by
    obtain ⟨_, ⟨rfl, h2, _⟩ | ⟨g, cur, rfl, _⟩⟩ := h1
    · omega
    · exact ⟨g, rfl⟩
  subst hA0
  obtain ⟨hF, _, _, cur, hh, h2, h3, h4, h5⟩ := own_row (g := g) (q := 0) h1 rfl (by omega)
  rw [cut_addr (by omega)] at hx
  obtain ⟨ti, hi, hzz, hsz, hbt⟩ := T.infoOf
  have hzc : Builtin.zeroCells T.zero.cells m = madeCells T.zero.cells (m * T.size) := by
    have := T.hzero
    simp [Builtin.zeroCells, madeCells, this]
  have hzl : (Builtin.zeroCells T.zero.cells m).toList = T.encs (List.replicate m z) := by rw [hzc, madeCells_ty T z hz]
  have hp : ∀ F1, (own T (some ⟨g, 0, none⟩) n c l).holds F1 u → _ := fun F1 h => own_lay (k := k) (l2 := List.replicate m z) h hh (by rw [List.length_replicate]; omega) (by omega)
  have hst := run_storeCells_at Try.prog g (k * T.size) T.tid (T.encs (List.replicate m z)) 0 cur u hh (by have := (hp F0 h1).1; omega) (T.encs_hone _)
  unfold Oper.wp
  rw [ha.eval]
  have hx2 : (execOp (ev F) o).run Try.prog u = .ok (.value (.tuple #[])) (u.setRow g (cur.toList.take (k * T.size + 0) ++ T.encs (List.replicate m z) ++ cur.toList.drop (k * T.size + 0 + (T.encs (List.replicate m z)).length)).toArray) := by
    obtain ⟨m, rfl⟩ : ∃ k', m = k' + 1 := ⟨m - 1, by omega⟩
    unfold execOp
    simp only [ho, resolve, invoke, builtin, Sem.run_bind, Sem.run_pure, Result.andThen_ok, List.map_toArray, List.map_cons, List.map_nil, hx]
    simp [Builtin.clear_, run_underlying ht, zeroValue, typeInfo, hi, hzz, hzl] at hst ⊢
    simp [hst]
  rw [hx2]
  exact hK _ _ _ ⟨rfl, rfl⟩ (St.setRow hu hr g _ fun F1 k1 => ⟨(hp F1 k1).2.1, (hp F1 k1).2.2⟩)
/-- .. of nothing -/
theorem V.clear0 {x : Operand} {t e : TypeId} {B : Option Addr} {d : Nat} {u : World} (ho : o.op = .call { callee := .builtin .clear, args := #[x], argTypes := #[t] }) (hx : ev F x = .slice B 0 d) (ht : Try.prog.underlying t = some (.slice e)) : (execOp (ev F) o).run Try.prog u = .ok (.value (.tuple #[])) u := by
  unfold execOp
  simp only [ho, resolve, invoke, builtin, Sem.run_bind, Sem.run_pure, Result.andThen_ok, List.map_toArray, List.map_cons, List.map_nil, hx]
  cases B <;> simp [Builtin.clear_, run_underlying ht]
end
end Go.Proofs.Ytkhmplaocfjpjaa.Sep
