/- Append within one row, and what is cleared. No function in sight. -/
import Derived.Test.YtbnfpmdieiknmaaRet
namespace Go.Proofs.Ytbnfpmdieiknmaa.Sep
open Go.RowKit Go.Proofs.Ytbnfpmdieiknmaa.Reg
open Go.Proofs.Ytbnfpmdieiknmaa.Mem hiding Rd Own
set_option maxRecDepth 100000
section
variable {α : Type} {T : Ty α} {N : Nat} {E : Env} {F : Nat → Value} {H H' : List Asn} {o : Oper} {A : Option Addr} {n m c : Nat} {l : List α}
/-- a front of what is owned is owned -/
theorem own_front {F1 : Nat → Prop} {u : World} {k : Nat} (h : (own T A n c l).holds F1 u) (hk : k ≤ n) : (own T A k c (l.take k)).holds F1 u := by
  obtain ⟨h0, ⟨rfl, h2, h3⟩ | ⟨g, cur, h2, h3, h4, h5, h6, h7, h8⟩⟩ := h
  · exact ⟨by rw [List.length_take]; omega, .inl ⟨by omega, h2, h3⟩⟩
  · refine ⟨by rw [List.length_take]; omega, .inr ⟨g, cur, h2, h3, h4, by omega, h6, h7, ?_⟩⟩
    have hle : k * T.size ≤ n * T.size := Nat.mul_le_mul_right _ hk
    rw [← T.encs_take, ← h8, List.take_take, Nat.min_eq_left hle]
/-- 'append(s[:n], x...)' where there is room, and x may lie behind in the same row -/
theorem S.appendTK {s x : Operand} {t : TypeId} {X : Option Addr} {nx cx n' : Nat} {l2 l' : List α} (ho : o.op = .call { callee := .builtin .append, args := #[s, x], argTypes := #[t, t] })
    (hs : ev F s = .slice A n c) (hx : ev F x = .slice X nx cx) (hn' : n + nx = n') (hnm : n ≤ m) (hr : Repl (own T A m c l) [own T A n' c l'] H H') (hrd : RdH E H T X nx cx l2) (hl' : l.take n ++ l2 = l') (ht : Try.prog.underlying t = some (.slice T.tid)) {by_ : Nat} (hbb : T.bytes = by_) (hby : n' * by_ ≤ 140737488355328) (h0 : 0 < c) (hroom : n' ≤ c) (hlen : n' ≤ 140737488355328) :
    Stp Try.prog N E F H o fun r H1 => r = .slice A n' c ∧ H1 = H' := by
  subst hn' hl' hbb
  intro a u ha hu Kw Q' hK
  obtain ⟨R, hhas⟩ := hr.has
  obtain ⟨F0, h1, _⟩ := hu.has hhas
  have h1 := own_front h1 hnm
  have hn := h1.1
  obtain ⟨ti, hi, hz, hsz, hbt⟩ := T.infoOf
  obtain ⟨k0, k1, k2, k3⟩ := hrd u hu
  have hcells : ∀ ad, X = some ad → nx ≠ 0 → ∀ j v, (T.encs l2)[j]? = some v → u.cell? (ad.add j) = some v := by
    rintro ad rfl hn0
    rcases k3 with k3 | ⟨ad', e, hc⟩
    · exact absurd k3 hn0
    · injection e with e; subst e; exact hc
  have hreads : Reads u u.heap.size T.size X nx (T.encs l2) := ⟨by rw [T.encs_length, ← k0], fun hpos => by
    rcases k3 with k3 | ⟨ad, e, hc⟩
    · omega
    · refine ⟨ad, e, ?_, hc⟩
      have hl : 0 < (T.encs l2).length := by rw [T.encs_length, ← k0]; exact Nat.mul_pos hpos T.hpos
      have := World.block_lt_of_cell? _ _ (hc 0 _ (List.getElem?_eq_getElem hl))
      rwa [block_of_add] at this⟩
  have hsrc : Src Try.prog ti.size t (.slice X nx cx) nx (T.encs l2) u := by
    have hll : (T.encs l2).length = nx * ti.size := by rw [T.encs_length, ← k0, hsz]
    cases X with
    | none =>
      have h00 : nx = 0 := by rcases k3 with k3 | ⟨_, e, _⟩; exact k3; cases e
      subst h00
      have e : T.encs l2 = [] := List.eq_nil_of_length_eq_zero (by rw [hll, Nat.zero_mul])
      rw [e]
      exact Src.ofNil u ht cx
    | some ad =>
      refine Src.ofSlice u ht ad nx cx _ hll ?_ (T.encs_hone _)
      by_cases hn0 : nx = 0
      · intro j v hv
        rw [List.getElem?_eq_none (by rw [hll, hn0, Nat.zero_mul]; exact Nat.zero_le _)] at hv
        cases hv
      · exact hcells ad rfl hn0
  obtain ⟨hown, _⟩ := own_owns (by omega) h1
  have key : ∃ v' w', (Builtin.append_ #[t, t] o.type #[.slice A n c, .slice X nx cx]).run Try.prog u = .ok v' w' ∧ w'.ownsRow 0 T.tid T.size v' (n + nx) (T.encs (l.take n) ++ T.encs l2) ∧ u.grownBy w' (Value.ownBlock (.slice A n c)) ∧
      (v'.ownBlock = Value.ownBlock (.slice A n c) ∨ v'.ownBlock = some u.heap.size) := by
    exact run_append_any u 0 t o.type T.tid ti T.zero T.size T.bytes ht hi hz hsz hbt T.hzero T.hpos _ n _ hown u.heap.size X nx cx (T.encs l2) hreads (T.encs_hone _) (by unfold maxLen; omega) hby (Nat.zero_le _)
  obtain ⟨v', w', hrun, hown', hg, hb⟩ := key
  have hv := run_append_cap_room u t t o.type T.tid ti ht hi A n c (.slice X nx cx) nx (T.encs l2) hsrc hroom hrun
  subst hv
  have hown2 : w'.ownsRow 0 T.tid T.size (.slice A (n + nx) c) (n + nx) (T.encs (l.take n ++ l2)) := by rw [T.encs_append]; exact hown'
  have hO := owns_own (T := T) (l := l.take n ++ l2) (by rw [List.length_append, ← hn, k0]) hown2
  unfold Oper.wp
  rw [ha.eval]
  have hx2 : (execOp (ev F) o).run Try.prog u = .ok (.value (.slice A (n + nx) c)) w' := by
    unfold execOp
    simp only [ho, resolve, invoke, builtin, Sem.run_bind, Sem.run_pure, Result.andThen_ok, List.map_toArray, List.map_cons, List.map_nil, hs, hx, hrun]
  rw [hx2]
  refine hK _ _ _ ⟨rfl, rfl⟩ ?_
  refine hu.repl hr hg.os hg.tape hg.output hg.size (G := fun b => Value.ownBlock (.slice A n c) = some b) (fun b hlt hne => hg.block b hlt (fun e => hne e.symm)) fun F1 h1 => ?_
  obtain ⟨_, hF⟩ := own_owns (by omega) (own_front h1 hnm)
  refine ⟨fun b => Value.ownBlock (.slice A (n + nx) c) = some b, ⟨fun b => Value.ownBlock (.slice A (n + nx) c) = some b, fun _ => False, fun b => by simp, fun _ _ h => h, hO, fun _ h => h⟩, fun b hbb => ?_, fun b _ hG => (hF b).2 hG⟩
  have e : Value.ownBlock (.slice A (n + nx) c) = Value.ownBlock (.slice A n c) := by cases A <;> rfl
  exact .inl ((hF b).2 (e ▸ hbb))
/-- 'clear(s)' of what stands in a row behind all that is told of it -/
theorem S.clearK {x : Operand} {t : TypeId} {z : α} {j k : Nat} (ho : o.op = .call { callee := .builtin .clear, args := #[x], argTypes := #[t] }) (hx : ev F x = .slice (if c = j then A else A.map (·.add (j * T.size))) k (c - j))
    (ht : Try.prog.underlying t = some (.slice T.tid)) (hz : T.val z = T.zero) (hj : n ≤ j) (hjk : j + k ≤ c) (hk : 0 < k) (hr : Repl (own T A n c l) [own T A n c l] H H') : Stp Try.prog N E F H o fun r H1 => r = .tuple #[] ∧ H1 = H' := by
  intro a u ha hu Kw Q' hK
  obtain ⟨R, hhas⟩ := hr.has
  obtain ⟨F0, h1, _⟩ := hu.has hhas
  obtain ⟨ti, hi, hzz, hsz, hbt⟩ := T.infoOf
  obtain ⟨h0, ⟨_, h2, _⟩ | ⟨g, cur, rfl, h3, h4, h5, h6, h7, h8⟩⟩ := h1
  · omega
  rw [if_neg (by omega)] at hx
  have e0 : (some (⟨g, 0, none⟩ : Addr)).map (·.add (j * T.size)) = some ⟨g, j * T.size, none⟩ := by show some ((⟨g, 0, none⟩ : Addr).add _) = _; rw [add_none, Nat.zero_add]
  rw [e0] at hx
  have hzc : Builtin.zeroCells T.zero.cells k = madeCells T.zero.cells (k * T.size) := by
    have := T.hzero
    simp [Builtin.zeroCells, madeCells, this]
  have hzl : (Builtin.zeroCells T.zero.cells k).toList = T.encs (List.replicate k z) := by rw [hzc, madeCells_ty T z hz]
  have hlen : j * T.size + k * T.size ≤ c * T.size := by rw [← Nat.add_mul]; exact Nat.mul_le_mul_right _ hjk
  have hst := run_storeCells_at Try.prog g (j * T.size) T.tid (T.encs (List.replicate k z)) 0 cur u h4 (by rw [T.encs_length, List.length_replicate, h7]; omega) (T.encs_hone _)
  unfold Oper.wp
  rw [ha.eval]
  have hk0 : k ≠ 0 := by omega
  have hx2 : (execOp (ev F) o).run Try.prog u = .ok (.value (.tuple #[])) (u.setRow g (cur.toList.take (j * T.size + 0) ++ T.encs (List.replicate k z) ++ cur.toList.drop (j * T.size + 0 + (T.encs (List.replicate k z)).length)).toArray) := by
    obtain ⟨k, rfl⟩ : ∃ k', k = k' + 1 := ⟨k - 1, by omega⟩
    unfold execOp
    simp only [ho, resolve, invoke, builtin, Sem.run_bind, Sem.run_pure, Result.andThen_ok, List.map_toArray, List.map_cons, List.map_nil, hx]
    simp [Builtin.clear_, run_underlying ht, zeroValue, typeInfo, hi, hzz, hzl] at hst ⊢
    simp [hst]
  rw [hx2]
  refine hK _ _ _ ⟨rfl, rfl⟩ (St.setRow hu hr g _ fun F1 k1 => ?_)
  obtain ⟨m0, ⟨_, m2, _⟩ | ⟨g', cur', m1, m3, m4, m5, m6, m7, m8⟩⟩ := k1
  · omega
  injection m1 with m1; injection m1 with m1
  subst m1
  rw [h4] at m4
  injection m4 with m4; injection m4 with m4 _ _
  subst m4
  have hnj : n * T.size ≤ j * T.size := Nat.mul_le_mul_right _ hj
  refine ⟨(m3 g).2 rfl, m0, .inr ⟨g, _, rfl, m3, setRow_heap u g _ _ _ _ h4, m5, m6, ?_, ?_⟩⟩
  · simp [T.encs_length]
    omega
  · rw [← m8]
    simp only [Nat.add_zero, List.append_assoc]
    rw [List.take_append_of_le_length (by rw [List.length_take, Array.length_toList, h7]; omega), List.take_take, Nat.min_eq_left hnj]
end
/-- 's[lo:hi:mx]', by the header alone -/
theorem Y.slice3 {P : Program} {E : Env} {H : List Asn} {ρ : Operand → Value} {o : Oper} {A : Option Addr} {n c : Nat} {t e : TypeId} {x lo hi mx : Operand} {k k2 k3 : IntKind} {i i2 i3 : Int} {ti : TypeInfo} {j m q : Nat} (ho : o.op = .slice t x (some lo) (some hi) (some mx)) (hx : ρ x = .slice A n c) (hlo : ρ lo = .int k i) (hhi : ρ hi = .int k2 i2) (hmx : ρ mx = .int k3 i3) (ht : P.underlying t = some (.slice e)) (he : P.info? e = some ti) (hj : i = j) (hm : i2 = m) (hq : i3 = q) (hjm : j ≤ m) (hmq : m ≤ q) (hqc : q ≤ c) :
    Yld P E H ρ o (.slice (if q = j then A else A.map (·.add (j * ti.size))) (m - j) (q - j)) := by
  intro u hu
  subst hj hm hq
  simp [execOp, ho, hx, Instr.sliceAt, Instr.slice, Instr.sliceBounds, Instr.sliceBound, asIntOf, run_underlying ht, sizeOf, typeInfo, he, hlo, hhi, hmx, hjm, hmq, hqc]
end Go.Proofs.Ytbnfpmdieiknmaa.Sep
