/- Octets out of a text ('[]byte(s)'): a row with a mark behind it. No function in sight. -/
import Derived.Test.YtbnfpmdieiknmaaRet
import Derived.Test.YtbnfpmdieiknmaaTyp
import Derived.Laws.IdiomStrings
namespace Go.Proofs.Ytbnfpmdieiknmaa.Sep
open Go.RowKit Go.Proofs.Ytbnfpmdieiknmaa.Reg
open Go.Proofs.Ytbnfpmdieiknmaa.Mem hiding Rd Own
set_option maxRecDepth 100000
/-- octets that start their own row, which bears a mark behind its last place -/
def mk8 (A : Option Addr) (n c : Nat) (l : List UInt8) : Asn where
  holds F w := n = l.length ∧ n ≤ c ∧ c ≤ maxLen ∧ ∃ g cur, A = some ⟨g, 0, none⟩ ∧ (∀ b, F b ↔ b = g) ∧ w.heap[g]? = some (.cells cur octT.tid (cur.size, cur.size + 1)) ∧ cur.size = c ∧ cur.toList.take n = octT.encs l
  loc := by
    rintro F w w' ⟨h0, h1, h2, g, cur, h3, h4, h5, h6⟩ hk
    exact ⟨h0, h1, h2, g, cur, h3, h4, (hk _ ((h4 _).2 rfl)).trans h5, h6⟩
  lt := by
    rintro F w b ⟨h0, h1, h2, g, cur, h3, h4, h5, h6⟩ hb
    rw [(h4 _).1 hb]; exact (Array.getElem?_eq_some_iff.1 h5).1
section
variable {E E' : Env} {A : Option Addr} {n c : Nat} {l : List UInt8} {H H' R R' : List Asn} {w : World} {N : Nat} {F : Nat → Value} {o : Oper}
theorem mk8_rd {F : Nat → Prop} (h : (mk8 A n c l).holds F w) : n = l.length ∧ n ≤ c ∧ c ≤ maxLen ∧ (n = 0 ∨ ∃ ad, A = some ad ∧ F ad.block ∧ ∀ j u, (octT.encs l)[j]? = some u → w.cell? (ad.add j) = some u) := by
  obtain ⟨h0, h1, h2, g, cur, rfl, h4, h5, h6, h7⟩ := h
  refine ⟨h0, h1, h2, .inr ⟨_, rfl, (h4 _).2 rfl, fun j u hu => ?_⟩⟩
  rw [add_none, Nat.zero_add, cell_of_row _ _ _ _ _ _ h5]
  rw [← h7, List.getElem?_take] at hu
  split at hu
  · simpa using hu
  · cases hu
theorem RdH.mk8 (h : Has (Sep.mk8 A n c l) H R) : RdH E H octT A n c l := fun w hw => by
  obtain ⟨F, h1, _⟩ := hw.has h
  obtain ⟨k0, k1, k2, k3⟩ := mk8_rd h1
  exact ⟨k0, k1, k2, k3.imp id fun ⟨ad, e, _, hc⟩ => ⟨ad, e, hc⟩⟩
theorem Sub.mk8 (hE : Sub E R E') {R' : List Asn} (h : Has (Sep.mk8 A n c l) R R') : Rd E' octT A n c l := by
  obtain ⟨F, h1, h2⟩ := hE.fr
  obtain ⟨F1, F2, h3, _, h5, _⟩ := h.stars h1
  obtain ⟨k0, k1, k2, k3⟩ := mk8_rd h5
  exact ⟨k0, k1, k2, k3.imp id fun ⟨ad, e, hF, hc⟩ => ⟨ad, e, h2 _ ((h3 _).2 (.inl hF)), hc⟩⟩
/-- it is held, only to be read -/
theorem Conv.mk8 (hr : Repl (Sep.mk8 A n c l) [Sep.sl octT A n c l] H H') : Conv E H H' := fun w hw =>
  hw.repl hr rfl rfl rfl (Nat.le_refl _) (G := fun _ => False) (fun _ _ _ => rfl) fun F1 h1 => by
    obtain ⟨k0, k1, k2, k3⟩ := mk8_rd h1
    exact ⟨F1, ⟨F1, fun _ => False, fun b => by simp, fun _ _ h => h, ⟨k0, k1, k2, k3, fun b hb => (Sep.mk8 A n c l).lt h1 hb⟩, fun _ h => h⟩, fun b hb => .inl hb, fun b _ hb => hb.elim⟩
theorem bytesRow_take (l : List UInt8) (c : Nat) : (bytesRow (txt l) c).toList.take l.length = octT.encs l := by
  have h : (bytesRow (txt l) c).toList = l.map (fun b => Value.int .u8 b.toNat) ++ List.replicate (c - l.length) (.int .u8 0) := by
    unfold bytesRow txt
    simp [ByteArray.size]
  rw [h, List.take_left' (by simp)]
  unfold Ty.encs
  rw [List.map_eq_flatMap]
  rfl
theorem bytesRow_size (l : List UInt8) (c : Nat) (h : l.length ≤ c) : (bytesRow (txt l) c).size = c := by
  unfold bytesRow txt
  simp [ByteArray.size]; omega
theorem S.toBytesK {x : Operand} {l : List UInt8} (ho : o.op = .convert 9 22 x) (hx : ev F x = .string (txt l)) (hl : l.length ≤ maxLen) :
    Stp Try.prog N E F H o fun r H1 => ∃ A' c', (l.length ≤ c' ∧ c' ≤ maxLen) ∧ r = .slice A' l.length c' ∧ H1 = mk8 A' l.length c' l :: H := by
  intro a u ha hu Kw Q' hK
  have hrun := run_bytes_of_string (P := Try.prog) u 9 22 5 (txt l) Try.underlying9 Try.underlying22 Try.underlying5
  have hsz : (txt l).size = l.length := rfl
  rw [hsz] at hrun
  have hge : l.length ≤ grownCap u l.length 0 5 := grownCap_ge u l.length 0 5
  have hle := grownCap_le_maxLen u l.length 0 5 hl
  revert hrun hge hle
  generalize grownCap u l.length 0 5 = cap
  intro hrun hge hle
  unfold Oper.wp
  rw [ha.eval]
  have hx2 : (execOp (ev F) o).run Try.prog u = .ok (.value (.slice (some ⟨u.heap.size, 0, none⟩) l.length cap)) (u.drew.alloc (.cells (bytesRow (txt l) cap) 5 ((bytesRow (txt l) cap).size, (bytesRow (txt l) cap).size + 1))) := by
    unfold execOp
    simp only [ho, Sem.run_bind, Sem.run_pure, Result.andThen_ok, hx, hrun]
  rw [hx2]
  refine hK _ _ _ ⟨_, _, ⟨hge, hle⟩, rfl, rfl⟩ ?_
  refine hu.drew.grow (l := [mk8 (some ⟨u.heap.size, 0, none⟩) l.length cap l]) rfl rfl rfl (by simp) (fun b hb => Below.heap_alloc _ _ _ hb) (F1 := fun b => b = u.heap.size)
    ⟨_, fun _ => False, fun b => by simp, fun b _ h => h, ⟨rfl, hge, hle, u.heap.size, _, rfl, fun b => Iff.rfl, heap_alloc_new _ _, bytesRow_size _ _ hge, bytesRow_take _ _⟩, fun b h => h⟩ (fun b hb => by show u.heap.size ≤ b; omega)
theorem setCell_heap {u : World} {g k : Nat} {v : Value} {cur : Array Value} {t : TypeId} {fr : Nat × Nat} (h : u.heap[g]? = some (.cells cur t fr)) : (u.setCell ⟨g, k, none⟩ v).heap[g]? = some (.cells (cur.setIfInBounds k v) t fr) := by
  simp [World.setCell, Array.getElem?_modify, h]
theorem setCell_other {u : World} {g k b : Nat} {v : Value} (h : b ≠ g) : (u.setCell ⟨g, k, none⟩ v).heap[b]? = u.heap[b]? := by
  simp [World.setCell, Array.getElem?_modify, Ne.symm h]
/-- 'b[k] = v' -/
theorem S.store8K {x y : Operand} {k q : Nat} {e' : UInt8} (ho : o.op = .store 5 x y) (hx : ev F x = .pointer (some ((ad A).add q))) (hq : q = k * octT.size) (hy : ev F y = .int .u8 e'.toNat) (hk : k < n) (hr : Repl (mk8 A n c l) [mk8 A n c (l.set k e')] H H') :
    Stp Try.prog N E F H o fun r H1 => r = undef ∧ H1 = H' := by
  obtain rfl : q = k := by rw [hq]; exact Nat.mul_one k
  clear hq
  intro a u ha hu Kw Q' hK
  obtain ⟨R, hhas, F0, h0⟩ := hu.repl1 hr
  obtain ⟨h0, h1, h2, g, cur, rfl, h4, h5, h6, h7⟩ := h0
  have e0 : (ad (some ⟨g, 0, none⟩)).add q = ⟨g, q, none⟩ := by show (⟨g, 0, none⟩ : Addr).add _ = _; rw [add_none, Nat.zero_add]
  obtain ⟨ti, hi, _, hs, _⟩ := octT.infoOf
  have hc0 : u.cell? ⟨g, q, none⟩ = some (cur[q]'(by omega)) := by rw [cell_of_row _ _ _ _ _ _ h5, Array.getElem?_eq_getElem (by omega)]
  have hfz : u.frozen? ⟨g, q, none⟩ = false := by
    unfold World.frozen?
    rw [h5]
    simp; omega
  have hst := run_storeVar1 (P := Try.prog) (v := .int .u8 e'.toNat) rfl hi (by rw [hs]; rfl) hc0 hfz
  unfold Oper.wp
  rw [ha.eval]
  have hrun : (execOp (ev F) o).run Try.prog u = .ok .skip (u.setCell ⟨g, q, none⟩ (.int .u8 e'.toNat)) := by
    simp only [execOp, ho, hx, hy, Instr.storeAt, Instr.sureAddr, e0, Sem.run_bind, Sem.run_pure, Result.andThen_ok]
    rw [show (5 : TypeId) = octT.tid from rfl, hst]
    rfl
  rw [hrun]
  refine hK undef _ _ ⟨rfl, rfl⟩ ?_
  refine hu.repl hr rfl rfl rfl (by simp [World.setCell]) (G := fun b => b = g) (fun b _ hb => setCell_other hb) fun F1 k1 => ?_
  obtain ⟨m0, m1, m2, g', cur', m3, m4, m5, m6, m7⟩ := k1
  injection m3 with m3; injection m3 with m3 _; subst m3
  rw [h5] at m5
  injection m5 with m5; injection m5 with m5 _ _
  subst m5
  refine ⟨F1, ⟨F1, fun _ => False, fun b => by simp, fun _ _ h => h, ⟨by rw [List.length_set]; exact m0, m1, m2, g, cur.setIfInBounds q (.int .u8 e'.toNat), rfl, m4, ?_, ?_, ?_⟩, fun _ h => h⟩, fun b hb => .inl hb, fun b _ hb => (m4 b).2 hb⟩
  · rw [setCell_heap h5]; simp
  · simp [m6]
  · rw [Array.toList_setIfInBounds, List.take_set, m7]
    unfold Ty.encs
    rw [show octT.enc = fun a => [Value.int .u8 (a.toNat : Int)] from rfl, ← List.map_eq_flatMap, ← List.map_eq_flatMap, List.map_set]
end
end Go.Proofs.Ytbnfpmdieiknmaa.Sep
