/- Many parts of one kind, as one. No program in sight. -/
import Derived.Test.YtihblcljkndpgaaOps2
import Derived.Room.AppendUpon
import Derived.ArgAppend
namespace Go.Proofs.Ytihblcljkndpgaa.Sep
open Go.RowKit Go.Proofs.Ytihblcljkndpgaa.Reg
open Go.Proofs.Ytihblcljkndpgaa.Mem hiding Rd Own
set_option maxRecDepth 100000

theorem stars_mid {a b : List Asn} {x : Asn} {F : Nat → Prop} {w : World} : stars (a ++ x :: b) F w ↔ stars (x :: (a ++ b)) F w := by
  constructor
  · intro h
    obtain ⟨F1, F2, h1, h2, h3, G1, G2, g1, g2, g3, g4⟩ := stars_append.1 h
    refine ⟨G1, fun k => F1 k ∨ G2 k, fun k => ?_, ?_, g3, stars_append.2 ⟨F1, G2, fun k => Iff.rfl, fun k hk hg => h2 k hk ((g1 k).2 (.inr hg)), h3, g4⟩⟩
    · rw [h1 k, g1 k]
      constructor <;> (rintro (h | h | h) <;> simp [h])
    · rintro k hk (h | h)
      · exact h2 k h ((g1 k).2 (.inl hk))
      · exact g2 k hk h
  · rintro ⟨F1, F2, h1, h2, h3, h4⟩
    obtain ⟨G1, G2, g1, g2, g3, g4⟩ := stars_append.1 h4
    refine stars_append.2 ⟨G1, fun k => F1 k ∨ G2 k, fun k => ?_, ?_, g3, F1, G2, fun k => Iff.rfl, fun k hk hg => h2 k hk ((g1 k).2 (.inr hg)), h3, g4⟩
    · rw [h1 k, g1 k]
      constructor <;> (rintro (h | h | h) <;> simp [h])
    · rintro k hk (h | h)
      · exact h2 k h ((g1 k).2 (.inl hk))
      · exact g2 k hk h
/-- a part for each of a list -/
def each {X : Type} (f : X → Asn) (l : List X) : Asn where
  holds F w := stars (l.map f) F w
  loc h hk := stars_loc h hk
  lt h hb := stars_lt h hb
section
variable {X α : Type} {f : X → Asn} {l l' : List X} {E E' : Env} {H R : List Asn} {T : Ty α} {A : Option Addr} {n c : Nat} {b : List α}
theorem Conv.each0 (f : X → Asn) : Conv E H (each f [] :: H) := fun w hw =>
  hw.grow (l := [each f []]) rfl rfl rfl (Nat.le_refl _) (fun _ _ => rfl) (F1 := fun _ => False) ⟨fun _ => False, fun _ => False, fun b => by simp, fun _ h => h.elim, fun _ h => h, fun _ h => h⟩ (fun _ h => h.elim)
/-- one of them, taken out -/
theorem Conv.out {i : Nat} {x : X} (h : Has (each f l) H R) (hx : l[i]? = some x) : Conv E H (f x :: each f (l.eraseIdx i) :: R) := fun w hw => hw.conv fun F hs => by
  obtain ⟨F1, F2, h1, h2, h3, h4⟩ := h.stars hs
  obtain ⟨hi, rfl⟩ := List.getElem?_eq_some_iff.1 hx
  have e1 : l = l.take i ++ l[i] :: l.drop (i + 1) := by rw [List.getElem_cons_drop, List.take_append_drop]
  have e2 : l.eraseIdx i = l.take i ++ l.drop (i + 1) := List.eraseIdx_eq_take_drop_succ ..
  have h3' : stars (l.map f) F1 w := h3
  have e3 : l.map f = (l.take i).map f ++ f l[i] :: (l.drop (i + 1)).map f := by
    have := congrArg (List.map f) e1
    rw [List.map_append, List.map_cons] at this
    exact this
  rw [e3] at h3'
  obtain ⟨G1, G2, g1, g2, g3, g4⟩ := stars_mid.1 h3'
  refine ⟨F, ⟨G1, fun k => G2 k ∨ F2 k, fun k => by rw [h1 k, g1 k, or_assoc], ?_, g3, G2, F2, fun k => Iff.rfl, fun k hk hg => h2 k ((g1 k).2 (.inr hk)) hg, ?_, h4⟩, fun _ h => h⟩
  · rintro k hk (hg | hg)
    · exact g2 k hk hg
    · exact h2 k ((g1 k).2 (.inl hk)) hg
  · show stars ((l.eraseIdx i).map f) G2 w
    rw [e2, List.map_append]
    exact g4
/-- one more, put in -/
theorem Conv.in_ {i : Nat} {x : X} (h : Picks [f x, each f l] H R) (hl : l' = l.take i ++ x :: l.drop i) : Conv E H (each f l' :: R) := fun w hw => (hw.picks h).conv fun F hs => by
  obtain ⟨F1, F2, h1, h2, h3, G1, G2, g1, g2, g3, g4⟩ := hs
  refine ⟨F, ⟨fun k => F1 k ∨ G1 k, G2, fun k => by rw [h1 k, g1 k, or_assoc], ?_, ?_, g4⟩, fun _ h => h⟩
  · rintro k (hk | hk) hg
    · exact h2 k hk ((g1 k).2 (.inr hg))
    · exact g2 k hk hg
  · show stars (l'.map f) _ w
    rw [hl, List.map_append, List.map_cons]
    refine stars_mid.2 ⟨F1, G1, fun k => Iff.rfl, fun k hk hg => h2 k hk ((g1 k).2 (.inl hg)), h3, ?_⟩
    rw [← List.map_append, List.take_append_drop]
    exact g3
theorem Conv.push {x : X} (h : Picks [f x, each f l] H R) : Conv E H (each f (l ++ [x]) :: R) := Conv.in_ (i := l.length) h (by simp)
theorem erase_set {i : Nat} {x : X} (h : i < l.length) : l.set i x = (l.eraseIdx i).take i ++ x :: (l.eraseIdx i).drop i := by
  have e2 : l.eraseIdx i = l.take i ++ l.drop (i + 1) := List.eraseIdx_eq_take_drop_succ ..
  have e3 : (l.take i).length = i := by simp; omega
  rw [e2, List.take_left' e3, List.drop_left' e3, List.set_eq_take_append_cons_drop, if_pos h]
theorem Has.each {i : Nat} {x : X} (h : Has (Sep.each f l) H R) (hx : l[i]? = some x) {w : World} (hw : St E H w) : ∃ F, (f x).holds F w := by
  obtain ⟨F, h1, h2⟩ := (Conv.out (E := E) h hx w hw).fp
  obtain ⟨F1, F2, _, _, h3, _⟩ := h1
  exact ⟨F1, h3⟩
theorem RdH.each {i : Nat} {x : X} (h : Has (Sep.each f l) H R) (hx : l[i]? = some x) (hf : f x = Sep.own T A n c b) : RdH E H T A n c b := fun w hw => by
  obtain ⟨F, h1⟩ := h.each hx hw
  rw [hf] at h1
  obtain ⟨k0, k1, k2, k3⟩ := own_rd h1
  exact ⟨k0, k1, k2, k3.imp id fun ⟨ad, e, _, hc⟩ => ⟨ad, e, hc⟩⟩
theorem Sub.each {R' : List Asn} (hE : Sub E R E') {i : Nat} {x : X} (h : Has (Sep.each f l) R R') (hx : l[i]? = some x) (hf : f x = Sep.own T A n c b) : Rd E' T A n c b := by
  obtain ⟨F, h1, h2⟩ := hE.fr
  obtain ⟨F1, F2, h3, _, h5, _⟩ := h.stars h1
  obtain ⟨hi, rfl⟩ := List.getElem?_eq_some_iff.1 hx
  have e1 : l = l.take i ++ l[i] :: l.drop (i + 1) := by rw [List.getElem_cons_drop, List.take_append_drop]
  have h5' : stars (l.map f) F1 E'.w := h5
  have e3 : l.map f = (l.take i).map f ++ f l[i] :: (l.drop (i + 1)).map f := by
    have := congrArg (List.map f) e1
    rw [List.map_append, List.map_cons] at this
    exact this
  rw [e3] at h5'
  obtain ⟨G1, G2, g1, g2, g3, g4⟩ := stars_mid.1 h5'
  rw [hf] at g3
  obtain ⟨k0, k1, k2, k3⟩ := own_rd g3
  exact ⟨k0, k1, k2, k3.imp id fun ⟨ad, e, hF, hc⟩ => ⟨ad, e, h2 _ ((h3 _).2 (.inl ((g1 _).2 (.inl hF)))), hc⟩⟩
end
/-! ### append where there is room, or none -/
section
variable {α : Type} {T : Ty α} {N : Nat} {E : Env} {F : Nat → Value} {H H' : List Asn} {o : Oper} {A : Option Addr} {n c : Nat} {l : List α}
theorem S.appendInK {s x : Operand} {t : TypeId} {X : Option Addr} {nx cx n' : Nat} {l2 l' : List α} (ho : o.op = .call { callee := .builtin .append, args := #[s, x], argTypes := #[t, t] })
    (hs : ev F s = .slice A n c) (hx : ev F x = .slice X nx cx) (hn' : n + nx = n') (hr : Repl (own T A n c l) [own T A n' c l'] H H') (hrd : RdH E H T X nx cx l2) (hl' : l ++ l2 = l') (ht : Try.prog.underlying t = some (.slice T.tid)) {by_ : Nat} (hbb : T.bytes = by_) (hby : n' * by_ ≤ 140737488355328) (h0 : 0 < n') (hroom : n' ≤ c) (hlen : n' ≤ 140737488355328) :
    Stp Try.prog N E F H o fun r H1 => r = .slice A n' c ∧ H1 = H' := by
  subst hn' hl' hbb
  intro a u ha hu Kw Q' hK
  obtain ⟨R, hhas⟩ := hr.has
  obtain ⟨F0, h1, _⟩ := hu.has hhas
  have hn := h1.1
  obtain ⟨ti, hi, hz, hsz, hbt⟩ := T.infoOf
  obtain ⟨k0, k1, k2, k3⟩ := hrd u hu
  have hncap := (own_rd h1).2.1
  have hcells : ∀ ad, X = some ad → nx ≠ 0 → ∀ j v, (T.encs l2)[j]? = some v → u.cell? (ad.add j) = some v := by
    rintro ad rfl hn0
    rcases k3 with k3 | ⟨ad', e, hc⟩
    · exact absurd k3 hn0
    · injection e with e; subst e; exact hc
  have hreads : Reads u u.heap.size T.size X nx (T.encs l2) := ⟨by rw [T.encs_length, ← k0], fun hpos => by
    rcases k3 with k3 | ⟨ad, e, hc⟩
    · omega
    · refine ⟨ad, e, ?_, hc⟩
      have hl : 0 < (T.encs l2).length := by rw [T.encs_length, ← k0]; exact Nat.mul_pos hpos T.hpos
      have := World.block_lt_of_cell? _ _ (hc 0 _ (List.getElem?_eq_getElem hl))
      rwa [block_of_add] at this⟩
  have hsrc : Src Try.prog ti.size t (.slice X nx cx) nx (T.encs l2) u := by
    have hll : (T.encs l2).length = nx * ti.size := by rw [T.encs_length, ← k0, hsz]
    cases X with
    | none =>
      have h00 : nx = 0 := by rcases k3 with k3 | ⟨_, e, _⟩; exact k3; cases e
      subst h00
      have e : T.encs l2 = [] := List.eq_nil_of_length_eq_zero (by rw [hll, Nat.zero_mul])
      rw [e]
      exact Src.ofNil u ht cx
    | some ad =>
      refine Src.ofSlice u ht ad nx cx _ hll ?_ (T.encs_hone _)
      by_cases hn0 : nx = 0
      · intro j v hv
        rw [List.getElem?_eq_none (by rw [hll, hn0, Nat.zero_mul]; exact Nat.zero_le _)] at hv
        cases hv
      · exact hcells ad rfl hn0
  obtain ⟨hown, _⟩ := own_owns (by omega) h1
  have key : ∃ v' w', (Builtin.append_ #[t, t] o.type #[.slice A n c, .slice X nx cx]).run Try.prog u = .ok v' w' ∧ w'.ownsRow 0 T.tid T.size v' (n + nx) (T.encs l ++ T.encs l2) ∧ u.grownBy w' (Value.ownBlock (.slice A n c)) ∧
      (v'.ownBlock = Value.ownBlock (.slice A n c) ∨ v'.ownBlock = some u.heap.size) := by
    exact run_append_any u 0 t o.type T.tid ti T.zero T.size T.bytes ht hi hz hsz hbt T.hzero T.hpos _ n _ hown u.heap.size X nx cx (T.encs l2) hreads (T.encs_hone _) (by unfold maxLen; omega) hby (Nat.zero_le _)
  obtain ⟨v', w', hrun, hown', hg, hb⟩ := key
  have hv := run_append_cap_room u t t o.type T.tid ti ht hi A n c (.slice X nx cx) nx (T.encs l2) hsrc hroom hrun
  subst hv
  have hown2 : w'.ownsRow 0 T.tid T.size (.slice A (n + nx) c) (n + nx) (T.encs (l ++ l2)) := by rw [T.encs_append]; exact hown'
  have hO := owns_own (T := T) (l := l ++ l2) (by rw [List.length_append, hn, k0]) hown2
  unfold Oper.wp
  rw [ha.eval]
  have hx2 : (execOp (ev F) o).run Try.prog u = .ok (.value (.slice A (n + nx) c)) w' := by
    unfold execOp
    simp only [ho, resolve, invoke, builtin, Sem.run_bind, Sem.run_pure, Result.andThen_ok, List.map_toArray, List.map_cons, List.map_nil, hs, hx, hrun]
  rw [hx2]
  refine hK _ _ _ ⟨rfl, rfl⟩ ?_
  refine hu.repl hr hg.os hg.tape hg.output hg.size (G := fun b => Value.ownBlock (.slice A n c) = some b) (fun b hlt hne => hg.block b hlt (fun e => hne e.symm)) fun F1 h1 => ?_
  obtain ⟨_, hF⟩ := own_owns (by omega) h1
  refine ⟨fun b => Value.ownBlock (.slice A (n + nx) c) = some b, ⟨fun b => Value.ownBlock (.slice A (n + nx) c) = some b, fun _ => False, fun b => by simp, fun _ _ h => h, hO, fun _ h => h⟩, fun b hbb => ?_, fun b _ hG => (hF b).2 hG⟩
  have e : Value.ownBlock (.slice A (n + nx) c) = Value.ownBlock (.slice A n c) := by cases A <;> rfl
  exact .inl ((hF b).2 (e ▸ hbb))
theorem S.appendOutK {s x : Operand} {t : TypeId} {X : Option Addr} {nx cx n' : Nat} {l2 l' : List α} (ho : o.op = .call { callee := .builtin .append, args := #[s, x], argTypes := #[t, t] })
    (hs : ev F s = .slice A n c) (hx : ev F x = .slice X nx cx) (hn' : n + nx = n') (hsd : RdH E H T A n c l) (hrd : RdH E H T X nx cx l2) (hl' : l ++ l2 = l') (ht : Try.prog.underlying t = some (.slice T.tid)) {by_ : Nat} (hbb : T.bytes = by_) (hby : n' * by_ ≤ 140737488355328) (h0 : 0 < n) (h1 : 0 < nx) (hroom : c < n') (hlen : n' ≤ 140737488355328) :
    Stp Try.prog N E F H o fun r H1 => ∃ A' c', (n' ≤ c' ∧ c' ≤ maxLen) ∧ r = .slice A' n' c' ∧ H1 = own T A' n' c' l' :: H := by
  subst hn' hl' hbb
  intro a u ha hu Kw Q' hK
  obtain ⟨ti, hi, hz, hsz, hbt⟩ := T.infoOf
  obtain ⟨k0, k1, k2, k3⟩ := hrd u hu
  obtain ⟨m0, m1, m2, m3⟩ := hsd u hu
  obtain ⟨b, rfl, hbc⟩ : ∃ b, A = some b ∧ ∀ j v, (T.encs l)[j]? = some v → u.cell? (b.add j) = some v := by rcases m3 with h | h; omega; exact h
  obtain ⟨d, rfl, hdc⟩ : ∃ d, X = some d ∧ ∀ j v, (T.encs l2)[j]? = some v → u.cell? (d.add j) = some v := by rcases k3 with h | h; omega; exact h
  obtain ⟨v', w', hrun, hown', hg⟩ := run_append_arg_grows (P := Try.prog) u t o.type T.tid ti T.zero T.size T.bytes ht hi hz hsz hbt T.hzero T.hpos b n c (T.encs l) (by rw [T.encs_length, m0]) hbc d nx cx (T.encs l2) (by rw [T.encs_length, k0]) hdc hroom (by unfold maxLen; omega) hby
  obtain ⟨_, ⟨_, h00⟩ | ⟨g, cap, cur, rfl, hge, hh, q1, q2, q3, q4⟩⟩ := hown'
  · omega
  unfold Oper.wp
  rw [ha.eval]
  have hx2 : (execOp (ev F) o).run Try.prog u = .ok (.value (.slice (some ⟨g, 0, none⟩) (n + nx) cap)) w' := by
    unfold execOp
    simp only [ho, resolve, invoke, builtin, Sem.run_bind, Sem.run_pure, Result.andThen_ok, List.map_toArray, List.map_cons, List.map_nil, hs, hx, hrun]
  rw [hx2]
  refine hK _ _ _ ⟨_, _, ⟨q1, q2⟩, rfl, rfl⟩ ?_
  refine hu.grow (l := [own T (some ⟨g, 0, none⟩) (n + nx) cap (l ++ l2)]) hg.os hg.tape hg.output hg.size (fun k hk => hg.block k hk (by simp)) (F1 := fun k => k = g) ⟨_, fun _ => False, fun k => by simp, fun k _ h => h, ⟨by rw [List.length_append, m0, k0], .inr ⟨g, cur, rfl, fun k => Iff.rfl, hh, q1, q2, q3, by rw [T.encs_append]; exact q4⟩⟩, fun k h => h⟩ (fun k hk => by omega)
/-- a slice's front -/
theorem Conv.ownTake {k : Nat} (hk : k ≤ n) (hr : Repl (own T A n c l) [own T A k c (l.take k)] H H') : Conv E H H' := fun w hw =>
  hw.repl hr rfl rfl rfl (Nat.le_refl _) (G := fun _ => False) (fun _ _ _ => rfl) fun F1 h1 => by
    refine ⟨F1, ⟨F1, fun _ => False, fun b => by simp, fun _ _ h => h, ?_, fun _ h => h⟩, fun b hb => .inl hb, fun b _ hb => hb.elim⟩
    obtain ⟨h0, ⟨rfl, h2, h3⟩ | ⟨g, cur, h2, h3, h4, h5, h6, h7, h8⟩⟩ := h1
    · refine ⟨by rw [List.length_take]; omega, .inl ⟨by omega, h2, h3⟩⟩
    · refine ⟨by rw [List.length_take]; omega, .inr ⟨g, cur, h2, h3, h4, by omega, h6, h7, ?_⟩⟩
      have hle : k * T.size ≤ n * T.size := Nat.mul_le_mul_right _ hk
      rw [← T.encs_take, ← h8, List.take_take, Nat.min_eq_left hle]
end
/-- a call that turns nothing -/
theorem tri_same {P : Program} {E : Env} {H : List Asn} {f : FuncId} {args : Array Value} {v : Value} (h : ∀ w, St E H w → Calls P f args w fun e w' => e = .returned v ∧ w = w') : Tri P E f args H fun e H' => e = .returned v ∧ H' = H :=
  fun w hw => (h w hw).mono fun _ _ ⟨he, hw'⟩ => ⟨H, hw' ▸ hw, he, rfl⟩
end Go.Proofs.Ytihblcljkndpgaa.Sep
