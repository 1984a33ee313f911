/- Whatever is wanted is done in the end. No function in sight. -/
import Derived.Test.YtiabahpofcapbaaChoPlain
namespace Go.Proofs.Ytiabahpofcapbaa.Sep
set_option maxRecDepth 100000
/-- of a chain that was settled: the first k are wanted, the others are gone; none was tried too often -/
structure End21 (want : List Eff) (s : S21) (k : Nat) : Prop where
  ok : s.ok
  w : s.w = want
  ord : Ord21 s.made s.l
  few : ∀ (i : Nat) (x : Ent), s.l[i]? = some x → (x.acked = false → x.sent < 8) ∧ x.back < 8 ∧ 0 ≤ x.back
  lo : ∀ (i : Nat) (x : Ent), s.l[i]? = some x → i < k → x.gone = false ∧ want[i]? = some x.what
  hi : ∀ (i : Nat) (x : Ent), s.l[i]? = some x → k ≤ i → x.gone = true
  k1 : k ≤ s.l.length
  k2 : k ≤ want.length
/-- is the topmost one not answered? -/
def un (l : List Ent) : Nat := match l[l.length - 1]? with | some e => if e.acked then 0 else 1 | none => 0
theorem un_le (l : List Ent) : un l ≤ 1 := by unfold un; split <;> (try split) <;> omega
theorem un_at {l : List Ent} {e : Ent} (h : l[l.length - 1]? = some e) : un l = if e.acked then 0 else 1 := by unfold un; rw [h]
theorem un_nil {l : List Ent} (h : l.length = 0) : un l = 0 := by unfold un; rw [List.getElem?_eq_none (by omega)]
def mu (want : List Eff) (s : S21) (k : Nat) : Nat := (s.l.length - k) + un s.l + (want.length - k)
/-- an entry of its number is found -/
theorem find_ord {made : Int} {l : List Ent} (h : Ord21 made l) {i : Nat} {e : Ent} (he : l[i]? = some e) : l.findIdx? (fun x => decide (x.ord = e.ord)) = some i := by
  obtain ⟨hi, hx⟩ := List.getElem?_eq_some_iff.1 he
  refine List.findIdx?_eq_some_iff_getElem.2 ⟨hi, by rw [hx]; exact decide_eq_true rfl, fun j hj => ?_⟩
  have := h.rise j i l[j] e hj (List.getElem?_eq_getElem (by omega)) he
  simp
  omega
/-- what one round does -/
structure Round (id : Idn) (want : List Eff) (s : S21) (k : Nat) (now : Int) (q : Req) (s' : S21) (k' : Nat) : Prop where
  nxt : next id s.made s.l want = some q
  tr : (tried id s.made s.l want now).isSome = true
  ac : (acked id (s.try_ id now).l q.key).isSome = true
  eq : s' = (s.try_ id now).ack id q.key
  fin : End21 want s' k'
  made : s'.made ≤ s.made + 1
  less : mu want s' k' < mu want s k
theorem fst_of {id : Idn} {s : S21} {now : Int} {t : Int × List Ent} (h : tried id s.made s.l s.w now = some t) : s.try_ id now = ⟨t.1, t.2, s.w⟩ := by
  unfold S21.try_; rw [h]; rfl
/-- a round: what is open is tried, and answered -/
theorem round_a {id : Idn} {want : List Eff} {s : S21} {k : Nat} {now : Int} (h : End21 want s k) (hn : I64 now) {e : Ent} (ht : tip s.l = some e) (ha : e.acked = false) :
    ∃ q s', Round id want s k now q s' k := by
  obtain ⟨he, ho⟩ := tip_some ht
  have hlen := (List.getElem?_eq_some_iff.1 he).1
  have hf := h.few _ e he
  have hnt : e.nt = e.sent := by unfold Ent.nt Ent.und; rw [ha]; rfl
  have h8 : e.nt < 8 := by rw [hnt]; exact hf.1 ha
  have hund : e.und = false := by unfold Ent.und; rw [ha]; rfl
  have hq : next id s.made s.l want = some ⟨⟨id, e.ord, e.und⟩, e.what⟩ := by unfold next; rw [ht]; exact if_pos h8
  have hq2 : next id s.made s.l s.w = some ⟨⟨id, e.ord, e.und⟩, e.what⟩ := by rw [h.w]; exact hq
  have htr := tried_tip (now := now) hq2 ht
  have hs1 := fst_of htr
  obtain ⟨o1, o2, o3, o4⟩ := e.try_same_ord now
  have hback : (e.try_ now).back = e.back := by
    unfold Ent.try_
    rw [if_pos ⟨ho, h8⟩, hund, if_neg Bool.false_ne_true]
  have hord1 : Ord21 s.made (s.l.set (s.l.length - 1) (e.try_ now)) := h.ord.like (by rw [List.length_set]; exact Nat.le_refl _) (set_like he o1 fun h => by rw [o2]; exact h)
  have hget : (s.l.set (s.l.length - 1) (e.try_ now))[s.l.length - 1]? = some (e.try_ now) := by rw [List.getElem?_set, if_pos rfl, if_pos hlen]
  have hfind := find_ord hord1 hget
  rw [o1] at hfind
  have hak : acked id (s.l.set (s.l.length - 1) (e.try_ now)) ⟨id, e.ord, e.und⟩ = some ((s.l.set (s.l.length - 1) (e.try_ now)).set (s.l.length - 1) (e.try_ now).ack) := by
    rw [acked_at (k := ⟨id, e.ord, e.und⟩) rfl hfind hget, hund, o2, ha]; rfl
  rw [List.set_set] at hak
  have hs2 : (s.try_ id now).ack id ⟨id, e.ord, e.und⟩ = ⟨s.made, s.l.set (s.l.length - 1) (e.try_ now).ack, s.w⟩ := by
    rw [hs1]; unfold S21.ack; rw [hak]; rfl
  refine ⟨_, ⟨s.made, s.l.set (s.l.length - 1) (e.try_ now).ack, s.w⟩, hq, ?_, ?_, hs2.symm, ?_, ?_, ?_⟩
  · rw [← h.w, htr]; rfl
  · rw [hs1]; dsimp only; rw [hak]; rfl
  · refine ⟨by rw [← hs2]; exact S21.ack_ok (S21.try_ok h.ok hn), h.w, ?_, ?_, ?_, ?_, by dsimp only; rw [List.length_set]; exact h.k1, h.k2⟩
    · exact h.ord.like (by dsimp only; rw [List.length_set]; exact Nat.le_refl _) (set_like he o1 fun _ => rfl)
    · intro i x hx
      dsimp only at hx
      rw [List.getElem?_set] at hx
      split at hx
      · injection hx with hx
        subst hx
        refine ⟨(fun h => absurd (show true = false from h) (by decide)), ?_, ?_⟩
        · show (e.try_ now).back < 8; rw [hback]; exact hf.2.1
        · show 0 ≤ (e.try_ now).back; rw [hback]; exact hf.2.2
      · exact h.few i x hx
    · intro i x hx hik
      dsimp only at hx
      rw [List.getElem?_set] at hx
      split at hx
      · rename_i hi
        injection hx with hx
        subst hx
        have := h.lo _ e he (by omega)
        subst hi
        exact ⟨by show (e.try_ now).gone = false; rw [o3]; exact this.1, by show want[s.l.length - 1]? = some (e.try_ now).what; rw [o4]; exact this.2⟩
      · exact h.lo i x hx hik
    · intro i x hx hik
      dsimp only at hx
      rw [List.getElem?_set] at hx
      split at hx
      · rename_i hi
        injection hx with hx
        subst hx
        show (e.try_ now).gone = true
        rw [o3]
        exact h.hi _ e he (by omega)
      · exact h.hi i x hx hik
  · dsimp only; omega
  · unfold mu
    dsimp only
    have e1 := un_at he
    rw [ha] at e1
    have e2 : un (s.l.set (s.l.length - 1) (e.try_ now).ack) = 0 := by
      rw [un_at (e := (e.try_ now).ack) (by rw [List.length_set, List.getElem?_set, if_pos rfl, if_pos hlen])]; rfl
    rw [e2, e1, List.length_set]
    simp only [Bool.false_eq_true, if_false]
    omega
/-- .. and what is gone is undone -/
theorem round_b {id : Idn} {want : List Eff} {s : S21} {k : Nat} {now : Int} (h : End21 want s k) (hn : I64 now) {e : Ent} (ht : tip s.l = some e) (ha : e.acked = true) :
    ∃ q s', Round id want s k now q s' k := by
  obtain ⟨he, ho⟩ := tip_some ht
  have hlen := (List.getElem?_eq_some_iff.1 he).1
  have hf := h.few _ e he
  have hg : e.gone = true := by unfold Ent.opn at ho; rw [ha] at ho; simpa using ho
  have hund : e.und = true := by unfold Ent.und; rw [ha, hg]; rfl
  have hnt : e.nt = e.back := by unfold Ent.nt; rw [hund]; rfl
  have h8 : e.nt < 8 := by rw [hnt]; exact hf.2.1
  have hkl : k ≤ s.l.length - 1 := by
    by_cases hk : s.l.length - 1 < k
    · have := (h.lo _ e he hk).1
      rw [hg] at this; cases this
    · omega
  have hq : next id s.made s.l want = some ⟨⟨id, e.ord, e.und⟩, e.what⟩ := by unfold next; rw [ht]; exact if_pos h8
  have hq2 : next id s.made s.l s.w = some ⟨⟨id, e.ord, e.und⟩, e.what⟩ := by rw [h.w]; exact hq
  have htr := tried_tip (now := now) hq2 ht
  have hs1 := fst_of htr
  obtain ⟨o1, o2, o3, o4⟩ := e.try_same_ord now
  have hback : (e.try_ now).back = e.back + 1 := by
    unfold Ent.try_
    rw [if_pos ⟨ho, h8⟩, hund, if_pos rfl]
  have hund1 : (e.try_ now).und = true := by unfold Ent.und; rw [o2, o3, ha, hg]; rfl
  have hord1 : Ord21 s.made (s.l.set (s.l.length - 1) (e.try_ now)) := h.ord.like (by rw [List.length_set]; exact Nat.le_refl _) (set_like he o1 fun h => by rw [o2]; exact h)
  have hget : (s.l.set (s.l.length - 1) (e.try_ now))[s.l.length - 1]? = some (e.try_ now) := by rw [List.getElem?_set, if_pos rfl, if_pos hlen]
  have hfind := find_ord hord1 hget
  rw [o1] at hfind
  have htake : (s.l.set (s.l.length - 1) (e.try_ now)).take (s.l.length - 1) = s.l.take (s.l.length - 1) := List.take_set_of_le (Nat.le_refl _)
  have hak : acked id (s.l.set (s.l.length - 1) (e.try_ now)) ⟨id, e.ord, e.und⟩ = some (s.l.take (s.l.length - 1)) := by
    rw [acked_at (k := ⟨id, e.ord, e.und⟩) rfl hfind hget, hund, hund1, hback, htake, List.length_set]
    rw [decide_eq_true (show 1 ≤ e.back + 1 by have := hf.2.2; omega), decide_eq_true (show s.l.length - 1 + 1 = s.l.length by omega)]
    rfl
  have hs2 : (s.try_ id now).ack id ⟨id, e.ord, e.und⟩ = ⟨s.made, s.l.take (s.l.length - 1), s.w⟩ := by
    rw [hs1]; unfold S21.ack; rw [hak]; rfl
  have hsub : ∀ (i : Nat) (x : Ent), (s.l.take (s.l.length - 1))[i]? = some x → s.l[i]? = some x ∧ i < s.l.length - 1 := by
    intro i x hx
    rw [List.getElem?_take] at hx
    split at hx
    · exact ⟨hx, by assumption⟩
    · cases hx
  refine ⟨_, ⟨s.made, s.l.take (s.l.length - 1), s.w⟩, hq, ?_, ?_, hs2.symm, ?_, ?_, ?_⟩
  · rw [← h.w, htr]; rfl
  · rw [hs1]; dsimp only; rw [hak]; rfl
  · exact ⟨by rw [← hs2]; exact S21.ack_ok (S21.try_ok h.ok hn), h.w, h.ord.take, fun i x hx => h.few i x (hsub i x hx).1, fun i x hx => h.lo i x (hsub i x hx).1, fun i x hx => h.hi i x (hsub i x hx).1, by dsimp only; rw [List.length_take]; omega, h.k2⟩
  · dsimp only; omega
  · unfold mu
    dsimp only
    have e2 : un (s.l.take (s.l.length - 1)) = 0 := by
      by_cases h1 : s.l.length - 1 = 0
      · exact un_nil (by rw [List.length_take]; omega)
      · obtain ⟨x, hx⟩ : ∃ x, s.l[s.l.length - 1 - 1]? = some x := ⟨_, List.getElem?_eq_getElem (by omega)⟩
        have hd := h.ord.deep _ x (by omega) hx
        rw [un_at (e := x) (by rw [List.length_take, show min (s.l.length - 1) s.l.length = s.l.length - 1 by omega, List.getElem?_take, if_pos (by omega)]; exact hx), hd]
        rfl
    rw [e2, List.length_take]
    omega
/-- .. and what is wanted is done -/
theorem round_c {id : Idn} {want : List Eff} {s : S21} {k : Nat} {now : Int} (h : End21 want s k) (hn : I64 now) (ht : tip s.l = none) (hm : s.made < 255) (hnq : quiet s.l want = false) :
    ∃ q s', Round id want s k now q s' (k + 1) := by
  -- none is open, none is gone
  have hshut : ∀ (i : Nat) (x : Ent), s.l[i]? = some x → x.acked = true := by
    intro i x hx
    have hi := (List.getElem?_eq_some_iff.1 hx).1
    by_cases hd : i + 1 < s.l.length
    · exact h.ord.deep i x hd hx
    · obtain rfl : i = s.l.length - 1 := by omega
      exact (shut_acked ht hx).1
  have hk : k = s.l.length := by
    have h1 := h.k1
    by_cases hlt : k < s.l.length
    · obtain ⟨x, hx⟩ : ∃ x, s.l[s.l.length - 1]? = some x := ⟨_, List.getElem?_eq_getElem (by omega)⟩
      have h2 := h.hi _ x hx (by omega)
      have h3 := (shut_acked ht hx).2
      rw [h2] at h3; cases h3
    · omega
  have hall : (s.l.all fun e => !e.opn) = true := by
    rw [List.all_eq_true]
    intro x hx
    obtain ⟨i, hi, rfl⟩ := List.getElem_of_mem hx
    have hx : s.l[i]? = some s.l[i] := List.getElem?_eq_getElem hi
    have h1 := hshut i _ hx
    have h2 := (h.lo i _ hx (by omega)).1
    unfold Ent.opn
    rw [h1, h2]; rfl
  have hlw : s.l.length < want.length := by
    have h2 := h.k2
    unfold quiet at hnq
    rw [hall, Bool.and_true] at hnq
    have := of_decide_eq_false hnq
    omega
  obtain ⟨f, hf⟩ : ∃ f, want[s.l.length]? = some f := ⟨_, List.getElem?_eq_getElem hlw⟩
  have hq : next id s.made s.l want = some ⟨⟨id, s.made + 1, false⟩, f⟩ := by unfold next; rw [ht]; exact fresh_yes hf hm
  have hq2 : next id s.made s.l s.w = some ⟨⟨id, s.made + 1, false⟩, f⟩ := by rw [h.w]; exact hq
  have htr := tried_new (now := now) hq2 ht
  have hs1 := fst_of htr
  dsimp only at hs1
  have hord1 : Ord21 (s.made + 1) (s.l ++ [newEnt ⟨⟨id, s.made + 1, false⟩, f⟩ now]) := h.ord.snoc h.ok.made0 ht rfl
  have hget : (s.l ++ [newEnt ⟨⟨id, s.made + 1, false⟩, f⟩ now])[s.l.length]? = some (newEnt ⟨⟨id, s.made + 1, false⟩, f⟩ now) := by
    rw [List.getElem?_append_right (Nat.le_refl _), Nat.sub_self]; rfl
  have hfind := find_ord hord1 hget
  have hak : acked id (s.l ++ [newEnt ⟨⟨id, s.made + 1, false⟩, f⟩ now]) ⟨id, s.made + 1, false⟩ = some (s.l ++ [(newEnt ⟨⟨id, s.made + 1, false⟩, f⟩ now).ack]) := by
    rw [acked_at (k := ⟨id, s.made + 1, false⟩) rfl hfind hget]
    show some ((s.l ++ [newEnt ⟨⟨id, s.made + 1, false⟩, f⟩ now]).set s.l.length _) = _
    rw [List.set_append_right _ _ (Nat.le_refl _), Nat.sub_self]; rfl
  have hs2 : (s.try_ id now).ack id ⟨id, s.made + 1, false⟩ = ⟨s.made + 1, s.l ++ [(newEnt ⟨⟨id, s.made + 1, false⟩, f⟩ now).ack], s.w⟩ := by
    rw [hs1]; unfold S21.ack; dsimp only; rw [hak]; rfl
  have hcase : ∀ (i : Nat) (y : Ent), (s.l ++ [(newEnt ⟨⟨id, s.made + 1, false⟩, f⟩ now).ack])[i]? = some y → (i < s.l.length ∧ s.l[i]? = some y) ∨ (i = s.l.length ∧ y = (newEnt ⟨⟨id, s.made + 1, false⟩, f⟩ now).ack) := by
    intro i y hy
    have hi := (List.getElem?_eq_some_iff.1 hy).1
    rw [List.length_append, List.length_singleton] at hi
    by_cases hlt : i < s.l.length
    · rw [List.getElem?_append_left hlt] at hy; exact .inl ⟨hlt, hy⟩
    · obtain rfl : i = s.l.length := by omega
      rw [List.getElem?_append_right (Nat.le_refl _), Nat.sub_self] at hy
      injection hy with hy
      exact .inr ⟨rfl, hy.symm⟩
  refine ⟨_, ⟨s.made + 1, s.l ++ [(newEnt ⟨⟨id, s.made + 1, false⟩, f⟩ now).ack], s.w⟩, hq, ?_, ?_, hs2.symm, ?_, ?_, ?_⟩
  · rw [← h.w, htr]; rfl
  · rw [hs1]; dsimp only; rw [hak]; rfl
  · refine ⟨by rw [← hs2]; exact S21.ack_ok (S21.try_ok h.ok hn), h.w, ?_, ?_, ?_, ?_, by dsimp only; rw [List.length_append, List.length_singleton]; omega, by omega⟩
    · exact h.ord.snoc h.ok.made0 ht rfl
    · intro i x hx
      rcases hcase i x hx with ⟨_, h1⟩ | ⟨_, rfl⟩
      · exact h.few i x h1
      · exact ⟨(fun h => absurd (show true = false from h) (by decide)), by show (0 : Int) < 8; decide, by show (0 : Int) ≤ 0; decide⟩
    · intro i x hx hik
      rcases hcase i x hx with ⟨h0, h1⟩ | ⟨h0, rfl⟩
      · exact h.lo i x h1 (by omega)
      · rw [h0]; exact ⟨rfl, hf⟩
    · intro i x hx hik
      rcases hcase i x hx with ⟨h0, h1⟩ | ⟨h0, rfl⟩
      · omega
      · omega
  · dsimp only; omega
  · unfold mu
    dsimp only
    have e2 : un (s.l ++ [(newEnt ⟨⟨id, s.made + 1, false⟩, f⟩ now).ack]) = 0 := by
      rw [un_at (e := (newEnt ⟨⟨id, s.made + 1, false⟩, f⟩ now).ack) (by rw [List.length_append, List.length_singleton, Nat.add_sub_cancel, List.getElem?_append_right (Nat.le_refl _), Nat.sub_self]; rfl)]; rfl
    rw [e2, List.length_append, List.length_singleton]
    omega
theorem round_any {id : Idn} {want : List Eff} {s : S21} {k : Nat} {now : Int} (h : End21 want s k) (hn : I64 now) (hm : s.made < 255) (hnq : quiet s.l want = false) : ∃ q s' k', Round id want s k now q s' k' := by
  cases ht : tip s.l with
  | none =>
    obtain ⟨q, s', hr⟩ := round_c (id := id) h hn ht hm hnq
    exact ⟨q, s', _, hr⟩
  | some e =>
    cases ha : e.acked
    · obtain ⟨q, s', hr⟩ := round_a (id := id) h hn ht ha
      exact ⟨q, s', _, hr⟩
    · obtain ⟨q, s', hr⟩ := round_b (id := id) h hn ht ha
      exact ⟨q, s', _, hr⟩
/-- quiet: what is wanted was done -/
theorem quiet_done {want : List Eff} {s : S21} {k : Nat} (h : End21 want s k) (hq : quiet s.l want = true) : s.l.length = want.length ∧ ∀ (i : Nat) (x : Ent), s.l[i]? = some x → want[i]? = some x.what ∧ x.acked = true ∧ x.gone = false := by
  unfold quiet at hq
  rw [Bool.and_eq_true] at hq
  obtain ⟨h1, h2⟩ := hq
  refine ⟨of_decide_eq_true h1, fun i x hx => ?_⟩
  have h3 : (!x.opn) = true := List.all_eq_true.1 h2 x (List.mem_of_getElem? hx)
  unfold Ent.opn at h3
  have h4 : x.acked = true ∧ x.gone = false := by revert h3; cases x.acked <;> cases x.gone <;> simp
  refine ⟨?_, h4⟩
  by_cases hik : i < k
  · exact (h.lo i x hx hik).2
  · have := h.hi i x hx (by omega)
    rw [h4.2] at this; cases this
/-- what was settled is such -/
theorem settle_end {want : List Eff} {s : S21} (h : s.ok) (ho : Ord21 s.made s.l) (hb : ∀ (i : Nat) (x : Ent), s.l[i]? = some x → 0 ≤ x.back) (hw : ∀ f ∈ want, f.ok) (hw8 : want.length ≤ 8) (hfew : ∀ (i : Nat) (x : Ent), (settle want s.l)[i]? = some x → x.sent < 7 ∧ x.back < 7) :
    ∃ k, End21 want ⟨s.made, settle want s.l, want⟩ k := by
  have hk : ∃ k, k ≤ s.l.length ∧ (∀ i, i < k → lost want s.l (i + 1) = false) ∧ (∀ i, k ≤ i → i < s.l.length → lost want s.l (i + 1) = true) := by
    suffices hs : ∀ m, m ≤ s.l.length → ∃ k, k ≤ m ∧ (∀ i, i < k → lost want s.l (i + 1) = false) ∧ (∀ i, k ≤ i → i < m → lost want s.l (i + 1) = true) from hs _ (Nat.le_refl _)
    intro m
    induction m with
    | zero => intro _; exact ⟨0, Nat.le_refl _, fun i hi => by omega, fun i _ hi => by omega⟩
    | succ m ih =>
      intro hm
      obtain ⟨k, k1, k2, k3⟩ := ih (by omega)
      by_cases hkm : k = m
      · cases hl : lost want s.l (m + 1)
        · refine ⟨m + 1, Nat.le_refl _, fun i hi => ?_, fun i h1 h2 => by omega⟩
          by_cases him : i = m
          · rw [him]; exact hl
          · exact k2 i (by omega)
        · refine ⟨k, by omega, k2, fun i h1 h2 => ?_⟩
          obtain rfl : i = m := by omega
          exact hl
      · refine ⟨k, by omega, k2, fun i h1 h2 => ?_⟩
        by_cases him : i = m
        · subst him
          obtain ⟨j, rfl⟩ : ∃ j, i = j + 1 := ⟨i - 1, by omega⟩
          exact lost_mono (k3 j (by omega) (by omega))
        · exact k3 i h1 (by omega)
  obtain ⟨k, k1, k2, k3⟩ := hk
  have hel : ∀ (i : Nat) (y : Ent), (settle want s.l)[i]? = some y → ∃ x, s.l[i]? = some x ∧ y = x.mark (lost want s.l (i + 1)) := by
    intro i y hy
    have hi := (List.getElem?_eq_some_iff.1 hy).1
    rw [settle_length] at hi
    have hx : s.l[i]? = some s.l[i] := List.getElem?_eq_getElem hi
    rw [settle_at hx] at hy
    injection hy with hy
    exact ⟨_, hx, hy.symm⟩
  have hlo : ∀ i x, s.l[i]? = some x → i < k → want[i]? = some x.what := by
    intro i x hx hik
    have := k2 i hik
    rw [lost_succ hx] at this
    have h1 : decide (want[i]? ≠ some x.what) = false := by
      cases hd : decide (want[i]? ≠ some x.what)
      · rfl
      · rw [hd] at this; simp at this
    exact Classical.not_not.1 (of_decide_eq_false h1)
  refine ⟨k, ⟨⟨settle_ok h.ents, hw, h.made0, h.made1, by dsimp only; rw [settle_length]; exact h.len, hw8⟩, rfl, ho.settle, ?_, ?_, ?_, by dsimp only; rw [settle_length]; exact k1, ?_⟩⟩
  · intro i y hy
    obtain ⟨h1, h2⟩ := hfew i y hy
    obtain ⟨x, hx, rfl⟩ := hel i y hy
    exact ⟨fun _ => by omega, by omega, hb i x hx⟩
  · intro i y hy hik
    obtain ⟨x, hx, rfl⟩ := hel i y hy
    exact ⟨k2 i hik, hlo i x hx hik⟩
  · intro i y hy hik
    obtain ⟨x, hx, rfl⟩ := hel i y hy
    exact k3 i hik (List.getElem?_eq_some_iff.1 hx).1
  · by_cases h0 : k = 0
    · omega
    · obtain ⟨x, hx⟩ : ∃ x, s.l[k - 1]? = some x := ⟨_, List.getElem?_eq_getElem (by omega)⟩
      have := (List.getElem?_eq_some_iff.1 (hlo _ x hx (by omega))).1
      omega
/-- back never falls below 0, and each call makes one at most -/
theorem step_back {s : S21} {id : Idn} {x : Op21} (h : ∀ (i : Nat) (y : Ent), s.l[i]? = some y → 0 ≤ y.back) : (∀ (i : Nat) (y : Ent), (s.step id x).l[i]? = some y → 0 ≤ y.back) ∧ (s.step id x).made ≤ s.made + 1 := by
  have hset : ∀ {k : Nat} {e : Ent}, 0 ≤ e.back → ∀ (i : Nat) (y : Ent), (s.l.set k e)[i]? = some y → 0 ≤ y.back := by
    intro k e he i y hy
    rw [List.getElem?_set] at hy
    split at hy
    · split at hy
      · injection hy with hy; subst hy; exact he
      · cases hy
    · exact h i y hy
  unfold S21.step
  split
  · refine ⟨fun i y hy => ?_, by dsimp only; omega⟩
    dsimp only at hy
    have hi := (List.getElem?_eq_some_iff.1 hy).1
    rw [settle_length] at hi
    have hx : s.l[i]? = some s.l[i] := List.getElem?_eq_getElem hi
    rw [settle_at hx] at hy
    injection hy with hy
    subst hy
    show 0 ≤ s.l[i].back
    exact h i _ hx
  split
  · rcases try_ways (s := s) (id := id) (now := x.now) with h1 | ⟨e, ht, _, h1⟩ | ⟨f, ht, hm, hf, h1⟩
    · rw [h1]; exact ⟨h, by omega⟩
    · rw [h1]
      obtain ⟨he, _⟩ := tip_some ht
      refine ⟨hset ?_, by dsimp only; omega⟩
      have := h _ e he
      unfold Ent.try_
      split
      · split
        · dsimp only; omega
        · exact this
      · exact this
    · rw [h1]
      refine ⟨fun i y hy => ?_, by dsimp only; omega⟩
      dsimp only at hy
      by_cases hlt : i < s.l.length
      · rw [List.getElem?_append_left hlt] at hy; exact h i y hy
      · rw [List.getElem?_append_right (by omega)] at hy
        have := List.mem_of_getElem? hy
        rw [List.mem_singleton] at this
        subst this
        exact Int.le_refl _
  split
  · rcases ack_ways (s := s) (id := id) (k := x.k id (s.nxt id)) with h1 | ⟨i, e, he, _, _, h1⟩ | ⟨i, e, he, _, _, hi, h1⟩
    · rw [h1]; exact ⟨h, by omega⟩
    · rw [h1]
      exact ⟨hset (e := e.ack) (h i e he), by dsimp only; omega⟩
    · rw [h1]
      refine ⟨fun j y hy => ?_, by dsimp only; omega⟩
      dsimp only at hy
      rw [List.getElem?_take] at hy
      split at hy
      · exact h j y hy
      · cases hy
  · exact ⟨h, by omega⟩
theorem run_back {id : Idn} (l : List Op21) : ∀ s : S21, (∀ (i : Nat) (y : Ent), s.l[i]? = some y → 0 ≤ y.back) → (∀ (i : Nat) (y : Ent), (S21.run id s l).l[i]? = some y → 0 ≤ y.back) ∧ (S21.run id s l).made ≤ s.made + l.length := by
  induction l with
  | nil => intro s h; exact ⟨h, by simp [S21.run]⟩
  | cons x l ih =>
    intro s h
    obtain ⟨h1, h2⟩ := step_back (id := id) (x := x) h
    obtain ⟨h3, h4⟩ := ih (S21.step id s x) h1
    exact ⟨h3, by show (S21.run id (S21.step id s x) l).made ≤ _; rw [List.length_cons]; omega⟩
end Go.Proofs.Ytiabahpofcapbaa.Sep
