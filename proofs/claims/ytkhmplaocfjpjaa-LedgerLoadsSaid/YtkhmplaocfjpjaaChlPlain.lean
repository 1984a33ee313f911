/- A script of a chain's calls: what stands behind each. No function in sight. -/
import Derived.Test.YtkhmplaocfjpjaaChnPlain
namespace Go.Proofs.Ytkhmplaocfjpjaa.Sep
set_option maxRecDepth 100000
structure S21 where
  made : Int
  l : List Ent
  w : List Eff
def S21.nxt (s : S21) (id : Idn) : Option Req := next id s.made s.l s.w
def S21.try_ (s : S21) (id : Idn) (now : Int) : S21 := ⟨((tried id s.made s.l s.w now).getD (s.made, s.l)).1, ((tried id s.made s.l s.w now).getD (s.made, s.l)).2, s.w⟩
def S21.ack (s : S21) (id : Idn) (k : Keyv) : S21 := ⟨s.made, (acked id s.l k).getD s.l, s.w⟩
def Op21.k (x : Op21) (id : Idn) (q : Option Req) : Keyv := if x.kind = 3 then (q.getD reqT_z).key else if x.kind = 5 then ⟨id, x.key.ord, x.key.undo⟩ else x.key
def S21.step (id : Idn) (s : S21) (x : Op21) : S21 :=
  if x.kind = 1 then ⟨s.made, settle x.want.l s.l, x.want.l⟩ else if x.kind = 2 then s.try_ id x.now else if 3 ≤ x.kind ∧ x.kind ≤ 5 then s.ack id (x.k id (s.nxt id)) else s
/-- what holds of each -/
structure S21.ok (s : S21) : Prop where
  ents : ∀ e ∈ s.l, e.ok
  effs : ∀ f ∈ s.w, f.ok
  made0 : 0 ≤ s.made
  made1 : s.made ≤ 255
  len : (s.l.length : Int) ≤ s.made
  wide : s.w.length ≤ 8
structure Op21.ok (x : Op21) : Prop where
  effs : ∀ f ∈ x.want.l, f.ok
  now : I64 x.now
  wide : x.want.l.length ≤ 8
theorem Ent.mark_ok {e : Ent} {g : Bool} (h : e.ok) : (e.mark g).ok := h
theorem Ent.ack_ok {e : Ent} (h : e.ok) : e.ack.ok := h
theorem settle_ok {want : List Eff} {l : List Ent} (h : ∀ e ∈ l, e.ok) : ∀ e ∈ settle want l, e.ok := by
  intro e he
  obtain ⟨i, hi, rfl⟩ := List.getElem_of_mem he
  rw [settle_length] at hi
  have hx : l[i]? = some l[i] := List.getElem?_eq_getElem hi
  have hs := settle_at (want := want) hx
  rw [List.getElem?_eq_getElem (by rw [settle_length]; exact hi)] at hs
  injection hs with hs
  rw [hs]
  exact Ent.mark_ok (h _ (List.getElem_mem _))
theorem Ent.try_ok {e : Ent} {now : Int} (h : e.ok) (hn : I64 now) : (e.try_ now).ok := by
  unfold Ent.try_
  have hb : e.nt = if e.und then e.back else e.sent := rfl
  split
  · rename_i hh
    obtain ⟨q0, q1, q2, q3, q4, q5⟩ := h
    unfold I64 at q2 q4
    split
    · rename_i hu
      rw [if_pos hu] at hb
      exact ⟨q0, q1, q2, q3, by unfold I64; dsimp only; omega, hn⟩
    · rename_i hu
      rw [if_neg hu] at hb
      exact ⟨q0, q1, by unfold I64; dsimp only; omega, hn, q4, q5⟩
  · exact h
theorem tried_none {id : Idn} {made : Int} {l : List Ent} {want : List Eff} {now : Int} (h : next id made l want = none) : tried id made l want now = none := by
  unfold tried; rw [h]
theorem tried_tip {id : Idn} {made : Int} {l : List Ent} {want : List Eff} {now : Int} {q : Req} {e : Ent} (h : next id made l want = some q) (ht : tip l = some e) : tried id made l want now = some (made, l.set (l.length - 1) (e.try_ now)) := by
  unfold tried; rw [h, ht]
theorem tried_new {id : Idn} {made : Int} {l : List Ent} {want : List Eff} {now : Int} {q : Req} (h : next id made l want = some q) (ht : tip l = none) : tried id made l want now = some (made + 1, l ++ [newEnt q now]) := by
  unfold tried; rw [h, ht]
/-- the ways of a try -/
theorem try_ways {s : S21} {id : Idn} {now : Int} : s.try_ id now = s ∨ (∃ e, tip s.l = some e ∧ e.nt < 8 ∧ s.try_ id now = ⟨s.made, s.l.set (s.l.length - 1) (e.try_ now), s.w⟩) ∨
    (∃ f, tip s.l = none ∧ s.made < 255 ∧ s.w[s.l.length]? = some f ∧ s.try_ id now = ⟨s.made + 1, s.l ++ [newEnt ⟨⟨id, s.made + 1, false⟩, f⟩ now], s.w⟩) := by
  cases hq : next id s.made s.l s.w with
  | none =>
    refine .inl ?_
    unfold S21.try_
    rw [tried_none hq]; rfl
  | some q =>
    cases ht : tip s.l with
    | some e =>
      refine .inr (.inl ⟨e, rfl, ?_, ?_⟩)
      · unfold next at hq
        rw [ht] at hq
        dsimp only at hq
        by_cases h8 : e.nt < 8
        · exact h8
        · rw [if_neg h8] at hq; cases hq
      · unfold S21.try_
        rw [tried_tip hq ht]; rfl
    | none =>
      have hq2 := hq
      unfold next at hq2
      rw [ht] at hq2
      obtain ⟨h1, f, h2, rfl⟩ := fresh_some hq2
      refine .inr (.inr ⟨f, rfl, h1, h2, ?_⟩)
      unfold S21.try_
      rw [tried_new hq ht]; rfl
/-- the ways of an answer -/
theorem ack_ways {s : S21} {id : Idn} {k : Keyv} : s.ack id k = s ∨ (∃ i e, s.l[i]? = some e ∧ e.ord = k.ord ∧ e.acked = false ∧ s.ack id k = ⟨s.made, s.l.set i e.ack, s.w⟩) ∨
    (∃ i e, s.l[i]? = some e ∧ e.und = true ∧ 1 ≤ e.back ∧ i + 1 = s.l.length ∧ s.ack id k = ⟨s.made, s.l.take i, s.w⟩) := by
  by_cases h1 : k.id = id
  case neg => exact .inl (by unfold S21.ack; rw [acked_none (.inl h1)]; rfl)
  cases hf : s.l.findIdx? (fun e => decide (e.ord = k.ord)) with
  | none => exact .inl (by unfold S21.ack; rw [acked_none (.inr hf)]; rfl)
  | some i =>
    obtain ⟨e, he, hk⟩ := find_at hf
    have hak := acked_at h1 hf he
    have hk := of_decide_eq_true hk
    by_cases h2 : (!k.undo && !e.acked) = true
    · rw [if_pos h2] at hak
      have h2 : k.undo = false ∧ e.acked = false := by simpa using h2
      exact .inr (.inl ⟨i, e, he, hk, h2.2, by unfold S21.ack; rw [hak]; rfl⟩)
    · rw [if_neg h2] at hak
      by_cases h3 : (k.undo && (e.und && (decide (1 ≤ e.back) && decide (i + 1 = s.l.length)))) = true
      · rw [if_pos h3] at hak
        have h3 : k.undo = true ∧ e.und = true ∧ 1 ≤ e.back ∧ i + 1 = s.l.length := by simpa using h3
        exact .inr (.inr ⟨i, e, he, h3.2.1, h3.2.2.1, h3.2.2.2, by unfold S21.ack; rw [hak]; rfl⟩)
      · rw [if_neg h3] at hak
        exact .inl (by unfold S21.ack; rw [hak]; rfl)
theorem S21.try_ok {s : S21} {id : Idn} {now : Int} (h : s.ok) (hn : I64 now) : (s.try_ id now).ok := by
  rcases try_ways (s := s) (id := id) (now := now) with h1 | ⟨e, ht, _, h1⟩ | ⟨f, ht, hm, hf, h1⟩
  · rw [h1]; exact h
  · rw [h1]
    obtain ⟨he, _⟩ := tip_some ht
    refine ⟨fun x hx => ?_, h.effs, h.made0, h.made1, by rw [List.length_set]; exact h.len, h.wide⟩
    rcases List.mem_or_eq_of_mem_set hx with h2 | rfl
    · exact h.ents x h2
    · exact Ent.try_ok (h.ents e (List.mem_of_getElem? he)) hn
  · rw [h1]
    have h0 := h.made0
    have hl := h.len
    refine ⟨fun x hx => ?_, h.effs, by dsimp only; omega, by dsimp only; omega, by simp; omega, h.wide⟩
    rcases List.mem_append.1 hx with h2 | h2
    · exact h.ents x h2
    · rw [List.mem_singleton] at h2
      subst h2
      refine ⟨by unfold I64; dsimp only; omega, h.effs f (List.mem_of_getElem? hf), by unfold I64; dsimp only; omega, hn, by unfold I64; dsimp only; omega, by unfold I64; dsimp only; omega⟩
theorem S21.ack_ok {s : S21} {id : Idn} {k : Keyv} (h : s.ok) : (s.ack id k).ok := by
  rcases ack_ways (s := s) (id := id) (k := k) with h1 | ⟨i, e, he, _, _, h1⟩ | ⟨i, e, he, _, _, hi, h1⟩
  · rw [h1]; exact h
  · rw [h1]
    refine ⟨fun x hx => ?_, h.effs, h.made0, h.made1, by rw [List.length_set]; exact h.len, h.wide⟩
    rcases List.mem_or_eq_of_mem_set hx with h2 | rfl
    · exact h.ents x h2
    · exact Ent.ack_ok (h.ents e (List.mem_of_getElem? he))
  · rw [h1]
    have hl := h.len
    exact ⟨fun x hx => h.ents x (List.mem_of_mem_take hx), h.effs, h.made0, h.made1, by dsimp only; rw [List.length_take]; omega, h.wide⟩
theorem S21.step_ok {s : S21} {id : Idn} {x : Op21} (h : s.ok) (hx : x.ok) : (s.step id x).ok := by
  unfold S21.step
  split
  · exact ⟨settle_ok h.ents, hx.effs, h.made0, h.made1, by dsimp only; rw [settle_length]; exact h.len, hx.wide⟩
  split
  · exact S21.try_ok h hx.now
  split
  · exact S21.ack_ok h
  · exact h
def S21.run (id : Idn) (s : S21) (l : List Op21) : S21 := l.foldl (S21.step id) s
theorem S21.run_succ {id : Idn} {s : S21} {l : List Op21} {i : Nat} (h : i < l.length) : S21.run id s (l.take (i + 1)) = S21.step id (S21.run id s (l.take i)) l[i] := by
  unfold S21.run
  rw [List.take_succ_eq_append_getElem h, List.foldl_append]; rfl
theorem S21.run_ok {id : Idn} {s : S21} {l : List Op21} (h : s.ok) (hl : ∀ x ∈ l, x.ok) : (S21.run id s l).ok := by
  induction l generalizing s with
  | nil => exact h
  | cons x l ih => exact ih (S21.step_ok h (hl x (List.mem_cons_self ..))) (fun y hy => hl y (List.mem_cons_of_mem _ hy))
end Go.Proofs.Ytkhmplaocfjpjaa.Sep
