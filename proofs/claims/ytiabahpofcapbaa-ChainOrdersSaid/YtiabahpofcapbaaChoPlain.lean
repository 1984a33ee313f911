/- Numbers of a chain's entries rise, and all but the topmost are answered. No function in sight. -/
import Derived.Test.YtiabahpofcapbaaChlPlain
namespace Go.Proofs.Ytiabahpofcapbaa.Sep
set_option maxRecDepth 100000
structure Ord21 (made : Int) (l : List Ent) : Prop where
  rise : ∀ (i j : Nat) (x y : Ent), i < j → l[i]? = some x → l[j]? = some y → x.ord < y.ord
  pos : ∀ (i : Nat) (x : Ent), l[i]? = some x → 1 ≤ x.ord ∧ x.ord ≤ made
  deep : ∀ (i : Nat) (x : Ent), i + 1 < l.length → l[i]? = some x → x.acked = true
theorem Ord21.nil : Ord21 0 [] := ⟨fun i j x y _ h => by simp at h, fun i x h => by simp at h, fun i x _ h => by simp at h⟩
theorem Ord21.like {made : Int} {l l' : List Ent} (h : Ord21 made l) (hl : l'.length ≤ l.length) (hx : ∀ (i : Nat) (y : Ent), l'[i]? = some y → ∃ x, l[i]? = some x ∧ y.ord = x.ord ∧ (x.acked = true → y.acked = true)) : Ord21 made l' := by
  refine ⟨fun i j y z hij h1 h2 => ?_, fun i y h1 => ?_, fun i y hi h1 => ?_⟩
  · obtain ⟨x1, e1, o1, _⟩ := hx i y h1
    obtain ⟨x2, e2, o2, _⟩ := hx j z h2
    rw [o1, o2]; exact h.rise i j x1 x2 hij e1 e2
  · obtain ⟨x1, e1, o1, _⟩ := hx i y h1
    rw [o1]; exact h.pos i x1 e1
  · obtain ⟨x1, e1, _, a1⟩ := hx i y h1
    exact a1 (h.deep i x1 (by omega) e1)
theorem Ent.try_same_ord (e : Ent) (now : Int) : (e.try_ now).ord = e.ord ∧ (e.try_ now).acked = e.acked ∧ (e.try_ now).gone = e.gone ∧ (e.try_ now).what = e.what := by
  unfold Ent.try_
  split
  · split <;> exact ⟨rfl, rfl, rfl, rfl⟩
  · exact ⟨rfl, rfl, rfl, rfl⟩
theorem set_like {l : List Ent} {k : Nat} {e e' : Ent} (he : l[k]? = some e) (ho : e'.ord = e.ord) (ha : e.acked = true → e'.acked = true) : ∀ (i : Nat) (y : Ent), (l.set k e')[i]? = some y → ∃ x, l[i]? = some x ∧ y.ord = x.ord ∧ (x.acked = true → y.acked = true) := by
  intro i y hy
  rw [List.getElem?_set] at hy
  split at hy
  · rename_i hk
    subst hk
    split at hy
    · injection hy with hy; subst hy; exact ⟨e, he, ho, ha⟩
    · cases hy
  · exact ⟨y, hy, rfl, fun h => h⟩
theorem Ord21.settle {made : Int} {l : List Ent} {want : List Eff} (h : Ord21 made l) : Ord21 made (settle want l) := by
  refine h.like (by rw [settle_length]; exact Nat.le_refl _) fun i y hy => ?_
  have hi := (List.getElem?_eq_some_iff.1 hy).1
  rw [settle_length] at hi
  have hx : l[i]? = some l[i] := List.getElem?_eq_getElem hi
  rw [settle_at hx] at hy
  injection hy with hy
  subst hy
  exact ⟨_, hx, rfl, fun h => h⟩
theorem Ord21.take {made : Int} {l : List Ent} {k : Nat} (h : Ord21 made l) : Ord21 made (l.take k) := by
  refine h.like (by rw [List.length_take]; omega) fun i y hy => ?_
  rw [List.getElem?_take] at hy
  split at hy
  · exact ⟨y, hy, rfl, fun h => h⟩
  · cases hy
/-- the topmost one, if nothing is next of it, is answered -/
theorem shut_acked {l : List Ent} {x : Ent} (ht : tip l = none) (hx : l[l.length - 1]? = some x) : x.acked = true ∧ x.gone = false := by
  unfold tip at ht
  rw [hx] at ht
  dsimp only at ht
  split at ht
  · cases ht
  · rename_i ho
    unfold Ent.opn at ho
    cases ha : x.acked <;> cases hg : x.gone <;> rw [ha, hg] at ho <;> simp at ho <;> exact ⟨rfl, rfl⟩
theorem Ord21.snoc {made : Int} {l : List Ent} {e : Ent} (h : Ord21 made l) (h0 : 0 ≤ made) (ht : tip l = none) (he : e.ord = made + 1) : Ord21 (made + 1) (l ++ [e]) := by
  have hcase : ∀ (i : Nat) (y : Ent), (l ++ [e])[i]? = some y → (i < l.length ∧ l[i]? = some y) ∨ (i = l.length ∧ y = e) := by
    intro i y hy
    have hi := (List.getElem?_eq_some_iff.1 hy).1
    rw [List.length_append, List.length_singleton] at hi
    by_cases hlt : i < l.length
    · rw [List.getElem?_append_left hlt] at hy; exact .inl ⟨hlt, hy⟩
    · obtain rfl : i = l.length := by omega
      rw [List.getElem?_append_right (Nat.le_refl _), Nat.sub_self] at hy
      injection hy with hy
      exact .inr ⟨rfl, hy.symm⟩
  refine ⟨fun i j y z hij h1 h2 => ?_, fun i y h1 => ?_, fun i y hi h1 => ?_⟩
  · rcases hcase j z h2 with ⟨k1, k2⟩ | ⟨k1, k2⟩
    · rcases hcase i y h1 with ⟨m1, m2⟩ | ⟨m1, m2⟩
      · exact h.rise i j y z hij m2 k2
      · omega
    · rcases hcase i y h1 with ⟨m1, m2⟩ | ⟨m1, m2⟩
      · have := (h.pos i y m2).2
        rw [k2, he]; omega
      · omega
  · rcases hcase i y h1 with ⟨m1, m2⟩ | ⟨m1, m2⟩
    · have := h.pos i y m2
      omega
    · rw [m2, he]; omega
  · rw [List.length_append, List.length_singleton] at hi
    rcases hcase i y h1 with ⟨m1, m2⟩ | ⟨m1, m2⟩
    · by_cases hd : i + 1 < l.length
      · exact h.deep i y hd m2
      · obtain rfl : i = l.length - 1 := by omega
        exact (shut_acked ht m2).1
    · omega
theorem Ord21.step {s : S21} {id : Idn} {x : Op21} (h : Ord21 s.made s.l) (h0 : 0 ≤ s.made) : Ord21 (s.step id x).made (s.step id x).l ∧ s.made ≤ (s.step id x).made := by
  unfold S21.step
  split
  · exact ⟨h.settle, Int.le_refl _⟩
  split
  · rcases try_ways (s := s) (id := id) (now := x.now) with h1 | ⟨e, ht, _, h1⟩ | ⟨f, ht, hm, hf, h1⟩
    · rw [h1]; exact ⟨h, Int.le_refl _⟩
    · rw [h1]
      obtain ⟨he, _⟩ := tip_some ht
      obtain ⟨o1, o2, _⟩ := e.try_same_ord x.now
      exact ⟨h.like (by rw [List.length_set]; exact Nat.le_refl _) (set_like he o1 fun h => by rw [o2]; exact h), Int.le_refl _⟩
    · rw [h1]
      exact ⟨h.snoc h0 ht rfl, by dsimp only; omega⟩
  split
  · rcases ack_ways (s := s) (id := id) (k := x.k id (s.nxt id)) with h1 | ⟨i, e, he, _, _, h1⟩ | ⟨i, e, he, _, _, hi, h1⟩
    · rw [h1]; exact ⟨h, Int.le_refl _⟩
    · rw [h1]
      exact ⟨h.like (by rw [List.length_set]; exact Nat.le_refl _) (set_like (e' := e.ack) he rfl fun _ => rfl), Int.le_refl _⟩
    · rw [h1]
      exact ⟨h.take, Int.le_refl _⟩
  · exact ⟨h, Int.le_refl _⟩
/-- the number of the k-th from below, none: 0 -/
def lastOrd (l : List Ent) : Nat → Int
  | 0 => 0
  | k + 1 => ((l[k]?).map (·.ord)).getD 0
theorem lastOrd_succ {l : List Ent} {k : Nat} {x : Ent} (h : l[k]? = some x) : lastOrd l (k + 1) = x.ord := by
  show ((l[k]?).map (·.ord)).getD 0 = _
  rw [h]; rfl
theorem lastOrd_lt {made : Int} {l : List Ent} (h : Ord21 made l) {k : Nat} {x : Ent} (hx : l[k]? = some x) : lastOrd l k < x.ord := by
  cases k with
  | zero => have := (h.pos 0 x hx).1; show (0 : Int) < _; omega
  | succ k =>
    have hk := (List.getElem?_eq_some_iff.1 hx).1
    have hy : l[k]? = some l[k] := List.getElem?_eq_getElem (by omega)
    rw [lastOrd_succ hy]
    exact h.rise k (k + 1) _ _ (by omega) hy hx
theorem lastOrd_le {made : Int} {l : List Ent} (h : Ord21 made l) (h0 : 0 ≤ made) : lastOrd l l.length ≤ made := by
  cases hl : l.length with
  | zero => exact h0
  | succ k =>
    have hy : l[k]? = some l[k] := List.getElem?_eq_getElem (by omega)
    rw [lastOrd_succ hy]
    exact (h.pos k _ hy).2
/-- what is next is a new one, or of the topmost one -/
theorem next_ord {id : Idn} {made : Int} {l : List Ent} {want : List Eff} {q : Req} (h : next id made l want = some q) : q.key.ord = lastOrd l l.length ∨ q.key.ord = made + 1 := by
  unfold next at h
  cases ht : tip l with
  | some e =>
    rw [ht] at h
    dsimp only at h
    split at h
    · injection h with h
      subst h
      obtain ⟨he, _⟩ := tip_some ht
      have hlt := (List.getElem?_eq_some_iff.1 he).1
      refine .inl ?_
      obtain ⟨k, hk⟩ : ∃ k, l.length = k + 1 := ⟨l.length - 1, by omega⟩
      rw [hk] at he ⊢
      rw [Nat.add_sub_cancel] at he
      rw [lastOrd_succ he]
    · cases h
  | none =>
    rw [ht] at h
    obtain ⟨_, f, _, rfl⟩ := fresh_some h
    exact .inr rfl
end Go.Proofs.Ytiabahpofcapbaa.Sep
