/- What holds of each chain of a script: its entries may be, numbers rise, it is settled. No function in sight. -/
import Derived.Test.YtkhmplaocfjpjaaLedV
namespace Go.Proofs.Ytkhmplaocfjpjaa.Sep
set_option maxRecDepth 100000
def gw (e : Ent) : Bool × Eff := (e.gone, e.what)
theorem lost_congr {w : List Eff} {l l' : List Ent} (h : l'.map gw = l.map gw) (j : Nat) : lost w l' j = lost w l j := by
  induction j with
  | zero => rfl
  | succ j ih =>
    have h1 : (l'.map gw)[j]? = (l.map gw)[j]? := by rw [h]
    rw [List.getElem?_map, List.getElem?_map] at h1
    simp only [lost, ih]
    cases ha : l'[j]? with
    | none =>
      cases hb : l[j]? with
      | none => rfl
      | some y => rw [ha, hb] at h1; cases h1
    | some x =>
      cases hb : l[j]? with
      | none => rw [ha, hb] at h1; cases h1
      | some y =>
        rw [ha, hb] at h1
        have h2 : gw x = gw y := Option.some.inj h1
        have h3 : x.gone = y.gone := congrArg Prod.fst h2
        have h4 : x.what = y.what := congrArg Prod.snd h2
        dsimp only
        rw [h3, h4]
theorem lost_front {w : List Eff} {l m : List Ent} {k : Nat} (h : ∀ j, j < k → m[j]? = l[j]?) (j : Nat) (hj : j ≤ k) : lost w m j = lost w l j := by
  induction j with
  | zero => rfl
  | succ j ih => simp only [lost, ih (by omega), h j (by omega)]
theorem settled_iff {w : List Eff} {l : List Ent} : settle w l = l ↔ ∀ (i : Nat) (e : Ent), l[i]? = some e → e.gone = lost w l (i + 1) := by
  constructor
  · intro h i e he
    have h1 := settle_at (want := w) he
    rw [h, he] at h1
    have h2 := Option.some.inj h1
    exact congrArg Ent.gone h2
  · intro h
    apply List.ext_getElem?
    intro i
    cases he : l[i]? with
    | none =>
      rw [List.getElem?_eq_none_iff] at he ⊢
      rw [settle_length]; exact he
    | some e =>
      rw [settle_at he, ← h i e he]
      rfl
theorem settle_two (want : List Eff) (l : List Ent) : settle want (settle want l) = settle want l := by
  rw [settled_iff]
  have hl : ∀ j, j ≤ l.length → lost want (settle want l) j = lost want l j := by
    intro j
    induction j with
    | zero => intro _; rfl
    | succ j ih =>
      intro hj
      have hx : l[j]? = some l[j] := List.getElem?_eq_getElem (by omega)
      rw [lost_succ (settle_at hx), lost_succ hx, ih (by omega)]
      show (lost want l j || ((lost want l j || (l[j].gone || decide (want[j]? ≠ some l[j].what))) || decide (want[j]? ≠ some l[j].what))) = _
      cases lost want l j <;> cases l[j].gone <;> cases decide (want[j]? ≠ some l[j].what) <;> rfl
  intro i e he
  have hi := (List.getElem?_eq_some_iff.1 he).1
  rw [settle_length] at hi
  have hx : l[i]? = some l[i] := List.getElem?_eq_getElem hi
  rw [settle_at hx] at he
  have he := Option.some.inj he
  subst he
  rw [hl (i + 1) hi]
  rfl
structure J21 (s : S21) : Prop where
  may : ∀ e ∈ s.l, e.may = true
  rise : (s.l.map Ent.ord).Pairwise (· < ·)
  pos : ∀ e ∈ s.l, e.ord ≤ s.made
  gone : settle s.w s.l = s.l
  good : ∀ f ∈ s.w, f.check = 0
theorem J21.zero : J21 s0 := ⟨fun _ he => (List.not_mem_nil he).elim, List.Pairwise.nil, fun _ he => (List.not_mem_nil he).elim, rfl, fun _ hf => (List.not_mem_nil hf).elim⟩
theorem mark_may {e : Ent} {g : Bool} (h : e.may = true) (hg : e.gone = true → g = true) : (e.mark g).may = true := by
  rw [Ent.may_iff] at h ⊢
  obtain ⟨h1, h2, h3, ⟨h4, h5⟩, h6, h7, h8⟩ := h
  refine ⟨h1, h2, h3, ⟨h4, ?_⟩, h6, h7, h8⟩
  rcases h5 with h5 | h5
  · left
    unfold Ent.und Ent.mark at *
    dsimp only
    cases ha : e.acked
    · rw [ha] at h5; simp at h5
    · rw [ha] at h5; rw [hg (by simpa using h5)]; rfl
  · exact .inr h5
theorem ack_may {e : Ent} (h : e.may = true) (ha : e.acked = false) : e.ack.may = true := by
  rw [Ent.may_iff] at h ⊢
  obtain ⟨h1, h2, h3, ⟨h4, h5⟩, h6, h7, h8⟩ := h
  refine ⟨h1, h2, h3, ⟨h4, ?_⟩, h6, h7, h8⟩
  rcases h5 with h5 | h5
  · unfold Ent.und at h5; rw [ha] at h5; simp at h5
  · exact .inr h5
theorem try_may {e : Ent} {now : Int} (h : e.may = true) (hnow : 0 ≤ now ∧ now ≤ 1073741824) : (e.try_ now).may = true := by
  unfold Ent.try_
  split
  · rename_i hc
    obtain ⟨_, h8⟩ := hc
    have hnt : e.nt = if e.und then e.back else e.sent := rfl
    rw [Ent.may_iff] at h
    obtain ⟨h1, h2, h3, ⟨h4, h5⟩, h6, h7, h9⟩ := h
    split
    · rename_i hu
      rw [if_pos hu] at hnt
      rw [Ent.may_iff]
      exact ⟨h1, h2, h3, ⟨by dsimp only; omega, .inl hu⟩, h6, hnow, .inl (by dsimp only; omega)⟩
    · rename_i hu
      rw [if_neg hu] at hnt
      rw [Ent.may_iff]
      refine ⟨h1, h2, by dsimp only; omega, ⟨h4, ?_⟩, hnow, h7, h9⟩
      rcases h5 with h5 | h5
      · exact absurd h5 hu
      · exact .inr h5
  · exact h
theorem try_gw (e : Ent) (now : Int) : (e.try_ now).ord = e.ord ∧ gw (e.try_ now) = gw e := by
  unfold Ent.try_
  split
  · split <;> exact ⟨rfl, rfl⟩
  · exact ⟨rfl, rfl⟩
theorem map_set_same {α : Type} {f : Ent → α} {l : List Ent} {k : Nat} {e e' : Ent} (he : l[k]? = some e) (h : f e' = f e) : (l.set k e').map f = l.map f := by
  rw [List.map_set, h]
  exact set_same (by rw [List.getElem?_map, he]; rfl)
theorem settle_ord (w : List Eff) (l : List Ent) : (settle w l).map Ent.ord = l.map Ent.ord := by
  apply List.ext_getElem?
  intro i
  rw [List.getElem?_map, List.getElem?_map]
  cases he : l[i]? with
  | none =>
    have : (settle w l)[i]? = none := by rw [List.getElem?_eq_none_iff] at he ⊢; rw [settle_length]; exact he
    rw [this]
  | some e => rw [settle_at he]; rfl
theorem J21.put {s : S21} {w : List Eff} (h : J21 s) (hw : ∀ f ∈ w, f.check = 0) : J21 (s.put w) := by
  have hat : ∀ e ∈ settle w s.l, ∃ (i : Nat) (x : Ent), s.l[i]? = some x ∧ e = x.mark (lost w s.l (i + 1)) := by
    intro e he
    obtain ⟨i, hi, rfl⟩ := List.getElem_of_mem he
    rw [settle_length] at hi
    have hx : s.l[i]? = some s.l[i] := List.getElem?_eq_getElem hi
    have hs := settle_at (want := w) hx
    rw [List.getElem?_eq_getElem (by rw [settle_length]; exact hi)] at hs
    exact ⟨i, _, hx, Option.some.inj hs⟩
  refine ⟨fun e he => ?_, by show ((settle w s.l).map Ent.ord).Pairwise (· < ·); rw [settle_ord]; exact h.rise, fun e he => ?_, settle_two w s.l, hw⟩
  · obtain ⟨i, x, hx, rfl⟩ := hat e he
    refine mark_may (h.may x (List.mem_of_getElem? hx)) fun hg => ?_
    rw [lost_succ hx, hg]; simp
  · obtain ⟨i, x, hx, rfl⟩ := hat e he
    exact h.pos x (List.mem_of_getElem? hx)
theorem J21.set {s : S21} (h : J21 s) {k : Nat} {e e' : Ent} (he : s.l[k]? = some e) (ho : e'.ord = e.ord) (hg : gw e' = gw e) (hm : e'.may = true) : J21 ⟨s.made, s.l.set k e', s.w⟩ := by
  refine ⟨fun x hx => ?_, ?_, fun x hx => ?_, ?_, h.good⟩
  · rcases List.mem_or_eq_of_mem_set hx with h1 | rfl
    · exact h.may x h1
    · exact hm
  · show ((s.l.set k e').map Ent.ord).Pairwise (· < ·)
    rw [map_set_same he ho]; exact h.rise
  · rcases List.mem_or_eq_of_mem_set hx with h1 | rfl
    · exact h.pos x h1
    · show x.ord ≤ s.made
      rw [ho]; exact h.pos e (List.mem_of_getElem? he)
  · show settle s.w (s.l.set k e') = s.l.set k e'
    rw [settled_iff]
    intro i x hx
    have hl := lost_congr (w := s.w) (map_set_same he hg) (i + 1)
    rw [hl]
    have hgs := settled_iff.1 h.gone
    rw [List.getElem?_set] at hx
    split at hx
    · rename_i hki
      subst hki
      split at hx
      · have hx := Option.some.inj hx
        subst hx
        rw [← hgs k e he]
        exact congrArg Prod.fst hg
      · cases hx
    · exact hgs i x hx
theorem J21.take {s : S21} (h : J21 s) (k : Nat) : J21 ⟨s.made, s.l.take k, s.w⟩ := by
  refine ⟨fun x hx => h.may x (List.mem_of_mem_take hx), ?_, fun x hx => h.pos x (List.mem_of_mem_take hx), ?_, h.good⟩
  · show ((s.l.take k).map Ent.ord).Pairwise (· < ·)
    exact h.rise.sublist ((List.take_sublist k s.l).map Ent.ord)
  · show settle s.w (s.l.take k) = s.l.take k
    rw [settled_iff]
    intro i x hx
    have hi := (List.getElem?_eq_some_iff.1 hx).1
    rw [List.length_take] at hi
    rw [lost_front (l := s.l) (k := k) (fun j hj => by rw [List.getElem?_take, if_pos hj]) (i + 1) (by omega)]
    rw [List.getElem?_take, if_pos (by omega)] at hx
    exact settled_iff.1 h.gone i x hx
theorem J21.push {s : S21} (h : J21 s) (hs : s.ok) {id : Idn} {f : Eff} {now : Int} (ht : tip s.l = none) (hm : s.made < 255) (hf : s.w[s.l.length]? = some f) (hnow : 0 ≤ now ∧ now ≤ 1073741824) :
    J21 ⟨s.made + 1, s.l ++ [newEnt ⟨⟨id, s.made + 1, false⟩, f⟩ now], s.w⟩ := by
  have h0 := hs.made0
  have hgs := settled_iff.1 h.gone
  have hz : lost s.w s.l s.l.length = false := by
    cases hl : s.l.length with
    | zero => rfl
    | succ k =>
      have hx : s.l[k]? = some s.l[k] := List.getElem?_eq_getElem (by omega)
      rw [← hgs k _ hx]
      unfold tip at ht
      rw [hl, show k + 1 - 1 = k from rfl, hx] at ht
      dsimp only at ht
      split at ht
      · cases ht
      · rename_i ho
        unfold Ent.opn at ho
        cases hg : s.l[k].gone
        · rfl
        · rw [hg] at ho; simp at ho
  refine ⟨fun x hx => ?_, ?_, fun x hx => ?_, ?_, h.good⟩
  · rcases List.mem_append.1 hx with h1 | h1
    · exact h.may x h1
    · rw [List.mem_singleton] at h1
      subst h1
      rw [Ent.may_iff]
      exact ⟨by dsimp only; omega, h.good f (List.mem_of_getElem? hf), by dsimp only; omega, ⟨by dsimp only; omega, .inr rfl⟩, hnow, by dsimp only; omega, .inr rfl⟩
  · show ((s.l ++ [newEnt ⟨⟨id, s.made + 1, false⟩, f⟩ now]).map Ent.ord).Pairwise (· < ·)
    rw [List.map_append, List.pairwise_append]
    refine ⟨h.rise, List.pairwise_singleton _ _, fun a ha b hb => ?_⟩
    obtain ⟨x, hx, rfl⟩ := List.mem_map.1 ha
    have hb : b = s.made + 1 := by simpa using hb
    have := h.pos x hx
    omega
  · show x.ord ≤ s.made + 1
    rcases List.mem_append.1 hx with h1 | h1
    · have := h.pos x h1; omega
    · rw [List.mem_singleton] at h1
      subst h1
      exact Int.le_refl _
  · show settle s.w (s.l ++ [newEnt ⟨⟨id, s.made + 1, false⟩, f⟩ now]) = s.l ++ [newEnt ⟨⟨id, s.made + 1, false⟩, f⟩ now]
    rw [settled_iff]
    have hfr : ∀ j, j ≤ s.l.length → lost s.w (s.l ++ [newEnt ⟨⟨id, s.made + 1, false⟩, f⟩ now]) j = lost s.w s.l j :=
      fun j hj => lost_front (k := s.l.length) (fun i hi => List.getElem?_append_left hi) j hj
    intro i x hx
    by_cases hi : i < s.l.length
    · rw [hfr (i + 1) (by omega)]
      rw [List.getElem?_append_left hi] at hx
      exact hgs i x hx
    · have hlt := (List.getElem?_eq_some_iff.1 hx).1
      rw [List.length_append, List.length_singleton] at hlt
      obtain rfl : i = s.l.length := by omega
      have hx2 := hx
      rw [List.getElem?_append_right (Nat.le_refl _), Nat.sub_self] at hx2
      have hx2 := Option.some.inj hx2
      rw [lost_succ hx, hfr _ (Nat.le_refl _), hz, ← hx2]
      show false = (false || (false || decide (s.w[s.l.length]? ≠ some f)))
      rw [hf]; simp
theorem J21.try_ {s : S21} (h : J21 s) (hs : s.ok) {id : Idn} {now : Int} (hnow : 0 ≤ now ∧ now ≤ 1073741824) : J21 (s.try_ id now) := by
  rcases try_ways (s := s) (id := id) (now := now) with h1 | ⟨e, ht, _, h1⟩ | ⟨f, ht, hm, hf, h1⟩
  · rw [h1]; exact h
  · rw [h1]
    obtain ⟨he, _⟩ := tip_some ht
    exact h.set he (try_gw e now).1 (try_gw e now).2 (try_may (h.may e (List.mem_of_getElem? he)) hnow)
  · rw [h1]
    exact h.push hs ht hm hf hnow
theorem J21.ack {s : S21} (h : J21 s) {id : Idn} {k : Keyv} : J21 (s.ack id k) := by
  rcases ack_ways (s := s) (id := id) (k := k) with h1 | ⟨i, e, he, _, ha, h1⟩ | ⟨i, e, he, _, _, hi, h1⟩
  · rw [h1]; exact h
  · rw [h1]
    exact h.set he rfl rfl (ack_may (h.may e (List.mem_of_getElem? he)) ha)
  · rw [h1]
    exact h.take i
/-! ### all chains -/
def JO (s : S21) : Prop := s.ok ∧ J21 s
def JL (ps : List S21) : Prop := ∀ s ∈ ps, JO s
theorem JO.zero : JO s0 := ⟨S21.ok_zero, J21.zero⟩
theorem JL.getD {ps : List S21} (h : JL ps) (i : Nat) : JO (ps.getD i s0) := by
  rw [List.getD_eq_getElem?_getD]
  cases hx : ps[i]? with
  | none => exact JO.zero
  | some s => exact h s (List.mem_of_getElem? hx)
theorem JL.set {ps : List S21} (h : JL ps) {i : Nat} {s : S21} (hs : JO s) : JL (ps.set i s) := by
  intro x hx
  rcases List.mem_or_eq_of_mem_set hx with h1 | rfl
  · exact h x h1
  · exact hs
/-- a call that may be -/
structure Good22 (x : Op22) : Prop where
  ok : ∀ f ∈ x.want.l, f.ok
  good : ∀ f ∈ x.want.l, f.check = 0
  wide : x.want.l.length ≤ 8
  now : 0 ≤ x.now ∧ x.now ≤ 1073741824
theorem JL.step {r : Int} {ps : List S21} (h : JL ps) {x : Op22} (hx : Good22 x) : JL (step22 r ps x) := by
  have hI : I64 x.now := by have := hx.now; unfold I64; omega
  unfold step22
  split
  · unfold puts22
    split
    · dsimp only
      unfold put22
      split
      · have hg := h.getD (x.seq - 1).toNat
        exact h.set ⟨S21.put_ok hg.1 hx.ok hx.wide, hg.2.put hx.good⟩
      · intro s hs
        rcases List.mem_append.1 hs with h1 | h1
        · exact h s h1
        · rw [List.mem_singleton] at h1
          subst h1
          exact ⟨S21.put_ok S21.ok_zero hx.ok hx.wide, J21.zero.put hx.good⟩
    · exact h
  · split
    · unfold try22
      split
      · dsimp only
        have hg := h.getD ((key22 r ps x).id.seq - 1).toNat
        refine h.set ?_
        split
        · exact ⟨S21.try_ok hg.1 hI, hg.2.try_ hg.1 hx.now⟩
        · exact hg
      · exact h
    · split
      · unfold ack22
        split
        · dsimp only
          have hg := h.getD ((key22 r ps x).id.seq - 1).toNat
          exact h.set ⟨S21.ack_ok hg.1, hg.2.ack⟩
        · exact h
      · exact h
theorem JL.runs {r : Int} {l : List Op22} (hl : ∀ x ∈ l, Good22 x) {ps : List S21} (h : JL ps) : JL (runs22 r ps l) := by
  induction l generalizing ps with
  | nil => exact h
  | cons x l ih => exact ih (fun y hy => hl y (List.mem_cons_of_mem _ hy)) (h.step (hl x List.mem_cons_self))
/-! ### what is loaded -/
theorem rise_of {l : List Ent} {q : Int} (h1 : ∀ e ∈ l, e.may = true) (h2 : ∀ e ∈ l, q < e.ord) (h3 : (l.map Ent.ord).Pairwise (· < ·)) : rise q l = true := by
  induction l generalizing q with
  | nil => rfl
  | cons x l ih =>
    rw [List.map_cons, List.pairwise_cons] at h3
    show (x.may && (decide (q < x.ord) && rise x.ord l)) = true
    rw [h1 x List.mem_cons_self, decide_eq_true (h2 x List.mem_cons_self), ih (fun e he => h1 e (List.mem_cons_of_mem _ he)) (fun e he => h3.1 _ (List.mem_map_of_mem he)) h3.2]
    rfl
theorem lastO_le {l : List Ent} {q m : Int} (h : ∀ e ∈ l, e.ord ≤ m) (hq : q ≤ m) : lastO q l ≤ m := by
  induction l generalizing q with
  | nil => exact hq
  | cons x l ih => exact ih (fun e he => h e (List.mem_cons_of_mem _ he)) (h x List.mem_cons_self)
theorem rise_len {l : List Ent} {q : Int} (h : rise q l = true) : q + l.length ≤ lastO q l := by
  induction l generalizing q with
  | nil => show q + ((0 : Nat) : Int) ≤ q; omega
  | cons x l ih =>
    change (x.may && (decide (q < x.ord) && rise x.ord l)) = true at h
    rw [Bool.and_eq_true, Bool.and_eq_true, decide_eq_true_eq] at h
    have := ih h.2.2
    show q + ((l.length + 1 : Nat) : Int) ≤ lastO x.ord l
    omega
theorem JO.whole {s : S21} (h : JO s) : wholeP s.made s.l = true := by
  obtain ⟨h1, h2⟩ := h
  unfold wholeP
  rw [rise_of h2.may (fun e he => by have := ((Ent.may_iff e).1 (h2.may e he)).1; omega) h2.rise, decide_eq_true ⟨lastO_le h2.pos h1.made0, h1.made1⟩]
  rfl
end Go.Proofs.Ytkhmplaocfjpjaa.Sep
