/- Parts of memory, and what holds of each; a state is a list of parts. No program in sight. -/
import Derived.Test.YtihblcljkndpgaaReg
namespace Go.Proofs.Ytihblcljkndpgaa.Sep
open Go.RowKit Go.Proofs.Ytihblcljkndpgaa.Mem Go.Proofs.Ytihblcljkndpgaa.Reg

theorem add_none (B o q : Nat) : (⟨B, o, none⟩ : Addr).add q = ⟨B, o + q, none⟩ := by
  unfold Addr.add
  split
  · subst_vars; rfl
  · rfl
/-- a fact that no search sees -/
structure Box (q : Prop) : Prop where
  out : q
/-! ### types of values -/
def aggD : TypeDesc → Bool
  | .struct _ => true
  | .array _ _ => true
  | _ => false
/-- how an a is laid in cells; its type's number in the program -/
structure Ty (α : Type) where
  val : α → Value
  size : Nat
  bytes : Nat
  tid : TypeId
  zero : Value
  hlen : ∀ a, (val a).cells.size = size
  hone : ∀ a, ∀ u ∈ (val a).cells.toList, u.oneCell' = true
  hpos : 0 < size
  hzero : zero.cells.size = size
  hinfo : (Try.prog.info? tid).map (fun i => (i.zero, i.size, i.bytes)) = some (some zero, size, bytes)
  hagg : (Try.prog.underlying tid).map aggD = some true ∧ (∀ a, ∃ cs, val a = .agg cs) ∨
    (Try.prog.underlying tid).map aggD = some false ∧ ∀ a, (val a).oneCell' = true
section
variable {α : Type} {T : Ty α}
def Ty.enc (T : Ty α) (a : α) : List Value := (T.val a).cells.toList
def Ty.encs (T : Ty α) (l : List α) : List Value := l.flatMap T.enc
theorem Ty.enc_length (a : α) : (T.enc a).length = T.size := by simp [Ty.enc, T.hlen]
theorem Ty.encs_append (a b : List α) : T.encs (a ++ b) = T.encs a ++ T.encs b := List.flatMap_append
theorem Ty.encs_cons (a : α) (b : List α) : T.encs (a :: b) = T.enc a ++ T.encs b := List.flatMap_cons
theorem Ty.encs_nil : T.encs [] = [] := rfl
theorem Ty.encs_one (a : α) : T.encs [a] = T.enc a := by simp [Ty.encs]
theorem Ty.encs_length (l : List α) : (T.encs l).length = l.length * T.size := by
  induction l with
  | nil => simp [Ty.encs]
  | cons a l ih => rw [T.encs_cons, List.length_append, T.enc_length, ih, List.length_cons, Nat.add_mul, Nat.one_mul, Nat.add_comm]
theorem Ty.encs_hone (l : List α) : ∀ u ∈ T.encs l, u.oneCell' = true := by
  intro u hu
  obtain ⟨a, _, h⟩ := List.mem_flatMap.1 hu
  exact T.hone a u h
theorem Ty.encs_drop (l : List α) (k : Nat) : (T.encs l).drop (k * T.size) = T.encs (l.drop k) := by
  induction k generalizing l with
  | zero => simp
  | succ k ih =>
    cases l with
    | nil => simp [Ty.encs]
    | cons a l =>
      rw [T.encs_cons, List.drop_succ_cons, ← ih, Nat.add_mul, Nat.one_mul, Nat.add_comm, ← List.drop_drop, List.drop_left' (T.enc_length a)]
theorem Ty.encs_take (l : List α) (k : Nat) : (T.encs l).take (k * T.size) = T.encs (l.take k) := by
  induction k generalizing l with
  | zero => simp [Ty.encs]
  | succ k ih =>
    cases l with
    | nil => simp [Ty.encs]
    | cons a l =>
      rw [T.encs_cons, List.take_succ_cons, T.encs_cons, ← ih, Nat.add_mul, Nat.one_mul, Nat.add_comm, List.take_append, T.enc_length, List.take_of_length_le (by rw [T.enc_length]; omega)]
      congr 2; omega
theorem Ty.encs_at {l : List α} {k : Nat} {x : α} (h : l[k]? = some x) {j : Nat} {u : Value} (hu : (T.enc x)[j]? = some u) : (T.encs l)[k * T.size + j]? = some u := by
  obtain ⟨hk, rfl⟩ := List.getElem?_eq_some_iff.1 h
  have hj : j < T.size := by
    have := (List.getElem?_eq_some_iff.1 hu).1
    rw [T.enc_length] at this; exact this
  have h1 : ((T.encs l).drop (k * T.size))[j]? = some u := by
    rw [T.encs_drop, List.drop_eq_getElem_cons hk, T.encs_cons, List.getElem?_append_left (by rw [T.enc_length]; exact hj)]
    exact hu
  rwa [List.getElem?_drop] at h1
theorem Ty.encs_set {l : List α} {k : Nat} (hk : k < l.length) (x : α) : T.encs (l.set k x) = (T.encs l).take (k * T.size) ++ T.enc x ++ (T.encs l).drop ((k + 1) * T.size) := by
  rw [T.encs_take, T.encs_drop, List.set_eq_take_append_cons_drop, if_pos hk, T.encs_append, T.encs_cons, List.append_assoc]
end

/-! ### parts of memory -/
structure Asn where
  holds : (Nat → Prop) → World → Prop
  loc : ∀ {F w w'}, holds F w → (∀ b, F b → w'.heap[b]? = w.heap[b]?) → holds F w'
  lt : ∀ {F w b}, holds F w → F b → b < w.heap.size
def stars : List Asn → (Nat → Prop) → World → Prop
  | [], F, _ => ∀ b, ¬ F b
  | a :: l, F, w => ∃ F1 F2, (∀ b, F b ↔ F1 b ∨ F2 b) ∧ (∀ b, F1 b → ¬ F2 b) ∧ a.holds F1 w ∧ stars l F2 w
theorem stars_loc : ∀ {l : List Asn} {F w w'}, stars l F w → (∀ b, F b → w'.heap[b]? = w.heap[b]?) → stars l F w'
  | [], _, _, _, h, _ => h
  | a :: l, F, w, w', ⟨F1, F2, h1, h2, h3, h4⟩, hk => ⟨F1, F2, h1, h2, a.loc h3 fun b hb => hk b ((h1 b).2 (.inl hb)), stars_loc h4 fun b hb => hk b ((h1 b).2 (.inr hb))⟩
theorem stars_lt : ∀ {l : List Asn} {F w b}, stars l F w → F b → b < w.heap.size
  | [], _, _, b, h, hb => absurd hb (h b)
  | a :: l, F, w, b, ⟨F1, F2, h1, _, h3, h4⟩, hb => by
    rcases (h1 b).1 hb with h | h
    · exact a.lt h3 h
    · exact stars_lt h4 h
theorem stars_congr {l : List Asn} {F G w} (h : stars l F w) (hFG : ∀ b, G b ↔ F b) : stars l G w := by
  have : G = F := funext fun b => propext (hFG b)
  rw [this]; exact h
theorem stars_append {l m : List Asn} {F w} : stars (l ++ m) F w ↔ ∃ F1 F2, (∀ b, F b ↔ F1 b ∨ F2 b) ∧ (∀ b, F1 b → ¬ F2 b) ∧ stars l F1 w ∧ stars m F2 w := by
  induction l generalizing F with
  | nil =>
    constructor
    · intro h; exact ⟨fun _ => False, F, fun b => by simp, fun b hb => hb.elim, fun b hb => hb, h⟩
    · rintro ⟨F1, F2, h1, _, h3, h4⟩; exact stars_congr h4 fun b => by rw [h1 b]; simp [h3 b]
  | cons a l ih =>
    constructor
    · rintro ⟨F1, F2, h1, h2, h3, h4⟩
      obtain ⟨G1, G2, g1, g2, g3, g4⟩ := ih.1 h4
      refine ⟨fun b => F1 b ∨ G1 b, G2, fun b => by rw [h1 b, g1 b, or_assoc], ?_, ⟨F1, G1, fun b => Iff.rfl, fun b hb hg => h2 b hb ((g1 b).2 (.inl hg)), h3, g3⟩, g4⟩
      rintro b (hb | hb) hg
      · exact h2 b hb ((g1 b).2 (.inr hg))
      · exact g2 b hb hg
    · rintro ⟨F1, F2, h1, h2, ⟨G1, G2, g1, g2, g3, g4⟩, h4⟩
      refine ⟨G1, fun b => G2 b ∨ F2 b, fun b => by rw [h1 b, g1 b, or_assoc], ?_, g3, ih.2 ⟨G2, F2, fun b => Iff.rfl, fun b hb => h2 b ((g1 b).2 (.inr hb)), g4, h4⟩⟩
      rintro b hb (hg | hg)
      · exact g2 b hb hg
      · exact h2 b ((g1 b).2 (.inl hb)) hg

/-- a stands in H; R is the rest -/
inductive Has : Asn → List Asn → List Asn → Prop
  | here {a R} : Has a (a :: R) R
  | there {a x H R} (h : Has a H R) : Has a (x :: H) (x :: R)
inductive Picks : List Asn → List Asn → List Asn → Prop
  | nil {H} : Picks [] H H
  | cons {a l H R R'} (h : Has a H R) (t : Picks l R R') : Picks (a :: l) H R'
/-- a stands in H; H' is H with l in its place -/
inductive Repl (a : Asn) (l : List Asn) : List Asn → List Asn → Prop
  | here {R} : Repl a l (a :: R) (l ++ R)
  | there {x H H'} (h : Repl a l H H') : Repl a l (x :: H) (x :: H')
theorem Has.stars {a : Asn} {H R : List Asn} (h : Has a H R) : ∀ {F w}, stars H F w → stars (a :: R) F w := by
  induction h with
  | here => exact fun h => h
  | there h ih =>
    rintro F w ⟨F1, F2, h1, h2, h3, h4⟩
    obtain ⟨G1, G2, g1, g2, g3, g4⟩ := ih h4
    refine ⟨G1, fun b => F1 b ∨ G2 b, fun b => by rw [h1 b, g1 b]; constructor <;> (rintro (h | h | h) <;> simp [h]), ?_, g3, F1, G2, fun b => Iff.rfl, fun b hb hg => h2 b hb ((g1 b).2 (.inr hg)), h3, g4⟩
    rintro b hb (hg | hg)
    · exact h2 b hg ((g1 b).2 (.inl hb))
    · exact g2 b hb hg
theorem Picks.stars {l H R : List Asn} (h : Picks l H R) : ∀ {F w}, stars H F w → stars (l ++ R) F w := by
  induction h with
  | nil => exact fun h => h
  | cons h t ih =>
    intro F w hs
    obtain ⟨F1, F2, h1, h2, h3, h4⟩ := h.stars hs
    exact ⟨F1, F2, h1, h2, h3, ih h4⟩

/-- a world turned just in the footprint of one part -/
theorem Repl.stars {a : Asn} {l H H' : List Asn} (h : Repl a l H H') : ∀ {F : Nat → Prop} {w w' : World} {G : Nat → Prop}, Sep.stars H F w → w.heap.size ≤ w'.heap.size → (∀ b, b < w.heap.size → ¬ G b → w'.heap[b]? = w.heap[b]?) →
    (∀ F1, (∀ b, F1 b → F b) → a.holds F1 w → ∃ F1', Sep.stars l F1' w' ∧ (∀ b, F1' b → F1 b ∨ w.heap.size ≤ b) ∧ ∀ b, b < w.heap.size → G b → F1 b) →
    ∃ F', Sep.stars H' F' w' ∧ (∀ b, F' b → F b ∨ w.heap.size ≤ b) ∧ ∀ b, b < w.heap.size → G b → F b := by
  induction h with
  | here =>
    rintro F w w' G ⟨F1, F2, h1, h2, h3, h4⟩ hz hk ha
    obtain ⟨F1', k1, k2, k3⟩ := ha F1 (fun b hb => (h1 b).2 (.inl hb)) h3
    have hd : ∀ b, F2 b → b < w.heap.size := fun b hb => stars_lt h4 hb
    refine ⟨fun b => F1' b ∨ F2 b, stars_append.2 ⟨F1', F2, fun b => Iff.rfl, ?_, k1, stars_loc h4 fun b hb => hk b (hd b hb) fun hg => h2 b (k3 b (hd b hb) hg) hb⟩, ?_, fun b hb hg => (h1 b).2 (.inl (k3 b hb hg))⟩
    · intro b hb hb2
      rcases k2 b hb with h | h
      · exact h2 b h hb2
      · have := hd b hb2; omega
    · rintro b (hb | hb)
      · rcases k2 b hb with h | h
        · exact .inl ((h1 b).2 (.inl h))
        · exact .inr h
      · exact .inl ((h1 b).2 (.inr hb))
  | there h ih =>
    rintro F w w' G ⟨F1, F2, h1, h2, h3, h4⟩ hz hk ha
    obtain ⟨F2', k1, k2, k3⟩ := ih h4 hz hk fun F3 h5 h6 => ha F3 (fun b hb => (h1 b).2 (.inr (h5 b hb))) h6
    have hd : ∀ b, F1 b → b < w.heap.size := fun b hb => Asn.lt _ h3 hb
    refine ⟨fun b => F1 b ∨ F2' b, ⟨F1, F2', fun b => Iff.rfl, ?_, Asn.loc _ h3 fun b hb => hk b (hd b hb) fun hg => h2 b hb (k3 b (hd b hb) hg), k1⟩, ?_, fun b hb hg => (h1 b).2 (.inr (k3 b hb hg))⟩
    · intro b hb hb2
      rcases k2 b hb2 with h | h
      · exact h2 b hb h
      · have := hd b hb; omega
    · rintro b (hb | hb)
      · exact .inl ((h1 b).2 (.inl hb))
      · rcases k2 b hb with h | h
        · exact .inl ((h1 b).2 (.inr h))
        · exact .inr h

/-- the world that is only read, and the blocks that may be -/
structure Env where
  w : World
  D : Nat → Prop
structure St (E : Env) (H : List Asn) (w : World) : Prop where
  os : w.os = E.w.os
  tape : w.tape = E.w.tape
  output : w.output = E.w.output
  size : E.w.heap.size ≤ w.heap.size
  dom : ∀ b, E.D b → b < E.w.heap.size
  keep : ∀ b, E.D b → w.heap[b]? = E.w.heap[b]?
  fp : ∃ F, stars H F w ∧ ∀ b, E.D b → ¬ F b
section
variable {E : Env} {H H' R : List Asn} {w w' : World} {a : Asn}
theorem St.drew (h : St E H w) : St E H w.drew := ⟨h.os, h.tape, h.output, h.size, h.dom, h.keep, by obtain ⟨F, h1, h2⟩ := h.fp; exact ⟨F, stars_loc h1 fun _ _ => rfl, h2⟩⟩
theorem St.conv (h : St E H w) (hc : ∀ F, stars H F w → ∃ F', stars H' F' w ∧ ∀ b, F' b → F b) : St E H' w :=
  ⟨h.os, h.tape, h.output, h.size, h.dom, h.keep, by
    obtain ⟨F, h1, h2⟩ := h.fp
    obtain ⟨F', h3, h4⟩ := hc F h1
    exact ⟨F', h3, fun b hb hf => h2 b hb (h4 b hf)⟩⟩
theorem St.picks (h : St E H w) {l : List Asn} (hp : Picks l H R) : St E (l ++ R) w := h.conv fun F hs => ⟨F, hp.stars hs, fun _ h => h⟩
theorem St.left {l : List Asn} (h : St E (l ++ R) w) : St E l w := h.conv fun F hs => by
  obtain ⟨F1, F2, h1, _, h3, _⟩ := stars_append.1 hs
  exact ⟨F1, h3, fun b hb => (h1 b).2 (.inl hb)⟩
theorem St.right {l : List Asn} (h : St E (l ++ R) w) : St E R w := h.conv fun F hs => by
  obtain ⟨F1, F2, h1, _, _, h3⟩ := stars_append.1 hs
  exact ⟨F2, h3, fun b hb => (h1 b).2 (.inr hb)⟩
theorem St.weaken (h : St E H w) {l : List Asn} (hp : Picks l H R) : St E l w := (h.picks hp).left
/-- the world is turned in one part -/
theorem St.repl (h : St E H w) {l : List Asn} (hr : Repl a l H H') (hos : w'.os = w.os) (htape : w'.tape = w.tape) (hout : w'.output = w.output) (hz : w.heap.size ≤ w'.heap.size) {G : Nat → Prop}
    (hk : ∀ b, b < w.heap.size → ¬ G b → w'.heap[b]? = w.heap[b]?)
    (ha : ∀ F1, a.holds F1 w → ∃ F1', stars l F1' w' ∧ (∀ b, F1' b → F1 b ∨ w.heap.size ≤ b) ∧ ∀ b, b < w.heap.size → G b → F1 b) : St E H' w' := by
  obtain ⟨F, h1, h2⟩ := h.fp
  obtain ⟨F', k1, k2, k3⟩ := hr.stars h1 hz hk fun F1 _ h3 => ha F1 h3
  have hlt : ∀ b, E.D b → b < w.heap.size := fun b hb => Nat.lt_of_lt_of_le (h.dom b hb) h.size
  refine ⟨hos.trans h.os, htape.trans h.tape, hout.trans h.output, Nat.le_trans h.size hz, h.dom, fun b hb => (hk b (hlt b hb) fun hg => h2 b hb (k3 b (hlt b hb) hg)).trans (h.keep b hb), F', k1, fun b hb hf => ?_⟩
  rcases k2 b hf with h | h
  · exact h2 b hb h
  · have := hlt b hb; omega
/-- the world is grown -/
theorem St.grow (h : St E H w) {l : List Asn} (hos : w'.os = w.os) (htape : w'.tape = w.tape) (hout : w'.output = w.output) (hz : w.heap.size ≤ w'.heap.size)
    (hk : ∀ b, b < w.heap.size → w'.heap[b]? = w.heap[b]?) {F1 : Nat → Prop} (hl : stars l F1 w') (hF : ∀ b, F1 b → w.heap.size ≤ b) : St E (l ++ H) w' := by
  obtain ⟨F, h1, h2⟩ := h.fp
  have hlt : ∀ b, E.D b → b < w.heap.size := fun b hb => Nat.lt_of_lt_of_le (h.dom b hb) h.size
  have hd : ∀ b, F b → b < w.heap.size := fun b hb => stars_lt h1 hb
  refine ⟨hos.trans h.os, htape.trans h.tape, hout.trans h.output, Nat.le_trans h.size hz, h.dom, fun b hb => (hk b (hlt b hb)).trans (h.keep b hb), fun b => F1 b ∨ F b,
    stars_append.2 ⟨F1, F, fun b => Iff.rfl, fun b hb hf => by have := hd b hf; have := hF b hb; omega, hl, stars_loc h1 fun b hb => hk b (hd b hb)⟩, ?_⟩
  rintro b hb (hf | hf)
  · have := hF b hf; have := hlt b hb; omega
  · exact h2 b hb hf
theorem St.has (h : St E H w) (ha : Has a H R) : ∃ F, a.holds F w ∧ ∀ b, E.D b → ¬ F b := by
  obtain ⟨F, h1, h2⟩ := h.fp
  obtain ⟨F1, F2, h3, _, h5, _⟩ := ha.stars h1
  exact ⟨F1, h5, fun b hb hf => h2 b hb ((h3 b).2 (.inl hf))⟩
end

/-- what may be read in E, and the parts R, may be read in E' -/
structure Sub (E : Env) (R : List Asn) (E' : Env) : Prop where
  dom : ∀ b, E'.D b → b < E'.w.heap.size
  rd : ∀ b, E.D b → E'.D b ∧ E'.w.heap[b]? = E.w.heap[b]?
  fr : ∃ F, stars R F E'.w ∧ ∀ b, F b → E'.D b
theorem St.enter {E : Env} {Hp R : List Asn} {w : World} (h : St E (Hp ++ R) w) : ∃ E', E'.w = w ∧ Sub E R E' ∧ St E' Hp w ∧ ∀ H' w', St E' H' w' → St E (H' ++ R) w' := by
  obtain ⟨F, h1, h2⟩ := h.fp
  obtain ⟨F1, F2, h3, h4, h5, h6⟩ := stars_append.1 h1
  have hlt : ∀ b, E.D b → b < w.heap.size := fun b hb => Nat.lt_of_lt_of_le (h.dom b hb) h.size
  have hd : ∀ b, F2 b → b < w.heap.size := fun b hb => stars_lt h6 hb
  refine ⟨⟨w, fun b => E.D b ∨ F2 b⟩, rfl, ⟨?_, fun b hb => ⟨.inl hb, h.keep b hb⟩, F2, h6, fun b hb => .inr hb⟩, ⟨rfl, rfl, rfl, Nat.le_refl _, ?_, fun _ _ => rfl, F1, h5, ?_⟩, ?_⟩
  · rintro b (hb | hb); exact hlt b hb; exact hd b hb
  · rintro b (hb | hb); exact hlt b hb; exact hd b hb
  · rintro b (hb | hb) hf
    · exact h2 b hb ((h3 b).2 (.inl hf))
    · exact h4 b hf hb
  · intro H' w' k
    obtain ⟨G, k1, k2⟩ := k.fp
    refine ⟨k.os.trans h.os, k.tape.trans h.tape, k.output.trans h.output, Nat.le_trans h.size k.size, h.dom, fun b hb => (k.keep b (.inl hb)).trans (h.keep b hb), fun b => G b ∨ F2 b,
      stars_append.2 ⟨G, F2, fun b => Iff.rfl, fun b hb hf => k2 b (.inr hf) hb, k1, stars_loc h6 fun b hb => k.keep b (.inr hb)⟩, ?_⟩
    rintro b hb (hf | hf)
    · exact k2 b (.inl hb) hf
    · exact h2 b hb ((h3 b).2 (.inr hf))

/-- a call: parts H ahead of it, what it comes to -/
def Tri (P : Program) (E : Env) (f : FuncId) (args : Array Value) (H : List Asn) (Q : Ending → List Asn → Prop) : Prop :=
  ∀ w, St E H w → Calls P f args w fun e w' => ∃ H', St E H' w' ∧ Q e H'
theorem Tri.mono {P : Program} {E : Env} {f : FuncId} {args : Array Value} {H : List Asn} {Q Q' : Ending → List Asn → Prop} (h : Tri P E f args H Q) (hq : ∀ e H', Q e H' → Q' e H') : Tri P E f args H Q' :=
  fun w hw => (h w hw).mono fun _ _ ⟨H', h1, h2⟩ => ⟨H', h1, hq _ _ h2⟩

/-! ### kinds of parts -/
def pureA (p : Prop) : Asn := ⟨fun F _ => p ∧ ∀ b, ¬ F b, fun h _ => h, fun h hb => absurd hb (h.2 _)⟩
/-- block g is just the cells cs -/
def blk (g : Nat) (t : TypeId) (cs : List Value) : Asn where
  holds F w := (∀ b, F b ↔ b = g) ∧ w.heap[g]? = some (.cells cs.toArray t (0, 0))
  loc h hk := ⟨h.1, (hk _ ((h.1 _).2 rfl)).trans h.2⟩
  lt h hb := by rw [(h.1 _).1 hb]; exact (Array.getElem?_eq_some_iff.1 h.2).1
/-- block g is a map -/
def mapB (g : Nat) (es : Array MapEntry) (clock : Nat) : Asn where
  holds F w := (∀ b, F b ↔ b = g) ∧ w.heap[g]? = some (.map es clock)
  loc h hk := ⟨h.1, (hk _ ((h.1 _).2 rfl)).trans h.2⟩
  lt h hb := by rw [(h.1 _).1 hb]; exact (Array.getElem?_eq_some_iff.1 h.2).1
section
variable {α : Type}
/-- a slice that starts its own row (or is nil) -/
def own (T : Ty α) (A : Option Addr) (n c : Nat) (l : List α) : Asn where
  holds F w := n = l.length ∧ ((n = 0 ∧ c = 0 ∧ ∀ b, ¬ F b) ∨
    ∃ g cur, A = some ⟨g, 0, none⟩ ∧ (∀ b, F b ↔ b = g) ∧ w.heap[g]? = some (.cells cur T.tid (0, 0)) ∧ n ≤ c ∧ c ≤ maxLen ∧ cur.size = c * T.size ∧ cur.toList.take (n * T.size) = T.encs l)
  loc := by
    rintro F w w' ⟨h0, h | ⟨g, cur, h1, h2, h3, h4⟩⟩ hk
    · exact ⟨h0, .inl h⟩
    · exact ⟨h0, .inr ⟨g, cur, h1, h2, (hk _ ((h2 _).2 rfl)).trans h3, h4⟩⟩
  lt := by
    rintro F w b ⟨h0, ⟨_, _, h⟩ | ⟨g, cur, h1, h2, h3, h4⟩⟩ hb
    · exact absurd hb (h b)
    · rw [(h2 _).1 hb]; exact (Array.getElem?_eq_some_iff.1 h3).1
/-- a slice in a row that is held, only read -/
def sl (T : Ty α) (A : Option Addr) (n c : Nat) (l : List α) : Asn where
  holds F w := n = l.length ∧ n ≤ c ∧ c ≤ maxLen ∧ (n = 0 ∨ ∃ ad, A = some ad ∧ F ad.block ∧ ∀ j u, (T.encs l)[j]? = some u → w.cell? (ad.add j) = some u) ∧ ∀ b, F b → b < w.heap.size
  loc := by
    rintro F w w' ⟨h0, h1, h2, h3, h4⟩ hk
    refine ⟨h0, h1, h2, ?_, ?_⟩
    · rcases h3 with h3 | ⟨ad, e, hF, hc⟩
      · exact .inl h3
      · refine .inr ⟨ad, e, hF, fun j u hu => ?_⟩
        rw [World.cell?_of_block (hk _ (by rw [block_of_add]; exact hF))]
        exact hc j u hu
    · intro b hb
      have := hk b hb
      rw [Array.getElem?_eq_getElem (h4 b hb)] at this
      exact (Array.getElem?_eq_some_iff.1 this).1
  lt h hb := h.2.2.2.2 _ hb
/-- parts, some of whose words are not told -/
def pack {X : Type} (l : X → List Asn) : Asn where
  holds F w := ∃ x, stars (l x) F w
  loc := fun ⟨x, h⟩ hk => ⟨x, stars_loc h hk⟩
  lt := fun ⟨_, h⟩ hb => stars_lt h hb
end

/-! ### what is only read -/
/-- the slice value '.slice A n c' reads as l in E -/
def Rd {α : Type} (E : Env) (T : Ty α) (A : Option Addr) (n c : Nat) (l : List α) : Prop :=
  n = l.length ∧ n ≤ c ∧ c ≤ maxLen ∧ (n = 0 ∨ ∃ ad, A = some ad ∧ E.D ad.block ∧ ∀ j u, (T.encs l)[j]? = some u → E.w.cell? (ad.add j) = some u)
section
variable {α : Type} {T : Ty α} {E E' : Env} {A : Option Addr} {n c : Nat} {l : List α} {H R : List Asn} {w : World}
theorem Rd.len (h : Rd E T A n c l) : n = l.length := h.1
theorem Rd.cap (h : Rd E T A n c l) : n ≤ c ∧ c ≤ maxLen := ⟨h.2.1, h.2.2.1⟩
theorem Rd.nil (E : Env) (T : Ty α) : Rd E T none 0 0 [] := ⟨rfl, Nat.le_refl _, Nat.zero_le _, .inl rfl⟩
theorem Rd.none (h : Rd E T none n c l) : n = 0 ∧ l = [] := by
  obtain ⟨h0, _, _, rfl | ⟨_, e, _⟩⟩ := h
  · exact ⟨rfl, List.eq_nil_of_length_eq_zero h0.symm⟩
  · cases e
theorem Rd.sub (hE : Sub E R E') (h : Rd E T A n c l) : Rd E' T A n c l := by
  obtain ⟨h0, h1, h2, h3⟩ := h
  refine ⟨h0, h1, h2, h3.imp id ?_⟩
  rintro ⟨ad, e, hD, hc⟩
  refine ⟨ad, e, (hE.rd _ hD).1, fun j u hu => ?_⟩
  rw [World.cell?_of_block (w := E.w) (by rw [block_of_add]; exact (hE.rd _ hD).2)]
  exact hc j u hu
theorem Rd.from_ (h : Rd E T A n c l) {k : Nat} (hk : k ≤ n) : Rd E T (if c = k then A else A.map (·.add (k * T.size))) (n - k) (c - k) (l.drop k) := by
  obtain ⟨h1, h2, h3, h4⟩ := h
  refine ⟨by rw [List.length_drop, h1], by omega, by omega, ?_⟩
  by_cases hn : n - k = 0
  · exact .inl hn
  · rcases h4 with h4 | ⟨ad, rfl, hD, hc⟩
    · omega
    · rw [if_neg (by omega)]
      refine .inr ⟨ad.add (k * T.size), rfl, by rw [block_of_add]; exact hD, fun j u hu => ?_⟩
      rw [add_of_add]
      refine hc _ u ?_
      rw [← hu, ← T.encs_drop, List.getElem?_drop]
theorem Rd.upto (h : Rd E T A n c l) {k m : Nat} (hk : k ≤ n) (hkm : k ≤ m) (hm : m ≤ c) : Rd E T A k m (l.take k) := by
  obtain ⟨h1, h2, h3, h4⟩ := h
  refine ⟨by rw [List.length_take]; omega, hkm, by omega, ?_⟩
  rcases h4 with h4 | ⟨ad, rfl, hD, hc⟩
  · exact .inl (by omega)
  · refine .inr ⟨ad, rfl, hD, fun j u hu => hc j u ?_⟩
    rw [← T.encs_take, List.getElem?_take] at hu
    split at hu
    · exact hu
    · cases hu
/-- 's[j:m]' -/
theorem Rd.cut (h : Rd E T A n c l) {j m : Nat} (hj : j ≤ m) (hm : m ≤ n) : Rd E T (if c = j then A else A.map (·.add (j * T.size))) (m - j) (c - j) ((l.take m).drop j) := by
  have h1 := h.cap
  exact (h.upto hm (show m ≤ c by omega) (Nat.le_refl c)).from_ hj
theorem own_rd {F : Nat → Prop} (h : (own T A n c l).holds F w) : n = l.length ∧ n ≤ c ∧ c ≤ maxLen ∧ (n = 0 ∨ ∃ ad, A = some ad ∧ F ad.block ∧ ∀ j u, (T.encs l)[j]? = some u → w.cell? (ad.add j) = some u) := by
  obtain ⟨h0, ⟨rfl, rfl, _⟩ | ⟨g, cur, rfl, hF, hh, h1, h2, h3, h4⟩⟩ := h
  · exact ⟨h0, Nat.le_refl _, Nat.zero_le _, .inl rfl⟩
  · refine ⟨h0, h1, h2, .inr ⟨_, rfl, (hF _).2 rfl, fun j u hu => ?_⟩⟩
    rw [add_none, Nat.zero_add, cell_of_row _ _ _ _ _ _ hh]
    rw [← h4, List.getElem?_take] at hu
    split at hu
    · simpa using hu
    · cases hu
theorem Sub.own (hE : Sub E R E') {R' : List Asn} (h : Has (own T A n c l) R R') : Rd E' T A n c l := by
  obtain ⟨F, h1, h2⟩ := hE.fr
  obtain ⟨F1, F2, h3, _, h5, _⟩ := h.stars h1
  obtain ⟨k0, k1, k2, k3⟩ := own_rd h5
  exact ⟨k0, k1, k2, k3.imp id fun ⟨ad, e, hF, hc⟩ => ⟨ad, e, h2 _ ((h3 _).2 (.inl hF)), hc⟩⟩
theorem Sub.sl (hE : Sub E R E') {R' : List Asn} (h : Has (sl T A n c l) R R') : Rd E' T A n c l := by
  obtain ⟨F, h1, h2⟩ := hE.fr
  obtain ⟨F1, F2, h3, _, h5, _⟩ := h.stars h1
  obtain ⟨k0, k1, k2, k3, _⟩ := h5
  exact ⟨k0, k1, k2, k3.imp id fun ⟨ad, e, hF, hc⟩ => ⟨ad, e, h2 _ ((h3 _).2 (.inl hF)), hc⟩⟩
/-- of parts: a slice's reading -/
def RdH (E : Env) (H : List Asn) (T : Ty α) (A : Option Addr) (n c : Nat) (l : List α) : Prop :=
  ∀ w, St E H w → n = l.length ∧ n ≤ c ∧ c ≤ maxLen ∧ (n = 0 ∨ ∃ ad, A = some ad ∧ ∀ j u, (T.encs l)[j]? = some u → w.cell? (ad.add j) = some u)
theorem RdH.rd (h : Rd E T A n c l) : RdH E H T A n c l := fun w hw => by
  obtain ⟨h0, h1, h2, h3⟩ := h
  refine ⟨h0, h1, h2, h3.imp id ?_⟩
  rintro ⟨ad, e, hD, hc⟩
  refine ⟨ad, e, fun j u hu => ?_⟩
  rw [World.cell?_of_block (w := E.w) (by rw [block_of_add]; exact hw.keep _ hD)]
  exact hc j u hu
theorem RdH.own (h : Has (own T A n c l) H R) : RdH E H T A n c l := fun w hw => by
  obtain ⟨F, h1, _⟩ := hw.has h
  obtain ⟨k0, k1, k2, k3⟩ := own_rd h1
  exact ⟨k0, k1, k2, k3.imp id fun ⟨ad, e, _, hc⟩ => ⟨ad, e, hc⟩⟩
theorem RdH.sl (h : Has (Sep.sl T A n c l) H R) : RdH E H T A n c l := fun w hw => by
  obtain ⟨F, h1, _⟩ := hw.has h
  obtain ⟨k0, k1, k2, k3, _⟩ := h1
  exact ⟨k0, k1, k2, k3.imp id fun ⟨ad, e, _, hc⟩ => ⟨ad, e, hc⟩⟩
theorem RdH.from_ (h : RdH E H T A n c l) {k : Nat} (hk : k ≤ n) : RdH E H T (if c = k then A else A.map (·.add (k * T.size))) (n - k) (c - k) (l.drop k) := fun w hw => by
  obtain ⟨h1, h2, h3, h4⟩ := h w hw
  refine ⟨by rw [List.length_drop, h1], by omega, by omega, ?_⟩
  by_cases hn : n - k = 0
  · exact .inl hn
  · rcases h4 with h4 | ⟨ad, rfl, hc⟩
    · omega
    · rw [if_neg (by omega)]
      refine .inr ⟨ad.add (k * T.size), rfl, fun j u hu => ?_⟩
      rw [add_of_add]
      refine hc _ u ?_
      rw [← hu, ← T.encs_drop, List.getElem?_drop]
theorem RdH.upto (h : RdH E H T A n c l) {k m : Nat} (hk : k ≤ n) (hkm : k ≤ m) (hm : m ≤ n) : RdH E H T A k m (l.take k) := fun w hw => by
  obtain ⟨h1, h2, h3, h4⟩ := h w hw
  refine ⟨by rw [List.length_take]; omega, hkm, by omega, ?_⟩
  rcases h4 with h4 | ⟨ad, rfl, hc⟩
  · exact .inl (by omega)
  · refine .inr ⟨ad, rfl, fun j u hu => hc j u ?_⟩
    rw [← T.encs_take, List.getElem?_take] at hu
    split at hu
    · exact hu
    · cases hu
theorem RdH.up (h : RdH E H T A n c l) {k : Nat} (hk : k ≤ n) : RdH E H T A k c (l.take k) := fun w hw => by
  obtain ⟨h1, h2, h3, h4⟩ := h w hw
  refine ⟨by rw [List.length_take]; omega, by omega, by omega, ?_⟩
  rcases h4 with h4 | ⟨ad, rfl, hc⟩
  · exact .inl (by omega)
  · refine .inr ⟨ad, rfl, fun j u hu => hc j u ?_⟩
    rw [← T.encs_take, List.getElem?_take] at hu
    split at hu
    · exact hu
    · cases hu
/-- 's[j:m]' -/
theorem RdH.cut (h : RdH E H T A n c l) {j m : Nat} (hj : j ≤ m) (hm : m ≤ n) : RdH E H T (if c = j then A else A.map (·.add (j * T.size))) (m - j) (c - j) ((l.take m).drop j) := (h.up hm).from_ hj
end
/-- a cell known of parts -/
def Cell (E : Env) (H : List Asn) (a : Addr) (v : Value) : Prop := ∀ w, St E H w → w.cell? a = some v
/-- a cell known of what is only read -/
def KCell (E : Env) (a : Addr) (v : Value) : Prop := E.D a.block ∧ E.w.cell? a = some v
theorem Cell.kc {E : Env} {H : List Asn} {a : Addr} {v : Value} (h : KCell E a v) : Cell E H a v := fun w hw => by
  rw [World.cell?_of_block (w := E.w) (hw.keep _ h.1)]; exact h.2
theorem KCell.sub {E E' : Env} {R : List Asn} {a : Addr} {v : Value} (hE : Sub E R E') (h : KCell E a v) : KCell E' a v := by
  refine ⟨(hE.rd _ h.1).1, ?_⟩
  rw [World.cell?_of_block (w := E.w) (hE.rd _ h.1).2]; exact h.2
theorem KCell.blk {E E' : Env} {R R' : List Asn} {g : Nat} {t : TypeId} {cs : List Value} (hE : Sub E R E') (h : Has (Sep.blk g t cs) R R') {i : Nat} {v : Value} (hv : cs[i]? = some v) : KCell E' ⟨g, i, none⟩ v := by
  obtain ⟨F, h1, h2⟩ := hE.fr
  obtain ⟨F1, F2, h3, _, h5, _⟩ := h.stars h1
  obtain ⟨k1, k2⟩ := h5
  refine ⟨h2 _ ((h3 _).2 (.inl ((k1 _).2 rfl))), ?_⟩
  rw [cell_of_row _ _ _ _ _ _ k2]; simpa using hv
/-- cells behind one another -/
def Cells (E : Env) (H : List Asn) (a : Addr) (vs : List Value) : Prop := ∀ w, St E H w → ∀ j u, vs[j]? = some u → w.cell? (a.add j) = some u
/-- where a slice begins -/
def ad (A : Option Addr) : Addr := A.getD ⟨0, 0, none⟩
section
variable {α : Type} {T : Ty α} {E : Env} {A : Option Addr} {n c : Nat} {l : List α} {H R : List Asn}
theorem Cells.elem (h : RdH E H T A n c l) {k : Nat} {x : α} (hx : l[k]? = some x) {q : Nat} (hq : q = k * T.size) : Cells E H ((ad A).add q) (T.enc x) := by
  subst hq
  intro w hw j u hu
  obtain ⟨h0, h1, h2, h3⟩ := h w hw
  have hk := (List.getElem?_eq_some_iff.1 hx).1
  rcases h3 with h3 | ⟨a, rfl, hc⟩
  · omega
  · rw [add_of_add]; exact hc _ u (T.encs_at hx hu)
theorem Cell.elem (h : RdH E H T A n c l) {k : Nat} {x : α} (hx : l[k]? = some x) {q j : Nat} (hq : q = k * T.size) {v : Value} (hv : (T.enc x)[j]? = some v) : Cell E H (((ad A).add q).add j) v :=
  fun w hw => Cells.elem h hx hq w hw j v hv
theorem Cell.elem0 (h : RdH E H T A n c l) {k : Nat} {x : α} (hx : l[k]? = some x) {q : Nat} (hq : q = k * T.size) {v : Value} (hv : (T.enc x)[0]? = some v) : Cell E H ((ad A).add q) v :=
  fun w hw => by have := Cells.elem h hx hq w hw 0 v hv; simpa [Addr.add] using this
theorem Cell.blk {g : Nat} {t : TypeId} {cs : List Value} (h : Has (blk g t cs) H R) {i : Nat} {v : Value} (hv : cs[i]? = some v) : Cell E H ⟨g, i, none⟩ v := fun w hw => by
  obtain ⟨F, ⟨_, h1⟩, _⟩ := hw.has h
  rw [cell_of_row _ _ _ _ _ _ h1]; simpa using hv
theorem Cells.blk {g : Nat} {t : TypeId} {cs : List Value} (h : Has (blk g t cs) H R) {i : Nat} {vs : List Value} (hv : vs = cs.drop i) : Cells E H ⟨g, i, none⟩ vs := fun w hw j u hu => by
  obtain ⟨F, ⟨_, h1⟩, _⟩ := hw.has h
  rw [add_none, cell_of_row _ _ _ _ _ _ h1]
  subst hv
  rw [List.getElem?_drop] at hu
  simpa using hu
end
/-! ### arrays in a slice -/
section
variable {α β : Type} {T : Ty α} {U : Ty β} {E : Env} {A : Option Addr} {n c : Nat} {l : List α} {H R : List Asn}
/-- an α is an array of βs -/
def Arr (T : Ty α) (U : Ty β) (m : Nat) (xs : α → List β) : Prop := ∀ a, T.enc a = U.encs (xs a) ∧ (xs a).length = m
theorem RdH.inner {m : Nat} {xs : α → List β} (hA : Arr T U m xs) (hm : m ≤ maxLen) (h : RdH E H T A n c l) {k q : Nat} {x : α} (hx : l[k]? = some x) (hq : q = k * T.size) : RdH E H U (some ((ad A).add q)) m m (xs x) := by
  intro w hw
  refine ⟨(hA x).2.symm, Nat.le_refl _, hm, .inr ⟨_, rfl, fun j u hu => ?_⟩⟩
  rw [← (hA x).1] at hu
  exact Cells.elem h hx hq w hw j u hu
theorem Rd.inner {m : Nat} {xs : α → List β} (hA : Arr T U m xs) (hm : m ≤ maxLen) (h : Rd E T A n c l) {k q : Nat} {x : α} (hx : l[k]? = some x) (hq : q = k * T.size) : Rd E U (some ((ad A).add q)) m m (xs x) := by
  obtain ⟨h0, h1, h2, h3⟩ := h
  have hk := (List.getElem?_eq_some_iff.1 hx).1
  rcases h3 with h3 | ⟨a, rfl, hD, hc⟩
  · omega
  · refine ⟨(hA x).2.symm, Nat.le_refl _, hm, .inr ⟨_, rfl, by rw [block_of_add]; exact hD, fun j u hu => ?_⟩⟩
    rw [← (hA x).1] at hu
    rw [hq, add_of_add]
    exact hc _ u (T.encs_at hx hu)
end
end Go.Proofs.Ytihblcljkndpgaa.Sep
