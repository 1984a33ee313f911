/- Words for memory: a slice that reads as a list (after the guide's words), octets, worlds that have grown. No program in sight. -/
import Derived.Below
import Derived.Laws.OwnMore
import Derived.Deep.AppendLies
import Derived.Deep.Draws
import Derived.Maps.AppendAt
import Derived.RegionTactic
import Derived.OwnWalk
import Derived.WalkKit
import Derived.ProofKit
import Derived.OpenShut
import Derived.Lib.Hide
import Derived.Lib.SlBytesConst
import Derived.BigQuiet
import Derived.Deep.RegionHeld3
import Derived.Test.YtihblcljkndpgaaRows
namespace Go.Proofs.Ytihblcljkndpgaa.Mem
open Go.RowKit

theorem block_of_add (a : Addr) (n : Nat) : (a.add n).block = a.block := by unfold Addr.add; split <;> rfl
theorem add_of_add (a : Addr) (i j : Nat) : (a.add i).add j = a.add (i + j) := by
  unfold Addr.add
  by_cases hi : i = 0 <;> by_cases hj : j = 0 <;> simp [hi, hj, Nat.add_assoc]

/-- the slice value '.slice A n _' holds the cells xs and lies below block B -/
def Reads (w : World) (B size : Nat) (A : Option Addr) (n : Nat) (xs : List Value) : Prop :=
  xs.length = n * size ∧ (0 < n → ∃ ad, A = some ad ∧ ad.block < B ∧ ∀ j u, xs[j]? = some u → w.cell? (ad.add j) = some u)

section
variable {w w' : World} {B B' size n : Nat} {A : Option Addr} {xs : List Value}
theorem Reads.none_ : Reads w B size A 0 [] := ⟨by simp, fun h => absurd h (by omega)⟩
theorem Reads.at_ {k : Nat} (h : Reads w B 1 A n xs) (hk : k < n) : ∃ ad u, A = some ad ∧ ad.block < B ∧ xs[k]? = some u ∧ w.cell? (ad.add k) = some u := by
  obtain ⟨ad, e, hb, hc⟩ := h.2 (by omega)
  have hl : k < xs.length := by have := h.1; omega
  exact ⟨ad, xs[k], e, hb, List.getElem?_eq_getElem hl, hc k _ (List.getElem?_eq_getElem hl)⟩
theorem Reads.keep (h : Reads w B size A n xs) (hk : ∀ p : Addr, p.block < B → w'.cell? p = w.cell? p) : Reads w' B size A n xs :=
  ⟨h.1, fun hn => by
    obtain ⟨ad, e, hb, hc⟩ := h.2 hn
    exact ⟨ad, e, hb, fun j u hu => (hk _ (by rw [block_of_add]; exact hb)).trans (hc j u hu)⟩⟩
theorem Reads.more (h : Reads w B size A n xs) (hB : B ≤ B') : Reads w B' size A n xs :=
  ⟨h.1, fun hn => by
    obtain ⟨ad, e, hb, hc⟩ := h.2 hn
    exact ⟨ad, e, by omega, hc⟩⟩
theorem Reads.below (h : Reads w B size A n xs) (hb : Below B w w') : Reads w' B size A n xs := h.keep fun _ hp => hb.cell hp
theorem Reads.drew (h : Reads w B size A n xs) : Reads w.drew B size A n xs := h
theorem Reads.drewN (h : Reads w B size A n xs) (k : Nat) : Reads (w.drewN k) B size A n xs := h
theorem Reads.alloc (h : Reads w B size A n xs) (hB : B ≤ w.heap.size) (o : Obj) : Reads (w.alloc o) B size A n xs := h.keep fun p hp => World.cell?_alloc_lt w o p (by omega)
theorem Reads.setCell (h : Reads w B size A n xs) {p : Addr} (hB : B ≤ p.block) (u : Value) : Reads (w.setCell p u) B size A n xs :=
  h.keep fun q hq => World.cell?_setCell_other w p q u (fun e => by subst e; omega)
theorem Reads.grown (h : Reads w B size A n xs) {row : Option Nat} (hg : w.grownBy w' row) (hB : B ≤ w.heap.size) (hr : ∀ g, row = some g → B ≤ g) : Reads w' B size A n xs :=
  h.keep fun p hp => World.cell?_of_block (hg.block p.block (by omega) (fun e => by have := hr _ e.symm; omega))
theorem Reads.cut (h : Reads w B size A n xs) {k cap : Nat} (hk : k ≤ n) (hc : n ≤ cap) :
    Reads w B size (if cap = k then A else A.map (·.add (k * size))) (n - k) (xs.drop (k * size)) := by
  refine ⟨by rw [List.length_drop, h.1, Nat.sub_mul], fun hn => ?_⟩
  obtain ⟨ad, rfl, hb, hcell⟩ := h.2 (by omega)
  rw [if_neg (by omega)]
  refine ⟨ad.add (k * size), rfl, by rw [block_of_add]; exact hb, fun j u hu => ?_⟩
  rw [add_of_add]
  exact hcell _ u (by rw [← hu, List.getElem?_drop])
theorem Reads.of_own {base : Nat} {e : TypeId} {c : Nat} (h : w.ownsRow base e size (.slice A n c) n xs) : Reads w w.heap.size size A n xs := by
  refine ⟨h.1, fun hn => ?_⟩
  obtain ⟨g, cap, hv, _, hlt⟩ := h.form hn
  have hA : A = some ⟨g, 0, none⟩ := by injection hv
  subst hA
  exact ⟨_, rfl, hlt, h.cells (g := g) rfl⟩
end

/-! ### append onto a row of the call's own (after the guide's words) -/
section
variable {P : Program} (w : World)

theorem run_append_of_nil (base : Nat) (t ty e : TypeId) (i : TypeInfo) (size : Nat) (ht : P.underlying t = some (.slice e)) (hi : P.info? e = some i)
    (v : Value) (n : Nat) (xs : List Value) (hown : w.ownsRow base e size v n xs) (c : Nat) : (Builtin.append_ #[t, t] ty #[v, .slice none 0 c]).run P w = .ok v w := by
  rcases hown.2 with ⟨rfl, rfl⟩ | ⟨g, cap, cur, rfl, _, _, hnc, _⟩
  · simp [Builtin.append_, run_underlying ht, sizeOf, typeInfo, hi, Builtin.lenOf, Builtin.firstCells]
  · simp [Builtin.append_, run_underlying ht, sizeOf, typeInfo, hi, Builtin.lenOf, Builtin.firstCells, hnc, storeCells]

theorem run_append_any (base : Nat) (t ty e : TypeId) (i : TypeInfo) (z : Value) (size bytes : Nat) (ht : P.underlying t = some (.slice e)) (hi : P.info? e = some i) (hz : i.zero = some z)
    (hsize : i.size = size) (hby : i.bytes = bytes) (hzs : z.cells.size = size) (hsz : 0 < size)
    (v : Value) (n : Nat) (xs : List Value) (hown : w.ownsRow base e size v n xs)
    (B : Nat) (A : Option Addr) (m c : Nat) (news : List Value) (hr : Reads w B size A m news) (h1 : ∀ u ∈ news, u.oneCell' = true)
    (h63 : n + m ≤ maxLen) (hbytes : (n + m) * bytes ≤ 140737488355328) (hbase : base ≤ w.heap.size) :
    ∃ v' w', (Builtin.append_ #[t, t] ty #[v, .slice A m c]).run P w = .ok v' w' ∧ w'.ownsRow base e size v' (n + m) (xs ++ news) ∧ w.grownBy w' v.ownBlock ∧
      (v'.ownBlock = v.ownBlock ∨ v'.ownBlock = some w.heap.size) := by
  rcases A with _ | ad
  · have hm : m = 0 := by
      rcases Nat.eq_zero_or_pos m with h0 | h0
      · exact h0
      · obtain ⟨ad, h, _⟩ := hr.2 h0
        cases h
    subst hm
    have hn : news = [] := List.eq_nil_of_length_eq_zero (by simpa using hr.1)
    subst hn
    exact ⟨v, w, run_append_of_nil w base t ty e i size ht hi v n xs hown c, by simpa using hown, World.grownBy.refl w _, .inl rfl⟩
  · have hcells : ∀ j u, news[j]? = some u → w.cell? (ad.add j) = some u := by
      intro j u hu
      rcases Nat.eq_zero_or_pos m with h0 | h0
      · subst h0
        have hn : news = [] := List.eq_nil_of_length_eq_zero (by simpa using hr.1)
        subst hn
        simp at hu
      · obtain ⟨ad', h, _, hc⟩ := hr.2 h0
        injection h with h
        subst h
        exact hc j u hu
    obtain ⟨v', w', hrun, h2, h3, _, h5⟩ := run_append_own_at (P := P) w base t ty e i z size bytes ht hi hz hsize hby hzs hsz v n xs hown ad m c news hr.1 hcells h1 h63 hbytes hbase
    exact ⟨v', w', hrun, h2, h3, h5⟩

theorem wp_append_any {o : Oper} {a : Act} {K : Act → World → Prop} {Q : Exit → Act → World → Prop} (s x : Operand) (t : TypeId)
    (ho : o.op = .call { callee := .builtin .append, args := #[s, x], argTypes := #[t, t] })
    (base : Nat) (e : TypeId) (i : TypeInfo) (z : Value) (size bytes : Nat) (ht : P.underlying t = some (.slice e)) (hi : P.info? e = some i) (hz : i.zero = some z)
    (hsize : i.size = size) (hby : i.bytes = bytes) (hzs : z.cells.size = size) (hsz : 0 < size)
    (v : Value) (n : Nat) (xs : List Value) (hs : a.eval s = v) (hown : w.ownsRow base e size v n xs)
    (B : Nat) (A : Option Addr) (m c : Nat) (news : List Value) (hx : a.eval x = .slice A m c) (hr : Reads w B size A m news) (h1 : ∀ u ∈ news, u.oneCell' = true)
    (h63 : n + m ≤ maxLen) (hbytes : (n + m) * bytes ≤ 140737488355328) (hbase : base ≤ w.heap.size)
    (h : ∀ v' w', w'.ownsRow base e size v' (n + m) (xs ++ news) → w.grownBy w' v.ownBlock → (v'.ownBlock = v.ownBlock ∨ v'.ownBlock = some w.heap.size) → K (a.put o.dst v') w') : o.wp P a w K Q := by
  obtain ⟨v', w', hrun, h2, h3, h4⟩ := run_append_any (P := P) w base t o.type e i z size bytes ht hi hz hsize hby hzs hsz v n xs hown B A m c news hr h1 h63 hbytes hbase
  unfold Oper.wp execOp
  simp only [ho, resolve, invoke, builtin, Sem.run_bind, Sem.run_pure, Result.andThen_ok, List.map_toArray, List.map_cons, List.map_nil, hs, hx, hrun]
  exact h v' w' h2 h3 h4

theorem wpList_append_any {ops : Array Oper} {rest : List Oper} {o : Oper} {a : Act} {Q : Exit → Act → World → Prop} (hgd : o.guard = none) (s x : Operand) (t : TypeId)
    (ho : o.op = .call { callee := .builtin .append, args := #[s, x], argTypes := #[t, t] })
    (base : Nat) (e : TypeId) (i : TypeInfo) (z : Value) (size bytes : Nat) (ht : P.underlying t = some (.slice e)) (hi : P.info? e = some i) (hz : i.zero = some z)
    (hsize : i.size = size) (hby : i.bytes = bytes) (hzs : z.cells.size = size) (hsz : 0 < size)
    (v : Value) (n : Nat) (xs : List Value) (hs : a.eval s = v) (hown : w.ownsRow base e size v n xs)
    (B : Nat) (A : Option Addr) (m c : Nat) (news : List Value) (hx : a.eval x = .slice A m c) (hr : Reads w B size A m news) (h1 : ∀ u ∈ news, u.oneCell' = true)
    (h63 : n + m ≤ maxLen) (hbytes : (n + m) * bytes ≤ 140737488355328) (hbase : base ≤ w.heap.size)
    (h : ∀ v' w', w'.ownsRow base e size v' (n + m) (xs ++ news) → w.grownBy w' v.ownBlock → (v'.ownBlock = v.ownBlock ∨ v'.ownBlock = some w.heap.size) → wpList P ops Q rest (a.put o.dst v') w') : wpList P ops Q (o :: rest) a w :=
  wpList_plain hgd fun _ hK => wp_append_any w s x t ho base e i z size bytes ht hi hz hsize hby hzs hsz v n xs hs hown B A m c news hx hr h1 h63 hbytes hbase fun v' w' h2 h3 h4 => hK _ _ (h v' w' h2 h3 h4)

theorem step_append_any {ops : Array Oper} {o : Oper} {a : Act} {K : Act → World → Prop} {Q : Exit → Act → World → Prop} {E : Prop} (hgd : o.guard = none) (s x : Operand) (t : TypeId)
    (ho : o.op = .call { callee := .builtin .append, args := #[s, x], argTypes := #[t, t] })
    (base : Nat) (e : TypeId) (i : TypeInfo) (z : Value) (size bytes : Nat) (ht : P.underlying t = some (.slice e)) (hi : P.info? e = some i) (hz : i.zero = some z)
    (hsize : i.size = size) (hby : i.bytes = bytes) (hzs : z.cells.size = size) (hsz : 0 < size)
    (v : Value) (n : Nat) (xs : List Value) (hs : a.eval s = v) (hown : w.ownsRow base e size v n xs)
    (B : Nat) (A : Option Addr) (m c : Nat) (news : List Value) (hx : a.eval x = .slice A m c) (hr : Reads w B size A m news) (h1 : ∀ u ∈ news, u.oneCell' = true)
    (h63 : n + m ≤ maxLen) (hbytes : (n + m) * bytes ≤ 140737488355328) (hbase : base ≤ w.heap.size)
    (h : ∀ v' w', w'.ownsRow base e size v' (n + m) (xs ++ news) → w.grownBy w' v.ownBlock → (v'.ownBlock = v.ownBlock ∨ v'.ownBlock = some w.heap.size) → K (a.put o.dst v') w') :
    if Region.wanted o (yielded ops a.tmps) = true then Oper.wp P o a w K Q else E := by
  have hw : Region.wanted o (yielded ops a.tmps) = true := by simp [Region.wanted, hgd]
  rw [if_pos hw]
  exact wp_append_any w s x t ho base e i z size bytes ht hi hz hsize hby hzs hsz v n xs hs hown B A m c news hx hr h1 h63 hbytes hbase h
end

/-! ### elements -/
/-- a type of elements: how each is laid in cells; its number, its slice type's number in the program -/
structure Elem (α : Type) where
  enc : α → List Value
  size : Nat
  bytes : Nat
  tid : TypeId
  sid : TypeId
  zero : Value
  hlen : ∀ a, (enc a).length = size
  hone : ∀ a, ∀ u ∈ enc a, u.oneCell' = true
  hpos : 0 < size
  hzero : zero.cells.size = size
  hinfo : (Try.prog.info? tid).map (fun i => (i.zero, i.size, i.bytes)) = some (some zero, size, bytes)
  hunder : Try.prog.underlying sid = some (.slice tid)

def Elem.encs {α : Type} (E : Elem α) (l : List α) : List Value := l.flatMap E.enc

section
variable {α : Type} {E : Elem α}
theorem Elem.encs_append (a b : List α) : E.encs (a ++ b) = E.encs a ++ E.encs b := List.flatMap_append
theorem Elem.encs_cons (a : α) (b : List α) : E.encs (a :: b) = E.enc a ++ E.encs b := List.flatMap_cons
theorem Elem.encs_nil : E.encs [] = [] := rfl
theorem Elem.encs_one (a : α) : E.encs [a] = E.enc a := by simp [Elem.encs]
theorem Elem.encs_length (l : List α) : (E.encs l).length = l.length * E.size := by
  induction l with
  | nil => simp [Elem.encs]
  | cons a l ih => rw [E.encs_cons, List.length_append, E.hlen, ih, List.length_cons, Nat.add_mul, Nat.one_mul, Nat.add_comm]
theorem Elem.encs_hone (l : List α) : ∀ u ∈ E.encs l, u.oneCell' = true := by
  intro u hu
  obtain ⟨a, _, h⟩ := List.mem_flatMap.1 hu
  exact E.hone a u h
theorem Elem.encs_drop (l : List α) (k : Nat) : (E.encs l).drop (k * E.size) = E.encs (l.drop k) := by
  induction k generalizing l with
  | zero => simp
  | succ k ih =>
    cases l with
    | nil => simp [Elem.encs]
    | cons a l =>
      rw [E.encs_cons, List.drop_succ_cons, ← ih, Nat.add_mul, Nat.one_mul, Nat.add_comm, ← List.drop_drop, List.drop_left' (E.hlen a)]
theorem Elem.encs_take (l : List α) (k : Nat) : (E.encs l).take (k * E.size) = E.encs (l.take k) := by
  induction k generalizing l with
  | zero => simp [Elem.encs]
  | succ k ih =>
    cases l with
    | nil => simp [Elem.encs]
    | cons a l =>
      rw [E.encs_cons, List.take_succ_cons, E.encs_cons, ← ih, Nat.add_mul, Nat.one_mul, Nat.add_comm, List.take_append, E.hlen, List.take_of_length_le (by rw [E.hlen]; omega)]
      congr 2; omega
theorem Elem.encs_at (l : List α) (k : Nat) (h : k < l.length) (j : Nat) (u : Value) (hu : (E.enc l[k])[j]? = some u) : (E.encs l)[k * E.size + j]? = some u := by
  have hj : j < E.size := by
    have := (List.getElem?_eq_some_iff.1 hu).1
    rw [E.hlen] at this; exact this
  have h1 : ((E.encs l).drop (k * E.size))[j]? = some u := by
    rw [E.encs_drop, List.drop_eq_getElem_cons h, E.encs_cons, List.getElem?_append_left (by rw [E.hlen]; exact hj)]
    exact hu
  rwa [List.getElem?_drop] at h1

/-- the j-th cell of what lies at p -/
def fa (p : Addr) : Nat → Addr
  | 0 => p
  | j + 1 => ⟨p.block, p.off + (j + 1), none⟩
theorem spot_of_cell {w : World} {a : Addr} {v : Value} (h : w.cell? a = some v) : a.spot = none := by
  unfold World.cell? at h
  split at h
  · split at h
    · cases h
    · rename_i hs; cases ha : a.spot <;> simp_all
  · cases h
theorem fa_add {a : Addr} {k j : Nat} (h : (a.add (k + j)).spot = none) : a.add (k + j) = fa (a.add k) j := by
  cases j with
  | zero => rfl
  | succ j =>
    unfold Addr.add at h ⊢
    rw [if_neg (by omega)] at h ⊢
    by_cases hk : k = 0
    · subst hk; simp [fa] at h ⊢; try exact h
    · rw [if_neg hk]; simp [fa] at h ⊢; first | omega | exact ⟨by omega, h⟩ | (simp_all; omega)

/-- the slice value '.slice A n c' reads as the list l, and lies below block B -/
def Rd (E : Elem α) (w : World) (B : Nat) (A : Option Addr) (n c : Nat) (l : List α) : Prop :=
  n = l.length ∧ n ≤ c ∧ c ≤ maxLen ∧ Reads w B E.size A n (E.encs l)
/-- the slice value '.slice A n c' is the call's own (from block 'base' on; or nil), and reads as the list l -/
def Own (E : Elem α) (w : World) (base : Nat) (A : Option Addr) (n c : Nat) (l : List α) : Prop :=
  n = l.length ∧ w.ownsRow base E.tid E.size (.slice A n c) n (E.encs l)
/-- the block that a slice lies in -/
def blk (A : Option Addr) : Option Nat := A.map (·.block)
theorem ownBlock_slice (A : Option Addr) (n c : Nat) : Value.ownBlock (.slice A n c) = blk A := by cases A <;> rfl
theorem below_grown {w w' : World} (h : Below w.heap.size w w') : w.grownBy w' none :=
  ⟨h.os, h.tape, h.output, h.size, fun k hk _ => h.block k hk⟩

section
variable {w w' : World} {base B B' : Nat} {A : Option Addr} {n c : Nat} {l l' : List α}
theorem Rd.len (h : Rd E w B A n c l) : n = l.length := h.1
theorem Rd.cap (h : Rd E w B A n c l) : n ≤ c ∧ c ≤ maxLen := ⟨h.2.1, h.2.2.1⟩
theorem Rd.of (h : Rd E w B A n c l) (k : Reads w B E.size A n (E.encs l) → Reads w' B' E.size A n (E.encs l)) : Rd E w' B' A n c l := ⟨h.1, h.2.1, h.2.2.1, k h.2.2.2⟩
theorem Rd.below (h : Rd E w B A n c l) (hb : Below B w w') : Rd E w' B A n c l := h.of fun h => Reads.below h hb
theorem Rd.more (h : Rd E w B A n c l) (hB : B ≤ B') : Rd E w B' A n c l := h.of fun h => Reads.more h hB
theorem Rd.alloc (h : Rd E w B A n c l) (hB : B ≤ w.heap.size) (o : Obj) : Rd E (w.alloc o) B A n c l := h.of fun h => Reads.alloc h hB o
theorem Rd.drew (h : Rd E w B A n c l) : Rd E w.drew B A n c l := h
theorem Rd.drewN (h : Rd E w B A n c l) (k : Nat) : Rd E (w.drewN k) B A n c l := h
theorem Rd.setCell (h : Rd E w B A n c l) {p : Addr} (hB : B ≤ p.block) (u : Value) : Rd E (w.setCell p u) B A n c l := h.of fun h => Reads.setCell h hB u
theorem Rd.grown (h : Rd E w B A n c l) {row : Option Nat} (hg : w.grownBy w' row) (hB : B ≤ w.heap.size) (hr : ∀ g, row = some g → B ≤ g) : Rd E w' B A n c l := h.of fun h => Reads.grown h hg hB hr
theorem Rd.nil (w : World) (B : Nat) : Rd E w B none 0 0 [] := ⟨rfl, Nat.le_refl _, Nat.zero_le _, Reads.none_⟩
/-- an element's cells -/
theorem Rd.at_ (h : Rd E w B A n c l) {k : Nat} (hk : k < n) : ∃ ad, A = some ad ∧ ad.block < B ∧ ∃ hl : k < l.length, ∀ j u, (E.enc l[k])[j]? = some u → w.cell? (ad.add (k * E.size + j)) = some u := by
  obtain ⟨ad, e, hb, hc⟩ := h.2.2.2.2 (by omega)
  have hl : k < l.length := by have := h.1; omega
  exact ⟨ad, e, hb, hl, fun j u hu => hc _ u (E.encs_at l k hl j u hu)⟩
/-- a field's address, as the walk reckons it -/
theorem Rd.fld (h : Rd E w B A n c l) {k : Nat} (hk : k < n) : ∃ ad, A = some ad ∧ ad.block < B ∧ ∃ hl : k < l.length, ∀ j u, (E.enc l[k])[j]? = some u → w.cell? (fa (ad.add (k * E.size)) j) = some u := by
  obtain ⟨ad, e, hb, hl, hc⟩ := h.at_ hk
  refine ⟨ad, e, hb, hl, fun j u hu => ?_⟩
  have h1 := hc j u hu
  rw [← fa_add (spot_of_cell h1)]
  exact h1
/-- 's[k:]' -/
theorem Rd.from_ (h : Rd E w B A n c l) {k : Nat} (hk : k ≤ n) : Rd E w B (if c = k then A else A.map (·.add (k * E.size))) (n - k) (c - k) (l.drop k) := by
  obtain ⟨h1, h2, h3, h4⟩ := h
  refine ⟨by rw [List.length_drop, h1], by omega, by omega, ?_⟩
  rw [← E.encs_drop]
  exact h4.cut hk h2
/-- 's[:k]', 's[:k:m]' -/
theorem Rd.upto (h : Rd E w B A n c l) {k m : Nat} (hk : k ≤ n) (hkm : k ≤ m) (hm : m ≤ c) : Rd E w B A k m (l.take k) := by
  obtain ⟨h1, h2, h3, h4⟩ := h
  refine ⟨by rw [List.length_take]; omega, hkm, by omega, ?_⟩
  rw [← E.encs_take]
  refine ⟨by rw [List.length_take, h4.1]; exact Nat.min_eq_left (Nat.mul_le_mul_right _ hk), fun hn => ?_⟩
  obtain ⟨ad, e, hb, hc⟩ := h4.2 (by omega)
  refine ⟨ad, e, hb, fun j u hu => hc j u ?_⟩
  rw [List.getElem?_take] at hu
  split at hu
  · exact hu
  · cases hu

theorem Own.len (h : Own E w base A n c l) : n = l.length := h.1
theorem Own.nil (w : World) (base : Nat) : Own E w base none 0 0 [] := ⟨rfl, World.ownsRow_nil w base _ _⟩
theorem Own.cap (h : Own E w base A n c l) : n ≤ c ∧ c ≤ maxLen := by
  rcases h.2.2 with ⟨hv, h0⟩ | ⟨g, cap, cur, hv, _, _, h1, h2, _⟩
  · injection hv with a b d; subst d; subst h0; exact ⟨Nat.le_refl _, Nat.zero_le _⟩
  · injection hv with a b d; subst d; exact ⟨h1, h2⟩
theorem Own.rd (h : Own E w base A n c l) : Rd E w w.heap.size A n c l := ⟨h.1, h.cap.1, h.cap.2, Reads.of_own h.2⟩
theorem Own.alloc (h : Own E w base A n c l) (o : Obj) : Own E (w.alloc o) base A n c l := ⟨h.1, World.ownsRow.alloc h.2 o⟩
theorem Own.drew (h : Own E w base A n c l) : Own E w.drew base A n c l := h
theorem Own.drewN (h : Own E w base A n c l) (k : Nat) : Own E (w.drewN k) base A n c l := h
theorem Own.lt (h : Own E w base A n c l) : ∀ k, blk A = some k → base ≤ k ∧ k < w.heap.size := fun k hk => World.ownsRow.lt h.2 k (by rw [ownBlock_slice]; exact hk)
theorem Own.kept (h : Own E w base A n c l) {row : Option Nat} (hg : w.grownBy w' row) (hne : blk A = none ∨ blk A ≠ row) : Own E w' base A n c l :=
  ⟨h.1, World.ownsRow.kept h.2 hg (by rw [ownBlock_slice]; exact hne)⟩
theorem Own.below (h : Own E w base A n c l) (hb : Below w.heap.size w w') : Own E w' base A n c l := h.kept (below_grown hb) (by cases blk A <;> simp)
theorem Own.weaken (h : Own E w base A n c l) (hb : B ≤ base) : Own E w B A n c l := by
  obtain ⟨h0, h1, h2⟩ := h
  refine ⟨h0, h1, ?_⟩
  rcases h2 with h2 | ⟨g, cap, cur, hv, hg, hh, r⟩
  · exact Or.inl h2
  · exact Or.inr ⟨g, cap, cur, hv, by omega, hh, r⟩
theorem Own.of_eq (h : Own E w base A n c l) (e : l = l') : Own E w base A n c l' := e ▸ h
/-- a new, empty slice literal -/
theorem Own.made (w : World) {b : Nat} (hb : b = w.heap.size) (hb2 : base ≤ b) : Own E (w.alloc (.cells #[] E.tid)) base (some ⟨b, 0, none⟩) 0 0 [] := by
  subst hb
  have hb := hb2
  exact ⟨rfl, World.ownsRow_made w #[] 0 hb (by unfold maxLen; omega) (by simp)⟩
/-- a new slice literal -/
theorem Own.built (w : World) (l : List α) (cs : Array Value) (hcs : cs = (E.encs l).toArray) (hl : l.length ≤ maxLen) {b : Nat} (hb : b = w.heap.size) (hb2 : base ≤ b) : Own E (w.alloc (.cells cs E.tid)) base (some ⟨b, 0, none⟩) l.length l.length l := by
  subst hb
  have hb := hb2
  subst hcs
  refine ⟨rfl, by rw [E.encs_length], .inr ⟨w.heap.size, _, _, rfl, hb, heap_alloc_new w _, Nat.le_refl _, hl, by simp [E.encs_length], ?_⟩⟩
  rw [← E.encs_length]
  simp
/-- a new row, whatever its marks, that reads as a list -/
theorem Rd.lit (w : World) (l : List α) (cs : Array Value) (t : TypeId) (fr : Nat × Nat) (hcs : cs = (E.encs l).toArray) (hl : l.length ≤ maxLen) {b m : Nat} (hb : b = w.heap.size) (hm : m = l.length) : Rd E (w.alloc (.cells cs t fr)) (b + 1) (some ⟨b, 0, none⟩) m m l := by
  subst hb
  subst hm
  subst hcs
  refine ⟨rfl, Nat.le_refl _, hl, by rw [E.encs_length], fun _ => ⟨_, rfl, by simp, fun j u hu => ?_⟩⟩
  have e : (⟨w.heap.size, 0, none⟩ : Addr).add j = ⟨w.heap.size, j, none⟩ := by unfold Addr.add; split <;> simp_all
  rw [e, cell_of_row _ w.heap.size j _ t fr (heap_alloc_new w _)]
  simpa using hu
end

/-- 'append(s, x...)' onto a slice of the call's own -/
theorem app {w : World} {ops : Array Oper} {rest : List Oper} {o : Oper} {a : Act} {Q : Exit → Act → World → Prop} (hgd : o.guard = none) (E : Elem α) (s x : Operand)
    (ho : o.op = .call { callee := .builtin .append, args := #[s, x], argTypes := #[E.sid, E.sid] })
    (base : Nat) (A : Option Addr) (n c : Nat) (l : List α) (B : Nat) (X : Option Addr) (nx cx : Nat) (l2 : List α)
    (hs : a.eval s = .slice A n c) (hx : a.eval x = .slice X nx cx)
    (hown : Own E w base A n c l) (hr : Rd E w B X nx cx l2) (hlen : n + nx ≤ 9223372036854775807) (hby : (n + nx) * E.bytes ≤ 140737488355328) (hbase : base ≤ w.heap.size)
    (h : ∀ A' c' w', Own E w' base A' (n + nx) c' (l ++ l2) → w.grownBy w' (blk A) → (blk A' = blk A ∨ blk A' = some w.heap.size) → wpList Try.prog ops Q rest (a.put o.dst (.slice A' (n + nx) c')) w') :
    wpList Try.prog ops Q (o :: rest) a w := by
  obtain ⟨i, hi, hz, hsz, hbt⟩ := info_parts E.hinfo
  obtain ⟨rfl, hown⟩ := hown
  obtain ⟨rfl, _, _, hr⟩ := hr
  refine wpList_append_any w hgd s x E.sid ho base E.tid i E.zero E.size E.bytes E.hunder hi hz hsz hbt E.hzero E.hpos _ l.length (E.encs l) hs hown B X l2.length cx (E.encs l2) hx hr (E.encs_hone _) hlen hby hbase ?_
  intro v' w' hown' hg hb
  have hf : ∃ A' c', v' = .slice A' (l.length + l2.length) c' := by
    rcases hown'.2 with ⟨rfl, h0⟩ | ⟨g, cap, cur, rfl, _⟩
    · exact ⟨none, 0, by rw [h0]⟩
    · exact ⟨_, _, rfl⟩
  obtain ⟨A', c', rfl⟩ := hf
  simp only [ownBlock_slice] at hg hb
  exact h A' c' w' ⟨List.length_append.symm, by rw [E.encs_append]; exact hown'⟩ hg hb
end

/-- the row of a slice of the call's own -/
theorem Own.row {α : Type} {E : Elem α} {w : World} {base n c : Nat} {A : Option Addr} {l : List α} (h : Own E w base A n c l) (hn : 0 < n) :
    ∃ g cur, A = some ⟨g, 0, none⟩ ∧ base ≤ g ∧ g < w.heap.size ∧ w.heap[g]? = some (.cells cur E.tid (0, 0)) ∧ cur.size = c * E.size ∧ cur.toList.take (n * E.size) = E.encs l ∧ n ≤ c ∧ c ≤ maxLen := by
  obtain ⟨h0, h1, h2⟩ := h
  rcases h2 with ⟨hv, hz⟩ | ⟨g, cap, cur, hv, hg, hh, h3, h4, h5, h6⟩
  · omega
  · injection hv with a b d
    subst a; subst d
    exact ⟨g, cur, rfl, hg, (Array.getElem?_eq_some_iff.1 hh).1, hh, h5, h6, h3, h4⟩
/-- one cell is written -/
theorem Own.set1 {α : Type} {E : Elem α} {w : World} {base n c : Nat} {A : Option Addr} {l l' : List α} (h : Own E w base A n c l) (g j : Nat) (hA : A = some ⟨g, 0, none⟩) (u : Value) (hlen : l'.length = l.length)
    (hl' : E.encs l' = (E.encs l).set j u) : Own E (w.setCell ⟨g, j, none⟩ u) base A n c l' := by
  obtain ⟨h0, h1, h2⟩ := h
  refine ⟨by rw [hlen]; exact h0, by rw [E.encs_length, hlen, h0], ?_⟩
  rcases h2 with ⟨hv, hz⟩ | ⟨g', cap, cur, hv, hg, hh, h3, h4, h5, h6⟩
  · exact .inl ⟨hv, hz⟩
  · subst hA
    injection hv with a b d
    injection a with a
    injection a with a
    subst a; subst d
    refine .inr ⟨g, c, cur.setIfInBounds j u, rfl, hg, ?_, h3, h4, by simpa using h5, ?_⟩
    · simp [World.setCell, Array.getElem?_modify, hh]
    · rw [hl', ← h6]
      simp [List.take_set]

/-! ### octets -/
def octE : Elem UInt8 where
  enc b := [.int .u8 (b.toNat : Int)]
  size := 1
  bytes := 1
  tid := 5
  sid := 22
  zero := .int .u8 0
  hlen _ := rfl
  hone a u h := by simp only [List.mem_singleton] at h; subst h; rfl
  hpos := by decide
  hzero := rfl
  hinfo := by kernel_rfl
  hunder := Try.underlying22

section
variable {w w' : World} {B : Nat} {A : Option Addr} {n c : Nat} {l : List UInt8}
/-- one octet of a slice -/
theorem Rd.oct (h : Rd octE w B A n c l) {k : Nat} (hk : k < n) :
    ∃ ad, A = some ad ∧ ad.block < B ∧ ∃ hl : k < l.length, w.cell? (ad.add k) = some (.int .u8 (l[k].toNat : Int)) := by
  obtain ⟨ad, e, hb, hl, hc⟩ := h.at_ hk
  exact ⟨ad, e, hb, hl, by have := hc 0 _ rfl; simpa [octE] using this⟩
theorem octs_set (l : List UInt8) (j : Nat) (b : UInt8) : octE.encs (l.set j b) = (octE.encs l).set j (.int .u8 (b.toNat : Int)) := by
  induction l generalizing j with
  | nil => rfl
  | cons x l ih =>
    cases j with
    | zero => rfl
    | succ j => rw [List.set_cons_succ, octE.encs_cons, octE.encs_cons, ih]; rfl
/-- 's[k:]' -/
theorem Rd.octs_from (h : Rd octE w B A n c l) {k m : Nat} (hk : k + m = n) : Rd octE w B (if c = k then A else Option.map (fun x => x.add k) A) m (c - k) (l.drop k) := by
  have := h.from_ (k := k) (by omega)
  rw [show n - k = m by omega] at this
  simpa [octE] using this
/-- one octet in a new block, as 'append(s, x)' lays it -/
theorem Rd.one (w : World) (x : Int) (h0 : 0 ≤ x) (h1 : x < 256) :
    Rd octE (w.alloc (.cells #[.int .u8 x] 5)) (w.heap.size + 1) (some ⟨w.heap.size, 0, none⟩) 1 1 [UInt8.ofNat x.toNat] := by
  have e : ((x.toNat % 256 : Nat) : Int) = x := by omega
  have := (Own.built (E := octE) (base := w.heap.size) w [UInt8.ofNat x.toNat] #[.int .u8 x] (by simp [Elem.encs, octE, e]) (by unfold maxLen; simp) rfl (Nat.le_refl _)).rd
  rw [World.size_alloc] at this
  exact this
end
/-- the append of octets: one byte each -/
theorem app_oct {w : World} {ops : Array Oper} {rest : List Oper} {o : Oper} {a : Act} {Q : Exit → Act → World → Prop} (hgd : o.guard = none) (s x : Operand)
    (ho : o.op = .call { callee := .builtin .append, args := #[s, x], argTypes := #[22, 22] })
    (base : Nat) (A : Option Addr) (n c : Nat) (l : List UInt8) (B : Nat) (X : Option Addr) (nx cx : Nat) (l2 : List UInt8)
    (hs : a.eval s = .slice A n c) (hx : a.eval x = .slice X nx cx)
    (hown : Own octE w base A n c l) (hr : Rd octE w B X nx cx l2) (hlen : n + nx ≤ 140737488355328) (hbase : base ≤ w.heap.size)
    (h : ∀ A' c' w', Own octE w' base A' (n + nx) c' (l ++ l2) → w.grownBy w' (blk A) → (blk A' = blk A ∨ blk A' = some w.heap.size) → wpList Try.prog ops Q rest (a.put o.dst (.slice A' (n + nx) c')) w') :
    wpList Try.prog ops Q (o :: rest) a w :=
  app hgd octE s x ho base A n c l B X nx cx l2 hs hx hown hr (by omega) (by show _ * 1 ≤ _; omega) hbase h

/-- the text of octets -/
def txt (l : List UInt8) : ByteArray := ⟨l.toArray⟩
theorem txt_inj {a b : List UInt8} (h : txt a = txt b) : a = b := by
  have := congrArg (fun t : ByteArray => t.data.toList) h
  simpa [txt] using this
theorem txt_eq (a b : List UInt8) : (txt a == txt b) = decide (a = b) := by
  have h : (txt a == txt b) = (a.toArray == b.toArray) := rfl
  rw [h, Bool.eq_iff_iff, beq_iff_eq, decide_eq_true_eq]
  simp
theorem txt_ne (a b : List UInt8) : (txt a != txt b) = !decide (a = b) := by rw [bne, txt_eq]
theorem txt_toList (l : List UInt8) : (txt l).toList = l := by
  rw [ByteArray.toList_eq]; rfl
/-- 'string(b)' -/
theorem str_rd {w : World} {B : Nat} {A : Option Addr} {n c : Nat} {l : List UInt8} (h : Rd octE w B A n c l) :
    (convert 22 9 (.slice A n c)).run Try.prog w = .ok (.string (txt l)) w := by
  obtain ⟨rfl, h2, h3, h4⟩ := h
  rcases A with _ | ad
  · have hl : l = [] := by
      rcases Nat.eq_zero_or_pos l.length with h0 | h0
      · exact List.eq_nil_of_length_eq_zero h0
      · obtain ⟨ad, e, _⟩ := h4.2 h0; cases e
    subst hl
    exact run_convert_bytes_nil w 22 5 Try.underlying22 Try.underlying5 _ _ 9 Try.underlying9
  · have hx : (loadCells ad l.length).run Try.prog w = .ok ((l.map fun b : UInt8 => (b.toNat : Int)).map (Value.int .u8)).toArray w := by
      have := run_loadCells_list (P := Try.prog) w ad ((l.map fun b : UInt8 => (b.toNat : Int)).map (Value.int .u8)) (fun j v hj => by
        have hjl : j < l.length := by
          rcases Nat.lt_or_ge j l.length with h | h
          · exact h
          · rw [List.getElem?_eq_none (show ((l.map fun b : UInt8 => (b.toNat : Int)).map (Value.int .u8)).length ≤ j by simpa using h)] at hj
            cases hj
        obtain ⟨ad', e, _, hl, hc⟩ := Rd.oct (l := l) (w := w) (B := B) (A := some ad) (n := l.length) (c := c) ⟨rfl, h2, h3, h4⟩ hjl
        injection e with e
        subst e
        rw [hc]
        simp [hjl] at hj
        rw [hj])
      simpa using this
    rw [run_convert_bytes_string w 22 9 5 _ l.length c Try.underlying22 Try.underlying5 Try.underlying9, run_bytesToString w _ l.length c _ hx, foldl_push_bytes]
    have e : ((l.map fun b : UInt8 => (b.toNat : Int)).map fun n : Int => UInt8.ofNat n.toNat) = l := by
      rw [List.map_map]
      conv => rhs; rw [← List.map_id l]
      apply List.map_congr_left
      intro b _
      apply UInt8.toNat_inj.1
      simp
    rw [e]
    simp [txt, ByteArray.empty, ByteArray.emptyWithCapacity]
    rfl

/-! ### a slice of slices -/
section
variable {α : Type} {E : Elem α}
def RdS (E : Elem α) (w : World) (B : Nat) (A : Option Addr) (n c : Nat) (ls : List (List α)) : Prop :=
  n = ls.length ∧ n ≤ c ∧ c ≤ maxLen ∧ (0 < n → ∃ ad, A = some ad ∧ ad.block < B ∧ ∀ k (_ : k < ls.length), ∃ X nx cx, w.cell? (ad.add k) = some (.slice X nx cx) ∧ Rd E w B X nx cx ls[k])
variable {w w' : World} {B B' : Nat} {A : Option Addr} {n c : Nat} {ls : List (List α)}
theorem RdS.len (h : RdS E w B A n c ls) : n = ls.length := h.1
theorem RdS.cap (h : RdS E w B A n c ls) : n ≤ c ∧ c ≤ maxLen := ⟨h.2.1, h.2.2.1⟩
theorem RdS.nil (w : World) (B : Nat) : RdS E w B none 0 0 [] := ⟨rfl, Nat.le_refl _, Nat.zero_le _, fun h => absurd h (by omega)⟩
theorem RdS.at_ (h : RdS E w B A n c ls) {k : Nat} (hk : k < n) : ∃ ad, A = some ad ∧ ad.block < B ∧ ∃ hl : k < ls.length, ∃ X nx cx, w.cell? (ad.add k) = some (.slice X nx cx) ∧ Rd E w B X nx cx ls[k] := by
  obtain ⟨ad, e, hb, hc⟩ := h.2.2.2 (by omega)
  have hl : k < ls.length := by have := h.1; omega
  exact ⟨ad, e, hb, hl, hc k hl⟩
theorem RdS.keep (h : RdS E w B A n c ls) (hk : ∀ p : Addr, p.block < B → w'.cell? p = w.cell? p) : RdS E w' B A n c ls := by
  obtain ⟨h1, h2, h3, h4⟩ := h
  refine ⟨h1, h2, h3, fun hn => ?_⟩
  obtain ⟨ad, e, hb, hc⟩ := h4 hn
  refine ⟨ad, e, hb, fun k hl => ?_⟩
  obtain ⟨X, nx, cx, h5, h6⟩ := hc k hl
  exact ⟨X, nx, cx, (hk _ (by rw [block_of_add]; exact hb)).trans h5, h6.of fun h => h.keep hk⟩
theorem RdS.below (h : RdS E w B A n c ls) (hb : Below B w w') : RdS E w' B A n c ls := h.keep fun _ hp => hb.cell hp
theorem RdS.more (h : RdS E w B A n c ls) (hB : B ≤ B') : RdS E w B' A n c ls := by
  obtain ⟨h1, h2, h3, h4⟩ := h
  refine ⟨h1, h2, h3, fun hn => ?_⟩
  obtain ⟨ad, e, hb, hc⟩ := h4 hn
  refine ⟨ad, e, by omega, fun k hl => ?_⟩
  obtain ⟨X, nx, cx, h5, h6⟩ := hc k hl
  exact ⟨X, nx, cx, h5, h6.more hB⟩
theorem RdS.alloc (h : RdS E w B A n c ls) (hB : B ≤ w.heap.size) (o : Obj) : RdS E (w.alloc o) B A n c ls := h.keep fun p hp => World.cell?_alloc_lt w o p (by omega)
/-- one slice in a new block -/
theorem RdS.one {X : Option Addr} {nx cx : Nat} {l : List α} (h : Rd E w B X nx cx l) (hB : B ≤ w.heap.size) (t : TypeId) {b : Nat} (hb : b = w.heap.size) :
    RdS E (w.alloc (.cells #[.slice X nx cx] t)) (b + 1) (some ⟨b, 0, none⟩) 1 1 [l] := by
  subst hb
  refine ⟨rfl, Nat.le_refl _, by unfold maxLen; omega, fun _ => ⟨_, rfl, by simp, fun k hk => ?_⟩⟩
  have hk0 : k = 0 := by simpa using hk
  subst hk0
  exact ⟨X, nx, cx, by show (w.alloc _).cell? ⟨w.heap.size, 0, none⟩ = _; rw [World.cell?_alloc_new]; rfl, (h.alloc hB _).more (by omega)⟩
end

/-! ### endings -/
theorem ret_int {k : IntKind} {a b : Int} (h : a = b) : Ending.returned (.int k a) = .returned (.int k b) := by rw [h]
theorem val_int {k : IntKind} {a b : Int} (h : a = b) : Value.int k a = Value.int k b := by rw [h]
theorem val_nat {k : IntKind} {a b : Nat} (h : a = b) : Value.int k (a : Int) = Value.int k (b : Int) := by rw [h]
theorem ret_bool {a b : Bool} (h : a = b) : Ending.returned (.bool a) = .returned (.bool b) := by rw [h]
end Go.Proofs.Ytihblcljkndpgaa.Mem
