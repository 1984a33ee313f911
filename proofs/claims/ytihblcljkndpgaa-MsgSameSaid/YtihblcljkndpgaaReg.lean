/- A region that draws its order, whose operations only extend the world: walked in ONE order. No program in sight but its rule on orders. -/
import Derived.Test.YtihblcljkndpgaaMem
namespace Go.Proofs.Ytihblcljkndpgaa.Reg
open Go.RowKit Go.Proofs.Ytihblcljkndpgaa.Mem

/-- u is w with new blocks behind it -/
def Ext (w u : World) : Prop := Below w.heap.size w u
theorem Ext.refl (w : World) : Ext w w := Below.refl _ _
theorem Ext.drew {w u : World} (h : Ext w u) : Ext w u.drew := Below.drew h
theorem Ext.below {w u : World} (h : Ext w u) : Below w.heap.size w u := h
theorem Ext.trans {a b c : World} (h : Ext a b) (k : Ext b c) : Ext a c := Below.trans h (Below.mono k (Below.size h))
theorem Ext.size {a b : World} (h : Ext a b) : a.heap.size ≤ b.heap.size := Below.size h

/-- an operation of a list -/
def nth : List Oper → Nat → Option Oper
  | [], _ => none
  | o :: _, 0 => some o
  | _ :: l, i + 1 => nth l i
theorem nth_eq : ∀ (l : List Oper) (i : Nat), nth l i = l.toArray[i]?
  | [], _ => by simp [nth]
  | o :: l, 0 => by simp [nth]
  | o :: l, i + 1 => by rw [nth, nth_eq l i]; simp

section
variable {P : Program} {ops : Array Oper} {l : List Oper} {Q : Exit → Act → World → Prop} {md : Region.Mode}
theorem more {S S' : World → Prop} (hs : ∀ u, S' u → S u) : ∀ (fuel : Nat) (listed : Array Bool) (a : Act) (w : World), wpAnyH P md ops Q S' fuel listed a w → wpAnyH P md ops Q S fuel listed a w
  | 0, _, _, _, h => h
  | fuel + 1, _, _, _, h => ⟨h.1, fun i hi => wpOp_mono (fun a' w' h' => ⟨hs _ h'.1, more hs fuel _ a' w' h'.2⟩) (h.2 i hi)⟩

theorem start {id : Nat} {a : Act} {w : World} (hm : P.follows .mixedOrders = true)
    (h : Ext w w.drew → wpAnyH P .any ops Q (Ext w) ops.size (Array.replicate ops.size false) a w.drew) : (Code.region id ops true).wp P Q a w :=
  wp_region_held hm (h (Ext.refl w).drew)

/-- an operation that yields in every world behind w is taken -/
theorem take {w : World} (i : Nat) (oi : Oper) {v : Value} {fuel : Nat} {listed : Array Bool} {a : Act} {u : World} (hi : nth l i = some oi)
    (hs : Region.noSelect l.toArray = true) (hf : Region.free md l.toArray listed i = true) (hr : (Region.ready md l.toArray listed).contains i = true)
    (hQ : ∀ c a w, Q (.panic c) (a.put oi.dst v) w → Q (.panic c) a w) (hw : Region.wanted oi (yielded l.toArray a.tmps) = true)
    (hy : ∀ u, Ext w u → (execOp a.eval oi).run P u = .ok (.value v) u) (hS : Ext w u)
    (h : wpAnyH P md l.toArray Q (Ext w) fuel (listed.setIfInBounds i true) (a.put oi.dst v) u) : wpAnyH P md l.toArray Q (Ext w) (fuel + 1) listed a u :=
  wpAnyH_take ((nth_eq l i).symm.trans hi) hs hf hr hQ (.inl ⟨hw, hy⟩) hS h

/-- an operation whose guard is false -/
theorem skip {w : World} (i : Nat) (oi : Oper) {fuel : Nat} {listed : Array Bool} {a : Act} {u : World} (hi : nth l i = some oi)
    (hs : Region.noSelect l.toArray = true) (hf : Region.free md l.toArray listed i = true) (hr : (Region.ready md l.toArray listed).contains i = true)
    (hQ : ∀ c a w, Q (.panic c) (a.put oi.dst undef) w → Q (.panic c) a w) (hw : Region.wanted oi (yielded l.toArray a.tmps) = false) (hS : Ext w u)
    (h : wpAnyH P md l.toArray Q (Ext w) fuel (listed.setIfInBounds i true) (a.put oi.dst undef) u) : wpAnyH P md l.toArray Q (Ext w) (fuel + 1) listed a u :=
  wpAnyH_take ((nth_eq l i).symm.trans hi) hs hf hr hQ (.inr ⟨hw, rfl⟩) hS h

/-- the one operation that may come up: a call, a new block: behind it the world is another one -/
theorem go {w : World} (i : Nat) (oi : Oper) {fuel : Nat} {listed : Array Bool} {a : Act} {u : World} (hr : Region.ready md l.toArray listed = [i]) (hi : nth l i = some oi)
    (hw : Region.wanted oi (yielded l.toArray a.tmps) = true) (hS : Ext w u)
    (h : oi.wp P a u (fun a' w' => Ext u w' ∧ wpAnyH P md l.toArray Q (Ext w') fuel (listed.setIfInBounds i true) a' w') Q) : wpAnyH P md l.toArray Q (Ext w) (fuel + 1) listed a u := by
  refine wpAnyH_all hr (by simp) fun j hj => ?_
  obtain rfl : j = i := by simpa using hj
  have hi' : l.toArray[j]? = some oi := (nth_eq l j).symm.trans hi
  unfold wpOp
  simp only [hi', hw, if_true]
  exact .inl (Oper.wp_mono (fun a' w' ⟨h1, h2⟩ => ⟨hS.trans h1, more (fun u' h3 => (hS.trans h1).trans h3) _ _ _ _ h2⟩) h)

theorem done {w : World} {listed : Array Bool} {a : Act} {u : World} (hr : Region.ready md l.toArray listed = []) (h : Q .normal a u) (fuel : Nat) : wpAnyH P md l.toArray Q (Ext w) fuel listed a u :=
  wpAnyH_done hr h fuel
end
end Go.Proofs.Ytihblcljkndpgaa.Reg
