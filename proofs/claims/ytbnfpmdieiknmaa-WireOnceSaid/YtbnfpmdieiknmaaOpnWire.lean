/- The arguments of the wire's laws, opened. -/
import Derived.Test.YtbnfpmdieiknmaaOpn
import Derived.Test.YtbnfpmdieiknmaaWire4
namespace Go.Proofs.Ytbnfpmdieiknmaa.Sep
open Go.RowKit Go.Proofs.Ytbnfpmdieiknmaa.Reg Go.ChangeShapes Go.WideShapes Go.ChangeAt Go.Deep Go.Proofs.Ytbnfpmdieiknmaa.Open
open Go.Proofs.Ytbnfpmdieiknmaa.Mem hiding Rd Own
set_option maxRecDepth 100000
section
variable {H : Type} {enc : TypeId × Value → H} {W : World}
def In29 (W : World) (x : Op29) : Prop := x.ok ∧ Rd (top W) octT x.A x.m x.c x.b
theorem op29T_dec : ∀ n cs y, cs.length = op29T.size → DataW.trod enc Try.prog W 0 (fun _ => true) true n op29T.tid cs = some y → ∃ b, cs = op29T.enc b ∧ (fun _ b => In29 W b : DataW H → Op29 → Prop) y.1 b := by
  intro n cs y hl h
  match cs, hl with
  | [c0, c1, c2, c3], _ =>
    obtain ⟨n', hf⟩ := trod_fields Try.underlying38 (by kernel_rfl) rfl h
    obtain ⟨v0, z0, e0, h0⟩ := hf 0 _ rfl
    obtain ⟨v1, z1, e1, h1⟩ := hf 1 _ rfl
    obtain ⟨v2, z2, e2, h2⟩ := hf 2 _ rfl
    obtain ⟨v3, z3, e3, h3⟩ := hf 3 _ rfl
    injection e0 with e0; injection e1 with e1; injection e2 with e2; injection e3 with e3
    subst e0 e1 e2 e3
    obtain ⟨i0, rfl, _⟩ := fld_int Try.underlying3 h0
    obtain ⟨i1, rfl, _⟩ := fld_int Try.underlying3 h1
    obtain ⟨i2, rfl, w2⟩ := fld_int Try.underlying3 h2
    obtain ⟨A, k, c, l, rfl, hr⟩ := fld_octs h3
    exact ⟨⟨i0, i1, i2, A, k, c, l⟩, rfl, bounds_i64 w2, hr⟩
theorem open_op29T {v : Value} {d : DataW H} {p : List MemPlace} {base : Nat} (hv : Value.okWide Try.prog W .any base 31 v) (h : DataW.Trod enc Try.prog W 0 (fun _ => true) true 31 v d p) :
    ∃ A n c l, v = .slice A n c ∧ Rd (top W) op29T A n c l ∧ Sh (fun _ b => In29 W b) d l c := open_val op29T _ (by kernel_rfl) op29T_dec Try.underlying31 hv h
theorem Bs.of {l : List Op29} (h : ∀ x ∈ l, In29 W x) : Bs (top W) l := fun x hx => (h x hx).2
theorem oks29 {l : List Op29} (h : ∀ x ∈ l, In29 W x) : ∀ x ∈ l, x.ok := fun x hx => (h x hx).1
end
end Go.Proofs.Ytbnfpmdieiknmaa.Sep
