/- The arguments of the disk's laws, opened. -/
import Derived.Test.YtbnfpmdieiknmaaOpn
import Derived.Test.YtbnfpmdieiknmaaLw11b
namespace Go.Proofs.Ytbnfpmdieiknmaa.Sep
open Go.RowKit Go.Proofs.Ytbnfpmdieiknmaa.Reg Go.ChangeShapes Go.WideShapes Go.ChangeAt Go.Deep Go.Proofs.Ytbnfpmdieiknmaa.Open
open Go.Proofs.Ytbnfpmdieiknmaa.Mem hiding Rd Own
set_option maxRecDepth 100000
section
variable {H : Type} {enc : TypeId × Value → H} {W : World}
def Is11 (W : World) (x : Op11) : Prop := x.2.2.1 ≤ 9223372036854775807 ∧ ∃ b, Rd (top W) octT x.2.2.2.1 x.2.2.2.2.1 x.2.2.2.2.2 b
theorem dec_op11T : ∀ n cs y, cs.length = op11T.size → DataW.trod enc Try.prog W 0 (fun _ => true) true n op11T.tid cs = some y → ∃ b, cs = op11T.enc b ∧ (fun _ b => Is11 W b : DataW H → Op11 → Prop) y.1 b := by
  intro n cs y hl h
  match cs, hl with
  | [c0, c1, c2, c3], _ =>
    obtain ⟨n', hf⟩ := trod_fields Try.underlying118 (by kernel_rfl) rfl h
    obtain ⟨v0, z0, e0, h0⟩ := hf 0 _ rfl
    obtain ⟨v1, z1, e1, h1⟩ := hf 1 _ rfl
    obtain ⟨v2, z2, e2, h2⟩ := hf 2 _ rfl
    obtain ⟨v3, z3, e3, h3⟩ := hf 3 _ rfl
    injection e0 with e0; injection e1 with e1; injection e2 with e2; injection e3 with e3
    subst e0 e1 e2 e3
    obtain ⟨i0, rfl, _⟩ := fld_int Try.underlying3 h0
    obtain ⟨i1, rfl, _⟩ := fld_int Try.underlying3 h1
    obtain ⟨i2, rfl, w2⟩ := fld_int Try.underlying3 h2
    obtain ⟨A, k, c, l, rfl, hr⟩ := fld_octs h3
    exact ⟨(i0, i1, i2, A, k, c), rfl, (bounds_i64 w2).2, l, hr⟩
theorem open_op11T {v : Value} {d : DataW H} {p : List MemPlace} {base : Nat} (hv : Value.okWide Try.prog W .any base 45 v) (h : DataW.Trod enc Try.prog W 0 (fun _ => true) true 45 v d p) :
    ∃ A n c l, v = .slice A n c ∧ Rd (top W) op11T A n c l ∧ Sh (fun _ b => Is11 W b) d l c := open_val op11T _ (by kernel_rfl) dec_op11T Try.underlying45 hv h
end
end Go.Proofs.Ytbnfpmdieiknmaa.Sep
