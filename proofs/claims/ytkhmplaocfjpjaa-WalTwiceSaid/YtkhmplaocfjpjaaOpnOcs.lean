/- A slice of slices of octets among the arguments, opened. -/
import Derived.Test.YtkhmplaocfjpjaaOpn
import Derived.Test.YtkhmplaocfjpjaaOcs
namespace Go.Proofs.Ytkhmplaocfjpjaa.Sep
open Go.RowKit Go.Proofs.Ytkhmplaocfjpjaa.Reg Go.ChangeShapes Go.WideShapes Go.ChangeAt Go.Deep Go.Proofs.Ytkhmplaocfjpjaa.Open
open Go.Proofs.Ytkhmplaocfjpjaa.Mem hiding Rd Own
set_option maxRecDepth 100000
section
variable {H : Type} {enc : TypeId × Value → H} {W : World}
theorem dec_slT : ∀ n cs y, cs.length = slT.size → DataW.trod enc Try.prog W 0 (fun _ => true) true n slT.tid cs = some y → ∃ b, cs = slT.enc b ∧ (fun _ x => Rd (top W) octT x.A x.n x.c x.b : DataW H → Oc → Prop) y.1 b := by
  intro n cs y hl h
  match cs, hl with
  | [v], _ =>
    obtain ⟨A, k, c, l, rfl, hr⟩ := fld_octs h
    exact ⟨⟨A, k, c, l⟩, rfl, hr⟩
theorem open_slT {v : Value} {d : DataW H} {p : List MemPlace} {base : Nat} (hv : Value.okWide Try.prog W .any base 75 v) (h : DataW.Trod enc Try.prog W 0 (fun _ => true) true 75 v d p) :
    ∃ A n c l, v = .slice A n c ∧ Rd (top W) slT A n c l ∧ Sh (fun _ x => Rd (top W) octT x.A x.n x.c x.b) d l c := open_val slT _ (by kernel_rfl) dec_slT Try.underlying75 hv h
end
end Go.Proofs.Ytkhmplaocfjpjaa.Sep
