/- The structs of tools/api.spec among the arguments, opened (printed by tools/structs.py). -/
import Derived.Test.YtkhmplaocfjpjaaOpnS
namespace Go.Proofs.Ytkhmplaocfjpjaa.Sep
open Go.RowKit Go.Proofs.Ytkhmplaocfjpjaa.Reg Go.ChangeShapes Go.WideShapes Go.ChangeAt Go.Deep Go.Proofs.Ytkhmplaocfjpjaa.Open
open Go.Proofs.Ytkhmplaocfjpjaa.Mem hiding Rd Own
set_option maxRecDepth 100000
section
variable {H : Type} {enc : TypeId × Value → H} {W : World}
theorem idnT_dec : ∀ n cs y, cs.length = idnT.size → DataW.trod enc Try.prog W 0 (fun _ => true) true n idnT.tid cs = some y → ∃ x, cs = idnT.enc x ∧ (fun _ x => x.ok : DataW H → Idn → Prop) y.1 x := by
  intro n cs y hl h
  match cs, hl with
  | [c0, c1], _ =>
    obtain ⟨n', hf⟩ := trod_flds Try.underlying38 h
    obtain ⟨z0, h0⟩ := hf 0 _ [c0] 1 rfl (by kernel_rfl) rfl
    obtain ⟨i0, rfl, w0⟩ := fld_int (k := .i64) (by kernel_rfl) h0
    obtain ⟨z1, h1⟩ := hf 1 _ [c1] 1 rfl (by kernel_rfl) rfl
    obtain ⟨i1, rfl, w1⟩ := fld_int (k := .i64) (by kernel_rfl) h1
    exact ⟨⟨i0, i1⟩, rfl, bounds_i64 w0, bounds_i64 w1⟩
theorem open_idnT {v : Value} {d : DataW H} {p : List MemPlace} {base : Nat} (hv : Value.okWide Try.prog W .any base 38 v) (h : DataW.Trod enc Try.prog W 0 (fun _ => true) true 38 v d p) : ∃ x : Idn, v = .agg x.cs.toArray ∧ x.ok := open_one idnT (fun _ x => x.ok) (by kernel_rfl) idnT_dec Try.underlying38 hv h
end
end Go.Proofs.Ytkhmplaocfjpjaa.Sep
