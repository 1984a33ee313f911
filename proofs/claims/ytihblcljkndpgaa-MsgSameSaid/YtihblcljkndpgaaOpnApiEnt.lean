/- The structs of tools/entry.spec among the arguments, opened (printed by tools/structs.py). -/
import Derived.Test.YtihblcljkndpgaaOpnApi
import Derived.Test.YtihblcljkndpgaaApiEnt
namespace Go.Proofs.Ytihblcljkndpgaa.Sep
open Go.RowKit Go.Proofs.Ytihblcljkndpgaa.Reg Go.ChangeShapes Go.WideShapes Go.ChangeAt Go.Deep Go.Proofs.Ytihblcljkndpgaa.Open
open Go.Proofs.Ytihblcljkndpgaa.Mem hiding Rd Own
set_option maxRecDepth 100000
section
variable {H : Type} {enc : TypeId × Value → H} {W : World}
theorem effT_dec : ∀ n cs y, cs.length = effT.size → DataW.trod enc Try.prog W 0 (fun _ => true) true n effT.tid cs = some y → ∃ x, cs = effT.enc x ∧ (fun _ x => x.ok : DataW H → Eff → Prop) y.1 x := by
  intro n cs y hl h
  match cs, hl with
  | [c0, c1, c2, c3, c4], _ =>
    obtain ⟨n', hf⟩ := trod_flds Try.underlying32 h
    obtain ⟨z0, h0⟩ := hf 0 _ [c0] 1 rfl (by kernel_rfl) rfl
    obtain ⟨i0, rfl, w0⟩ := fld_int (k := .i64) (by kernel_rfl) h0
    obtain ⟨z1, h1⟩ := hf 1 _ [c1] 1 rfl (by kernel_rfl) rfl
    obtain ⟨i1, rfl, w1⟩ := fld_int (k := .i64) (by kernel_rfl) h1
    obtain ⟨z2, h2⟩ := hf 2 _ [c2] 1 rfl (by kernel_rfl) rfl
    obtain ⟨i2, rfl, w2⟩ := fld_int (k := .i64) (by kernel_rfl) h2
    obtain ⟨z3, h3⟩ := hf 3 _ [c3, c4] 2 rfl (by kernel_rfl) rfl
    obtain ⟨i3, e3, w3⟩ := idnT_dec _ _ _ rfl h3
    change _ = i3.cs at e3
    simp only [Idn.cs, List.cons.injEq, and_true] at e3
    obtain ⟨rfl, rfl⟩ := e3
    exact ⟨⟨i0, i1, i2, i3⟩, rfl, bounds_i64 w0, bounds_i64 w1, bounds_i64 w2, w3⟩
theorem open_effT {v : Value} {d : DataW H} {p : List MemPlace} {base : Nat} (hv : Value.okWide Try.prog W .any base 32 v) (h : DataW.Trod enc Try.prog W 0 (fun _ => true) true 32 v d p) : ∃ x : Eff, v = .agg x.cs.toArray ∧ x.ok := open_one effT (fun _ x => x.ok) (by kernel_rfl) effT_dec Try.underlying32 hv h
end
end Go.Proofs.Ytihblcljkndpgaa.Sep
