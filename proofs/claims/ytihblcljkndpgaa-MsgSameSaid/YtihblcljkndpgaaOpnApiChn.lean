/- The structs of tools/chain.spec among the arguments, opened (printed by tools/structs.py). -/
import Derived.Test.YtihblcljkndpgaaOpnApiEnt
import Derived.Test.YtihblcljkndpgaaApiChn
namespace Go.Proofs.Ytihblcljkndpgaa.Sep
open Go.RowKit Go.Proofs.Ytihblcljkndpgaa.Reg Go.ChangeShapes Go.WideShapes Go.ChangeAt Go.Deep Go.Proofs.Ytihblcljkndpgaa.Open
open Go.Proofs.Ytihblcljkndpgaa.Mem hiding Rd Own
set_option maxRecDepth 100000
section
variable {H : Type} {enc : TypeId × Value → H} {W : World}
theorem keyT_dec : ∀ n cs y, cs.length = keyT.size → DataW.trod enc Try.prog W 0 (fun _ => true) true n keyT.tid cs = some y → ∃ x, cs = keyT.enc x ∧ (fun _ x => x.ok : DataW H → Keyv → Prop) y.1 x := by
  intro n cs y hl h
  match cs, hl with
  | [c0, c1, c2, c3], _ =>
    obtain ⟨n', hf⟩ := trod_flds Try.underlying30 h
    obtain ⟨z0, h0⟩ := hf 0 _ [c0, c1] 2 rfl (by kernel_rfl) rfl
    obtain ⟨i0, e0, w0⟩ := idnT_dec _ _ _ rfl h0
    change _ = i0.cs at e0
    simp only [Idn.cs, List.cons.injEq, and_true] at e0
    obtain ⟨rfl, rfl⟩ := e0
    obtain ⟨z1, h1⟩ := hf 1 _ [c2] 1 rfl (by kernel_rfl) rfl
    obtain ⟨i1, rfl, w1⟩ := fld_int (k := .i64) (by kernel_rfl) h1
    obtain ⟨z2, h2⟩ := hf 2 _ [c3] 1 rfl (by kernel_rfl) rfl
    obtain ⟨i2, rfl⟩ := fld_bool (by kernel_rfl) h2
    exact ⟨⟨i0, i1, i2⟩, rfl, w0, bounds_i64 w1⟩
theorem open_keyT {v : Value} {d : DataW H} {p : List MemPlace} {base : Nat} (hv : Value.okWide Try.prog W .any base 30 v) (h : DataW.Trod enc Try.prog W 0 (fun _ => true) true 30 v d p) : ∃ x : Keyv, v = .agg x.cs.toArray ∧ x.ok := open_one keyT (fun _ x => x.ok) (by kernel_rfl) keyT_dec Try.underlying30 hv h
end
end Go.Proofs.Ytihblcljkndpgaa.Sep
