/- The structs of tools/code.spec among the arguments, opened (printed by tools/structs.py). -/
import Derived.Test.YtncfkkmdhdofpaaOpnApi
import Derived.Test.YtncfkkmdhdofpaaApiCode
namespace Go.Proofs.Ytncfkkmdhdofpaa.Sep
open Go.RowKit Go.Proofs.Ytncfkkmdhdofpaa.Reg Go.ChangeShapes Go.WideShapes Go.ChangeAt Go.Deep Go.Proofs.Ytncfkkmdhdofpaa.Open
open Go.Proofs.Ytncfkkmdhdofpaa.Mem hiding Rd Own
set_option maxRecDepth 100000
section
variable {H : Type} {enc : TypeId × Value → H} {W : World}
theorem stpT_dec : ∀ n cs y, cs.length = stpT.size → DataW.trod enc Try.prog W 0 (fun _ => true) true n stpT.tid cs = some y → ∃ x, cs = stpT.enc x ∧ (fun _ x => x.ok : DataW H → Stpv → Prop) y.1 x := by
  intro n cs y hl h
  match cs, hl with
  | [c0, c1, c2, c3, c4, c5, c6, c7, c8, c9, c10, c11, c12], _ =>
    obtain ⟨n', hf⟩ := trod_flds Try.underlying40 h
    obtain ⟨z0, h0⟩ := hf 0 _ [c0] 1 rfl (by kernel_rfl) rfl
    obtain ⟨i0, rfl, w0⟩ := fld_int (k := .i64) (by kernel_rfl) h0
    obtain ⟨z1, h1⟩ := hf 1 _ [c1] 1 rfl (by kernel_rfl) rfl
    obtain ⟨i1, rfl, w1⟩ := fld_int (k := .i64) (by kernel_rfl) h1
    obtain ⟨z2, h2⟩ := hf 2 _ [c2] 1 rfl (by kernel_rfl) rfl
    obtain ⟨i2, rfl, w2⟩ := fld_int (k := .i64) (by kernel_rfl) h2
    obtain ⟨z3, h3⟩ := hf 3 _ [c3] 1 rfl (by kernel_rfl) rfl
    obtain ⟨i3, rfl, w3⟩ := fld_int (k := .i64) (by kernel_rfl) h3
    obtain ⟨z4, h4⟩ := hf 4 _ [c4, c5, c6, c7, c8, c9, c10, c11, c12] 9 rfl (by kernel_rfl) rfl
    obtain ⟨i4, e4, w4⟩ := chgT_dec _ _ _ rfl h4
    change _ = i4.cs at e4
    simp only [Chg.cs, List.cons.injEq, and_true] at e4
    obtain ⟨rfl, rfl, rfl, rfl, rfl, rfl, rfl, rfl, rfl⟩ := e4
    exact ⟨⟨i0, i1, i2, i3, i4⟩, rfl, bounds_i64 w0, bounds_i64 w1, bounds_i64 w2, bounds_i64 w3, w4⟩
theorem open_stpT {v : Value} {d : DataW H} {p : List MemPlace} {base : Nat} (hv : Value.okWide Try.prog W .any base 40 v) (h : DataW.Trod enc Try.prog W 0 (fun _ => true) true 40 v d p) : ∃ x : Stpv, v = .agg x.cs.toArray ∧ x.ok := open_one stpT (fun _ x => x.ok) (by kernel_rfl) stpT_dec Try.underlying40 hv h
theorem open_stpTs {v : Value} {d : DataW H} {p : List MemPlace} {base : Nat} (hv : Value.okWide Try.prog W .any base 63 v) (h : DataW.Trod enc Try.prog W 0 (fun _ => true) true 63 v d p) :
    ∃ A n c l, v = .slice A n c ∧ Rd (top W) stpT A n c l ∧ Sh (fun _ x => x.ok) d l c := open_val stpT (fun _ x => x.ok) (by kernel_rfl) stpT_dec Try.underlying63 hv h
theorem ansT_dec : ∀ n cs y, cs.length = ansT.size → DataW.trod enc Try.prog W 0 (fun _ => true) true n ansT.tid cs = some y → ∃ x, cs = ansT.enc x ∧ (fun _ x => x.ok : DataW H → Ans → Prop) y.1 x := by
  intro n cs y hl h
  match cs, hl with
  | [c0, c1, c2], _ =>
    obtain ⟨n', hf⟩ := trod_flds Try.underlying50 h
    obtain ⟨z0, h0⟩ := hf 0 _ [c0] 1 rfl (by kernel_rfl) rfl
    obtain ⟨i0, rfl, w0⟩ := fld_int (k := .i64) (by kernel_rfl) h0
    obtain ⟨z1, h1⟩ := hf 1 _ [c1] 1 rfl (by kernel_rfl) rfl
    obtain ⟨i1, rfl, w1⟩ := fld_int (k := .i64) (by kernel_rfl) h1
    obtain ⟨z2, h2⟩ := hf 2 _ [c2] 1 rfl (by kernel_rfl) rfl
    obtain ⟨i2, rfl, w2⟩ := fld_int (k := .i64) (by kernel_rfl) h2
    exact ⟨⟨i0, i1, i2⟩, rfl, bounds_i64 w0, bounds_i64 w1, bounds_i64 w2⟩
theorem open_ansT {v : Value} {d : DataW H} {p : List MemPlace} {base : Nat} (hv : Value.okWide Try.prog W .any base 50 v) (h : DataW.Trod enc Try.prog W 0 (fun _ => true) true 50 v d p) : ∃ x : Ans, v = .agg x.cs.toArray ∧ x.ok := open_one ansT (fun _ x => x.ok) (by kernel_rfl) ansT_dec Try.underlying50 hv h
end
end Go.Proofs.Ytncfkkmdhdofpaa.Sep
