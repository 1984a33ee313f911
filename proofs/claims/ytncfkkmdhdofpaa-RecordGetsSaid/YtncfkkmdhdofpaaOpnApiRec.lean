/- The structs of tools/record.spec among the arguments, opened (printed by tools/structs.py). -/
import Derived.Test.YtncfkkmdhdofpaaOpnApi
import Derived.Test.YtncfkkmdhdofpaaApiRec
namespace Go.Proofs.Ytncfkkmdhdofpaa.Sep
open Go.RowKit Go.Proofs.Ytncfkkmdhdofpaa.Reg Go.ChangeShapes Go.WideShapes Go.ChangeAt Go.Deep Go.Proofs.Ytncfkkmdhdofpaa.Open
open Go.Proofs.Ytncfkkmdhdofpaa.Mem hiding Rd Own
set_option maxRecDepth 100000
section
variable {H : Type} {enc : TypeId × Value → H} {W : World}
theorem keyT_dec : ∀ n cs y, cs.length = keyT.size → DataW.trod enc Try.prog W 0 (fun _ => true) true n keyT.tid cs = some y → ∃ x, cs = keyT.enc x ∧ (fun _ x => x.ok : DataW H → Keyv → Prop) y.1 x := by
  intro n cs y hl h
  match cs, hl with
  | [c0, c1, c2, c3], _ =>
    obtain ⟨n', hf⟩ := trod_flds Try.underlying71 h
    obtain ⟨z0, h0⟩ := hf 0 _ [c0, c1] 2 rfl (by kernel_rfl) rfl
    obtain ⟨i0, e0, w0⟩ := idnT_dec _ _ _ rfl h0
    change _ = i0.cs at e0
    simp only [Idn.cs, List.cons.injEq, and_true] at e0
    obtain ⟨rfl, rfl⟩ := e0
    obtain ⟨z1, h1⟩ := hf 1 _ [c2] 1 rfl (by kernel_rfl) rfl
    obtain ⟨i1, rfl, w1⟩ := fld_int (k := .i64) (by kernel_rfl) h1
    obtain ⟨z2, h2⟩ := hf 2 _ [c3] 1 rfl (by kernel_rfl) rfl
    obtain ⟨i2, rfl⟩ := fld_bool (by kernel_rfl) h2
    exact ⟨⟨i0, i1, i2⟩, rfl, w0, bounds_i64 w1⟩
theorem open_keyT {v : Value} {d : DataW H} {p : List MemPlace} {base : Nat} (hv : Value.okWide Try.prog W .any base 71 v) (h : DataW.Trod enc Try.prog W 0 (fun _ => true) true 71 v d p) : ∃ x : Keyv, v = .agg x.cs.toArray ∧ x.ok := open_one keyT (fun _ x => x.ok) (by kernel_rfl) keyT_dec Try.underlying71 hv h
theorem rcdT_dec : ∀ n cs y, cs.length = rcdT.size → DataW.trod enc Try.prog W 0 (fun _ => true) true n rcdT.tid cs = some y → ∃ x, cs = rcdT.enc x ∧ (fun _ x => x.ok : DataW H → Rcd → Prop) y.1 x := by
  intro n cs y hl h
  match cs, hl with
  | [c0, c1, c2, c3, c4, c5, c6, c7, c8, c9, c10, c11, c12, c13, c14, c15, c16], _ =>
    obtain ⟨n', hf⟩ := trod_flds Try.underlying73 h
    obtain ⟨z0, h0⟩ := hf 0 _ [c0] 1 rfl (by kernel_rfl) rfl
    obtain ⟨i0, rfl, w0⟩ := fld_int (k := .i64) (by kernel_rfl) h0
    obtain ⟨z1, h1⟩ := hf 1 _ [c1, c2, c3, c4, c5, c6, c7, c8, c9] 9 rfl (by kernel_rfl) rfl
    obtain ⟨i1, e1, w1⟩ := chgT_dec _ _ _ rfl h1
    change _ = i1.cs at e1
    simp only [Chg.cs, List.cons.injEq, and_true] at e1
    obtain ⟨rfl, rfl, rfl, rfl, rfl, rfl, rfl, rfl, rfl⟩ := e1
    obtain ⟨z2, h2⟩ := hf 2 _ [c10, c11] 2 rfl (by kernel_rfl) rfl
    obtain ⟨i2, e2, w2⟩ := idnT_dec _ _ _ rfl h2
    change _ = i2.cs at e2
    simp only [Idn.cs, List.cons.injEq, and_true] at e2
    obtain ⟨rfl, rfl⟩ := e2
    obtain ⟨z3, h3⟩ := hf 3 _ [c12, c13, c14, c15] 4 rfl (by kernel_rfl) rfl
    obtain ⟨i3, e3, w3⟩ := keyT_dec _ _ _ rfl h3
    change _ = i3.cs at e3
    simp only [Keyv.cs, List.cons.injEq, and_true] at e3
    obtain ⟨rfl, rfl, rfl, rfl⟩ := e3
    obtain ⟨z4, h4⟩ := hf 4 _ [c16] 1 rfl (by kernel_rfl) rfl
    obtain ⟨i4, rfl, w4⟩ := fld_int (k := .i64) (by kernel_rfl) h4
    exact ⟨⟨i0, i1, i2, i3, i4⟩, rfl, bounds_i64 w0, w1, w2, w3, bounds_i64 w4⟩
theorem open_rcdT {v : Value} {d : DataW H} {p : List MemPlace} {base : Nat} (hv : Value.okWide Try.prog W .any base 73 v) (h : DataW.Trod enc Try.prog W 0 (fun _ => true) true 73 v d p) : ∃ x : Rcd, v = .agg x.cs.toArray ∧ x.ok := open_one rcdT (fun _ x => x.ok) (by kernel_rfl) rcdT_dec Try.underlying73 hv h
theorem rcrT_dec : ∀ n cs y, cs.length = rcrT.size → DataW.trod enc Try.prog W 0 (fun _ => true) true n rcrT.tid cs = some y → ∃ x, cs = rcrT.enc x ∧ (fun _ x => x.ok : DataW H → Rcd → Prop) y.1 x := by
  intro n cs y hl h
  match cs, hl with
  | [c0, c1, c2, c3, c4, c5, c6, c7, c8, c9, c10, c11, c12, c13, c14, c15, c16], _ =>
    obtain ⟨n', hf⟩ := trod_flds Try.underlying76 h
    obtain ⟨z0, h0⟩ := hf 0 _ [c0] 1 rfl (by kernel_rfl) rfl
    obtain ⟨i0, rfl, w0⟩ := fld_int (k := .i64) (by kernel_rfl) h0
    obtain ⟨z1, h1⟩ := hf 1 _ [c1, c2, c3, c4, c5, c6, c7, c8, c9] 9 rfl (by kernel_rfl) rfl
    obtain ⟨i1, e1, w1⟩ := chgT_dec _ _ _ rfl h1
    change _ = i1.cs at e1
    simp only [Chg.cs, List.cons.injEq, and_true] at e1
    obtain ⟨rfl, rfl, rfl, rfl, rfl, rfl, rfl, rfl, rfl⟩ := e1
    obtain ⟨z2, h2⟩ := hf 2 _ [c10, c11] 2 rfl (by kernel_rfl) rfl
    obtain ⟨i2, e2, w2⟩ := idnT_dec _ _ _ rfl h2
    change _ = i2.cs at e2
    simp only [Idn.cs, List.cons.injEq, and_true] at e2
    obtain ⟨rfl, rfl⟩ := e2
    obtain ⟨z3, h3⟩ := hf 3 _ [c12, c13, c14, c15] 4 rfl (by kernel_rfl) rfl
    obtain ⟨i3, e3, w3⟩ := keyT_dec _ _ _ rfl h3
    change _ = i3.cs at e3
    simp only [Keyv.cs, List.cons.injEq, and_true] at e3
    obtain ⟨rfl, rfl, rfl, rfl⟩ := e3
    obtain ⟨z4, h4⟩ := hf 4 _ [c16] 1 rfl (by kernel_rfl) rfl
    obtain ⟨i4, rfl, w4⟩ := fld_int (k := .i64) (by kernel_rfl) h4
    exact ⟨⟨i0, i1, i2, i3, i4⟩, rfl, bounds_i64 w0, w1, w2, w3, bounds_i64 w4⟩
theorem open_rcrT {v : Value} {d : DataW H} {p : List MemPlace} {base : Nat} (hv : Value.okWide Try.prog W .any base 76 v) (h : DataW.Trod enc Try.prog W 0 (fun _ => true) true 76 v d p) : ∃ x : Rcd, v = .agg x.cs.toArray ∧ x.ok := open_one rcrT (fun _ x => x.ok) (by kernel_rfl) rcrT_dec Try.underlying76 hv h
end
end Go.Proofs.Ytncfkkmdhdofpaa.Sep
