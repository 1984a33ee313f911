/- The structs of tools/api.spec among the arguments, opened (printed by tools/structs.py). -/
import Derived.Test.YtihblcljkndpgaaOpnS
namespace Go.Proofs.Ytihblcljkndpgaa.Sep
open Go.RowKit Go.Proofs.Ytihblcljkndpgaa.Reg Go.ChangeShapes Go.WideShapes Go.ChangeAt Go.Deep Go.Proofs.Ytihblcljkndpgaa.Open
open Go.Proofs.Ytihblcljkndpgaa.Mem hiding Rd Own
set_option maxRecDepth 100000
section
variable {H : Type} {enc : TypeId × Value → H} {W : World}
theorem idnT_dec : ∀ n cs y, cs.length = idnT.size → DataW.trod enc Try.prog W 0 (fun _ => true) true n idnT.tid cs = some y → ∃ x, cs = idnT.enc x ∧ (fun _ x => x.ok : DataW H → Idn → Prop) y.1 x := by
  intro n cs y hl h
  match cs, hl with
  | [c0, c1], _ =>
    obtain ⟨n', hf⟩ := trod_flds Try.underlying28 h
    obtain ⟨z0, h0⟩ := hf 0 _ [c0] 1 rfl (by kernel_rfl) rfl
    obtain ⟨i0, rfl, w0⟩ := fld_int (k := .i64) (by kernel_rfl) h0
    obtain ⟨z1, h1⟩ := hf 1 _ [c1] 1 rfl (by kernel_rfl) rfl
    obtain ⟨i1, rfl, w1⟩ := fld_int (k := .i64) (by kernel_rfl) h1
    exact ⟨⟨i0, i1⟩, rfl, bounds_i64 w0, bounds_i64 w1⟩
theorem open_idnT {v : Value} {d : DataW H} {p : List MemPlace} {base : Nat} (hv : Value.okWide Try.prog W .any base 28 v) (h : DataW.Trod enc Try.prog W 0 (fun _ => true) true 28 v d p) : ∃ x : Idn, v = .agg x.cs.toArray ∧ x.ok := open_one idnT (fun _ x => x.ok) (by kernel_rfl) idnT_dec Try.underlying28 hv h
theorem chgT_dec : ∀ n cs y, cs.length = chgT.size → DataW.trod enc Try.prog W 0 (fun _ => true) true n chgT.tid cs = some y → ∃ x, cs = chgT.enc x ∧ (fun _ x => x.ok : DataW H → Chg → Prop) y.1 x := by
  intro n cs y hl h
  match cs, hl with
  | [c0, c1, c2, c3, c4, c5, c6, c7, c8], _ =>
    obtain ⟨n', hf⟩ := trod_flds Try.underlying50 h
    obtain ⟨z0, h0⟩ := hf 0 _ [c0, c1] 2 rfl (by kernel_rfl) rfl
    obtain ⟨i0, e0, w0⟩ := idnT_dec _ _ _ rfl h0
    change _ = i0.cs at e0
    simp only [Idn.cs, List.cons.injEq, and_true] at e0
    obtain ⟨rfl, rfl⟩ := e0
    obtain ⟨z1, h1⟩ := hf 1 _ [c2] 1 rfl (by kernel_rfl) rfl
    obtain ⟨i1, rfl, w1⟩ := fld_int (k := .i64) (by kernel_rfl) h1
    obtain ⟨z2, h2⟩ := hf 2 _ [c3] 1 rfl (by kernel_rfl) rfl
    obtain ⟨i2, rfl, w2⟩ := fld_int (k := .i64) (by kernel_rfl) h2
    obtain ⟨z3, h3⟩ := hf 3 _ [c4] 1 rfl (by kernel_rfl) rfl
    obtain ⟨i3, rfl, w3⟩ := fld_int (k := .i64) (by kernel_rfl) h3
    obtain ⟨z4, h4⟩ := hf 4 _ [c5] 1 rfl (by kernel_rfl) rfl
    obtain ⟨i4, rfl, w4⟩ := fld_int (k := .i64) (by kernel_rfl) h4
    obtain ⟨z5, h5⟩ := hf 5 _ [c6] 1 rfl (by kernel_rfl) rfl
    obtain ⟨i5, rfl, w5⟩ := fld_int (k := .i64) (by kernel_rfl) h5
    obtain ⟨z6, h6⟩ := hf 6 _ [c7, c8] 2 rfl (by kernel_rfl) rfl
    obtain ⟨i6, e6, w6⟩ := idnT_dec _ _ _ rfl h6
    change _ = i6.cs at e6
    simp only [Idn.cs, List.cons.injEq, and_true] at e6
    obtain ⟨rfl, rfl⟩ := e6
    exact ⟨⟨i0, i1, i2, i3, i4, i5, i6⟩, rfl, w0, bounds_i64 w1, bounds_i64 w2, bounds_i64 w3, bounds_i64 w4, bounds_i64 w5, w6⟩
theorem open_chgT {v : Value} {d : DataW H} {p : List MemPlace} {base : Nat} (hv : Value.okWide Try.prog W .any base 50 v) (h : DataW.Trod enc Try.prog W 0 (fun _ => true) true 50 v d p) : ∃ x : Chg, v = .agg x.cs.toArray ∧ x.ok := open_one chgT (fun _ x => x.ok) (by kernel_rfl) chgT_dec Try.underlying50 hv h
theorem open_chgTs {v : Value} {d : DataW H} {p : List MemPlace} {base : Nat} (hv : Value.okWide Try.prog W .any base 26 v) (h : DataW.Trod enc Try.prog W 0 (fun _ => true) true 26 v d p) :
    ∃ A n c l, v = .slice A n c ∧ Rd (top W) chgT A n c l ∧ Sh (fun _ x => x.ok) d l c := open_val chgT (fun _ x => x.ok) (by kernel_rfl) chgT_dec Try.underlying26 hv h
end
end Go.Proofs.Ytihblcljkndpgaa.Sep
