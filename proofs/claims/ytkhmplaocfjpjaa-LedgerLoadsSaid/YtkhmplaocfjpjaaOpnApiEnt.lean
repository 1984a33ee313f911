/- The structs of tools/entry.spec among the arguments, opened (printed by tools/structs.py). -/
import Derived.Test.YtkhmplaocfjpjaaOpnApi
import Derived.Test.YtkhmplaocfjpjaaApiEnt
namespace Go.Proofs.Ytkhmplaocfjpjaa.Sep
open Go.RowKit Go.Proofs.Ytkhmplaocfjpjaa.Reg Go.ChangeShapes Go.WideShapes Go.ChangeAt Go.Deep Go.Proofs.Ytkhmplaocfjpjaa.Open
open Go.Proofs.Ytkhmplaocfjpjaa.Mem hiding Rd Own
set_option maxRecDepth 100000
section
variable {H : Type} {enc : TypeId × Value → H} {W : World}
theorem effT_dec : ∀ n cs y, cs.length = effT.size → DataW.trod enc Try.prog W 0 (fun _ => true) true n effT.tid cs = some y → ∃ x, cs = effT.enc x ∧ (fun _ x => x.ok : DataW H → Eff → Prop) y.1 x := by
  intro n cs y hl h
  match cs, hl with
  | [c0, c1, c2, c3, c4], _ =>
    obtain ⟨n', hf⟩ := trod_flds Try.underlying47 h
    obtain ⟨z0, h0⟩ := hf 0 _ [c0] 1 rfl (by kernel_rfl) rfl
    obtain ⟨i0, rfl, w0⟩ := fld_int (k := .i64) (by kernel_rfl) h0
    obtain ⟨z1, h1⟩ := hf 1 _ [c1] 1 rfl (by kernel_rfl) rfl
    obtain ⟨i1, rfl, w1⟩ := fld_int (k := .i64) (by kernel_rfl) h1
    obtain ⟨z2, h2⟩ := hf 2 _ [c2] 1 rfl (by kernel_rfl) rfl
    obtain ⟨i2, rfl, w2⟩ := fld_int (k := .i64) (by kernel_rfl) h2
    obtain ⟨z3, h3⟩ := hf 3 _ [c3, c4] 2 rfl (by kernel_rfl) rfl
    obtain ⟨i3, e3, w3⟩ := idnT_dec _ _ _ rfl h3
    change _ = i3.cs at e3
    simp only [Idn.cs, List.cons.injEq, and_true] at e3
    obtain ⟨rfl, rfl⟩ := e3
    exact ⟨⟨i0, i1, i2, i3⟩, rfl, bounds_i64 w0, bounds_i64 w1, bounds_i64 w2, w3⟩
theorem open_effT {v : Value} {d : DataW H} {p : List MemPlace} {base : Nat} (hv : Value.okWide Try.prog W .any base 47 v) (h : DataW.Trod enc Try.prog W 0 (fun _ => true) true 47 v d p) : ∃ x : Eff, v = .agg x.cs.toArray ∧ x.ok := open_one effT (fun _ x => x.ok) (by kernel_rfl) effT_dec Try.underlying47 hv h
theorem cfgT_dec : ∀ n cs y, cs.length = cfgT.size → DataW.trod enc Try.prog W 0 (fun _ => true) true n cfgT.tid cs = some y → ∃ x, cs = cfgT.enc x ∧ (fun _ x => x.ok : DataW H → Cfg → Prop) y.1 x := by
  intro n cs y hl h
  match cs, hl with
  | [c0, c1, c2, c3, c4], _ =>
    obtain ⟨n', hf⟩ := trod_flds Try.underlying34 h
    obtain ⟨z0, h0⟩ := hf 0 _ [c0] 1 rfl (by kernel_rfl) rfl
    obtain ⟨i0, rfl, w0⟩ := fld_int (k := .i64) (by kernel_rfl) h0
    obtain ⟨z1, h1⟩ := hf 1 _ [c1] 1 rfl (by kernel_rfl) rfl
    obtain ⟨i1, rfl, w1⟩ := fld_int (k := .i64) (by kernel_rfl) h1
    obtain ⟨z2, h2⟩ := hf 2 _ [c2] 1 rfl (by kernel_rfl) rfl
    obtain ⟨i2, rfl, w2⟩ := fld_int (k := .i64) (by kernel_rfl) h2
    obtain ⟨z3, h3⟩ := hf 3 _ [c3] 1 rfl (by kernel_rfl) rfl
    obtain ⟨i3, rfl, w3⟩ := fld_int (k := .i64) (by kernel_rfl) h3
    obtain ⟨z4, h4⟩ := hf 4 _ [c4] 1 rfl (by kernel_rfl) rfl
    obtain ⟨i4, rfl, w4⟩ := fld_int (k := .i64) (by kernel_rfl) h4
    exact ⟨⟨i0, i1, i2, i3, i4⟩, rfl, bounds_i64 w0, bounds_i64 w1, bounds_i64 w2, bounds_i64 w3, bounds_i64 w4⟩
theorem open_cfgT {v : Value} {d : DataW H} {p : List MemPlace} {base : Nat} (hv : Value.okWide Try.prog W .any base 34 v) (h : DataW.Trod enc Try.prog W 0 (fun _ => true) true 34 v d p) : ∃ x : Cfg, v = .agg x.cs.toArray ∧ x.ok := open_one cfgT (fun _ x => x.ok) (by kernel_rfl) cfgT_dec Try.underlying34 hv h
theorem entT_dec : ∀ n cs y, cs.length = entT.size → DataW.trod enc Try.prog W 0 (fun _ => true) true n entT.tid cs = some y → ∃ x, cs = entT.enc x ∧ (fun _ x => x.ok : DataW H → Ent → Prop) y.1 x := by
  intro n cs y hl h
  match cs, hl with
  | [c0, c1, c2, c3, c4, c5, c6, c7, c8, c9, c10, c11], _ =>
    obtain ⟨n', hf⟩ := trod_flds Try.underlying73 h
    obtain ⟨z0, h0⟩ := hf 0 _ [c0] 1 rfl (by kernel_rfl) rfl
    obtain ⟨i0, rfl, w0⟩ := fld_int (k := .i64) (by kernel_rfl) h0
    obtain ⟨z1, h1⟩ := hf 1 _ [c1, c2, c3, c4, c5] 5 rfl (by kernel_rfl) rfl
    obtain ⟨i1, e1, w1⟩ := effT_dec _ _ _ rfl h1
    change _ = i1.cs at e1
    simp only [Eff.cs, List.cons.injEq, and_true] at e1
    obtain ⟨rfl, rfl, rfl, rfl, rfl⟩ := e1
    obtain ⟨z2, h2⟩ := hf 2 _ [c6] 1 rfl (by kernel_rfl) rfl
    obtain ⟨i2, rfl, w2⟩ := fld_int (k := .i64) (by kernel_rfl) h2
    obtain ⟨z3, h3⟩ := hf 3 _ [c7] 1 rfl (by kernel_rfl) rfl
    obtain ⟨i3, rfl, w3⟩ := fld_int (k := .i64) (by kernel_rfl) h3
    obtain ⟨z4, h4⟩ := hf 4 _ [c8] 1 rfl (by kernel_rfl) rfl
    obtain ⟨i4, rfl⟩ := fld_bool (by kernel_rfl) h4
    obtain ⟨z5, h5⟩ := hf 5 _ [c9] 1 rfl (by kernel_rfl) rfl
    obtain ⟨i5, rfl⟩ := fld_bool (by kernel_rfl) h5
    obtain ⟨z6, h6⟩ := hf 6 _ [c10] 1 rfl (by kernel_rfl) rfl
    obtain ⟨i6, rfl, w6⟩ := fld_int (k := .i64) (by kernel_rfl) h6
    obtain ⟨z7, h7⟩ := hf 7 _ [c11] 1 rfl (by kernel_rfl) rfl
    obtain ⟨i7, rfl, w7⟩ := fld_int (k := .i64) (by kernel_rfl) h7
    exact ⟨⟨i0, i1, i2, i3, i4, i5, i6, i7⟩, rfl, bounds_i64 w0, w1, bounds_i64 w2, bounds_i64 w3, bounds_i64 w6, bounds_i64 w7⟩
theorem open_entT {v : Value} {d : DataW H} {p : List MemPlace} {base : Nat} (hv : Value.okWide Try.prog W .any base 73 v) (h : DataW.Trod enc Try.prog W 0 (fun _ => true) true 73 v d p) : ∃ x : Ent, v = .agg x.cs.toArray ∧ x.ok := open_one entT (fun _ x => x.ok) (by kernel_rfl) entT_dec Try.underlying73 hv h
theorem enrT_dec : ∀ n cs y, cs.length = enrT.size → DataW.trod enc Try.prog W 0 (fun _ => true) true n enrT.tid cs = some y → ∃ x, cs = enrT.enc x ∧ (fun _ x => x.ok : DataW H → Ent → Prop) y.1 x := by
  intro n cs y hl h
  match cs, hl with
  | [c0, c1, c2, c3, c4, c5, c6, c7, c8, c9, c10, c11], _ =>
    obtain ⟨n', hf⟩ := trod_flds Try.underlying53 h
    obtain ⟨z0, h0⟩ := hf 0 _ [c0] 1 rfl (by kernel_rfl) rfl
    obtain ⟨i0, rfl, w0⟩ := fld_int (k := .i64) (by kernel_rfl) h0
    obtain ⟨z1, h1⟩ := hf 1 _ [c1, c2, c3, c4, c5] 5 rfl (by kernel_rfl) rfl
    obtain ⟨i1, e1, w1⟩ := effT_dec _ _ _ rfl h1
    change _ = i1.cs at e1
    simp only [Eff.cs, List.cons.injEq, and_true] at e1
    obtain ⟨rfl, rfl, rfl, rfl, rfl⟩ := e1
    obtain ⟨z2, h2⟩ := hf 2 _ [c6] 1 rfl (by kernel_rfl) rfl
    obtain ⟨i2, rfl, w2⟩ := fld_int (k := .i64) (by kernel_rfl) h2
    obtain ⟨z3, h3⟩ := hf 3 _ [c7] 1 rfl (by kernel_rfl) rfl
    obtain ⟨i3, rfl, w3⟩ := fld_int (k := .i64) (by kernel_rfl) h3
    obtain ⟨z4, h4⟩ := hf 4 _ [c8] 1 rfl (by kernel_rfl) rfl
    obtain ⟨i4, rfl⟩ := fld_bool (by kernel_rfl) h4
    obtain ⟨z5, h5⟩ := hf 5 _ [c9] 1 rfl (by kernel_rfl) rfl
    obtain ⟨i5, rfl⟩ := fld_bool (by kernel_rfl) h5
    obtain ⟨z6, h6⟩ := hf 6 _ [c10] 1 rfl (by kernel_rfl) rfl
    obtain ⟨i6, rfl, w6⟩ := fld_int (k := .i64) (by kernel_rfl) h6
    obtain ⟨z7, h7⟩ := hf 7 _ [c11] 1 rfl (by kernel_rfl) rfl
    obtain ⟨i7, rfl, w7⟩ := fld_int (k := .i64) (by kernel_rfl) h7
    exact ⟨⟨i0, i1, i2, i3, i4, i5, i6, i7⟩, rfl, bounds_i64 w0, w1, bounds_i64 w2, bounds_i64 w3, bounds_i64 w6, bounds_i64 w7⟩
theorem open_enrT {v : Value} {d : DataW H} {p : List MemPlace} {base : Nat} (hv : Value.okWide Try.prog W .any base 53 v) (h : DataW.Trod enc Try.prog W 0 (fun _ => true) true 53 v d p) : ∃ x : Ent, v = .agg x.cs.toArray ∧ x.ok := open_one enrT (fun _ x => x.ok) (by kernel_rfl) enrT_dec Try.underlying53 hv h
end
end Go.Proofs.Ytkhmplaocfjpjaa.Sep
