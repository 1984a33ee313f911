/- The structs of tools/gate.spec among the arguments, opened (printed by tools/structs.py). -/
import Derived.Test.YtbnfpmdieiknmaaApiGate
import Derived.Test.YtbnfpmdieiknmaaOpnS2
namespace Go.Proofs.Ytbnfpmdieiknmaa.Sep
open Go.RowKit Go.Proofs.Ytbnfpmdieiknmaa.Reg Go.ChangeShapes Go.WideShapes Go.ChangeAt Go.Deep Go.Proofs.Ytbnfpmdieiknmaa.Open
open Go.Proofs.Ytbnfpmdieiknmaa.Mem hiding Rd Own
set_option maxRecDepth 100000
section
variable {H : Type} {enc : TypeId × Value → H} {W : World}
theorem idnT_dec : ∀ n cs y, cs.length = idnT.size → DataW.trod enc Try.prog W 0 (fun _ => true) true n idnT.tid cs = some y → ∃ x, cs = idnT.enc x ∧ (fun _ x => x.ok : DataW H → Idn → Prop) y.1 x := by
  intro n cs y hl h
  match cs, hl with
  | [c0, c1], _ =>
    obtain ⟨n', hf⟩ := trod_flds Try.underlying64 h
    obtain ⟨z0, h0⟩ := hf 0 _ [c0] 1 rfl (by kernel_rfl) rfl
    obtain ⟨i0, rfl, w0⟩ := fld_int (k := .i64) (by kernel_rfl) h0
    obtain ⟨z1, h1⟩ := hf 1 _ [c1] 1 rfl (by kernel_rfl) rfl
    obtain ⟨i1, rfl, w1⟩ := fld_int (k := .i64) (by kernel_rfl) h1
    exact ⟨⟨i0, i1⟩, rfl, bounds_i64 w0, bounds_i64 w1⟩
theorem open_idnT {v : Value} {d : DataW H} {p : List MemPlace} {base : Nat} (hv : Value.okWide Try.prog W .any base 64 v) (h : DataW.Trod enc Try.prog W 0 (fun _ => true) true 64 v d p) : ∃ x : Idn, v = .agg x.cs.toArray ∧ x.ok := open_one idnT (fun _ x => x.ok) (by kernel_rfl) idnT_dec Try.underlying64 hv h
theorem effT_dec : ∀ n cs y, cs.length = effT.size → DataW.trod enc Try.prog W 0 (fun _ => true) true n effT.tid cs = some y → ∃ x, cs = effT.enc x ∧ (fun _ x => x.ok : DataW H → Eff → Prop) y.1 x := by
  intro n cs y hl h
  match cs, hl with
  | [c0, c1, c2, c3, c4], _ =>
    obtain ⟨n', hf⟩ := trod_flds Try.underlying68 h
    obtain ⟨z0, h0⟩ := hf 0 _ [c0] 1 rfl (by kernel_rfl) rfl
    obtain ⟨i0, rfl, w0⟩ := fld_int (k := .i64) (by kernel_rfl) h0
    obtain ⟨z1, h1⟩ := hf 1 _ [c1] 1 rfl (by kernel_rfl) rfl
    obtain ⟨i1, rfl, w1⟩ := fld_int (k := .i64) (by kernel_rfl) h1
    obtain ⟨z2, h2⟩ := hf 2 _ [c2] 1 rfl (by kernel_rfl) rfl
    obtain ⟨i2, rfl, w2⟩ := fld_int (k := .i64) (by kernel_rfl) h2
    obtain ⟨z3, h3⟩ := hf 3 _ [c3, c4] 2 rfl (by kernel_rfl) rfl
    obtain ⟨i3, e3, w3⟩ := idnT_dec _ _ _ rfl h3
    change _ = i3.cs at e3
    simp only [Idn.cs, List.cons.injEq, and_true] at e3
    obtain ⟨rfl, rfl⟩ := e3
    exact ⟨⟨i0, i1, i2, i3⟩, rfl, bounds_i64 w0, bounds_i64 w1, bounds_i64 w2, w3⟩
theorem open_effT {v : Value} {d : DataW H} {p : List MemPlace} {base : Nat} (hv : Value.okWide Try.prog W .any base 68 v) (h : DataW.Trod enc Try.prog W 0 (fun _ => true) true 68 v d p) : ∃ x : Eff, v = .agg x.cs.toArray ∧ x.ok := open_one effT (fun _ x => x.ok) (by kernel_rfl) effT_dec Try.underlying68 hv h
theorem keyT_dec : ∀ n cs y, cs.length = keyT.size → DataW.trod enc Try.prog W 0 (fun _ => true) true n keyT.tid cs = some y → ∃ x, cs = keyT.enc x ∧ (fun _ x => x.ok : DataW H → Keyv → Prop) y.1 x := by
  intro n cs y hl h
  match cs, hl with
  | [c0, c1, c2, c3], _ =>
    obtain ⟨n', hf⟩ := trod_flds Try.underlying66 h
    obtain ⟨z0, h0⟩ := hf 0 _ [c0, c1] 2 rfl (by kernel_rfl) rfl
    obtain ⟨i0, e0, w0⟩ := idnT_dec _ _ _ rfl h0
    change _ = i0.cs at e0
    simp only [Idn.cs, List.cons.injEq, and_true] at e0
    obtain ⟨rfl, rfl⟩ := e0
    obtain ⟨z1, h1⟩ := hf 1 _ [c2] 1 rfl (by kernel_rfl) rfl
    obtain ⟨i1, rfl, w1⟩ := fld_int (k := .i64) (by kernel_rfl) h1
    obtain ⟨z2, h2⟩ := hf 2 _ [c3] 1 rfl (by kernel_rfl) rfl
    obtain ⟨i2, rfl⟩ := fld_bool (by kernel_rfl) h2
    exact ⟨⟨i0, i1, i2⟩, rfl, w0, bounds_i64 w1⟩
theorem open_keyT {v : Value} {d : DataW H} {p : List MemPlace} {base : Nat} (hv : Value.okWide Try.prog W .any base 66 v) (h : DataW.Trod enc Try.prog W 0 (fun _ => true) true 66 v d p) : ∃ x : Keyv, v = .agg x.cs.toArray ∧ x.ok := open_one keyT (fun _ x => x.ok) (by kernel_rfl) keyT_dec Try.underlying66 hv h
theorem reqT_dec : ∀ n cs y, cs.length = reqT.size → DataW.trod enc Try.prog W 0 (fun _ => true) true n reqT.tid cs = some y → ∃ x, cs = reqT.enc x ∧ (fun _ x => x.ok : DataW H → Req → Prop) y.1 x := by
  intro n cs y hl h
  match cs, hl with
  | [c0, c1, c2, c3, c4, c5, c6, c7, c8], _ =>
    obtain ⟨n', hf⟩ := trod_flds Try.underlying70 h
    obtain ⟨z0, h0⟩ := hf 0 _ [c0, c1, c2, c3] 4 rfl (by kernel_rfl) rfl
    obtain ⟨i0, e0, w0⟩ := keyT_dec _ _ _ rfl h0
    change _ = i0.cs at e0
    simp only [Keyv.cs, List.cons.injEq, and_true] at e0
    obtain ⟨rfl, rfl, rfl, rfl⟩ := e0
    obtain ⟨z1, h1⟩ := hf 1 _ [c4, c5, c6, c7, c8] 5 rfl (by kernel_rfl) rfl
    obtain ⟨i1, e1, w1⟩ := effT_dec _ _ _ rfl h1
    change _ = i1.cs at e1
    simp only [Eff.cs, List.cons.injEq, and_true] at e1
    obtain ⟨rfl, rfl, rfl, rfl, rfl⟩ := e1
    exact ⟨⟨i0, i1⟩, rfl, w0, w1⟩
theorem open_reqT {v : Value} {d : DataW H} {p : List MemPlace} {base : Nat} (hv : Value.okWide Try.prog W .any base 70 v) (h : DataW.Trod enc Try.prog W 0 (fun _ => true) true 70 v d p) : ∃ x : Req, v = .agg x.cs.toArray ∧ x.ok := open_one reqT (fun _ x => x.ok) (by kernel_rfl) reqT_dec Try.underlying70 hv h
theorem open_reqTs {v : Value} {d : DataW H} {p : List MemPlace} {base : Nat} (hv : Value.okWide Try.prog W .any base 53 v) (h : DataW.Trod enc Try.prog W 0 (fun _ => true) true 53 v d p) :
    ∃ A n c l, v = .slice A n c ∧ Rd (top W) reqT A n c l ∧ Sh (fun _ x => x.ok) d l c := open_val reqT (fun _ x => x.ok) (by kernel_rfl) reqT_dec Try.underlying53 hv h
theorem op30T_dec : ∀ n cs y, cs.length = op30T.size → DataW.trod enc Try.prog W 0 (fun _ => true) true n op30T.tid cs = some y → ∃ x, cs = op30T.enc x ∧ (fun _ x => x.ok : DataW H → Op30 → Prop) y.1 x := by
  intro n cs y hl h
  match cs, hl with
  | [c0, c1, c2, c3, c4, c5, c6, c7, c8, c9, c10], _ =>
    obtain ⟨n', hf⟩ := trod_flds Try.underlying72 h
    obtain ⟨z0, h0⟩ := hf 0 _ [c0] 1 rfl (by kernel_rfl) rfl
    obtain ⟨i0, rfl, w0⟩ := fld_int (k := .i64) (by kernel_rfl) h0
    obtain ⟨z1, h1⟩ := hf 1 _ [c1, c2, c3, c4, c5, c6, c7, c8, c9] 9 rfl (by kernel_rfl) rfl
    obtain ⟨i1, e1, w1⟩ := reqT_dec _ _ _ rfl h1
    change _ = i1.cs at e1
    simp only [Req.cs, List.cons.injEq, and_true] at e1
    obtain ⟨rfl, rfl, rfl, rfl, rfl, rfl, rfl, rfl, rfl⟩ := e1
    obtain ⟨z2, h2⟩ := hf 2 _ [c10] 1 rfl (by kernel_rfl) rfl
    obtain ⟨i2, rfl, w2⟩ := fld_int (k := .i64) (by kernel_rfl) h2
    exact ⟨⟨i0, i1, i2⟩, rfl, bounds_i64 w0, w1, bounds_i64 w2⟩
theorem open_op30T {v : Value} {d : DataW H} {p : List MemPlace} {base : Nat} (hv : Value.okWide Try.prog W .any base 72 v) (h : DataW.Trod enc Try.prog W 0 (fun _ => true) true 72 v d p) : ∃ x : Op30, v = .agg x.cs.toArray ∧ x.ok := open_one op30T (fun _ x => x.ok) (by kernel_rfl) op30T_dec Try.underlying72 hv h
theorem open_op30Ts {v : Value} {d : DataW H} {p : List MemPlace} {base : Nat} (hv : Value.okWide Try.prog W .any base 51 v) (h : DataW.Trod enc Try.prog W 0 (fun _ => true) true 51 v d p) :
    ∃ A n c l, v = .slice A n c ∧ Rd (top W) op30T A n c l ∧ Sh (fun _ x => x.ok) d l c := open_val op30T (fun _ x => x.ok) (by kernel_rfl) op30T_dec Try.underlying51 hv h
end
end Go.Proofs.Ytbnfpmdieiknmaa.Sep
