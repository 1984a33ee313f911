/- The arguments of the laws of the ledger, opened. -/
import Derived.Test.YtkhmplaocfjpjaaOpnApiChn
import Derived.Test.YtkhmplaocfjpjaaLedV
namespace Go.Proofs.Ytkhmplaocfjpjaa.Sep
open Go.RowKit Go.Proofs.Ytkhmplaocfjpjaa.Reg Go.ChangeShapes Go.WideShapes Go.ChangeAt Go.Deep Go.Proofs.Ytkhmplaocfjpjaa.Open
open Go.Proofs.Ytkhmplaocfjpjaa.Mem hiding Rd Own
set_option maxRecDepth 100000
section
variable {H : Type} {enc : TypeId × Value → H} {W : World}
theorem fld_effs {n : Nat} {v : Value} {z : DataW H × List MemPlace} (h : DataW.trod enc Try.prog W 0 (fun _ => true) true n 40 [v] = some z) : ∃ A k c l, v = .slice A k c ∧ Rd (top W) effT A k c l ∧ ∀ x ∈ l, x.ok := by
  obtain ⟨A, k, c, l, hcs, hr, hs⟩ := open_ty effT (fun _ x => x.ok) (by kernel_rfl) effT_dec Try.underlying40 h
  injection hcs with hcs _
  exact ⟨A, k, c, l, hcs, hr, sh_all hs⟩
theorem fld_ents {n : Nat} {v : Value} {z : DataW H × List MemPlace} (h : DataW.trod enc Try.prog W 0 (fun _ => true) true n 59 [v] = some z) : ∃ A k c l, v = .slice A k c ∧ Rd (top W) entT A k c l ∧ ∀ x ∈ l, x.ok := by
  obtain ⟨A, k, c, l, hcs, hr, hs⟩ := open_ty entT (fun _ x => x.ok) (by kernel_rfl) entT_dec Try.underlying59 h
  injection hcs with hcs _
  exact ⟨A, k, c, l, hcs, hr, sh_all hs⟩
theorem op22T_dec : ∀ n cs y, cs.length = op22T.size → DataW.trod enc Try.prog W 0 (fun _ => true) true n op22T.tid cs = some y → ∃ x, cs = op22T.enc x ∧ (fun _ x => In22 (top W) x : DataW H → Op22 → Prop) y.1 x := by
  intro n cs y hl h
  match cs, hl with
  | [c0, c1, c2, c3, c4, c5, c6, c7], _ =>
    obtain ⟨n', hf⟩ := trod_flds Try.underlying63 h
    obtain ⟨z0, h0⟩ := hf 0 _ [c0] 1 rfl (by kernel_rfl) rfl
    obtain ⟨i0, rfl, w0⟩ := fld_int (k := .i64) (by kernel_rfl) h0
    obtain ⟨z4, h4⟩ := hf 1 _ [c1] 1 rfl (by kernel_rfl) rfl
    obtain ⟨i4, rfl, w4⟩ := fld_int (k := .i64) (by kernel_rfl) h4
    obtain ⟨z1, h1⟩ := hf 2 _ [c2] 1 rfl (by kernel_rfl) rfl
    obtain ⟨A, k, c, l, rfl, hr, hok⟩ := fld_effs h1
    obtain ⟨z2, h2⟩ := hf 3 _ [c3, c4, c5, c6] 4 rfl (by kernel_rfl) rfl
    obtain ⟨i2, e2, w2⟩ := keyT_dec _ _ _ rfl h2
    change _ = i2.cs at e2
    simp only [Keyv.cs, List.cons.injEq, and_true] at e2
    obtain ⟨rfl, rfl, rfl, rfl⟩ := e2
    obtain ⟨z3, h3⟩ := hf 4 _ [c7] 1 rfl (by kernel_rfl) rfl
    obtain ⟨i3, rfl, w3⟩ := fld_int (k := .i64) (by kernel_rfl) h3
    exact ⟨⟨i0, i4, ⟨A, k, c, l⟩, i2, i3⟩, rfl, ⟨hr, hok, bounds_i64 w3⟩⟩
theorem open_op22Ts {v : Value} {d : DataW H} {p : List MemPlace} {base : Nat} (hv : Value.okWide Try.prog W .any base 22 v) (h : DataW.Trod enc Try.prog W 0 (fun _ => true) true 22 v d p) :
    ∃ A n c l, v = .slice A n c ∧ Rd (top W) op22T A n c l ∧ Sh (fun _ x => In22 (top W) x) d l c := open_val op22T (fun _ x => In22 (top W) x) (by kernel_rfl) op22T_dec Try.underlying22 hv h
/-- a chain that is given -/
structure InC (E : Env) (x : Chv) : Prop where
  r : Rd E entT x.A x.n x.c x.l
  ok : ∀ e ∈ x.l, e.ok
  made : I64 x.made
theorem chvT_dec : ∀ n cs y, cs.length = chvT.size → DataW.trod enc Try.prog W 0 (fun _ => true) true n chvT.tid cs = some y → ∃ x, cs = chvT.enc x ∧ (fun _ x => InC (top W) x : DataW H → Chv → Prop) y.1 x := by
  intro n cs y hl h
  match cs, hl with
  | [c0, c1, c2, c3], _ =>
    obtain ⟨n', hf⟩ := trod_flds Try.underlying61 h
    obtain ⟨z0, h0⟩ := hf 0 _ [c0, c1] 2 rfl (by kernel_rfl) rfl
    obtain ⟨i0, e0, w0⟩ := idnT_dec _ _ _ rfl h0
    change _ = i0.cs at e0
    simp only [Idn.cs, List.cons.injEq, and_true] at e0
    obtain ⟨rfl, rfl⟩ := e0
    obtain ⟨z1, h1⟩ := hf 1 _ [c2] 1 rfl (by kernel_rfl) rfl
    obtain ⟨i1, rfl, w1⟩ := fld_int (k := .i64) (by kernel_rfl) h1
    obtain ⟨z2, h2⟩ := hf 2 _ [c3] 1 rfl (by kernel_rfl) rfl
    obtain ⟨A, k, c, l, rfl, hr, hok⟩ := fld_ents h2
    exact ⟨⟨i0, i1, A, k, c, l⟩, rfl, ⟨hr, hok, bounds_i64 w1⟩⟩
theorem open_chvT {v : Value} {d : DataW H} {p : List MemPlace} {base : Nat} (hv : Value.okWide Try.prog W .any base 61 v) (h : DataW.Trod enc Try.prog W 0 (fun _ => true) true 61 v d p) : ∃ x : Chv, v = .agg x.cs.toArray ∧ InC (top W) x := open_one chvT (fun _ x => InC (top W) x) (by kernel_rfl) chvT_dec Try.underlying61 hv h
end
end Go.Proofs.Ytkhmplaocfjpjaa.Sep
