/- The arguments of the law WalRuns, opened. -/
import Derived.Test.YtkhmplaocfjpjaaOpnS
import Derived.Test.YtkhmplaocfjpjaaWalD
namespace Go.Proofs.Ytkhmplaocfjpjaa.Sep
open Go.RowKit Go.Proofs.Ytkhmplaocfjpjaa.Reg Go.ChangeShapes Go.WideShapes Go.ChangeAt Go.Deep Go.Proofs.Ytkhmplaocfjpjaa.Open
open Go.Proofs.Ytkhmplaocfjpjaa.Mem hiding Rd Own
set_option maxRecDepth 100000
section
variable {H : Type} {enc : TypeId × Value → H} {W : World}
theorem op12T_dec : ∀ n cs y, cs.length = op12T.size → DataW.trod enc Try.prog W 0 (fun _ => true) true n op12T.tid cs = some y → ∃ x, cs = op12T.enc x ∧ (fun _ x => Rd (top W) octT x.A x.k x.c x.b : DataW H → Op12 → Prop) y.1 x := by
  intro n cs y hl h
  match cs, hl with
  | [c0, c1, c2], _ =>
    obtain ⟨n', hf⟩ := trod_flds Try.underlying118 h
    obtain ⟨z0, h0⟩ := hf 0 _ [c0] 1 rfl (by kernel_rfl) rfl
    obtain ⟨i0, rfl, w0⟩ := fld_int (k := .i64) (by kernel_rfl) h0
    obtain ⟨z1, h1⟩ := hf 1 _ [c1] 1 rfl (by kernel_rfl) rfl
    obtain ⟨i1, rfl, w1⟩ := fld_int (k := .i64) (by kernel_rfl) h1
    obtain ⟨z2, h2⟩ := hf 2 _ [c2] 1 rfl (by kernel_rfl) rfl
    obtain ⟨A, k, c, l, rfl, hr⟩ := fld_octs h2
    exact ⟨⟨i0, i1, A, k, c, l⟩, rfl, hr⟩
theorem open_op12Ts {v : Value} {d : DataW H} {p : List MemPlace} {base : Nat} (hv : Value.okWide Try.prog W .any base 111 v) (h : DataW.Trod enc Try.prog W 0 (fun _ => true) true 111 v d p) :
    ∃ A n c l, v = .slice A n c ∧ Rd (top W) op12T A n c l ∧ Sh (fun _ x => Rd (top W) octT x.A x.k x.c x.b) d l c := open_val op12T (fun _ x => Rd (top W) octT x.A x.k x.c x.b) (by kernel_rfl) op12T_dec Try.underlying111 hv h
end
end Go.Proofs.Ytkhmplaocfjpjaa.Sep
