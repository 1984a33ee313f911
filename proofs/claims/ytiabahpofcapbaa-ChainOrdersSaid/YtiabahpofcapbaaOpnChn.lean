/- The arguments of the laws of chains, opened. -/
import Derived.Test.YtiabahpofcapbaaOpnApiChn
import Derived.Test.YtiabahpofcapbaaChl4
namespace Go.Proofs.Ytiabahpofcapbaa.Sep
open Go.RowKit Go.Proofs.Ytiabahpofcapbaa.Reg Go.ChangeShapes Go.WideShapes Go.ChangeAt Go.Deep Go.Proofs.Ytiabahpofcapbaa.Open
open Go.Proofs.Ytiabahpofcapbaa.Mem hiding Rd Own
set_option maxRecDepth 100000
/-- a chain that is given -/
structure Chv where
  id : Idn
  made : Int
  A : Option Addr
  n : Nat
  c : Nat
  l : List Ent
abbrev Chv.cs (x : Chv) : List Value := [.int .i64 x.id.rep, .int .i64 x.id.seq, .int .i64 x.made, .slice x.A x.n x.c]
def chvT : Ty Chv where
  val x := .agg x.cs.toArray
  size := 4
  bytes := 48
  tid := 33
  zero := .agg #[.int .i64 0, .int .i64 0, .int .i64 0, .slice none 0 0]
  hlen _ := rfl
  hone a u h := by simp [Value.cells] at h; rcases h with rfl | rfl | rfl | rfl <;> rfl
  hpos := by decide
  hzero := rfl
  hinfo := by kernel_rfl
  hagg := .inl ⟨by kernel_rfl, fun _ => ⟨_, rfl⟩⟩
section
variable {H : Type} {enc : TypeId × Value → H} {W : World}
theorem fld_effs {n : Nat} {v : Value} {z : DataW H × List MemPlace} (h : DataW.trod enc Try.prog W 0 (fun _ => true) true n 34 [v] = some z) : ∃ A k c l, v = .slice A k c ∧ Rd (top W) effT A k c l ∧ ∀ x ∈ l, x.ok := by
  obtain ⟨A, k, c, l, hcs, hr, hs⟩ := open_ty effT (fun _ x => x.ok) (by kernel_rfl) effT_dec Try.underlying34 h
  injection hcs with hcs _
  exact ⟨A, k, c, l, hcs, hr, sh_all hs⟩
theorem fld_ents {n : Nat} {v : Value} {z : DataW H × List MemPlace} (h : DataW.trod enc Try.prog W 0 (fun _ => true) true n 31 [v] = some z) : ∃ A k c l, v = .slice A k c ∧ Rd (top W) entT A k c l ∧ ∀ x ∈ l, x.ok := by
  obtain ⟨A, k, c, l, hcs, hr, hs⟩ := open_ty entT (fun _ x => x.ok) (by kernel_rfl) entT_dec Try.underlying31 h
  injection hcs with hcs _
  exact ⟨A, k, c, l, hcs, hr, sh_all hs⟩
theorem opT_dec : ∀ n cs y, cs.length = opT.size → DataW.trod enc Try.prog W 0 (fun _ => true) true n opT.tid cs = some y → ∃ x, cs = opT.enc x ∧ (fun _ x => In21 (top W) x : DataW H → Op21 → Prop) y.1 x := by
  intro n cs y hl h
  match cs, hl with
  | [c0, c1, c2, c3, c4, c5, c6], _ =>
    obtain ⟨n', hf⟩ := trod_flds Try.underlying48 h
    obtain ⟨z0, h0⟩ := hf 0 _ [c0] 1 rfl (by kernel_rfl) rfl
    obtain ⟨i0, rfl, w0⟩ := fld_int (k := .i64) (by kernel_rfl) h0
    obtain ⟨z1, h1⟩ := hf 1 _ [c1] 1 rfl (by kernel_rfl) rfl
    obtain ⟨A, k, c, l, rfl, hr, hok⟩ := fld_effs h1
    obtain ⟨z2, h2⟩ := hf 2 _ [c2, c3, c4, c5] 4 rfl (by kernel_rfl) rfl
    obtain ⟨i2, e2, w2⟩ := keyT_dec _ _ _ rfl h2
    change _ = i2.cs at e2
    simp only [Keyv.cs, List.cons.injEq, and_true] at e2
    obtain ⟨rfl, rfl, rfl, rfl⟩ := e2
    obtain ⟨z3, h3⟩ := hf 3 _ [c6] 1 rfl (by kernel_rfl) rfl
    obtain ⟨i3, rfl, w3⟩ := fld_int (k := .i64) (by kernel_rfl) h3
    exact ⟨⟨i0, ⟨A, k, c, l⟩, i2, i3⟩, rfl, hr, hok, bounds_i64 w3⟩
theorem open_opTs {v : Value} {d : DataW H} {p : List MemPlace} {base : Nat} (hv : Value.okWide Try.prog W .any base 24 v) (h : DataW.Trod enc Try.prog W 0 (fun _ => true) true 24 v d p) :
    ∃ A n c l, v = .slice A n c ∧ Rd (top W) opT A n c l ∧ Sh (fun _ x => In21 (top W) x) d l c := open_val opT (fun _ x => In21 (top W) x) (by kernel_rfl) opT_dec Try.underlying24 hv h
theorem open_opT {v : Value} {d : DataW H} {p : List MemPlace} {base : Nat} (hv : Value.okWide Try.prog W .any base 48 v) (h : DataW.Trod enc Try.prog W 0 (fun _ => true) true 48 v d p) : ∃ x : Op21, v = .agg x.cs.toArray ∧ In21 (top W) x := open_one opT (fun _ x => In21 (top W) x) (by kernel_rfl) opT_dec Try.underlying48 hv h
theorem open_effTs {v : Value} {d : DataW H} {p : List MemPlace} {base : Nat} (hv : Value.okWide Try.prog W .any base 34 v) (h : DataW.Trod enc Try.prog W 0 (fun _ => true) true 34 v d p) :
    ∃ A n c l, v = .slice A n c ∧ Rd (top W) effT A n c l ∧ Sh (fun _ x => x.ok) d l c := open_val effT (fun _ x => x.ok) (by kernel_rfl) effT_dec Try.underlying34 hv h
theorem chvT_dec : ∀ n cs y, cs.length = chvT.size → DataW.trod enc Try.prog W 0 (fun _ => true) true n chvT.tid cs = some y → ∃ x, cs = chvT.enc x ∧ (fun _ x => Rd (top W) entT x.A x.n x.c x.l : DataW H → Chv → Prop) y.1 x := by
  intro n cs y hl h
  match cs, hl with
  | [c0, c1, c2, c3], _ =>
    obtain ⟨n', hf⟩ := trod_flds Try.underlying33 h
    obtain ⟨z0, h0⟩ := hf 0 _ [c0, c1] 2 rfl (by kernel_rfl) rfl
    obtain ⟨i0, e0, w0⟩ := idnT_dec _ _ _ rfl h0
    change _ = i0.cs at e0
    simp only [Idn.cs, List.cons.injEq, and_true] at e0
    obtain ⟨rfl, rfl⟩ := e0
    obtain ⟨z1, h1⟩ := hf 1 _ [c2] 1 rfl (by kernel_rfl) rfl
    obtain ⟨i1, rfl, w1⟩ := fld_int (k := .i64) (by kernel_rfl) h1
    obtain ⟨z2, h2⟩ := hf 2 _ [c3] 1 rfl (by kernel_rfl) rfl
    obtain ⟨A, k, c, l, rfl, hr, hok⟩ := fld_ents h2
    exact ⟨⟨i0, i1, A, k, c, l⟩, rfl, hr⟩
theorem open_chvT {v : Value} {d : DataW H} {p : List MemPlace} {base : Nat} (hv : Value.okWide Try.prog W .any base 33 v) (h : DataW.Trod enc Try.prog W 0 (fun _ => true) true 33 v d p) : ∃ x : Chv, v = .agg x.cs.toArray ∧ Rd (top W) entT x.A x.n x.c x.l := open_one chvT (fun _ x => Rd (top W) entT x.A x.n x.c x.l) (by kernel_rfl) chvT_dec Try.underlying33 hv h
end
end Go.Proofs.Ytiabahpofcapbaa.Sep
