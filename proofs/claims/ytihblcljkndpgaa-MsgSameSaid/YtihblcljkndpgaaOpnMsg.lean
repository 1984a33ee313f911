/- A message among the arguments, opened. -/
import Derived.Test.YtihblcljkndpgaaOpnApiChn
import Derived.Test.YtihblcljkndpgaaMsgF
import Derived.Laws.IdiomArrays
namespace Go.Proofs.Ytihblcljkndpgaa.Sep
open Go.RowKit Go.Proofs.Ytihblcljkndpgaa.Reg Go.ChangeShapes Go.WideShapes Go.ChangeAt Go.Deep Go.Proofs.Ytihblcljkndpgaa.Open
open Go.Proofs.Ytihblcljkndpgaa.Mem hiding Rd Own
set_option maxRecDepth 100000
/-- a message that is given -/
structure Mv where
  m : Mg
  A : Option Addr
  n : Nat
  c : Nat
  B : Option Addr
  k : Nat
  d : Nat
abbrev Mv.cs (x : Mv) : List Value := mcs x.m x.A x.n x.c x.B x.k x.d
def msgT : Ty Mv where
  val x := .agg x.cs.toArray
  size := 19
  bytes := 184
  tid := 34
  zero := .agg #[.int .i64 0, .int .i64 0, .int .i64 0, .int .i64 0, .int .i64 0, .int .i64 0, .int .i64 0, .int .i64 0, .slice none 0 0, .slice none 0 0, .int .i64 0, .int .i64 0, .int .i64 0, .bool false, .int .i64 0, .int .i64 0, .int .i64 0, .int .i64 0, .int .i64 0]
  hlen _ := rfl
  hone a u h := by simp [Value.cells] at h; rcases h with rfl | rfl | rfl | rfl | rfl | rfl | rfl | rfl | rfl | rfl | rfl | rfl | rfl | rfl | rfl | rfl | rfl | rfl | rfl <;> rfl
  hpos := by decide
  hzero := rfl
  hinfo := by kernel_rfl
  hagg := .inl ⟨by kernel_rfl, fun _ => ⟨_, rfl⟩⟩
/-- what a call may read of it -/
def In26 (E : Env) (x : Mv) : Prop := Rd E idnT x.A x.n x.c x.m.ids ∧ Rd E chgT x.B x.k x.d x.m.chs ∧ (∀ a ∈ x.m.ids, a.ok) ∧ ∀ a ∈ x.m.chs, a.ok
section
variable {H : Type} {enc : TypeId × Value → H} {W : World}
theorem fld_idns {n : Nat} {v : Value} {z : DataW H × List MemPlace} (h : DataW.trod enc Try.prog W 0 (fun _ => true) true n 25 [v] = some z) : ∃ A k c l, v = .slice A k c ∧ Rd (top W) idnT A k c l ∧ ∀ x ∈ l, x.ok := by
  obtain ⟨A, k, c, l, hcs, hr, hs⟩ := open_ty idnT (fun _ x => x.ok) (by kernel_rfl) idnT_dec Try.underlying25 h
  injection hcs with hcs _
  exact ⟨A, k, c, l, hcs, hr, sh_all hs⟩
theorem fld_chgs {n : Nat} {v : Value} {z : DataW H × List MemPlace} (h : DataW.trod enc Try.prog W 0 (fun _ => true) true n 26 [v] = some z) : ∃ A k c l, v = .slice A k c ∧ Rd (top W) chgT A k c l ∧ ∀ x ∈ l, x.ok := by
  obtain ⟨A, k, c, l, hcs, hr, hs⟩ := open_ty chgT (fun _ x => x.ok) (by kernel_rfl) chgT_dec Try.underlying26 h
  injection hcs with hcs _
  exact ⟨A, k, c, l, hcs, hr, sh_all hs⟩
theorem msgT_dec : ∀ n cs y, cs.length = msgT.size → DataW.trod enc Try.prog W 0 (fun _ => true) true n msgT.tid cs = some y → ∃ x, cs = msgT.enc x ∧ (fun _ x => In26 (top W) x : DataW H → Mv → Prop) y.1 x := by
  intro n cs y hl h
  match cs, hl with
  | [c0, c1, c2, c3, c4, c5, c6, c7, c8, c9, c10, c11, c12, c13, c14, c15, c16, c17, c18], _ =>
    obtain ⟨n', hf⟩ := trod_flds Try.underlying34 h
    obtain ⟨z0, h0⟩ := hf 0 _ [c0] 1 rfl (by kernel_rfl) rfl
    obtain ⟨i0, rfl, w0⟩ := fld_int (k := .i64) (by kernel_rfl) h0
    obtain ⟨z1, h1⟩ := hf 1 _ [c1] 1 rfl (by kernel_rfl) rfl
    obtain ⟨i1, rfl, w1⟩ := fld_int (k := .i64) (by kernel_rfl) h1
    obtain ⟨z2, h2⟩ := hf 2 _ [c2] 1 rfl (by kernel_rfl) rfl
    obtain ⟨i2, rfl, w2⟩ := fld_int (k := .i64) (by kernel_rfl) h2
    obtain ⟨z3, h3⟩ := hf 3 _ [c3, c4, c5, c6] 4 rfl (by kernel_rfl) rfl
    obtain ⟨y0, y1, y2, y3, m, _, a0, a1, a2, a3⟩ := trod_array4 Try.underlying24 (by kernel_rfl) h3
    obtain ⟨k0, rfl, _⟩ := fld_int (k := .i64) (by kernel_rfl) a0
    obtain ⟨k1, rfl, _⟩ := fld_int (k := .i64) (by kernel_rfl) a1
    obtain ⟨k2, rfl, _⟩ := fld_int (k := .i64) (by kernel_rfl) a2
    obtain ⟨k3, rfl, _⟩ := fld_int (k := .i64) (by kernel_rfl) a3
    obtain ⟨z4, h4⟩ := hf 4 _ [c7] 1 rfl (by kernel_rfl) rfl
    obtain ⟨i4, rfl, w4⟩ := fld_int (k := .i64) (by kernel_rfl) h4
    obtain ⟨z5, h5⟩ := hf 5 _ [c8] 1 rfl (by kernel_rfl) rfl
    obtain ⟨A, p, q, li, rfl, hr, hok⟩ := fld_idns h5
    obtain ⟨z6, h6⟩ := hf 6 _ [c9] 1 rfl (by kernel_rfl) rfl
    obtain ⟨B, k, d, lc, rfl, hr2, hok2⟩ := fld_chgs h6
    obtain ⟨z7, h7⟩ := hf 7 _ [c10, c11, c12, c13] 4 rfl (by kernel_rfl) rfl
    obtain ⟨i7, e7, w7⟩ := keyT_dec _ _ _ rfl h7
    change _ = i7.cs at e7
    simp only [Keyv.cs, List.cons.injEq, and_true] at e7
    obtain ⟨rfl, rfl, rfl, rfl⟩ := e7
    obtain ⟨z8, h8⟩ := hf 8 _ [c14, c15, c16, c17, c18] 5 rfl (by kernel_rfl) rfl
    obtain ⟨i8, e8, w8⟩ := effT_dec _ _ _ rfl h8
    change _ = i8.cs at e8
    simp only [Eff.cs, List.cons.injEq, and_true] at e8
    obtain ⟨rfl, rfl, rfl, rfl, rfl⟩ := e8
    exact ⟨⟨⟨i0, i1, i2, k0, k1, k2, k3, i4, li, lc, i7, i8⟩, A, p, q, B, k, d⟩, rfl, hr, hr2, hok, hok2⟩
theorem open_msgT {v : Value} {d : DataW H} {p : List MemPlace} {base : Nat} (hv : Value.okWide Try.prog W .any base 34 v) (h : DataW.Trod enc Try.prog W 0 (fun _ => true) true 34 v d p) : ∃ x : Mv, v = .agg x.cs.toArray ∧ In26 (top W) x := open_one msgT (fun _ x => In26 (top W) x) (by kernel_rfl) msgT_dec Try.underlying34 hv h
end
end Go.Proofs.Ytihblcljkndpgaa.Sep
