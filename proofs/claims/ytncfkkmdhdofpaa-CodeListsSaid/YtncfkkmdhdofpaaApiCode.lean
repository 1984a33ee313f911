/- Structs as types of cells (printed by tools/structs.py of tools/code.spec). No function in sight. -/
import Derived.Test.YtncfkkmdhdofpaaApi
namespace Go.Proofs.Ytncfkkmdhdofpaa.Sep
open Go.RowKit Go.Proofs.Ytncfkkmdhdofpaa.Reg
open Go.Proofs.Ytncfkkmdhdofpaa.Mem hiding Rd Own
set_option maxRecDepth 100000
/-! ### Stpv -/
structure Stpv where
  kind : Int
  r : Int
  i : Int
  n : Int
  c : Chg
theorem Stpv.eq_iff {x y : Stpv} : x = y ↔ x.kind = y.kind ∧ x.r = y.r ∧ x.i = y.i ∧ x.n = y.n ∧ x.c = y.c := by
  cases x; cases y; simp
instance : DecidableEq Stpv := fun _ _ => decidable_of_iff _ Stpv.eq_iff.symm
abbrev Stpv.cs (x : Stpv) : List Value := [.int .i64 x.kind, .int .i64 x.r, .int .i64 x.i, .int .i64 x.n, .int .i64 x.c.id.rep, .int .i64 x.c.id.seq, .int .i64 x.c.time, .int .i64 x.c.kind, .int .i64 x.c.a, .int .i64 x.c.b, .int .i64 x.c.n, .int .i64 x.c.ref.rep, .int .i64 x.c.ref.seq]
def Stpv.ok (x : Stpv) : Prop := I64 x.kind ∧ I64 x.r ∧ I64 x.i ∧ I64 x.n ∧ x.c.ok
def stpT : Ty Stpv where
  val x := .agg x.cs.toArray
  size := 13
  bytes := 104
  tid := 40
  zero := .agg #[.int .i64 0, .int .i64 0, .int .i64 0, .int .i64 0, .int .i64 0, .int .i64 0, .int .i64 0, .int .i64 0, .int .i64 0, .int .i64 0, .int .i64 0, .int .i64 0, .int .i64 0]
  hlen _ := rfl
  hone a u h := by simp [Value.cells] at h; rcases h with rfl | rfl | rfl | rfl | rfl | rfl | rfl | rfl | rfl | rfl | rfl | rfl | rfl <;> rfl
  hpos := by decide
  hzero := rfl
  hinfo := by kernel_rfl
  hagg := .inl ⟨by kernel_rfl, fun _ => ⟨_, rfl⟩⟩
abbrev stpT_z : Stpv := ⟨0, 0, 0, 0, ⟨⟨0, 0⟩, 0, 0, 0, 0, 0, ⟨0, 0⟩⟩⟩
theorem stpT_rec : Rec Try.prog 40 [.int .i64 0, .int .i64 0, .int .i64 0, .int .i64 0, .int .i64 0, .int .i64 0, .int .i64 0, .int .i64 0, .int .i64 0, .int .i64 0, .int .i64 0, .int .i64 0, .int .i64 0] [(0, 1), (1, 1), (2, 1), (3, 1), (4, 9)] := ⟨by kernel_rfl, by kernel_rfl⟩
theorem stpT_eqa {a0 b0 a1 b1 a2 b2 a3 b3 a4 b4 a5 b5 a6 b6 a7 b7 a8 b8 a9 b9 a10 b10 a11 b11 a12 b12 : Int} : EqA Try.prog 40 #[.int .i64 a0, .int .i64 a1, .int .i64 a2, .int .i64 a3, .int .i64 a4, .int .i64 a5, .int .i64 a6, .int .i64 a7, .int .i64 a8, .int .i64 a9, .int .i64 a10, .int .i64 a11, .int .i64 a12] #[.int .i64 b0, .int .i64 b1, .int .i64 b2, .int .i64 b3, .int .i64 b4, .int .i64 b5, .int .i64 b6, .int .i64 b7, .int .i64 b8, .int .i64 b9, .int .i64 b10, .int .i64 b11, .int .i64 b12] (decide ((⟨a0, a1, a2, a3, ⟨⟨a4, a5⟩, a6, a7, a8, a9, a10, ⟨a11, a12⟩⟩⟩ : Stpv) = ⟨b0, b1, b2, b3, ⟨⟨b4, b5⟩, b6, b7, b8, b9, b10, ⟨b11, b12⟩⟩⟩)) where
  ty := ⟨_, Try.underlying40⟩
  guard := by kernel_rfl
  val := by
    have h : eqv Try.prog 5 40 [.int .i64 a0, .int .i64 a1, .int .i64 a2, .int .i64 a3, .int .i64 a4, .int .i64 a5, .int .i64 a6, .int .i64 a7, .int .i64 a8, .int .i64 a9, .int .i64 a10, .int .i64 a11, .int .i64 a12] [.int .i64 b0, .int .i64 b1, .int .i64 b2, .int .i64 b3, .int .i64 b4, .int .i64 b5, .int .i64 b6, .int .i64 b7, .int .i64 b8, .int .i64 b9, .int .i64 b10, .int .i64 b11, .int .i64 b12] = some (decide (a0 = b0) && (decide (a1 = b1) && (decide (a2 = b2) && (decide (a3 = b3) && (((((decide (a4 = b4) && (decide (a5 = b5) && true))) && (decide (a6 = b6) && (decide (a7 = b7) && (decide (a8 = b8) && (decide (a9 = b9) && (decide (a10 = b10) && (((decide (a11 = b11) && (decide (a12 = b12) && true))) && true)))))))) && true))))) := by kernel_rfl
    rw [show (decide ((⟨a0, a1, a2, a3, ⟨⟨a4, a5⟩, a6, a7, a8, a9, a10, ⟨a11, a12⟩⟩⟩ : Stpv) = ⟨b0, b1, b2, b3, ⟨⟨b4, b5⟩, b6, b7, b8, b9, b10, ⟨b11, b12⟩⟩⟩)) = (decide (a0 = b0) && (decide (a1 = b1) && (decide (a2 = b2) && (decide (a3 = b3) && (((((decide (a4 = b4) && (decide (a5 = b5) && true))) && (decide (a6 = b6) && (decide (a7 = b7) && (decide (a8 = b8) && (decide (a9 = b9) && (decide (a10 = b10) && (((decide (a11 = b11) && (decide (a12 = b12) && true))) && true)))))))) && true))))) by rw [Bool.eq_iff_iff]; simp [and_assoc]]
    exact h
/-! ### Ans -/
structure Ans where
  code : Int
  n : Int
  m : Int
theorem Ans.eq_iff {x y : Ans} : x = y ↔ x.code = y.code ∧ x.n = y.n ∧ x.m = y.m := by
  cases x; cases y; simp
instance : DecidableEq Ans := fun _ _ => decidable_of_iff _ Ans.eq_iff.symm
abbrev Ans.cs (x : Ans) : List Value := [.int .i64 x.code, .int .i64 x.n, .int .i64 x.m]
def Ans.ok (x : Ans) : Prop := I64 x.code ∧ I64 x.n ∧ I64 x.m
def ansT : Ty Ans where
  val x := .agg x.cs.toArray
  size := 3
  bytes := 24
  tid := 50
  zero := .agg #[.int .i64 0, .int .i64 0, .int .i64 0]
  hlen _ := rfl
  hone a u h := by simp [Value.cells] at h; rcases h with rfl | rfl | rfl <;> rfl
  hpos := by decide
  hzero := rfl
  hinfo := by kernel_rfl
  hagg := .inl ⟨by kernel_rfl, fun _ => ⟨_, rfl⟩⟩
abbrev ansT_z : Ans := ⟨0, 0, 0⟩
theorem ansT_rec : Rec Try.prog 50 [.int .i64 0, .int .i64 0, .int .i64 0] [(0, 1), (1, 1), (2, 1)] := ⟨by kernel_rfl, by kernel_rfl⟩
theorem ansT_eqa {a0 b0 a1 b1 a2 b2 : Int} : EqA Try.prog 50 #[.int .i64 a0, .int .i64 a1, .int .i64 a2] #[.int .i64 b0, .int .i64 b1, .int .i64 b2] (decide ((⟨a0, a1, a2⟩ : Ans) = ⟨b0, b1, b2⟩)) where
  ty := ⟨_, Try.underlying50⟩
  guard := by kernel_rfl
  val := by
    have h : eqv Try.prog 5 50 [.int .i64 a0, .int .i64 a1, .int .i64 a2] [.int .i64 b0, .int .i64 b1, .int .i64 b2] = some (decide (a0 = b0) && (decide (a1 = b1) && (decide (a2 = b2) && true))) := by kernel_rfl
    rw [show (decide ((⟨a0, a1, a2⟩ : Ans) = ⟨b0, b1, b2⟩)) = (decide (a0 = b0) && (decide (a1 = b1) && (decide (a2 = b2) && true))) by rw [Bool.eq_iff_iff]; simp [and_assoc]]
    exact h
end Go.Proofs.Ytncfkkmdhdofpaa.Sep
