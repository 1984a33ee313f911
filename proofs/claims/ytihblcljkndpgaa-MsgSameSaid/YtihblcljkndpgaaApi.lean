/- The shared structs as types of cells (printed by tools/structs.py of tools/api.spec). No function in sight. -/
import Derived.Test.YtihblcljkndpgaaEq
import Derived.Test.YtihblcljkndpgaaTyp
namespace Go.Proofs.Ytihblcljkndpgaa.Sep
open Go.RowKit Go.Proofs.Ytihblcljkndpgaa.Reg
open Go.Proofs.Ytihblcljkndpgaa.Mem hiding Rd Own
set_option maxRecDepth 100000
/-- numbers that a word holds -/
def I64 (x : Int) : Prop := -9223372036854775808 ≤ x ∧ x ≤ 9223372036854775807
/-! ### Idn -/
structure Idn where
  rep : Int
  seq : Int
theorem Idn.eq_iff {x y : Idn} : x = y ↔ x.rep = y.rep ∧ x.seq = y.seq := by
  cases x; cases y; simp
instance : DecidableEq Idn := fun _ _ => decidable_of_iff _ Idn.eq_iff.symm
abbrev Idn.cs (x : Idn) : List Value := [.int .i64 x.rep, .int .i64 x.seq]
def Idn.ok (x : Idn) : Prop := I64 x.rep ∧ I64 x.seq
def idnT : Ty Idn where
  val x := .agg x.cs.toArray
  size := 2
  bytes := 16
  tid := 28
  zero := .agg #[.int .i64 0, .int .i64 0]
  hlen _ := rfl
  hone a u h := by simp [Value.cells] at h; rcases h with rfl | rfl <;> rfl
  hpos := by decide
  hzero := rfl
  hinfo := by kernel_rfl
  hagg := .inl ⟨by kernel_rfl, fun _ => ⟨_, rfl⟩⟩
def idnT_z : Idn := ⟨0, 0⟩
theorem idnT_rec : Rec Try.prog 28 [.int .i64 0, .int .i64 0] [(0, 1), (1, 1)] := ⟨by kernel_rfl, by kernel_rfl⟩
theorem idnT_eqa {a0 b0 a1 b1 : Int} : EqA Try.prog 28 #[.int .i64 a0, .int .i64 a1] #[.int .i64 b0, .int .i64 b1] (decide ((⟨a0, a1⟩ : Idn) = ⟨b0, b1⟩)) where
  ty := ⟨_, Try.underlying28⟩
  guard := by kernel_rfl
  val := by
    have h : eqv Try.prog 5 28 [.int .i64 a0, .int .i64 a1] [.int .i64 b0, .int .i64 b1] = some (decide (a0 = b0) && (decide (a1 = b1) && true)) := by kernel_rfl
    rw [show (decide ((⟨a0, a1⟩ : Idn) = ⟨b0, b1⟩)) = (decide (a0 = b0) && (decide (a1 = b1) && true)) by rw [Bool.eq_iff_iff]; simp [and_assoc]]
    exact h
/-! ### Chg -/
structure Chg where
  id : Idn
  time : Int
  kind : Int
  a : Int
  b : Int
  n : Int
  ref : Idn
theorem Chg.eq_iff {x y : Chg} : x = y ↔ x.id = y.id ∧ x.time = y.time ∧ x.kind = y.kind ∧ x.a = y.a ∧ x.b = y.b ∧ x.n = y.n ∧ x.ref = y.ref := by
  cases x; cases y; simp
instance : DecidableEq Chg := fun _ _ => decidable_of_iff _ Chg.eq_iff.symm
abbrev Chg.cs (x : Chg) : List Value := [.int .i64 x.id.rep, .int .i64 x.id.seq, .int .i64 x.time, .int .i64 x.kind, .int .i64 x.a, .int .i64 x.b, .int .i64 x.n, .int .i64 x.ref.rep, .int .i64 x.ref.seq]
def Chg.ok (x : Chg) : Prop := x.id.ok ∧ I64 x.time ∧ I64 x.kind ∧ I64 x.a ∧ I64 x.b ∧ I64 x.n ∧ x.ref.ok
def chgT : Ty Chg where
  val x := .agg x.cs.toArray
  size := 9
  bytes := 72
  tid := 50
  zero := .agg #[.int .i64 0, .int .i64 0, .int .i64 0, .int .i64 0, .int .i64 0, .int .i64 0, .int .i64 0, .int .i64 0, .int .i64 0]
  hlen _ := rfl
  hone a u h := by simp [Value.cells] at h; rcases h with rfl | rfl | rfl | rfl | rfl | rfl | rfl | rfl | rfl <;> rfl
  hpos := by decide
  hzero := rfl
  hinfo := by kernel_rfl
  hagg := .inl ⟨by kernel_rfl, fun _ => ⟨_, rfl⟩⟩
def chgT_z : Chg := ⟨⟨0, 0⟩, 0, 0, 0, 0, 0, ⟨0, 0⟩⟩
theorem chgT_rec : Rec Try.prog 50 [.int .i64 0, .int .i64 0, .int .i64 0, .int .i64 0, .int .i64 0, .int .i64 0, .int .i64 0, .int .i64 0, .int .i64 0] [(0, 2), (2, 1), (3, 1), (4, 1), (5, 1), (6, 1), (7, 2)] := ⟨by kernel_rfl, by kernel_rfl⟩
theorem chgT_eqa {a0 b0 a1 b1 a2 b2 a3 b3 a4 b4 a5 b5 a6 b6 a7 b7 a8 b8 : Int} : EqA Try.prog 50 #[.int .i64 a0, .int .i64 a1, .int .i64 a2, .int .i64 a3, .int .i64 a4, .int .i64 a5, .int .i64 a6, .int .i64 a7, .int .i64 a8] #[.int .i64 b0, .int .i64 b1, .int .i64 b2, .int .i64 b3, .int .i64 b4, .int .i64 b5, .int .i64 b6, .int .i64 b7, .int .i64 b8] (decide ((⟨⟨a0, a1⟩, a2, a3, a4, a5, a6, ⟨a7, a8⟩⟩ : Chg) = ⟨⟨b0, b1⟩, b2, b3, b4, b5, b6, ⟨b7, b8⟩⟩)) where
  ty := ⟨_, Try.underlying50⟩
  guard := by kernel_rfl
  val := by
    have h : eqv Try.prog 5 50 [.int .i64 a0, .int .i64 a1, .int .i64 a2, .int .i64 a3, .int .i64 a4, .int .i64 a5, .int .i64 a6, .int .i64 a7, .int .i64 a8] [.int .i64 b0, .int .i64 b1, .int .i64 b2, .int .i64 b3, .int .i64 b4, .int .i64 b5, .int .i64 b6, .int .i64 b7, .int .i64 b8] = some (((decide (a0 = b0) && (decide (a1 = b1) && true))) && (decide (a2 = b2) && (decide (a3 = b3) && (decide (a4 = b4) && (decide (a5 = b5) && (decide (a6 = b6) && (((decide (a7 = b7) && (decide (a8 = b8) && true))) && true))))))) := by kernel_rfl
    rw [show (decide ((⟨⟨a0, a1⟩, a2, a3, a4, a5, a6, ⟨a7, a8⟩⟩ : Chg) = ⟨⟨b0, b1⟩, b2, b3, b4, b5, b6, ⟨b7, b8⟩⟩)) = (((decide (a0 = b0) && (decide (a1 = b1) && true))) && (decide (a2 = b2) && (decide (a3 = b3) && (decide (a4 = b4) && (decide (a5 = b5) && (decide (a6 = b6) && (((decide (a7 = b7) && (decide (a8 = b8) && true))) && true))))))) by rw [Bool.eq_iff_iff]; simp [and_assoc]]
    exact h
end Go.Proofs.Ytihblcljkndpgaa.Sep
