/- The shared structs as types of cells (printed by tools/structs.py of tools/api.spec). No function in sight. -/
import Derived.Test.YtkhmplaocfjpjaaEq
import Derived.Test.YtkhmplaocfjpjaaTyp
namespace Go.Proofs.Ytkhmplaocfjpjaa.Sep
open Go.RowKit Go.Proofs.Ytkhmplaocfjpjaa.Reg
open Go.Proofs.Ytkhmplaocfjpjaa.Mem hiding Rd Own
set_option maxRecDepth 100000
/-- numbers that a word holds -/
def I64 (x : Int) : Prop := -9223372036854775808 ≤ x ∧ x ≤ 9223372036854775807
/-! ### Idn -/
structure Idn where
  rep : Int
  seq : Int
theorem Idn.eq_iff {x y : Idn} : x = y ↔ x.rep = y.rep ∧ x.seq = y.seq := by
  cases x; cases y; simp
instance : DecidableEq Idn := fun _ _ => decidable_of_iff _ Idn.eq_iff.symm
abbrev Idn.cs (x : Idn) : List Value := [.int .i64 x.rep, .int .i64 x.seq]
def Idn.ok (x : Idn) : Prop := I64 x.rep ∧ I64 x.seq
def idnT : Ty Idn where
  val x := .agg x.cs.toArray
  size := 2
  bytes := 16
  tid := 38
  zero := .agg #[.int .i64 0, .int .i64 0]
  hlen _ := rfl
  hone a u h := by simp [Value.cells] at h; rcases h with rfl | rfl <;> rfl
  hpos := by decide
  hzero := rfl
  hinfo := by kernel_rfl
  hagg := .inl ⟨by kernel_rfl, fun _ => ⟨_, rfl⟩⟩
def idnT_z : Idn := ⟨0, 0⟩
theorem idnT_rec : Rec Try.prog 38 [.int .i64 0, .int .i64 0] [(0, 1), (1, 1)] := ⟨by kernel_rfl, by kernel_rfl⟩
theorem idnT_eqa {a0 b0 a1 b1 : Int} : EqA Try.prog 38 #[.int .i64 a0, .int .i64 a1] #[.int .i64 b0, .int .i64 b1] (decide ((⟨a0, a1⟩ : Idn) = ⟨b0, b1⟩)) where
  ty := ⟨_, Try.underlying38⟩
  guard := by kernel_rfl
  val := by
    have h : eqv Try.prog 5 38 [.int .i64 a0, .int .i64 a1] [.int .i64 b0, .int .i64 b1] = some (decide (a0 = b0) && (decide (a1 = b1) && true)) := by kernel_rfl
    rw [show (decide ((⟨a0, a1⟩ : Idn) = ⟨b0, b1⟩)) = (decide (a0 = b0) && (decide (a1 = b1) && true)) by rw [Bool.eq_iff_iff]; simp [and_assoc]]
    exact h
/-! ### Chg -/
structure Chg where
  id : Idn
  time : Int
  kind : Int
  a : Int
  b : Int
  n : Int
  ref : Idn
theorem Chg.eq_iff {x y : Chg} : x = y ↔ x.id = y.id ∧ x.time = y.time ∧ x.kind = y.kind ∧ x.a = y.a ∧ x.b = y.b ∧ x.n = y.n ∧ x.ref = y.ref := by
  cases x; cases y; simp
instance : DecidableEq Chg := fun _ _ => decidable_of_iff _ Chg.eq_iff.symm
abbrev Chg.cs (x : Chg) : List Value := [.int .i64 x.id.rep, .int .i64 x.id.seq, .int .i64 x.time, .int .i64 x.kind, .int .i64 x.a, .int .i64 x.b, .int .i64 x.n, .int .i64 x.ref.rep, .int .i64 x.ref.seq]
def Chg.ok (x : Chg) : Prop := x.id.ok ∧ I64 x.time ∧ I64 x.kind ∧ I64 x.a ∧ I64 x.b ∧ I64 x.n ∧ x.ref.ok
def chgT_z : Chg := ⟨⟨0, 0⟩, 0, 0, 0, 0, 0, ⟨0, 0⟩⟩
end Go.Proofs.Ytkhmplaocfjpjaa.Sep
