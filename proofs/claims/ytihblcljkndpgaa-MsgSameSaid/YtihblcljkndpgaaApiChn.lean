/- Structs as types of cells (printed by tools/structs.py of tools/chain.spec). No function in sight. -/
import Derived.Test.YtihblcljkndpgaaApiEnt
namespace Go.Proofs.Ytihblcljkndpgaa.Sep
open Go.RowKit Go.Proofs.Ytihblcljkndpgaa.Reg
open Go.Proofs.Ytihblcljkndpgaa.Mem hiding Rd Own
set_option maxRecDepth 100000
/-! ### Keyv -/
structure Keyv where
  id : Idn
  ord : Int
  undo : Bool
theorem Keyv.eq_iff {x y : Keyv} : x = y ↔ x.id = y.id ∧ x.ord = y.ord ∧ x.undo = y.undo := by
  cases x; cases y; simp
instance : DecidableEq Keyv := fun _ _ => decidable_of_iff _ Keyv.eq_iff.symm
abbrev Keyv.cs (x : Keyv) : List Value := [.int .i64 x.id.rep, .int .i64 x.id.seq, .int .i64 x.ord, .bool x.undo]
def Keyv.ok (x : Keyv) : Prop := x.id.ok ∧ I64 x.ord
def keyT : Ty Keyv where
  val x := .agg x.cs.toArray
  size := 4
  bytes := 32
  tid := 30
  zero := .agg #[.int .i64 0, .int .i64 0, .int .i64 0, .bool false]
  hlen _ := rfl
  hone a u h := by simp [Value.cells] at h; rcases h with rfl | rfl | rfl | rfl <;> rfl
  hpos := by decide
  hzero := rfl
  hinfo := by kernel_rfl
  hagg := .inl ⟨by kernel_rfl, fun _ => ⟨_, rfl⟩⟩
abbrev keyT_z : Keyv := ⟨⟨0, 0⟩, 0, false⟩
theorem keyT_rec : Rec Try.prog 30 [.int .i64 0, .int .i64 0, .int .i64 0, .bool false] [(0, 2), (2, 1), (3, 1)] := ⟨by kernel_rfl, by kernel_rfl⟩
theorem keyT_eqa {a0 b0 a1 b1 a2 b2 : Int} {a3 b3 : Bool} : EqA Try.prog 30 #[.int .i64 a0, .int .i64 a1, .int .i64 a2, .bool a3] #[.int .i64 b0, .int .i64 b1, .int .i64 b2, .bool b3] (decide ((⟨⟨a0, a1⟩, a2, a3⟩ : Keyv) = ⟨⟨b0, b1⟩, b2, b3⟩)) where
  ty := ⟨_, Try.underlying30⟩
  guard := by kernel_rfl
  val := by
    have h : eqv Try.prog 5 30 [.int .i64 a0, .int .i64 a1, .int .i64 a2, .bool a3] [.int .i64 b0, .int .i64 b1, .int .i64 b2, .bool b3] = some (((decide (a0 = b0) && (decide (a1 = b1) && true))) && (decide (a2 = b2) && (decide (a3 = b3) && true))) := by kernel_rfl
    rw [show (decide ((⟨⟨a0, a1⟩, a2, a3⟩ : Keyv) = ⟨⟨b0, b1⟩, b2, b3⟩)) = (((decide (a0 = b0) && (decide (a1 = b1) && true))) && (decide (a2 = b2) && (decide (a3 = b3) && true))) by rw [Bool.eq_iff_iff]; simp [and_assoc]]
    exact h
/-! ### Req -/
structure Req where
  key : Keyv
  what : Eff
theorem Req.eq_iff {x y : Req} : x = y ↔ x.key = y.key ∧ x.what = y.what := by
  cases x; cases y; simp
instance : DecidableEq Req := fun _ _ => decidable_of_iff _ Req.eq_iff.symm
abbrev Req.cs (x : Req) : List Value := [.int .i64 x.key.id.rep, .int .i64 x.key.id.seq, .int .i64 x.key.ord, .bool x.key.undo, .int .i64 x.what.kind, .int .i64 x.what.a, .int .i64 x.what.n, .int .i64 x.what.ref.rep, .int .i64 x.what.ref.seq]
def Req.ok (x : Req) : Prop := x.key.ok ∧ x.what.ok
abbrev reqT_z : Req := ⟨⟨⟨0, 0⟩, 0, false⟩, ⟨0, 0, 0, ⟨0, 0⟩⟩⟩
/-! ### chains, and what the law keeps -/
/-- a slice of effects, and what it reads as -/
structure Efs where
  A : Option Addr
  n : Nat
  c : Nat
  l : List Eff
abbrev Efs.v (x : Efs) : Value := .slice x.A x.n x.c
/-- a call of the script -/
structure Op21 where
  kind : Int
  want : Efs
  key : Keyv
  now : Int
abbrev Op21.cs (x : Op21) : List Value := [.int .i64 x.kind, .slice x.want.A x.want.n x.want.c, .int .i64 x.key.id.rep, .int .i64 x.key.id.seq, .int .i64 x.key.ord, .bool x.key.undo, .int .i64 x.now]
end Go.Proofs.Ytihblcljkndpgaa.Sep
