/- Structs as types of cells (printed by tools/structs.py of tools/entry.spec). No function in sight. -/
import Derived.Test.YtihblcljkndpgaaApi
namespace Go.Proofs.Ytihblcljkndpgaa.Sep
open Go.RowKit Go.Proofs.Ytihblcljkndpgaa.Reg
open Go.Proofs.Ytihblcljkndpgaa.Mem hiding Rd Own
set_option maxRecDepth 100000
/-! ### Eff -/
structure Eff where
  kind : Int
  a : Int
  n : Int
  ref : Idn
theorem Eff.eq_iff {x y : Eff} : x = y ↔ x.kind = y.kind ∧ x.a = y.a ∧ x.n = y.n ∧ x.ref = y.ref := by
  cases x; cases y; simp
instance : DecidableEq Eff := fun _ _ => decidable_of_iff _ Eff.eq_iff.symm
abbrev Eff.cs (x : Eff) : List Value := [.int .i64 x.kind, .int .i64 x.a, .int .i64 x.n, .int .i64 x.ref.rep, .int .i64 x.ref.seq]
def Eff.ok (x : Eff) : Prop := I64 x.kind ∧ I64 x.a ∧ I64 x.n ∧ x.ref.ok
def effT : Ty Eff where
  val x := .agg x.cs.toArray
  size := 5
  bytes := 40
  tid := 32
  zero := .agg #[.int .i64 0, .int .i64 0, .int .i64 0, .int .i64 0, .int .i64 0]
  hlen _ := rfl
  hone a u h := by simp [Value.cells] at h; rcases h with rfl | rfl | rfl | rfl | rfl <;> rfl
  hpos := by decide
  hzero := rfl
  hinfo := by kernel_rfl
  hagg := .inl ⟨by kernel_rfl, fun _ => ⟨_, rfl⟩⟩
abbrev effT_z : Eff := ⟨0, 0, 0, ⟨0, 0⟩⟩
theorem effT_rec : Rec Try.prog 32 [.int .i64 0, .int .i64 0, .int .i64 0, .int .i64 0, .int .i64 0] [(0, 1), (1, 1), (2, 1), (3, 2)] := ⟨by kernel_rfl, by kernel_rfl⟩
theorem effT_eqa {a0 b0 a1 b1 a2 b2 a3 b3 a4 b4 : Int} : EqA Try.prog 32 #[.int .i64 a0, .int .i64 a1, .int .i64 a2, .int .i64 a3, .int .i64 a4] #[.int .i64 b0, .int .i64 b1, .int .i64 b2, .int .i64 b3, .int .i64 b4] (decide ((⟨a0, a1, a2, ⟨a3, a4⟩⟩ : Eff) = ⟨b0, b1, b2, ⟨b3, b4⟩⟩)) where
  ty := ⟨_, Try.underlying32⟩
  guard := by kernel_rfl
  val := by
    have h : eqv Try.prog 5 32 [.int .i64 a0, .int .i64 a1, .int .i64 a2, .int .i64 a3, .int .i64 a4] [.int .i64 b0, .int .i64 b1, .int .i64 b2, .int .i64 b3, .int .i64 b4] = some (decide (a0 = b0) && (decide (a1 = b1) && (decide (a2 = b2) && (((decide (a3 = b3) && (decide (a4 = b4) && true))) && true)))) := by kernel_rfl
    rw [show (decide ((⟨a0, a1, a2, ⟨a3, a4⟩⟩ : Eff) = ⟨b0, b1, b2, ⟨b3, b4⟩⟩)) = (decide (a0 = b0) && (decide (a1 = b1) && (decide (a2 = b2) && (((decide (a3 = b3) && (decide (a4 = b4) && true))) && true)))) by rw [Bool.eq_iff_iff]; simp [and_assoc]]
    exact h
/-! ### Cfg -/
structure Cfg where
  replicas : Int
  sectors : Int
  most : Int
  base : Int
  cap : Int
theorem Cfg.eq_iff {x y : Cfg} : x = y ↔ x.replicas = y.replicas ∧ x.sectors = y.sectors ∧ x.most = y.most ∧ x.base = y.base ∧ x.cap = y.cap := by
  cases x; cases y; simp
instance : DecidableEq Cfg := fun _ _ => decidable_of_iff _ Cfg.eq_iff.symm
abbrev Cfg.cs (x : Cfg) : List Value := [.int .i64 x.replicas, .int .i64 x.sectors, .int .i64 x.most, .int .i64 x.base, .int .i64 x.cap]
def Cfg.ok (x : Cfg) : Prop := I64 x.replicas ∧ I64 x.sectors ∧ I64 x.most ∧ I64 x.base ∧ I64 x.cap
abbrev cfgT_z : Cfg := ⟨0, 0, 0, 0, 0⟩
/-! ### Ent -/
structure Ent where
  ord : Int
  what : Eff
  sent : Int
  last : Int
  acked : Bool
  gone : Bool
  back : Int
  backLast : Int
theorem Ent.eq_iff {x y : Ent} : x = y ↔ x.ord = y.ord ∧ x.what = y.what ∧ x.sent = y.sent ∧ x.last = y.last ∧ x.acked = y.acked ∧ x.gone = y.gone ∧ x.back = y.back ∧ x.backLast = y.backLast := by
  cases x; cases y; simp
instance : DecidableEq Ent := fun _ _ => decidable_of_iff _ Ent.eq_iff.symm
abbrev Ent.cs (x : Ent) : List Value := [.int .i64 x.ord, .int .i64 x.what.kind, .int .i64 x.what.a, .int .i64 x.what.n, .int .i64 x.what.ref.rep, .int .i64 x.what.ref.seq, .int .i64 x.sent, .int .i64 x.last, .bool x.acked, .bool x.gone, .int .i64 x.back, .int .i64 x.backLast]
def Ent.ok (x : Ent) : Prop := I64 x.ord ∧ x.what.ok ∧ I64 x.sent ∧ I64 x.last ∧ I64 x.back ∧ I64 x.backLast
abbrev entT_z : Ent := ⟨0, ⟨0, 0, 0, ⟨0, 0⟩⟩, 0, 0, false, false, 0, 0⟩
abbrev enrT_z : Ent := ⟨0, ⟨0, 0, 0, ⟨0, 0⟩⟩, 0, 0, false, false, 0, 0⟩
end Go.Proofs.Ytihblcljkndpgaa.Sep
