/- Structs as types of cells (printed by tools/structs.py of tools/entry.spec). No function in sight. -/
import Derived.Test.YtkhmplaocfjpjaaApi
namespace Go.Proofs.Ytkhmplaocfjpjaa.Sep
open Go.RowKit Go.Proofs.Ytkhmplaocfjpjaa.Reg
open Go.Proofs.Ytkhmplaocfjpjaa.Mem hiding Rd Own
set_option maxRecDepth 100000
/-! ### Eff -/
structure Eff where
  kind : Int
  a : Int
  n : Int
  ref : Idn
theorem Eff.eq_iff {x y : Eff} : x = y ↔ x.kind = y.kind ∧ x.a = y.a ∧ x.n = y.n ∧ x.ref = y.ref := by
  cases x; cases y; simp
instance : DecidableEq Eff := fun _ _ => decidable_of_iff _ Eff.eq_iff.symm
abbrev Eff.cs (x : Eff) : List Value := [.int .i64 x.kind, .int .i64 x.a, .int .i64 x.n, .int .i64 x.ref.rep, .int .i64 x.ref.seq]
def Eff.ok (x : Eff) : Prop := I64 x.kind ∧ I64 x.a ∧ I64 x.n ∧ x.ref.ok
def effT : Ty Eff where
  val x := .agg x.cs.toArray
  size := 5
  bytes := 40
  tid := 47
  zero := .agg #[.int .i64 0, .int .i64 0, .int .i64 0, .int .i64 0, .int .i64 0]
  hlen _ := rfl
  hone a u h := by simp [Value.cells] at h; rcases h with rfl | rfl | rfl | rfl | rfl <;> rfl
  hpos := by decide
  hzero := rfl
  hinfo := by kernel_rfl
  hagg := .inl ⟨by kernel_rfl, fun _ => ⟨_, rfl⟩⟩
abbrev effT_z : Eff := ⟨0, 0, 0, ⟨0, 0⟩⟩
theorem effT_rec : Rec Try.prog 47 [.int .i64 0, .int .i64 0, .int .i64 0, .int .i64 0, .int .i64 0] [(0, 1), (1, 1), (2, 1), (3, 2)] := ⟨by kernel_rfl, by kernel_rfl⟩
theorem effT_eqa {a0 b0 a1 b1 a2 b2 a3 b3 a4 b4 : Int} : EqA Try.prog 47 #[.int .i64 a0, .int .i64 a1, .int .i64 a2, .int .i64 a3, .int .i64 a4] #[.int .i64 b0, .int .i64 b1, .int .i64 b2, .int .i64 b3, .int .i64 b4] (decide ((⟨a0, a1, a2, ⟨a3, a4⟩⟩ : Eff) = ⟨b0, b1, b2, ⟨b3, b4⟩⟩)) where
  ty := ⟨_, Try.underlying47⟩
  guard := by kernel_rfl
  val := by
    have h : eqv Try.prog 5 47 [.int .i64 a0, .int .i64 a1, .int .i64 a2, .int .i64 a3, .int .i64 a4] [.int .i64 b0, .int .i64 b1, .int .i64 b2, .int .i64 b3, .int .i64 b4] = some (decide (a0 = b0) && (decide (a1 = b1) && (decide (a2 = b2) && (((decide (a3 = b3) && (decide (a4 = b4) && true))) && true)))) := by kernel_rfl
    rw [show (decide ((⟨a0, a1, a2, ⟨a3, a4⟩⟩ : Eff) = ⟨b0, b1, b2, ⟨b3, b4⟩⟩)) = (decide (a0 = b0) && (decide (a1 = b1) && (decide (a2 = b2) && (((decide (a3 = b3) && (decide (a4 = b4) && true))) && true)))) by rw [Bool.eq_iff_iff]; simp [and_assoc]]
    exact h
/-! ### Cfg -/
structure Cfg where
  replicas : Int
  sectors : Int
  most : Int
  base : Int
  cap : Int
theorem Cfg.eq_iff {x y : Cfg} : x = y ↔ x.replicas = y.replicas ∧ x.sectors = y.sectors ∧ x.most = y.most ∧ x.base = y.base ∧ x.cap = y.cap := by
  cases x; cases y; simp
instance : DecidableEq Cfg := fun _ _ => decidable_of_iff _ Cfg.eq_iff.symm
abbrev Cfg.cs (x : Cfg) : List Value := [.int .i64 x.replicas, .int .i64 x.sectors, .int .i64 x.most, .int .i64 x.base, .int .i64 x.cap]
def Cfg.ok (x : Cfg) : Prop := I64 x.replicas ∧ I64 x.sectors ∧ I64 x.most ∧ I64 x.base ∧ I64 x.cap
def cfgT : Ty Cfg where
  val x := .agg x.cs.toArray
  size := 5
  bytes := 40
  tid := 34
  zero := .agg #[.int .i64 0, .int .i64 0, .int .i64 0, .int .i64 0, .int .i64 0]
  hlen _ := rfl
  hone a u h := by simp [Value.cells] at h; rcases h with rfl | rfl | rfl | rfl | rfl <;> rfl
  hpos := by decide
  hzero := rfl
  hinfo := by kernel_rfl
  hagg := .inl ⟨by kernel_rfl, fun _ => ⟨_, rfl⟩⟩
abbrev cfgT_z : Cfg := ⟨0, 0, 0, 0, 0⟩
theorem cfgT_rec : Rec Try.prog 34 [.int .i64 0, .int .i64 0, .int .i64 0, .int .i64 0, .int .i64 0] [(0, 1), (1, 1), (2, 1), (3, 1), (4, 1)] := ⟨by kernel_rfl, by kernel_rfl⟩
theorem cfgT_eqa {a0 b0 a1 b1 a2 b2 a3 b3 a4 b4 : Int} : EqA Try.prog 34 #[.int .i64 a0, .int .i64 a1, .int .i64 a2, .int .i64 a3, .int .i64 a4] #[.int .i64 b0, .int .i64 b1, .int .i64 b2, .int .i64 b3, .int .i64 b4] (decide ((⟨a0, a1, a2, a3, a4⟩ : Cfg) = ⟨b0, b1, b2, b3, b4⟩)) where
  ty := ⟨_, Try.underlying34⟩
  guard := by kernel_rfl
  val := by
    have h : eqv Try.prog 5 34 [.int .i64 a0, .int .i64 a1, .int .i64 a2, .int .i64 a3, .int .i64 a4] [.int .i64 b0, .int .i64 b1, .int .i64 b2, .int .i64 b3, .int .i64 b4] = some (decide (a0 = b0) && (decide (a1 = b1) && (decide (a2 = b2) && (decide (a3 = b3) && (decide (a4 = b4) && true))))) := by kernel_rfl
    rw [show (decide ((⟨a0, a1, a2, a3, a4⟩ : Cfg) = ⟨b0, b1, b2, b3, b4⟩)) = (decide (a0 = b0) && (decide (a1 = b1) && (decide (a2 = b2) && (decide (a3 = b3) && (decide (a4 = b4) && true))))) by rw [Bool.eq_iff_iff]; simp [and_assoc]]
    exact h
/-! ### Ent -/
structure Ent where
  ord : Int
  what : Eff
  sent : Int
  last : Int
  acked : Bool
  gone : Bool
  back : Int
  backLast : Int
theorem Ent.eq_iff {x y : Ent} : x = y ↔ x.ord = y.ord ∧ x.what = y.what ∧ x.sent = y.sent ∧ x.last = y.last ∧ x.acked = y.acked ∧ x.gone = y.gone ∧ x.back = y.back ∧ x.backLast = y.backLast := by
  cases x; cases y; simp
instance : DecidableEq Ent := fun _ _ => decidable_of_iff _ Ent.eq_iff.symm
abbrev Ent.cs (x : Ent) : List Value := [.int .i64 x.ord, .int .i64 x.what.kind, .int .i64 x.what.a, .int .i64 x.what.n, .int .i64 x.what.ref.rep, .int .i64 x.what.ref.seq, .int .i64 x.sent, .int .i64 x.last, .bool x.acked, .bool x.gone, .int .i64 x.back, .int .i64 x.backLast]
def Ent.ok (x : Ent) : Prop := I64 x.ord ∧ x.what.ok ∧ I64 x.sent ∧ I64 x.last ∧ I64 x.back ∧ I64 x.backLast
def entT : Ty Ent where
  val x := .agg x.cs.toArray
  size := 12
  bytes := 88
  tid := 73
  zero := .agg #[.int .i64 0, .int .i64 0, .int .i64 0, .int .i64 0, .int .i64 0, .int .i64 0, .int .i64 0, .int .i64 0, .bool false, .bool false, .int .i64 0, .int .i64 0]
  hlen _ := rfl
  hone a u h := by simp [Value.cells] at h; rcases h with rfl | rfl | rfl | rfl | rfl | rfl | rfl | rfl | rfl | rfl | rfl | rfl <;> rfl
  hpos := by decide
  hzero := rfl
  hinfo := by kernel_rfl
  hagg := .inl ⟨by kernel_rfl, fun _ => ⟨_, rfl⟩⟩
abbrev entT_z : Ent := ⟨0, ⟨0, 0, 0, ⟨0, 0⟩⟩, 0, 0, false, false, 0, 0⟩
theorem entT_rec : Rec Try.prog 73 [.int .i64 0, .int .i64 0, .int .i64 0, .int .i64 0, .int .i64 0, .int .i64 0, .int .i64 0, .int .i64 0, .bool false, .bool false, .int .i64 0, .int .i64 0] [(0, 1), (1, 5), (6, 1), (7, 1), (8, 1), (9, 1), (10, 1), (11, 1)] := ⟨by kernel_rfl, by kernel_rfl⟩
theorem entT_eqa {a0 b0 a1 b1 a2 b2 a3 b3 a4 b4 a5 b5 a6 b6 a7 b7 a10 b10 a11 b11 : Int} {a8 b8 a9 b9 : Bool} : EqA Try.prog 73 #[.int .i64 a0, .int .i64 a1, .int .i64 a2, .int .i64 a3, .int .i64 a4, .int .i64 a5, .int .i64 a6, .int .i64 a7, .bool a8, .bool a9, .int .i64 a10, .int .i64 a11] #[.int .i64 b0, .int .i64 b1, .int .i64 b2, .int .i64 b3, .int .i64 b4, .int .i64 b5, .int .i64 b6, .int .i64 b7, .bool b8, .bool b9, .int .i64 b10, .int .i64 b11] (decide ((⟨a0, ⟨a1, a2, a3, ⟨a4, a5⟩⟩, a6, a7, a8, a9, a10, a11⟩ : Ent) = ⟨b0, ⟨b1, b2, b3, ⟨b4, b5⟩⟩, b6, b7, b8, b9, b10, b11⟩)) where
  ty := ⟨_, Try.underlying73⟩
  guard := by kernel_rfl
  val := by
    have h : eqv Try.prog 5 73 [.int .i64 a0, .int .i64 a1, .int .i64 a2, .int .i64 a3, .int .i64 a4, .int .i64 a5, .int .i64 a6, .int .i64 a7, .bool a8, .bool a9, .int .i64 a10, .int .i64 a11] [.int .i64 b0, .int .i64 b1, .int .i64 b2, .int .i64 b3, .int .i64 b4, .int .i64 b5, .int .i64 b6, .int .i64 b7, .bool b8, .bool b9, .int .i64 b10, .int .i64 b11] = some (decide (a0 = b0) && (((decide (a1 = b1) && (decide (a2 = b2) && (decide (a3 = b3) && (((decide (a4 = b4) && (decide (a5 = b5) && true))) && true))))) && (decide (a6 = b6) && (decide (a7 = b7) && (decide (a8 = b8) && (decide (a9 = b9) && (decide (a10 = b10) && (decide (a11 = b11) && true)))))))) := by kernel_rfl
    rw [show (decide ((⟨a0, ⟨a1, a2, a3, ⟨a4, a5⟩⟩, a6, a7, a8, a9, a10, a11⟩ : Ent) = ⟨b0, ⟨b1, b2, b3, ⟨b4, b5⟩⟩, b6, b7, b8, b9, b10, b11⟩)) = (decide (a0 = b0) && (((decide (a1 = b1) && (decide (a2 = b2) && (decide (a3 = b3) && (((decide (a4 = b4) && (decide (a5 = b5) && true))) && true))))) && (decide (a6 = b6) && (decide (a7 = b7) && (decide (a8 = b8) && (decide (a9 = b9) && (decide (a10 = b10) && (decide (a11 = b11) && true)))))))) by rw [Bool.eq_iff_iff]; simp [and_assoc]]
    exact h
def enrT : Ty Ent where
  val x := .agg x.cs.toArray
  size := 12
  bytes := 88
  tid := 53
  zero := .agg #[.int .i64 0, .int .i64 0, .int .i64 0, .int .i64 0, .int .i64 0, .int .i64 0, .int .i64 0, .int .i64 0, .bool false, .bool false, .int .i64 0, .int .i64 0]
  hlen _ := rfl
  hone a u h := by simp [Value.cells] at h; rcases h with rfl | rfl | rfl | rfl | rfl | rfl | rfl | rfl | rfl | rfl | rfl | rfl <;> rfl
  hpos := by decide
  hzero := rfl
  hinfo := by kernel_rfl
  hagg := .inl ⟨by kernel_rfl, fun _ => ⟨_, rfl⟩⟩
abbrev enrT_z : Ent := ⟨0, ⟨0, 0, 0, ⟨0, 0⟩⟩, 0, 0, false, false, 0, 0⟩
theorem enrT_rec : Rec Try.prog 53 [.int .i64 0, .int .i64 0, .int .i64 0, .int .i64 0, .int .i64 0, .int .i64 0, .int .i64 0, .int .i64 0, .bool false, .bool false, .int .i64 0, .int .i64 0] [(0, 1), (1, 5), (6, 1), (7, 1), (8, 1), (9, 1), (10, 1), (11, 1)] := ⟨by kernel_rfl, by kernel_rfl⟩
theorem enrT_eqa {a0 b0 a1 b1 a2 b2 a3 b3 a4 b4 a5 b5 a6 b6 a7 b7 a10 b10 a11 b11 : Int} {a8 b8 a9 b9 : Bool} : EqA Try.prog 53 #[.int .i64 a0, .int .i64 a1, .int .i64 a2, .int .i64 a3, .int .i64 a4, .int .i64 a5, .int .i64 a6, .int .i64 a7, .bool a8, .bool a9, .int .i64 a10, .int .i64 a11] #[.int .i64 b0, .int .i64 b1, .int .i64 b2, .int .i64 b3, .int .i64 b4, .int .i64 b5, .int .i64 b6, .int .i64 b7, .bool b8, .bool b9, .int .i64 b10, .int .i64 b11] (decide ((⟨a0, ⟨a1, a2, a3, ⟨a4, a5⟩⟩, a6, a7, a8, a9, a10, a11⟩ : Ent) = ⟨b0, ⟨b1, b2, b3, ⟨b4, b5⟩⟩, b6, b7, b8, b9, b10, b11⟩)) where
  ty := ⟨_, Try.underlying53⟩
  guard := by kernel_rfl
  val := by
    have h : eqv Try.prog 5 53 [.int .i64 a0, .int .i64 a1, .int .i64 a2, .int .i64 a3, .int .i64 a4, .int .i64 a5, .int .i64 a6, .int .i64 a7, .bool a8, .bool a9, .int .i64 a10, .int .i64 a11] [.int .i64 b0, .int .i64 b1, .int .i64 b2, .int .i64 b3, .int .i64 b4, .int .i64 b5, .int .i64 b6, .int .i64 b7, .bool b8, .bool b9, .int .i64 b10, .int .i64 b11] = some (decide (a0 = b0) && (((decide (a1 = b1) && (decide (a2 = b2) && (decide (a3 = b3) && (((decide (a4 = b4) && (decide (a5 = b5) && true))) && true))))) && (decide (a6 = b6) && (decide (a7 = b7) && (decide (a8 = b8) && (decide (a9 = b9) && (decide (a10 = b10) && (decide (a11 = b11) && true)))))))) := by kernel_rfl
    rw [show (decide ((⟨a0, ⟨a1, a2, a3, ⟨a4, a5⟩⟩, a6, a7, a8, a9, a10, a11⟩ : Ent) = ⟨b0, ⟨b1, b2, b3, ⟨b4, b5⟩⟩, b6, b7, b8, b9, b10, b11⟩)) = (decide (a0 = b0) && (((decide (a1 = b1) && (decide (a2 = b2) && (decide (a3 = b3) && (((decide (a4 = b4) && (decide (a5 = b5) && true))) && true))))) && (decide (a6 = b6) && (decide (a7 = b7) && (decide (a8 = b8) && (decide (a9 = b9) && (decide (a10 = b10) && (decide (a11 = b11) && true)))))))) by rw [Bool.eq_iff_iff]; simp [and_assoc]]
    exact h
end Go.Proofs.Ytkhmplaocfjpjaa.Sep
