/- Structs as types of cells (printed by tools/structs.py of tools/gate.spec). No function in sight. -/
import Derived.Test.YtbnfpmdieiknmaaEq
import Derived.Test.YtbnfpmdieiknmaaTyp
namespace Go.Proofs.Ytbnfpmdieiknmaa.Sep
open Go.RowKit Go.Proofs.Ytbnfpmdieiknmaa.Reg
open Go.Proofs.Ytbnfpmdieiknmaa.Mem hiding Rd Own
set_option maxRecDepth 100000
/-- numbers that a word holds -/
def I64 (x : Int) : Prop := -9223372036854775808 ≤ x ∧ x ≤ 9223372036854775807
/-! ### Idn -/
structure Idn where
  rep : Int
  seq : Int
theorem Idn.eq_iff {x y : Idn} : x = y ↔ x.rep = y.rep ∧ x.seq = y.seq := by
  cases x; cases y; simp
instance : DecidableEq Idn := fun _ _ => decidable_of_iff _ Idn.eq_iff.symm
abbrev Idn.cs (x : Idn) : List Value := [.int .i64 x.rep, .int .i64 x.seq]
def Idn.ok (x : Idn) : Prop := I64 x.rep ∧ I64 x.seq
def idnT : Ty Idn where
  val x := .agg x.cs.toArray
  size := 2
  bytes := 16
  tid := 64
  zero := .agg #[.int .i64 0, .int .i64 0]
  hlen _ := rfl
  hone a u h := by simp [Value.cells] at h; rcases h with rfl | rfl <;> rfl
  hpos := by decide
  hzero := rfl
  hinfo := by kernel_rfl
  hagg := .inl ⟨by kernel_rfl, fun _ => ⟨_, rfl⟩⟩
abbrev idnT_z : Idn := ⟨0, 0⟩
theorem idnT_rec : Rec Try.prog 64 [.int .i64 0, .int .i64 0] [(0, 1), (1, 1)] := ⟨by kernel_rfl, by kernel_rfl⟩
theorem idnT_eqa {a0 b0 a1 b1 : Int} : EqA Try.prog 64 #[.int .i64 a0, .int .i64 a1] #[.int .i64 b0, .int .i64 b1] (decide ((⟨a0, a1⟩ : Idn) = ⟨b0, b1⟩)) where
  ty := ⟨_, Try.underlying64⟩
  guard := by kernel_rfl
  val := by
    have h : eqv Try.prog 5 64 [.int .i64 a0, .int .i64 a1] [.int .i64 b0, .int .i64 b1] = some (decide (a0 = b0) && (decide (a1 = b1) && true)) := by kernel_rfl
    rw [show (decide ((⟨a0, a1⟩ : Idn) = ⟨b0, b1⟩)) = (decide (a0 = b0) && (decide (a1 = b1) && true)) by rw [Bool.eq_iff_iff]; simp [and_assoc]]
    exact h
/-! ### Eff -/
structure Eff where
  kind : Int
  a : Int
  n : Int
  ref : Idn
theorem Eff.eq_iff {x y : Eff} : x = y ↔ x.kind = y.kind ∧ x.a = y.a ∧ x.n = y.n ∧ x.ref = y.ref := by
  cases x; cases y; simp
instance : DecidableEq Eff := fun _ _ => decidable_of_iff _ Eff.eq_iff.symm
abbrev Eff.cs (x : Eff) : List Value := [.int .i64 x.kind, .int .i64 x.a, .int .i64 x.n, .int .i64 x.ref.rep, .int .i64 x.ref.seq]
def Eff.ok (x : Eff) : Prop := I64 x.kind ∧ I64 x.a ∧ I64 x.n ∧ x.ref.ok
def effT : Ty Eff where
  val x := .agg x.cs.toArray
  size := 5
  bytes := 40
  tid := 68
  zero := .agg #[.int .i64 0, .int .i64 0, .int .i64 0, .int .i64 0, .int .i64 0]
  hlen _ := rfl
  hone a u h := by simp [Value.cells] at h; rcases h with rfl | rfl | rfl | rfl | rfl <;> rfl
  hpos := by decide
  hzero := rfl
  hinfo := by kernel_rfl
  hagg := .inl ⟨by kernel_rfl, fun _ => ⟨_, rfl⟩⟩
abbrev effT_z : Eff := ⟨0, 0, 0, ⟨0, 0⟩⟩
theorem effT_rec : Rec Try.prog 68 [.int .i64 0, .int .i64 0, .int .i64 0, .int .i64 0, .int .i64 0] [(0, 1), (1, 1), (2, 1), (3, 2)] := ⟨by kernel_rfl, by kernel_rfl⟩
theorem effT_eqa {a0 b0 a1 b1 a2 b2 a3 b3 a4 b4 : Int} : EqA Try.prog 68 #[.int .i64 a0, .int .i64 a1, .int .i64 a2, .int .i64 a3, .int .i64 a4] #[.int .i64 b0, .int .i64 b1, .int .i64 b2, .int .i64 b3, .int .i64 b4] (decide ((⟨a0, a1, a2, ⟨a3, a4⟩⟩ : Eff) = ⟨b0, b1, b2, ⟨b3, b4⟩⟩)) where
  ty := ⟨_, Try.underlying68⟩
  guard := by kernel_rfl
  val := by
    have h : eqv Try.prog 5 68 [.int .i64 a0, .int .i64 a1, .int .i64 a2, .int .i64 a3, .int .i64 a4] [.int .i64 b0, .int .i64 b1, .int .i64 b2, .int .i64 b3, .int .i64 b4] = some (decide (a0 = b0) && (decide (a1 = b1) && (decide (a2 = b2) && (((decide (a3 = b3) && (decide (a4 = b4) && true))) && true)))) := by kernel_rfl
    rw [show (decide ((⟨a0, a1, a2, ⟨a3, a4⟩⟩ : Eff) = ⟨b0, b1, b2, ⟨b3, b4⟩⟩)) = (decide (a0 = b0) && (decide (a1 = b1) && (decide (a2 = b2) && (((decide (a3 = b3) && (decide (a4 = b4) && true))) && true)))) by rw [Bool.eq_iff_iff]; simp [and_assoc]]
    exact h
/-! ### Keyv -/
structure Keyv where
  id : Idn
  ord : Int
  undo : Bool
theorem Keyv.eq_iff {x y : Keyv} : x = y ↔ x.id = y.id ∧ x.ord = y.ord ∧ x.undo = y.undo := by
  cases x; cases y; simp
instance : DecidableEq Keyv := fun _ _ => decidable_of_iff _ Keyv.eq_iff.symm
abbrev Keyv.cs (x : Keyv) : List Value := [.int .i64 x.id.rep, .int .i64 x.id.seq, .int .i64 x.ord, .bool x.undo]
def Keyv.ok (x : Keyv) : Prop := x.id.ok ∧ I64 x.ord
def keyT : Ty Keyv where
  val x := .agg x.cs.toArray
  size := 4
  bytes := 32
  tid := 66
  zero := .agg #[.int .i64 0, .int .i64 0, .int .i64 0, .bool false]
  hlen _ := rfl
  hone a u h := by simp [Value.cells] at h; rcases h with rfl | rfl | rfl | rfl <;> rfl
  hpos := by decide
  hzero := rfl
  hinfo := by kernel_rfl
  hagg := .inl ⟨by kernel_rfl, fun _ => ⟨_, rfl⟩⟩
abbrev keyT_z : Keyv := ⟨⟨0, 0⟩, 0, false⟩
theorem keyT_rec : Rec Try.prog 66 [.int .i64 0, .int .i64 0, .int .i64 0, .bool false] [(0, 2), (2, 1), (3, 1)] := ⟨by kernel_rfl, by kernel_rfl⟩
theorem keyT_eqa {a0 b0 a1 b1 a2 b2 : Int} {a3 b3 : Bool} : EqA Try.prog 66 #[.int .i64 a0, .int .i64 a1, .int .i64 a2, .bool a3] #[.int .i64 b0, .int .i64 b1, .int .i64 b2, .bool b3] (decide ((⟨⟨a0, a1⟩, a2, a3⟩ : Keyv) = ⟨⟨b0, b1⟩, b2, b3⟩)) where
  ty := ⟨_, Try.underlying66⟩
  guard := by kernel_rfl
  val := by
    have h : eqv Try.prog 5 66 [.int .i64 a0, .int .i64 a1, .int .i64 a2, .bool a3] [.int .i64 b0, .int .i64 b1, .int .i64 b2, .bool b3] = some (((decide (a0 = b0) && (decide (a1 = b1) && true))) && (decide (a2 = b2) && (decide (a3 = b3) && true))) := by kernel_rfl
    rw [show (decide ((⟨⟨a0, a1⟩, a2, a3⟩ : Keyv) = ⟨⟨b0, b1⟩, b2, b3⟩)) = (((decide (a0 = b0) && (decide (a1 = b1) && true))) && (decide (a2 = b2) && (decide (a3 = b3) && true))) by rw [Bool.eq_iff_iff]; simp [and_assoc]]
    exact h
/-! ### Req -/
structure Req where
  key : Keyv
  what : Eff
theorem Req.eq_iff {x y : Req} : x = y ↔ x.key = y.key ∧ x.what = y.what := by
  cases x; cases y; simp
instance : DecidableEq Req := fun _ _ => decidable_of_iff _ Req.eq_iff.symm
abbrev Req.cs (x : Req) : List Value := [.int .i64 x.key.id.rep, .int .i64 x.key.id.seq, .int .i64 x.key.ord, .bool x.key.undo, .int .i64 x.what.kind, .int .i64 x.what.a, .int .i64 x.what.n, .int .i64 x.what.ref.rep, .int .i64 x.what.ref.seq]
def Req.ok (x : Req) : Prop := x.key.ok ∧ x.what.ok
def reqT : Ty Req where
  val x := .agg x.cs.toArray
  size := 9
  bytes := 72
  tid := 70
  zero := .agg #[.int .i64 0, .int .i64 0, .int .i64 0, .bool false, .int .i64 0, .int .i64 0, .int .i64 0, .int .i64 0, .int .i64 0]
  hlen _ := rfl
  hone a u h := by simp [Value.cells] at h; rcases h with rfl | rfl | rfl | rfl | rfl | rfl | rfl | rfl | rfl <;> rfl
  hpos := by decide
  hzero := rfl
  hinfo := by kernel_rfl
  hagg := .inl ⟨by kernel_rfl, fun _ => ⟨_, rfl⟩⟩
abbrev reqT_z : Req := ⟨⟨⟨0, 0⟩, 0, false⟩, ⟨0, 0, 0, ⟨0, 0⟩⟩⟩
theorem reqT_rec : Rec Try.prog 70 [.int .i64 0, .int .i64 0, .int .i64 0, .bool false, .int .i64 0, .int .i64 0, .int .i64 0, .int .i64 0, .int .i64 0] [(0, 4), (4, 5)] := ⟨by kernel_rfl, by kernel_rfl⟩
theorem reqT_eqa {a0 b0 a1 b1 a2 b2 a4 b4 a5 b5 a6 b6 a7 b7 a8 b8 : Int} {a3 b3 : Bool} : EqA Try.prog 70 #[.int .i64 a0, .int .i64 a1, .int .i64 a2, .bool a3, .int .i64 a4, .int .i64 a5, .int .i64 a6, .int .i64 a7, .int .i64 a8] #[.int .i64 b0, .int .i64 b1, .int .i64 b2, .bool b3, .int .i64 b4, .int .i64 b5, .int .i64 b6, .int .i64 b7, .int .i64 b8] (decide ((⟨⟨⟨a0, a1⟩, a2, a3⟩, ⟨a4, a5, a6, ⟨a7, a8⟩⟩⟩ : Req) = ⟨⟨⟨b0, b1⟩, b2, b3⟩, ⟨b4, b5, b6, ⟨b7, b8⟩⟩⟩)) where
  ty := ⟨_, Try.underlying70⟩
  guard := by kernel_rfl
  val := by
    have h : eqv Try.prog 5 70 [.int .i64 a0, .int .i64 a1, .int .i64 a2, .bool a3, .int .i64 a4, .int .i64 a5, .int .i64 a6, .int .i64 a7, .int .i64 a8] [.int .i64 b0, .int .i64 b1, .int .i64 b2, .bool b3, .int .i64 b4, .int .i64 b5, .int .i64 b6, .int .i64 b7, .int .i64 b8] = some (((((decide (a0 = b0) && (decide (a1 = b1) && true))) && (decide (a2 = b2) && (decide (a3 = b3) && true)))) && (((decide (a4 = b4) && (decide (a5 = b5) && (decide (a6 = b6) && (((decide (a7 = b7) && (decide (a8 = b8) && true))) && true))))) && true)) := by kernel_rfl
    rw [show (decide ((⟨⟨⟨a0, a1⟩, a2, a3⟩, ⟨a4, a5, a6, ⟨a7, a8⟩⟩⟩ : Req) = ⟨⟨⟨b0, b1⟩, b2, b3⟩, ⟨b4, b5, b6, ⟨b7, b8⟩⟩⟩)) = (((((decide (a0 = b0) && (decide (a1 = b1) && true))) && (decide (a2 = b2) && (decide (a3 = b3) && true)))) && (((decide (a4 = b4) && (decide (a5 = b5) && (decide (a6 = b6) && (((decide (a7 = b7) && (decide (a8 = b8) && true))) && true))))) && true)) by rw [Bool.eq_iff_iff]; simp [and_assoc]]
    exact h
/-! ### Op30 -/
structure Op30 where
  kind : Int
  q : Req
  n : Int
theorem Op30.eq_iff {x y : Op30} : x = y ↔ x.kind = y.kind ∧ x.q = y.q ∧ x.n = y.n := by
  cases x; cases y; simp
instance : DecidableEq Op30 := fun _ _ => decidable_of_iff _ Op30.eq_iff.symm
abbrev Op30.cs (x : Op30) : List Value := [.int .i64 x.kind, .int .i64 x.q.key.id.rep, .int .i64 x.q.key.id.seq, .int .i64 x.q.key.ord, .bool x.q.key.undo, .int .i64 x.q.what.kind, .int .i64 x.q.what.a, .int .i64 x.q.what.n, .int .i64 x.q.what.ref.rep, .int .i64 x.q.what.ref.seq, .int .i64 x.n]
def Op30.ok (x : Op30) : Prop := I64 x.kind ∧ x.q.ok ∧ I64 x.n
def op30T : Ty Op30 where
  val x := .agg x.cs.toArray
  size := 11
  bytes := 88
  tid := 72
  zero := .agg #[.int .i64 0, .int .i64 0, .int .i64 0, .int .i64 0, .bool false, .int .i64 0, .int .i64 0, .int .i64 0, .int .i64 0, .int .i64 0, .int .i64 0]
  hlen _ := rfl
  hone a u h := by simp [Value.cells] at h; rcases h with rfl | rfl | rfl | rfl | rfl | rfl | rfl | rfl | rfl | rfl | rfl <;> rfl
  hpos := by decide
  hzero := rfl
  hinfo := by kernel_rfl
  hagg := .inl ⟨by kernel_rfl, fun _ => ⟨_, rfl⟩⟩
abbrev op30T_z : Op30 := ⟨0, ⟨⟨⟨0, 0⟩, 0, false⟩, ⟨0, 0, 0, ⟨0, 0⟩⟩⟩, 0⟩
theorem op30T_rec : Rec Try.prog 72 [.int .i64 0, .int .i64 0, .int .i64 0, .int .i64 0, .bool false, .int .i64 0, .int .i64 0, .int .i64 0, .int .i64 0, .int .i64 0, .int .i64 0] [(0, 1), (1, 9), (10, 1)] := ⟨by kernel_rfl, by kernel_rfl⟩
theorem op30T_eqa {a0 b0 a1 b1 a2 b2 a3 b3 a5 b5 a6 b6 a7 b7 a8 b8 a9 b9 a10 b10 : Int} {a4 b4 : Bool} : EqA Try.prog 72 #[.int .i64 a0, .int .i64 a1, .int .i64 a2, .int .i64 a3, .bool a4, .int .i64 a5, .int .i64 a6, .int .i64 a7, .int .i64 a8, .int .i64 a9, .int .i64 a10] #[.int .i64 b0, .int .i64 b1, .int .i64 b2, .int .i64 b3, .bool b4, .int .i64 b5, .int .i64 b6, .int .i64 b7, .int .i64 b8, .int .i64 b9, .int .i64 b10] (decide ((⟨a0, ⟨⟨⟨a1, a2⟩, a3, a4⟩, ⟨a5, a6, a7, ⟨a8, a9⟩⟩⟩, a10⟩ : Op30) = ⟨b0, ⟨⟨⟨b1, b2⟩, b3, b4⟩, ⟨b5, b6, b7, ⟨b8, b9⟩⟩⟩, b10⟩)) where
  ty := ⟨_, Try.underlying72⟩
  guard := by kernel_rfl
  val := by
    have h : eqv Try.prog 5 72 [.int .i64 a0, .int .i64 a1, .int .i64 a2, .int .i64 a3, .bool a4, .int .i64 a5, .int .i64 a6, .int .i64 a7, .int .i64 a8, .int .i64 a9, .int .i64 a10] [.int .i64 b0, .int .i64 b1, .int .i64 b2, .int .i64 b3, .bool b4, .int .i64 b5, .int .i64 b6, .int .i64 b7, .int .i64 b8, .int .i64 b9, .int .i64 b10] = some (decide (a0 = b0) && (((((((decide (a1 = b1) && (decide (a2 = b2) && true))) && (decide (a3 = b3) && (decide (a4 = b4) && true)))) && (((decide (a5 = b5) && (decide (a6 = b6) && (decide (a7 = b7) && (((decide (a8 = b8) && (decide (a9 = b9) && true))) && true))))) && true))) && (decide (a10 = b10) && true))) := by kernel_rfl
    rw [show (decide ((⟨a0, ⟨⟨⟨a1, a2⟩, a3, a4⟩, ⟨a5, a6, a7, ⟨a8, a9⟩⟩⟩, a10⟩ : Op30) = ⟨b0, ⟨⟨⟨b1, b2⟩, b3, b4⟩, ⟨b5, b6, b7, ⟨b8, b9⟩⟩⟩, b10⟩)) = (decide (a0 = b0) && (((((((decide (a1 = b1) && (decide (a2 = b2) && true))) && (decide (a3 = b3) && (decide (a4 = b4) && true)))) && (((decide (a5 = b5) && (decide (a6 = b6) && (decide (a7 = b7) && (((decide (a8 = b8) && (decide (a9 = b9) && true))) && true))))) && true))) && (decide (a10 = b10) && true))) by rw [Bool.eq_iff_iff]; simp [and_assoc]]
    exact h
end Go.Proofs.Ytbnfpmdieiknmaa.Sep
