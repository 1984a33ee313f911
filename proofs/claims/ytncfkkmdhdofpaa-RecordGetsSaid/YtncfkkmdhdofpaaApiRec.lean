/- Structs as types of cells (printed by tools/structs.py of tools/record.spec). No function in sight. -/
import Derived.Test.YtncfkkmdhdofpaaApi
namespace Go.Proofs.Ytncfkkmdhdofpaa.Sep
open Go.RowKit Go.Proofs.Ytncfkkmdhdofpaa.Reg
open Go.Proofs.Ytncfkkmdhdofpaa.Mem hiding Rd Own
set_option maxRecDepth 100000
/-! ### Keyv -/
structure Keyv where
  id : Idn
  ord : Int
  undo : Bool
theorem Keyv.eq_iff {x y : Keyv} : x = y ↔ x.id = y.id ∧ x.ord = y.ord ∧ x.undo = y.undo := by
  cases x; cases y; simp
instance : DecidableEq Keyv := fun _ _ => decidable_of_iff _ Keyv.eq_iff.symm
abbrev Keyv.cs (x : Keyv) : List Value := [.int .i64 x.id.rep, .int .i64 x.id.seq, .int .i64 x.ord, .bool x.undo]
def Keyv.ok (x : Keyv) : Prop := x.id.ok ∧ I64 x.ord
def keyT : Ty Keyv where
  val x := .agg x.cs.toArray
  size := 4
  bytes := 32
  tid := 71
  zero := .agg #[.int .i64 0, .int .i64 0, .int .i64 0, .bool false]
  hlen _ := rfl
  hone a u h := by simp [Value.cells] at h; rcases h with rfl | rfl | rfl | rfl <;> rfl
  hpos := by decide
  hzero := rfl
  hinfo := by kernel_rfl
  hagg := .inl ⟨by kernel_rfl, fun _ => ⟨_, rfl⟩⟩
abbrev keyT_z : Keyv := ⟨⟨0, 0⟩, 0, false⟩
theorem keyT_rec : Rec Try.prog 71 [.int .i64 0, .int .i64 0, .int .i64 0, .bool false] [(0, 2), (2, 1), (3, 1)] := ⟨by kernel_rfl, by kernel_rfl⟩
theorem keyT_eqa {a0 b0 a1 b1 a2 b2 : Int} {a3 b3 : Bool} : EqA Try.prog 71 #[.int .i64 a0, .int .i64 a1, .int .i64 a2, .bool a3] #[.int .i64 b0, .int .i64 b1, .int .i64 b2, .bool b3] (decide ((⟨⟨a0, a1⟩, a2, a3⟩ : Keyv) = ⟨⟨b0, b1⟩, b2, b3⟩)) where
  ty := ⟨_, Try.underlying71⟩
  guard := by kernel_rfl
  val := by
    have h : eqv Try.prog 5 71 [.int .i64 a0, .int .i64 a1, .int .i64 a2, .bool a3] [.int .i64 b0, .int .i64 b1, .int .i64 b2, .bool b3] = some (((decide (a0 = b0) && (decide (a1 = b1) && true))) && (decide (a2 = b2) && (decide (a3 = b3) && true))) := by kernel_rfl
    rw [show (decide ((⟨⟨a0, a1⟩, a2, a3⟩ : Keyv) = ⟨⟨b0, b1⟩, b2, b3⟩)) = (((decide (a0 = b0) && (decide (a1 = b1) && true))) && (decide (a2 = b2) && (decide (a3 = b3) && true))) by rw [Bool.eq_iff_iff]; simp [and_assoc]]
    exact h
/-! ### Rcd -/
structure Rcd where
  kind : Int
  c : Chg
  id : Idn
  key : Keyv
  now : Int
theorem Rcd.eq_iff {x y : Rcd} : x = y ↔ x.kind = y.kind ∧ x.c = y.c ∧ x.id = y.id ∧ x.key = y.key ∧ x.now = y.now := by
  cases x; cases y; simp
instance : DecidableEq Rcd := fun _ _ => decidable_of_iff _ Rcd.eq_iff.symm
abbrev Rcd.cs (x : Rcd) : List Value := [.int .i64 x.kind, .int .i64 x.c.id.rep, .int .i64 x.c.id.seq, .int .i64 x.c.time, .int .i64 x.c.kind, .int .i64 x.c.a, .int .i64 x.c.b, .int .i64 x.c.n, .int .i64 x.c.ref.rep, .int .i64 x.c.ref.seq, .int .i64 x.id.rep, .int .i64 x.id.seq, .int .i64 x.key.id.rep, .int .i64 x.key.id.seq, .int .i64 x.key.ord, .bool x.key.undo, .int .i64 x.now]
def Rcd.ok (x : Rcd) : Prop := I64 x.kind ∧ x.c.ok ∧ x.id.ok ∧ x.key.ok ∧ I64 x.now
def rcdT : Ty Rcd where
  val x := .agg x.cs.toArray
  size := 17
  bytes := 136
  tid := 73
  zero := .agg #[.int .i64 0, .int .i64 0, .int .i64 0, .int .i64 0, .int .i64 0, .int .i64 0, .int .i64 0, .int .i64 0, .int .i64 0, .int .i64 0, .int .i64 0, .int .i64 0, .int .i64 0, .int .i64 0, .int .i64 0, .bool false, .int .i64 0]
  hlen _ := rfl
  hone a u h := by simp [Value.cells] at h; rcases h with rfl | rfl | rfl | rfl | rfl | rfl | rfl | rfl | rfl | rfl | rfl | rfl | rfl | rfl | rfl | rfl | rfl <;> rfl
  hpos := by decide
  hzero := rfl
  hinfo := by kernel_rfl
  hagg := .inl ⟨by kernel_rfl, fun _ => ⟨_, rfl⟩⟩
abbrev rcdT_z : Rcd := ⟨0, ⟨⟨0, 0⟩, 0, 0, 0, 0, 0, ⟨0, 0⟩⟩, ⟨0, 0⟩, ⟨⟨0, 0⟩, 0, false⟩, 0⟩
theorem rcdT_rec : Rec Try.prog 73 [.int .i64 0, .int .i64 0, .int .i64 0, .int .i64 0, .int .i64 0, .int .i64 0, .int .i64 0, .int .i64 0, .int .i64 0, .int .i64 0, .int .i64 0, .int .i64 0, .int .i64 0, .int .i64 0, .int .i64 0, .bool false, .int .i64 0] [(0, 1), (1, 9), (10, 2), (12, 4), (16, 1)] := ⟨by kernel_rfl, by kernel_rfl⟩
theorem rcdT_eqa {a0 b0 a1 b1 a2 b2 a3 b3 a4 b4 a5 b5 a6 b6 a7 b7 a8 b8 a9 b9 a10 b10 a11 b11 a12 b12 a13 b13 a14 b14 a16 b16 : Int} {a15 b15 : Bool} : EqA Try.prog 73 #[.int .i64 a0, .int .i64 a1, .int .i64 a2, .int .i64 a3, .int .i64 a4, .int .i64 a5, .int .i64 a6, .int .i64 a7, .int .i64 a8, .int .i64 a9, .int .i64 a10, .int .i64 a11, .int .i64 a12, .int .i64 a13, .int .i64 a14, .bool a15, .int .i64 a16] #[.int .i64 b0, .int .i64 b1, .int .i64 b2, .int .i64 b3, .int .i64 b4, .int .i64 b5, .int .i64 b6, .int .i64 b7, .int .i64 b8, .int .i64 b9, .int .i64 b10, .int .i64 b11, .int .i64 b12, .int .i64 b13, .int .i64 b14, .bool b15, .int .i64 b16] (decide ((⟨a0, ⟨⟨a1, a2⟩, a3, a4, a5, a6, a7, ⟨a8, a9⟩⟩, ⟨a10, a11⟩, ⟨⟨a12, a13⟩, a14, a15⟩, a16⟩ : Rcd) = ⟨b0, ⟨⟨b1, b2⟩, b3, b4, b5, b6, b7, ⟨b8, b9⟩⟩, ⟨b10, b11⟩, ⟨⟨b12, b13⟩, b14, b15⟩, b16⟩)) where
  ty := ⟨_, Try.underlying73⟩
  guard := by kernel_rfl
  val := by
    have h : eqv Try.prog 5 73 [.int .i64 a0, .int .i64 a1, .int .i64 a2, .int .i64 a3, .int .i64 a4, .int .i64 a5, .int .i64 a6, .int .i64 a7, .int .i64 a8, .int .i64 a9, .int .i64 a10, .int .i64 a11, .int .i64 a12, .int .i64 a13, .int .i64 a14, .bool a15, .int .i64 a16] [.int .i64 b0, .int .i64 b1, .int .i64 b2, .int .i64 b3, .int .i64 b4, .int .i64 b5, .int .i64 b6, .int .i64 b7, .int .i64 b8, .int .i64 b9, .int .i64 b10, .int .i64 b11, .int .i64 b12, .int .i64 b13, .int .i64 b14, .bool b15, .int .i64 b16] = some (decide (a0 = b0) && (((((decide (a1 = b1) && (decide (a2 = b2) && true))) && (decide (a3 = b3) && (decide (a4 = b4) && (decide (a5 = b5) && (decide (a6 = b6) && (decide (a7 = b7) && (((decide (a8 = b8) && (decide (a9 = b9) && true))) && true)))))))) && (((decide (a10 = b10) && (decide (a11 = b11) && true))) && (((((decide (a12 = b12) && (decide (a13 = b13) && true))) && (decide (a14 = b14) && (decide (a15 = b15) && true)))) && (decide (a16 = b16) && true))))) := by kernel_rfl
    rw [show (decide ((⟨a0, ⟨⟨a1, a2⟩, a3, a4, a5, a6, a7, ⟨a8, a9⟩⟩, ⟨a10, a11⟩, ⟨⟨a12, a13⟩, a14, a15⟩, a16⟩ : Rcd) = ⟨b0, ⟨⟨b1, b2⟩, b3, b4, b5, b6, b7, ⟨b8, b9⟩⟩, ⟨b10, b11⟩, ⟨⟨b12, b13⟩, b14, b15⟩, b16⟩)) = (decide (a0 = b0) && (((((decide (a1 = b1) && (decide (a2 = b2) && true))) && (decide (a3 = b3) && (decide (a4 = b4) && (decide (a5 = b5) && (decide (a6 = b6) && (decide (a7 = b7) && (((decide (a8 = b8) && (decide (a9 = b9) && true))) && true)))))))) && (((decide (a10 = b10) && (decide (a11 = b11) && true))) && (((((decide (a12 = b12) && (decide (a13 = b13) && true))) && (decide (a14 = b14) && (decide (a15 = b15) && true)))) && (decide (a16 = b16) && true))))) by rw [Bool.eq_iff_iff]; simp [and_assoc]]
    exact h
def rcrT : Ty Rcd where
  val x := .agg x.cs.toArray
  size := 17
  bytes := 136
  tid := 76
  zero := .agg #[.int .i64 0, .int .i64 0, .int .i64 0, .int .i64 0, .int .i64 0, .int .i64 0, .int .i64 0, .int .i64 0, .int .i64 0, .int .i64 0, .int .i64 0, .int .i64 0, .int .i64 0, .int .i64 0, .int .i64 0, .bool false, .int .i64 0]
  hlen _ := rfl
  hone a u h := by simp [Value.cells] at h; rcases h with rfl | rfl | rfl | rfl | rfl | rfl | rfl | rfl | rfl | rfl | rfl | rfl | rfl | rfl | rfl | rfl | rfl <;> rfl
  hpos := by decide
  hzero := rfl
  hinfo := by kernel_rfl
  hagg := .inl ⟨by kernel_rfl, fun _ => ⟨_, rfl⟩⟩
abbrev rcrT_z : Rcd := ⟨0, ⟨⟨0, 0⟩, 0, 0, 0, 0, 0, ⟨0, 0⟩⟩, ⟨0, 0⟩, ⟨⟨0, 0⟩, 0, false⟩, 0⟩
theorem rcrT_rec : Rec Try.prog 76 [.int .i64 0, .int .i64 0, .int .i64 0, .int .i64 0, .int .i64 0, .int .i64 0, .int .i64 0, .int .i64 0, .int .i64 0, .int .i64 0, .int .i64 0, .int .i64 0, .int .i64 0, .int .i64 0, .int .i64 0, .bool false, .int .i64 0] [(0, 1), (1, 9), (10, 2), (12, 4), (16, 1)] := ⟨by kernel_rfl, by kernel_rfl⟩
theorem rcrT_eqa {a0 b0 a1 b1 a2 b2 a3 b3 a4 b4 a5 b5 a6 b6 a7 b7 a8 b8 a9 b9 a10 b10 a11 b11 a12 b12 a13 b13 a14 b14 a16 b16 : Int} {a15 b15 : Bool} : EqA Try.prog 76 #[.int .i64 a0, .int .i64 a1, .int .i64 a2, .int .i64 a3, .int .i64 a4, .int .i64 a5, .int .i64 a6, .int .i64 a7, .int .i64 a8, .int .i64 a9, .int .i64 a10, .int .i64 a11, .int .i64 a12, .int .i64 a13, .int .i64 a14, .bool a15, .int .i64 a16] #[.int .i64 b0, .int .i64 b1, .int .i64 b2, .int .i64 b3, .int .i64 b4, .int .i64 b5, .int .i64 b6, .int .i64 b7, .int .i64 b8, .int .i64 b9, .int .i64 b10, .int .i64 b11, .int .i64 b12, .int .i64 b13, .int .i64 b14, .bool b15, .int .i64 b16] (decide ((⟨a0, ⟨⟨a1, a2⟩, a3, a4, a5, a6, a7, ⟨a8, a9⟩⟩, ⟨a10, a11⟩, ⟨⟨a12, a13⟩, a14, a15⟩, a16⟩ : Rcd) = ⟨b0, ⟨⟨b1, b2⟩, b3, b4, b5, b6, b7, ⟨b8, b9⟩⟩, ⟨b10, b11⟩, ⟨⟨b12, b13⟩, b14, b15⟩, b16⟩)) where
  ty := ⟨_, Try.underlying76⟩
  guard := by kernel_rfl
  val := by
    have h : eqv Try.prog 5 76 [.int .i64 a0, .int .i64 a1, .int .i64 a2, .int .i64 a3, .int .i64 a4, .int .i64 a5, .int .i64 a6, .int .i64 a7, .int .i64 a8, .int .i64 a9, .int .i64 a10, .int .i64 a11, .int .i64 a12, .int .i64 a13, .int .i64 a14, .bool a15, .int .i64 a16] [.int .i64 b0, .int .i64 b1, .int .i64 b2, .int .i64 b3, .int .i64 b4, .int .i64 b5, .int .i64 b6, .int .i64 b7, .int .i64 b8, .int .i64 b9, .int .i64 b10, .int .i64 b11, .int .i64 b12, .int .i64 b13, .int .i64 b14, .bool b15, .int .i64 b16] = some (decide (a0 = b0) && (((((decide (a1 = b1) && (decide (a2 = b2) && true))) && (decide (a3 = b3) && (decide (a4 = b4) && (decide (a5 = b5) && (decide (a6 = b6) && (decide (a7 = b7) && (((decide (a8 = b8) && (decide (a9 = b9) && true))) && true)))))))) && (((decide (a10 = b10) && (decide (a11 = b11) && true))) && (((((decide (a12 = b12) && (decide (a13 = b13) && true))) && (decide (a14 = b14) && (decide (a15 = b15) && true)))) && (decide (a16 = b16) && true))))) := by kernel_rfl
    rw [show (decide ((⟨a0, ⟨⟨a1, a2⟩, a3, a4, a5, a6, a7, ⟨a8, a9⟩⟩, ⟨a10, a11⟩, ⟨⟨a12, a13⟩, a14, a15⟩, a16⟩ : Rcd) = ⟨b0, ⟨⟨b1, b2⟩, b3, b4, b5, b6, b7, ⟨b8, b9⟩⟩, ⟨b10, b11⟩, ⟨⟨b12, b13⟩, b14, b15⟩, b16⟩)) = (decide (a0 = b0) && (((((decide (a1 = b1) && (decide (a2 = b2) && true))) && (decide (a3 = b3) && (decide (a4 = b4) && (decide (a5 = b5) && (decide (a6 = b6) && (decide (a7 = b7) && (((decide (a8 = b8) && (decide (a9 = b9) && true))) && true)))))))) && (((decide (a10 = b10) && (decide (a11 = b11) && true))) && (((((decide (a12 = b12) && (decide (a13 = b13) && true))) && (decide (a14 = b14) && (decide (a15 = b15) && true)))) && (decide (a16 = b16) && true))))) by rw [Bool.eq_iff_iff]; simp [and_assoc]]
    exact h
end Go.Proofs.Ytncfkkmdhdofpaa.Sep
