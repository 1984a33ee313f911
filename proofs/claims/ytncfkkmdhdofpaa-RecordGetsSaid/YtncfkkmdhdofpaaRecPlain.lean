/- Records as octets, plainly: no function in sight. -/
import Derived.Test.YtncfkkmdhdofpaaRec3
namespace Go.Proofs.Ytncfkkmdhdofpaa.Sep
open Go.Proofs.Ytncfkkmdhdofpaa.Oct
set_option maxRecDepth 100000
/-! ### what record.Get reads -/
abbrev recW : List Nat := [1, 1, 2, 1, 1, 4]
abbrev idnRun (b : List UInt8) : Idn := ⟨va recW b 1, va recW b 2⟩
abbrev keyRun (b : List UInt8) : Keyv := ⟨idnRun b, va recW b 3, decide ((va recW b 4 : Int) = 1)⟩
def part1 (b : List UInt8) : List UInt8 := b.drop 1
def rdK (b : List UInt8) : Rcd :=
  if va recW b 0 = 1 then R1 ((cget (part1 b)).getD chgT_z)
  else if va recW b 0 = 2 then R2 (idnRun b)
  else if va recW b 0 = 3 then R3 (keyRun b) (va recW b 5)
  else if va recW b 0 = 4 then R4 (keyRun b)
  else ⟨va recW b 0, chg0, ⟨0, 0⟩, key0, 0⟩
def fitK (x : Rcd) : Bool :=
  if x.kind = 1 then x.c.may else if x.kind = 2 then x.id.may else if x.kind = 3 then x.key.may && now_ok x.now else if x.kind = 4 then x.key.may else false
def putK (x : Rcd) : List UInt8 :=
  if x.kind = 1 then [1] ++ x.c.put else if x.kind = 2 then [2] ++ idnB x.id else if x.kind = 3 then [3] ++ keyB x.key ++ be x.now.toNat 4 else [4] ++ keyB x.key
/-- the record whose octets they are -/
def kget (b : List UInt8) : Option Rcd := if fitK (rdK b) = true ∧ putK (rdK b) = b then some (rdK b) else none
/-! ### what the document reads -/
abbrev idnOf (b : List UInt8) : Idn := ⟨fld b 1 1, fld b 2 2⟩
abbrev keyOf (b : List UInt8) : Keyv := ⟨idnOf b, fld b 4 1, decide ((fld b 5 1 : Int) = 1)⟩
theorem recRun {b : List UInt8} {n : Nat} (h : b.length = n) : (4 ≤ n → idnRun b = idnOf b) ∧ (6 ≤ n → keyRun b = keyOf b) ∧ (10 ≤ n → va recW b 5 = fld b 6 4) ∧ (1 ≤ n → va recW b 0 = fld b 0 1) := by
  have h1 : 4 ≤ n → idnRun b = idnOf b := fun h4 => by
    unfold idnRun idnOf
    rw [va_long (k := 1) (w := 1) rfl rfl (by decide) (by omega), va_long (k := 2) (w := 2) rfl rfl (by decide) (by omega)]
  refine ⟨h1, fun h6 => ?_, fun h10 => va_long rfl rfl (by decide) (by omega), fun h0 => va_long rfl rfl (by decide) (by omega)⟩
  unfold keyRun keyOf
  rw [h1 (by omega), va_long (k := 4) (w := 1) rfl rfl (by decide) (by omega), va_long (k := 5) (w := 1) rfl rfl (by decide) (by omega)]
theorem va0_nil {b : List UInt8} (h : b.length = 0) : va recW b 0 = 0 := va_short (by rw [h]; decide)
/-- octets behind the first -/
theorem front3 {b : List UInt8} (h : 4 ≤ b.length) : idnB (idnOf b) = (b.drop 1).take 3 := by
  unfold idnB idnOf
  simp only [Int.toNat_natCast]
  rw [be_fld (by omega), be_fld (by omega)]
  rw [show (3 : Nat) = 1 + 2 from rfl, List.take_add, List.drop_drop]
theorem head_eq {b : List UInt8} {x : UInt8} (h : 1 ≤ b.length) (hx : fld b 0 1 = x.toNat) : b = x :: b.drop 1 := by
  cases b with
  | nil => simp at h
  | cons y t =>
    have : fld (y :: t) 0 1 = y.toNat := fld_one (l := y :: t) (i := 0) (by simp)
    rw [this] at hx
    rw [UInt8.toNat_inj.1 hx]
    rfl
theorem undo_octet {b : List UInt8} (h : 6 ≤ b.length) : be (fld b 5 1) 1 = (b.drop 5).take 1 := be_fld (by omega)
theorem undoB (k : Nat) (h : k < 256) : UInt8.ofNat (undoN (decide ((k : Int) = 1))).toNat = UInt8.ofNat k ↔ k ≤ 1 := by
  constructor
  · intro hh
    by_cases h1 : k = 1
    · omega
    · rw [decide_eq_false (by omega)] at hh
      have h2 := congrArg UInt8.toNat hh
      simp [undoN] at h2
      omega
  · intro hh
    rcases (show k = 0 ∨ k = 1 by omega) with rfl | rfl <;> rfl
theorem keyB_eq {b : List UInt8} (h : 6 ≤ b.length) : keyB (keyOf b) = (b.drop 1).take 5 ↔ fld b 5 1 ≤ 1 := by
  have h4 := fld_lt b 4 1
  have h5 := fld_lt b 5 1
  have e : (b.drop 1).take 5 = (b.drop 1).take 3 ++ ([UInt8.ofNat (fld b 4 1)] ++ [UInt8.ofNat (fld b 5 1)]) := by
    rw [← be_one, ← be_one, be_fld (by omega), be_fld (by omega)]
    rw [show (5 : Nat) = 3 + (1 + 1) from rfl, List.take_add, List.take_add, List.drop_drop, List.drop_drop]
  unfold keyB
  rw [e, show (keyOf b).id = idnOf b from rfl, front3 (by omega)]
  rw [show ((keyOf b).ord).toNat = fld b 4 1 from Int.toNat_natCast _, show (keyOf b).undo = decide ((fld b 5 1 : Int) = 1) from rfl]
  constructor
  · intro hh
    have h6 := List.append_cancel_left hh
    injection h6 with _ h6
    injection h6 with h6 _
    exact (undoB _ (by omega)).1 h6
  · intro hh
    rw [(undoB _ (by omega)).2 hh]
    rfl
end Go.Proofs.Ytncfkkmdhdofpaa.Sep
