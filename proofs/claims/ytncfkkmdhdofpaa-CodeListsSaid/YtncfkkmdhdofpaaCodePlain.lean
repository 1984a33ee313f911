/- Answers and steps as octets, plainly: no function in sight. -/
import Derived.Test.YtncfkkmdhdofpaaChangePlain
import Derived.Test.YtncfkkmdhdofpaaApiCode
namespace Go.Proofs.Ytncfkkmdhdofpaa.Sep
open Go.Proofs.Ytncfkkmdhdofpaa.Oct
set_option maxRecDepth 100000
/-! ### an answer -/
def Ans.may (a : Ans) : Bool := decide ((0 ≤ a.code ∧ a.code ≤ 255) ∧ (0 ≤ a.m ∧ a.m ≤ 255) ∧ 0 ≤ a.n ∧ a.n ≤ 2147483647)
theorem Ans.may_iff (a : Ans) : a.may = true ↔ (0 ≤ a.code ∧ a.code ≤ 255) ∧ (0 ≤ a.m ∧ a.m ≤ 255) ∧ 0 ≤ a.n ∧ a.n ≤ 2147483647 := by simp [Ans.may]
def Ans.put (a : Ans) : List UInt8 := be a.code.toNat 1 ++ (be a.n.toNat 4 ++ be a.m.toNat 1)
theorem Ans.put_length (a : Ans) : a.put.length = 6 := by simp [Ans.put, be_length]
def ansOf (l : List UInt8) : Ans := ⟨fld l 0 1, fld l 1 4, fld l 5 1⟩
def aget (l : List UInt8) : Option Ans := if l.length = 6 ∧ fld l 1 4 ≤ 2147483647 then some (ansOf l) else none
theorem aget_some {l : List UInt8} {a : Ans} (h : aget l = some a) : a.may = true ∧ a.put = l := by
  unfold aget at h
  split at h
  · rename_i hh
    injection h with h
    subst h
    have f0 := fld_lt l 0 1
    have f5 := fld_lt l 5 1
    refine ⟨by rw [Ans.may_iff]; unfold ansOf; dsimp only; omega, ?_⟩
    have step : ∀ i w, l.drop i = (l.drop i).take w ++ l.drop (i + w) := fun i w => by rw [← List.drop_drop, List.take_append_drop]
    have h0 := step 0 1; have h1 := step 1 4; have h2 := step 5 1
    have h3 : l.drop 6 = [] := List.drop_of_length_le (by omega)
    unfold Ans.put ansOf
    simp only [Int.toNat_natCast]
    rw [be_fld (by omega), be_fld (by omega), be_fld (by omega)]
    rw [show 5 + 1 = 6 from rfl, h3, List.append_nil] at h2
    rw [← h2, ← h1, ← h0, List.drop_zero]
  · cases h
theorem aget_put {a : Ans} (h : a.may = true) : aget a.put = some a := by
  obtain ⟨⟨c0, c1⟩, ⟨m0, m1⟩, n0, n1⟩ := (Ans.may_iff a).1 h
  have f0 : fld a.put 0 1 = a.code.toNat := fld_at (a := []) rfl (by omega)
  have f1 : fld a.put 1 4 = a.n.toNat := by
    unfold Ans.put
    exact fld_at (by simp [be_length]) (by omega)
  have f2 : fld a.put 5 1 = a.m.toNat := by
    unfold Ans.put
    rw [← List.append_assoc, ← List.append_nil (be a.m.toNat 1)]
    exact fld_at (by simp [be_length]) (by omega)
  unfold aget
  rw [if_pos ⟨a.put_length, by rw [f1]; omega⟩]
  unfold ansOf
  rw [f0, f1, f2, Int.toNat_of_nonneg c0, Int.toNat_of_nonneg n0, Int.toNat_of_nonneg m0]
theorem aget_high {l : List UInt8} (h : aget l = none) (h6 : l.length = 6) {x : UInt8} (hx : l[1]? = some x) : 128 ≤ x.toNat := by
  have hh : ¬ fld l 1 4 ≤ 2147483647 := fun hh => by unfold aget at h; rw [if_pos ⟨h6, hh⟩] at h; cases h
  match l, h6 with
  | [a, b, c, d, e, f], _ =>
    injection hx with hx
    subst hx
    have e1 : fld [a, b, c, d, e, f] 1 4 = ((b.toNat * 256 + c.toNat) * 256 + d.toNat) * 256 + e.toNat := by simp [fld, Oct.get]
    have := UInt8.toNat_lt c
    have := UInt8.toNat_lt d
    have := UInt8.toNat_lt e
    omega
abbrev ansW : List Nat := [1, 4, 1]
/-! ### a step -/
def Stpv.put (x : Stpv) : List UInt8 := be x.kind.toNat 1 ++ (be x.r.toNat 1 ++ (be x.i.toNat 1 ++ (be x.n.toNat 4 ++ (be x.c.kind.toNat 1 ++ (be x.c.a.toNat 1 ++ (be x.c.b.toNat 1 ++ (be (uns x.c.n) 8 ++ (be x.c.ref.rep.toNat 1 ++ be x.c.ref.seq.toNat 2))))))))
theorem Stpv.put_length (x : Stpv) : x.put.length = 21 := by simp [Stpv.put, be_length]
def stpOf (l : List UInt8) : Stpv := ⟨fld l 0 1, fld l 1 1, fld l 2 1, fld l 3 4, ⟨⟨0, 0⟩, 0, fld l 7 1, fld l 8 1, fld l 9 1, sgn (fld l 10 8), ⟨fld l 18 1, fld l 19 2⟩⟩⟩
theorem put_stpOf {l : List UInt8} (h : l.length = 21) : (stpOf l).put = l := by
  have step : ∀ i w, l.drop i = (l.drop i).take w ++ l.drop (i + w) := fun i w => by rw [← List.drop_drop, List.take_append_drop]
  have h0 := step 0 1; have h1 := step 1 1; have h2 := step 2 1; have h3 := step 3 4; have h4 := step 7 1; have h5 := step 8 1; have h6 := step 9 1; have h7 := step 10 8; have h8 := step 18 1; have h9 := step 19 2
  have hz : l.drop 21 = [] := List.drop_of_length_le (by omega)
  have hs := fld_lt l 10 8
  unfold Stpv.put stpOf
  dsimp only
  rw [uns_sgn (by omega)]
  simp only [Int.toNat_natCast]
  rw [be_fld (by omega), be_fld (by omega), be_fld (by omega), be_fld (by omega), be_fld (by omega), be_fld (by omega), be_fld (by omega), be_fld (by omega), be_fld (by omega), be_fld (by omega)]
  rw [show 19 + 2 = 21 from rfl, hz, List.append_nil] at h9
  rw [← h9, ← h8, ← h7, ← h6, ← h5, ← h4, ← h3, ← h2, ← h1, ← h0, List.drop_zero]
def hasR (k : Int) : Bool := decide (k = 1 ∨ k = 2 ∨ k = 3 ∨ k = 5 ∨ 12 ≤ k)
def hasI (k : Int) : Bool := decide (k = 3 ∨ 7 ≤ k ∧ k ≤ 10)
def hasN (k : Int) : Bool := decide (k = 4 ∨ k = 6 ∨ k = 10 ∨ k = 11 ∨ k = 14)
def hasC (k : Int) : Bool := decide (k = 1)
def bareC (b : Bool) (c : Chg) : Chg := match b with | true => ⟨⟨0, 0⟩, 0, c.kind, c.a, c.b, c.n, c.ref⟩ | false => ⟨⟨0, 0⟩, 0, 0, 0, 0, 0, ⟨0, 0⟩⟩
def iff0 (b : Bool) (n : Int) : Int := match b with | true => n | false => 0
def Stpv.bare (x : Stpv) : Stpv := ⟨x.kind, iff0 (hasR x.kind) x.r, iff0 (hasI x.kind) x.i, iff0 (hasN x.kind) x.n, bareC (hasC x.kind) x.c⟩
def Stpv.six (x : Stpv) : List Int := [x.r, x.i, x.c.kind, x.c.a, x.c.b, x.c.ref.rep]
def Stpv.check (x : Stpv) : Int :=
  if 1 ≤ x.kind ∧ x.kind ≤ 15 then
    if x.six.all small = true then
      if (0 ≤ x.c.ref.seq ∧ x.c.ref.seq ≤ 65535) ∧ 0 ≤ x.n ∧ x.n ≤ 2147483647 then
        if x.bare = x then 0 else 16
      else 4
    else 4
  else 12
theorem Stpv.check_zero {x : Stpv} (h : x.check = 0) : (1 ≤ x.kind ∧ x.kind ≤ 15) ∧ ((0 ≤ x.r ∧ x.r ≤ 255) ∧ (0 ≤ x.i ∧ x.i ≤ 255) ∧ (0 ≤ x.c.kind ∧ x.c.kind ≤ 255) ∧ (0 ≤ x.c.a ∧ x.c.a ≤ 255) ∧ (0 ≤ x.c.b ∧ x.c.b ≤ 255) ∧ 0 ≤ x.c.ref.rep ∧ x.c.ref.rep ≤ 255) ∧ ((0 ≤ x.c.ref.seq ∧ x.c.ref.seq ≤ 65535) ∧ 0 ≤ x.n ∧ x.n ≤ 2147483647) ∧ x.bare = x := by
  unfold Stpv.check at h
  split at h
  · rename_i h1
    split at h
    · rename_i h2
      split at h
      · rename_i h3
        split at h
        · rename_i h4
          refine ⟨h1, ?_, h3, h4⟩
          simpa [Stpv.six, small] using h2
        · cases h
      · cases h
    · cases h
  · cases h
theorem stpOf_put {x : Stpv} (h : x.check = 0) (hn : I64 x.c.n) : stpOf x.put = x := by
  obtain ⟨⟨k0, k1⟩, ⟨⟨r0, r1⟩, ⟨i0, i1⟩, ⟨c0, c1⟩, ⟨a0, a1⟩, ⟨b0, b1⟩, p0, p1⟩, ⟨⟨s0, s1⟩, n0, n1⟩, hb⟩ := Stpv.check_zero h
  have hu := uns_lt x.c.n
  have hc : x.c.id = ⟨0, 0⟩ ∧ x.c.time = 0 := by
    have h1 : x.bare.c = x.c := by rw [hb]
    have h2 : bareC (hasC x.kind) x.c = x.c := h1
    cases hh : hasC x.kind <;> rw [hh] at h2 <;> rw [← h2] <;> exact ⟨rfl, rfl⟩
  have f0 : fld x.put 0 1 = x.kind.toNat := fld_at (a := []) rfl (by omega)
  have f1 : fld x.put 1 1 = x.r.toNat := by
    unfold Stpv.put
    exact fld_at (by simp [be_length]) (by omega)
  have f2 : fld x.put 2 1 = x.i.toNat := by
    unfold Stpv.put
    rw [← List.append_assoc]
    exact fld_at (by simp [be_length]) (by omega)
  have f3 : fld x.put 3 4 = x.n.toNat := by
    unfold Stpv.put
    rw [← List.append_assoc, ← List.append_assoc]
    exact fld_at (by simp [be_length]) (by omega)
  have f4 : fld x.put 7 1 = x.c.kind.toNat := by
    unfold Stpv.put
    rw [← List.append_assoc, ← List.append_assoc, ← List.append_assoc]
    exact fld_at (by simp [be_length]) (by omega)
  have f5 : fld x.put 8 1 = x.c.a.toNat := by
    unfold Stpv.put
    rw [← List.append_assoc, ← List.append_assoc, ← List.append_assoc, ← List.append_assoc]
    exact fld_at (by simp [be_length]) (by omega)
  have f6 : fld x.put 9 1 = x.c.b.toNat := by
    unfold Stpv.put
    rw [← List.append_assoc, ← List.append_assoc, ← List.append_assoc, ← List.append_assoc, ← List.append_assoc]
    exact fld_at (by simp [be_length]) (by omega)
  have f7 : fld x.put 10 8 = uns x.c.n := by
    unfold Stpv.put
    rw [← List.append_assoc, ← List.append_assoc, ← List.append_assoc, ← List.append_assoc, ← List.append_assoc, ← List.append_assoc]
    exact fld_at (by simp [be_length]) (by omega)
  have f8 : fld x.put 18 1 = x.c.ref.rep.toNat := by
    unfold Stpv.put
    rw [← List.append_assoc, ← List.append_assoc, ← List.append_assoc, ← List.append_assoc, ← List.append_assoc, ← List.append_assoc, ← List.append_assoc]
    exact fld_at (by simp [be_length]) (by omega)
  have f9 : fld x.put 19 2 = x.c.ref.seq.toNat := by
    unfold Stpv.put
    rw [← List.append_assoc, ← List.append_assoc, ← List.append_assoc, ← List.append_assoc, ← List.append_assoc, ← List.append_assoc, ← List.append_assoc, ← List.append_assoc, ← List.append_nil (be x.c.ref.seq.toNat 2)]
    exact fld_at (by simp [be_length]) (by omega)
  unfold stpOf
  rw [f0, f1, f2, f3, f4, f5, f6, f7, f8, f9, sgn_uns hn]
  rw [Int.toNat_of_nonneg (by omega), Int.toNat_of_nonneg r0, Int.toNat_of_nonneg i0, Int.toNat_of_nonneg n0, Int.toNat_of_nonneg c0, Int.toNat_of_nonneg a0, Int.toNat_of_nonneg b0, Int.toNat_of_nonneg p0, Int.toNat_of_nonneg s0, ← hc.1, ← hc.2]
abbrev stpW : List Nat := [1, 1, 1, 4, 1, 1, 1, 8, 1, 2]
theorem stp_run {l : List UInt8} (h : 21 ≤ l.length) : (⟨va stpW l 0, va stpW l 1, va stpW l 2, va stpW l 3, ⟨⟨0, 0⟩, 0, va stpW l 4, va stpW l 5, va stpW l 6, sgn (va stpW l 7), ⟨va stpW l 8, va stpW l 9⟩⟩⟩ : Stpv) = stpOf l := by
  unfold stpOf
  rw [va_long (k := 0) (w := 1) rfl rfl (by decide) (by omega), va_long (k := 1) (w := 1) rfl rfl (by decide) (by omega), va_long (k := 2) (w := 1) rfl rfl (by decide) (by omega), va_long (k := 3) (w := 4) rfl rfl (by decide) (by omega), va_long (k := 7) (w := 1) rfl rfl (by decide) (by omega),
    va_long (k := 8) (w := 1) rfl rfl (by decide) (by omega), va_long (k := 9) (w := 1) rfl rfl (by decide) (by omega), va_long (k := 10) (w := 8) rfl rfl (by decide) (by omega), va_long (k := 18) (w := 1) rfl rfl (by decide) (by omega), va_long (k := 19) (w := 2) rfl rfl (by decide) (by omega)]
end Go.Proofs.Ytncfkkmdhdofpaa.Sep
