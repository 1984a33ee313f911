/- Changes as octets, plainly: no function in sight. -/
import Derived.Test.YtiabahpofcapbaaNum
import Derived.Test.YtiabahpofcapbaaOct
namespace Go.Proofs.Ytiabahpofcapbaa.Sep
open Go.Proofs.Ytiabahpofcapbaa.Oct
set_option maxRecDepth 100000

/-- the octets from i on, w of them, as a number -/
def fld (l : List UInt8) (i w : Nat) : Nat := get ((l.drop i).take w)
theorem fld_lt (l : List UInt8) (i w : Nat) : fld l i w < 256 ^ w := by
  have h := get_lt ((l.drop i).take w)
  have h2 : ((l.drop i).take w).length ≤ w := by simp; omega
  exact Nat.lt_of_lt_of_le h (Nat.pow_le_pow_right (by omega) h2)
theorem fld_one {l : List UInt8} {i : Nat} (h : i < l.length) : fld l i 1 = l[i].toNat := by
  unfold fld
  rw [List.drop_eq_getElem_cons h, List.take_succ_cons, List.take_zero]
  simp [Oct.get]
theorem fld_cut (l : List UInt8) (i w m : Nat) (h : m = i + w) : get ((l.take m).drop i) = fld l i w := by
  unfold fld
  rw [List.drop_take, show m - i = w by omega]
theorem be_fld {l : List UInt8} {i w : Nat} (h : i + w ≤ l.length) : be (fld l i w) w = (l.drop i).take w := by
  have := be_get ((l.drop i).take w)
  rw [show ((l.drop i).take w).length = w by simp; omega] at this
  exact this
theorem fld_at {a b : List UInt8} {i w n : Nat} (hi : a.length = i) (hn : n < 256 ^ w) : fld (a ++ (be n w ++ b)) i w = n := by
  unfold fld
  rw [List.drop_left' hi, List.take_left' (be_length _ _), get_be, Nat.mod_eq_of_lt hn]
/-- a number of eight octets, with a sign -/
def sgn (k : Nat) : Int := if k < 9223372036854775808 then k else (k : Int) - 18446744073709551616
def uns (n : Int) : Nat := (n % 18446744073709551616).toNat
theorem uns_lt (n : Int) : uns n < 18446744073709551616 := by unfold uns; omega
theorem uns_sgn {k : Nat} (h : k < 18446744073709551616) : uns (sgn k) = k := by unfold uns sgn; split <;> omega
theorem sgn_uns {n : Int} (h : I64 n) : sgn (uns n) = n := by unfold uns sgn; unfold I64 at h; split <;> omega
theorem sgn_ok {k : Nat} (h : k < 18446744073709551616) : I64 (sgn k) := by unfold sgn I64; split <;> omega
theorem wrap_uns (n : Int) : IntKind.u64.wrap n = (uns n : Nat) := by
  rw [IntKind.wrap_u64]
  unfold uns
  omega
theorem wrap_nat {n : Int} (h : 0 ≤ n) (h2 : n ≤ 9223372036854775807) : IntKind.u64.wrap n = (n.toNat : Nat) := by
  rw [IntKind.wrap_u64]
  omega
theorem wrap_sgn {k : Nat} (h : k < 18446744073709551616) : IntKind.i64.wrap (k : Int) = sgn k := by
  rw [IntKind.wrap_i64]
  unfold sgn
  split <;> omega

/-! ### a change -/
def Chg.may (c : Chg) : Bool := c.id.may && decide (1 ≤ c.time ∧ c.time ≤ 1073741824) && small c.kind && small c.a && small c.b && small c.ref.rep && decide (0 ≤ c.ref.seq ∧ c.ref.seq ≤ 65535)
theorem Chg.may_iff (c : Chg) : c.may = true ↔ (0 ≤ c.id.rep ∧ c.id.rep ≤ 3 ∧ 1 ≤ c.id.seq ∧ c.id.seq ≤ 65535) ∧ (1 ≤ c.time ∧ c.time ≤ 1073741824) ∧ (0 ≤ c.kind ∧ c.kind ≤ 255) ∧ (0 ≤ c.a ∧ c.a ≤ 255) ∧ (0 ≤ c.b ∧ c.b ≤ 255) ∧ (0 ≤ c.ref.rep ∧ c.ref.rep ≤ 255) ∧ 0 ≤ c.ref.seq ∧ c.ref.seq ≤ 65535 := by
  simp [Chg.may, Idn.may, small, and_assoc]
/-- its octets -/
def Chg.put (c : Chg) : List UInt8 := be c.id.rep.toNat 1 ++ (be c.id.seq.toNat 2 ++ (be c.time.toNat 4 ++ (be c.kind.toNat 1 ++ (be c.a.toNat 1 ++ (be c.b.toNat 1 ++ (be (uns c.n) 8 ++ (be c.ref.rep.toNat 1 ++ (be c.ref.seq.toNat 2 ++ [67]))))))))
theorem Chg.put_length (c : Chg) : c.put.length = 22 := by simp [Chg.put, be_length]
/-- of 22 octets, whatever they are -/
def chgOf (l : List UInt8) : Chg := ⟨⟨fld l 0 1, fld l 1 2⟩, fld l 3 4, fld l 7 1, fld l 8 1, fld l 9 1, sgn (fld l 10 8), ⟨fld l 18 1, fld l 19 2⟩⟩
theorem chgOf_ok (l : List UInt8) : (chgOf l).ok := by
  have h0 := fld_lt l 0 1
  have h1 := fld_lt l 1 2
  have h2 := fld_lt l 3 4
  have h3 := fld_lt l 7 1
  have h4 := fld_lt l 8 1
  have h5 := fld_lt l 9 1
  have h6 := fld_lt l 10 8
  have h7 := fld_lt l 18 1
  have h8 := fld_lt l 19 2
  have h9 := sgn_ok (k := fld l 10 8) (by omega)
  unfold chgOf Chg.ok Idn.ok
  refine ⟨⟨?_, ?_⟩, ?_, ?_, ?_, ?_, h9, ?_, ?_⟩ <;> unfold I64 <;> dsimp only <;> omega
theorem be_one (k : Nat) : be k 1 = [UInt8.ofNat k] := by
  simp [be, List.range_succ]
/-- the octets are its -/
theorem put_chgOf {l : List UInt8} (h : l.length = 22) (he : l[21]? = some 67) : (chgOf l).put = l := by
  have e1 : l = (l.drop 0).take 1 ++ ((l.drop 1).take 2 ++ ((l.drop 3).take 4 ++ ((l.drop 7).take 1 ++ ((l.drop 8).take 1 ++ ((l.drop 9).take 1 ++ ((l.drop 10).take 8 ++ ((l.drop 18).take 1 ++ ((l.drop 19).take 2 ++ l.drop 21)))))))) := by
    have step : ∀ i w, l.drop i = (l.drop i).take w ++ l.drop (i + w) := fun i w => by rw [← List.drop_drop, List.take_append_drop]
    have h0 := step 0 1; have h1 := step 1 2; have h2 := step 3 4; have h3 := step 7 1; have h4 := step 8 1; have h5 := step 9 1; have h6 := step 10 8; have h7 := step 18 1; have h8 := step 19 2
    rw [← h8, ← h7, ← h6, ← h5, ← h4, ← h3, ← h2, ← h1, ← h0, List.drop_zero]
  have e2 : l.drop 21 = [67] := by
    obtain ⟨h1, h2⟩ := List.getElem?_eq_some_iff.1 he
    rw [List.drop_eq_getElem_cons h1, h2, List.drop_of_length_le (by omega)]
  rw [e2] at e1
  have h6 := fld_lt l 10 8
  unfold Chg.put chgOf
  dsimp only
  rw [uns_sgn (by omega)]
  simp only [Int.toNat_natCast]
  rw [be_fld (by omega), be_fld (by omega), be_fld (by omega), be_fld (by omega), be_fld (by omega), be_fld (by omega), be_fld (by omega), be_fld (by omega), be_fld (by omega)]
  exact e1.symm
/-- it comes back -/
theorem chgOf_put {c : Chg} (hm : c.may = true) (hn : I64 c.n) : chgOf c.put = c := by
  rw [Chg.may_iff] at hm
  obtain ⟨⟨i0, i1, i2, i3⟩, ⟨t0, t1⟩, ⟨k0, k1⟩, ⟨a0, a1⟩, ⟨b0, b1⟩, ⟨r0, r1⟩, s0, s1⟩ := hm
  have hu := uns_lt c.n
  have f0 : fld c.put 0 1 = c.id.rep.toNat := fld_at (a := []) rfl (by omega)
  have f1 : fld c.put 1 2 = c.id.seq.toNat := by
    unfold Chg.put
    exact fld_at (by simp [be_length]) (by omega)
  have f2 : fld c.put 3 4 = c.time.toNat := by
    unfold Chg.put
    rw [← List.append_assoc]
    exact fld_at (by simp [be_length]) (by omega)
  have f3 : fld c.put 7 1 = c.kind.toNat := by
    unfold Chg.put
    rw [← List.append_assoc, ← List.append_assoc]
    exact fld_at (by simp [be_length]) (by omega)
  have f4 : fld c.put 8 1 = c.a.toNat := by
    unfold Chg.put
    rw [← List.append_assoc, ← List.append_assoc, ← List.append_assoc]
    exact fld_at (by simp [be_length]) (by omega)
  have f5 : fld c.put 9 1 = c.b.toNat := by
    unfold Chg.put
    rw [← List.append_assoc, ← List.append_assoc, ← List.append_assoc, ← List.append_assoc]
    exact fld_at (by simp [be_length]) (by omega)
  have f6 : fld c.put 10 8 = uns c.n := by
    unfold Chg.put
    rw [← List.append_assoc, ← List.append_assoc, ← List.append_assoc, ← List.append_assoc, ← List.append_assoc]
    exact fld_at (by simp [be_length]) (by omega)
  have f7 : fld c.put 18 1 = c.ref.rep.toNat := by
    unfold Chg.put
    rw [← List.append_assoc, ← List.append_assoc, ← List.append_assoc, ← List.append_assoc, ← List.append_assoc, ← List.append_assoc]
    exact fld_at (by simp [be_length]) (by omega)
  have f8 : fld c.put 19 2 = c.ref.seq.toNat := by
    unfold Chg.put
    rw [← List.append_assoc, ← List.append_assoc, ← List.append_assoc, ← List.append_assoc, ← List.append_assoc, ← List.append_assoc, ← List.append_assoc]
    exact fld_at (by simp [be_length]) (by omega)
  unfold chgOf
  rw [f0, f1, f2, f3, f4, f5, f6, f7, f8, sgn_uns hn]
  rw [Int.toNat_of_nonneg i0, Int.toNat_of_nonneg (by omega), Int.toNat_of_nonneg (by omega), Int.toNat_of_nonneg k0, Int.toNat_of_nonneg a0, Int.toNat_of_nonneg b0, Int.toNat_of_nonneg r0, Int.toNat_of_nonneg s0]
theorem put_last (c : Chg) : c.put[21]? = some 67 := by
  unfold Chg.put
  rw [← List.append_assoc, ← List.append_assoc, ← List.append_assoc, ← List.append_assoc, ← List.append_assoc, ← List.append_assoc, ← List.append_assoc, ← List.append_assoc, List.getElem?_append_right (by simp [be_length])]
  simp [be_length]
/-- the change whose octets they are -/
def cget (l : List UInt8) : Option Chg := if l.length = 22 ∧ l[21]? = some 67 ∧ (chgOf l).may = true then some (chgOf l) else none
theorem cget_some {l : List UInt8} {c : Chg} (h : cget l = some c) : c = chgOf l ∧ c.may = true ∧ c.put = l ∧ c.ok := by
  unfold cget at h
  split at h
  · rename_i hh
    injection h with h
    subst h
    exact ⟨rfl, hh.2.2, put_chgOf hh.1 hh.2.1, chgOf_ok l⟩
  · cases h
theorem cget_put {c : Chg} (hm : c.may = true) (hn : I64 c.n) : cget c.put = some c := by
  unfold cget
  rw [chgOf_put hm hn, if_pos ⟨c.put_length, put_last c, hm⟩]

/-! ### a reader, step by step -/
def stp (s : Bool × List UInt8) (w : Nat) : Bool × List UInt8 := (nx s.1 s.2 w).2
def vl (s : Bool × List UInt8) (w : Nat) : Nat := match (nx s.1 s.2 w).1 with | none => 0 | some x => get x
def oks (s : Bool × List UInt8) (w : Nat) : Bool := (nx s.1 s.2 w).1.isSome
theorem nx_ok {l : List UInt8} {k : Nat} (h : k ≤ l.length) : nx false l k = (some (l.take k), false, l.drop k) := by
  unfold nx
  rw [if_neg (by simp), if_neg (by omega), Int.toNat_natCast]
theorem nx_no {l : List UInt8} {k : Nat} (h : l.length < k) : nx false l k = (none, true, l) := by
  unfold nx
  rw [if_neg (by simp), if_pos (by omega)]
theorem nx_bad {l : List UInt8} {k : Int} : nx true l k = (none, true, l) := rfl
theorem stp_ok {l : List UInt8} {i w : Nat} (h : i + w ≤ l.length) : stp (false, l.drop i) w = (false, l.drop (i + w)) ∧ vl (false, l.drop i) w = fld l i w ∧ oks (false, l.drop i) w = true := by
  have h1 : nx false (l.drop i) w = _ := nx_ok (by simp; omega)
  unfold stp vl oks
  dsimp only
  rw [h1, List.drop_drop]
  exact ⟨rfl, rfl, rfl⟩
theorem vl_lt (s : Bool × List UInt8) (w : Nat) : vl s w < 256 ^ w := by
  unfold vl nx
  split
  · exact Nat.pow_pos (by omega)
  · rename_i x hx
    split at hx
    · cases hx
    · split at hx
      · cases hx
      · injection hx with hx
        subst hx
        have h := get_lt (s.2.take (w : Int).toNat)
        have h2 : (s.2.take (w : Int).toNat).length ≤ w := by simp; omega
        exact Nat.lt_of_lt_of_le h (Nat.pow_le_pow_right (by omega) h2)
/-- widths, one behind the other -/
def runs : List Nat → Bool × List UInt8 → Bool × List UInt8
  | [], s => s
  | w :: ws, s => runs ws (stp s w)
theorem runs_bad (ws : List Nat) (l : List UInt8) : runs ws (true, l) = (true, l) := by
  induction ws with
  | nil => rfl
  | cons w ws ih => exact ih
theorem runs_short (ws : List Nat) (w : Nat) (l : List UInt8) (h : l.length < ws.sum + w) : vl (runs ws (false, l)) w = 0 := by
  induction ws generalizing l with
  | nil =>
    simp at h
    unfold runs vl
    dsimp only
    rw [nx_no h]
  | cons a ws ih =>
    simp at h
    unfold runs
    by_cases ha : a ≤ l.length
    · have := (stp_ok (l := l) (i := 0) (w := a) (by omega)).1
      rw [List.drop_zero, Nat.zero_add] at this
      rw [this]
      exact ih _ (by simp; omega)
    · have : stp (false, l) a = (true, l) := by
        unfold stp
        dsimp only
        rw [nx_no (by omega)]
      rw [this, runs_bad]
      rfl
theorem runs_snoc (ws : List Nat) (w : Nat) (s : Bool × List UInt8) : runs (ws ++ [w]) s = stp (runs ws s) w := by
  induction ws generalizing s with
  | nil => rfl
  | cons a ws ih => exact ih _
/-- what stands ahead of the i-th, and what is read -/
def st (ws : List Nat) (l : List UInt8) (i : Nat) : Bool × List UInt8 := runs (ws.take i) (false, l)
def va (ws : List Nat) (l : List UInt8) (i : Nat) : Nat := vl (st ws l i) (ws.getD i 0)
theorem st_long {ws : List Nat} {l : List UInt8} {i : Nat} (hi : i ≤ ws.length) (h : (ws.take i).sum ≤ l.length) : st ws l i = (false, l.drop (ws.take i).sum) := by
  induction i with
  | zero => simp [st, runs]
  | succ i ih =>
    have e : ws.take (i + 1) = ws.take i ++ [ws[i]] := List.take_succ_eq_append_getElem (by omega)
    have hs : (ws.take (i + 1)).sum = (ws.take i).sum + ws[i] := by rw [e, List.sum_append]; simp
    have h1 := ih (by omega) (by omega)
    unfold st at h1 ⊢
    rw [hs, e, runs_snoc, h1, (stp_ok (by omega)).1]
theorem va_long {ws : List Nat} {l : List UInt8} {i k w : Nat} (hk : (ws.take i).sum = k) (hw : ws.getD i 0 = w) (hi : i ≤ ws.length) (h : k + w ≤ l.length) : va ws l i = fld l k w := by
  subst hk hw
  unfold va
  rw [st_long hi (by omega), (stp_ok h).2.1]
theorem va_short {ws : List Nat} {l : List UInt8} {i : Nat} (h : l.length < (ws.take i).sum + ws.getD i 0) : va ws l i = 0 := runs_short _ _ _ h
theorem va_lt (ws : List Nat) (l : List UInt8) (i : Nat) : va ws l i < 256 ^ ws.getD i 0 := vl_lt _ _
theorem sgn_small {k : Nat} (h : k < 9223372036854775808) : sgn k = k := if_pos h
/-! ### what change.Get reads -/
abbrev chgW : List Nat := [1, 2, 4, 1, 1, 1, 8, 1, 2, 1]
def chgRun (l : List UInt8) : Chg := ⟨⟨va chgW l 0, va chgW l 1⟩, va chgW l 2, va chgW l 3, va chgW l 4, va chgW l 5, sgn (va chgW l 6), ⟨va chgW l 7, va chgW l 8⟩⟩
theorem chgRun_long {l : List UInt8} (h : 22 ≤ l.length) : chgRun l = chgOf l ∧ va chgW l 9 = fld l 21 1 ∧ st chgW l 10 = (false, l.drop 22) := by
  refine ⟨?_, va_long rfl rfl (by decide) (by omega), st_long (by decide) (by simpa using h)⟩
  unfold chgRun chgOf
  rw [va_long (k := 0) (w := 1) rfl rfl (by decide) (by omega), va_long (k := 1) (w := 2) rfl rfl (by decide) (by omega), va_long (k := 3) (w := 4) rfl rfl (by decide) (by omega), va_long (k := 7) (w := 1) rfl rfl (by decide) (by omega), va_long (k := 8) (w := 1) rfl rfl (by decide) (by omega),
    va_long (k := 9) (w := 1) rfl rfl (by decide) (by omega), va_long (k := 10) (w := 8) rfl rfl (by decide) (by omega), va_long (k := 18) (w := 1) rfl rfl (by decide) (by omega), va_long (k := 19) (w := 2) rfl rfl (by decide) (by omega)]
theorem ite_iff {p q : Prop} [Decidable p] [Decidable q] {α : Type} {x y : α} (h : p ↔ q) : (if p then x else y) = if q then x else y := by
  by_cases hp : p
  · rw [if_pos hp, if_pos (h.1 hp)]
  · rw [if_neg hp, if_neg (fun hq => hp (h.2 hq))]
theorem cget_run (l : List UInt8) : cget l = if va chgW l 9 = 67 ∧ (!(st chgW l 10).1 && (st chgW l 10).2.isEmpty) = true ∧ (chgRun l).may = true then some (chgRun l) else none := by
  by_cases h : 22 ≤ l.length
  · obtain ⟨h1, h2, h3⟩ := chgRun_long h
    rw [h1, h2, h3]
    unfold cget
    have e1 : (fld l 21 1 = 67) ↔ l[21]? = some 67 := by
      rw [fld_one (by omega), List.getElem?_eq_getElem (by omega)]
      constructor
      · intro h; rw [show l[21] = 67 from UInt8.toNat_inj.1 h]
      · intro h; injection h with h; rw [h]; rfl
    have e2 : ((!(false, l.drop 22).1 && (false, l.drop 22).2.isEmpty) = true) ↔ l.length = 22 := by
      simp
      omega
    exact ite_iff ⟨fun ⟨a, b, c⟩ => ⟨e1.2 b, e2.2 a, c⟩, fun ⟨a, b, c⟩ => ⟨e2.1 b, e1.1 a, c⟩⟩
  · rw [va_short (i := 9) (by simp; omega), if_neg (by simp)]
    exact if_neg fun ⟨h1, _⟩ => by omega
end Go.Proofs.Ytiabahpofcapbaa.Sep
