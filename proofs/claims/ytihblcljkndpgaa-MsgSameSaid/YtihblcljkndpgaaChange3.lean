/- Changes as octets, plainly: no function in sight. -/
import Derived.Test.YtihblcljkndpgaaNum
import Derived.Test.YtihblcljkndpgaaOct
import Derived.Test.YtihblcljkndpgaaPutw
import Derived.Test.YtihblcljkndpgaaRet
namespace Go.Proofs.Ytihblcljkndpgaa.Sep
open Go.Proofs.Ytihblcljkndpgaa.Oct
set_option maxRecDepth 100000

/-- the octets from i on, w of them, as a number -/
def fld (l : List UInt8) (i w : Nat) : Nat := get ((l.drop i).take w)
theorem fld_lt (l : List UInt8) (i w : Nat) : fld l i w < 256 ^ w := by
  have h := get_lt ((l.drop i).take w)
  have h2 : ((l.drop i).take w).length ≤ w := by simp; omega
  exact Nat.lt_of_lt_of_le h (Nat.pow_le_pow_right (by omega) h2)
theorem fld_one {l : List UInt8} {i : Nat} (h : i < l.length) : fld l i 1 = l[i].toNat := by
  unfold fld
  rw [List.drop_eq_getElem_cons h, List.take_succ_cons, List.take_zero]
  simp [Oct.get]
theorem fld_cut (l : List UInt8) (i w m : Nat) (h : m = i + w) : get ((l.take m).drop i) = fld l i w := by
  unfold fld
  rw [List.drop_take, show m - i = w by omega]
theorem be_fld {l : List UInt8} {i w : Nat} (h : i + w ≤ l.length) : be (fld l i w) w = (l.drop i).take w := by
  have := be_get ((l.drop i).take w)
  rw [show ((l.drop i).take w).length = w by simp; omega] at this
  exact this
theorem fld_at {a b : List UInt8} {i w n : Nat} (hi : a.length = i) (hn : n < 256 ^ w) : fld (a ++ (be n w ++ b)) i w = n := by
  unfold fld
  rw [List.drop_left' hi, List.take_left' (be_length _ _), get_be, Nat.mod_eq_of_lt hn]
/-- a number of eight octets, with a sign -/
def sgn (k : Nat) : Int := if k < 9223372036854775808 then k else (k : Int) - 18446744073709551616
def uns (n : Int) : Nat := (n % 18446744073709551616).toNat
theorem uns_lt (n : Int) : uns n < 18446744073709551616 := by unfold uns; omega
theorem uns_sgn {k : Nat} (h : k < 18446744073709551616) : uns (sgn k) = k := by unfold uns sgn; split <;> omega
theorem sgn_uns {n : Int} (h : I64 n) : sgn (uns n) = n := by unfold uns sgn; unfold I64 at h; split <;> omega
theorem sgn_ok {k : Nat} (h : k < 18446744073709551616) : I64 (sgn k) := by unfold sgn I64; split <;> omega
theorem wrap_uns (n : Int) : IntKind.u64.wrap n = (uns n : Nat) := by
  rw [IntKind.wrap_u64]
  unfold uns
  omega
theorem wrap_nat {n : Int} (h : 0 ≤ n) (h2 : n ≤ 9223372036854775807) : IntKind.u64.wrap n = (n.toNat : Nat) := by
  rw [IntKind.wrap_u64]
  omega
theorem wrap_sgn {k : Nat} (h : k < 18446744073709551616) : IntKind.i64.wrap (k : Int) = sgn k := by
  rw [IntKind.wrap_i64]
  unfold sgn
  split <;> omega

/-! ### a change -/
def Chg.may (c : Chg) : Bool := c.id.may && decide (1 ≤ c.time ∧ c.time ≤ 1073741824) && small c.kind && small c.a && small c.b && small c.ref.rep && decide (0 ≤ c.ref.seq ∧ c.ref.seq ≤ 65535)
theorem Chg.may_iff (c : Chg) : c.may = true ↔ (0 ≤ c.id.rep ∧ c.id.rep ≤ 3 ∧ 1 ≤ c.id.seq ∧ c.id.seq ≤ 65535) ∧ (1 ≤ c.time ∧ c.time ≤ 1073741824) ∧ (0 ≤ c.kind ∧ c.kind ≤ 255) ∧ (0 ≤ c.a ∧ c.a ≤ 255) ∧ (0 ≤ c.b ∧ c.b ≤ 255) ∧ (0 ≤ c.ref.rep ∧ c.ref.rep ≤ 255) ∧ 0 ≤ c.ref.seq ∧ c.ref.seq ≤ 65535 := by
  simp [Chg.may, Idn.may, small, and_assoc]
/-- its octets -/
def Chg.put (c : Chg) : List UInt8 := be c.id.rep.toNat 1 ++ (be c.id.seq.toNat 2 ++ (be c.time.toNat 4 ++ (be c.kind.toNat 1 ++ (be c.a.toNat 1 ++ (be c.b.toNat 1 ++ (be (uns c.n) 8 ++ (be c.ref.rep.toNat 1 ++ (be c.ref.seq.toNat 2 ++ [67]))))))))
theorem Chg.put_length (c : Chg) : c.put.length = 22 := by simp [Chg.put, be_length]
/-- of 22 octets, whatever they are -/
def chgOf (l : List UInt8) : Chg := ⟨⟨fld l 0 1, fld l 1 2⟩, fld l 3 4, fld l 7 1, fld l 8 1, fld l 9 1, sgn (fld l 10 8), ⟨fld l 18 1, fld l 19 2⟩⟩
theorem chgOf_ok (l : List UInt8) : (chgOf l).ok := by
  have h0 := fld_lt l 0 1
  have h1 := fld_lt l 1 2
  have h2 := fld_lt l 3 4
  have h3 := fld_lt l 7 1
  have h4 := fld_lt l 8 1
  have h5 := fld_lt l 9 1
  have h6 := fld_lt l 10 8
  have h7 := fld_lt l 18 1
  have h8 := fld_lt l 19 2
  have h9 := sgn_ok (k := fld l 10 8) (by omega)
  unfold chgOf Chg.ok Idn.ok
  refine ⟨⟨?_, ?_⟩, ?_, ?_, ?_, ?_, h9, ?_, ?_⟩ <;> unfold I64 <;> dsimp only <;> omega
theorem be_one (k : Nat) : be k 1 = [UInt8.ofNat k] := by
  simp [be, List.range_succ]
/-- the octets are its -/
theorem put_chgOf {l : List UInt8} (h : l.length = 22) (he : l[21]? = some 67) : (chgOf l).put = l := by
  have e1 : l = (l.drop 0).take 1 ++ ((l.drop 1).take 2 ++ ((l.drop 3).take 4 ++ ((l.drop 7).take 1 ++ ((l.drop 8).take 1 ++ ((l.drop 9).take 1 ++ ((l.drop 10).take 8 ++ ((l.drop 18).take 1 ++ ((l.drop 19).take 2 ++ l.drop 21)))))))) := by
    have step : ∀ i w, l.drop i = (l.drop i).take w ++ l.drop (i + w) := fun i w => by rw [← List.drop_drop, List.take_append_drop]
    have h0 := step 0 1; have h1 := step 1 2; have h2 := step 3 4; have h3 := step 7 1; have h4 := step 8 1; have h5 := step 9 1; have h6 := step 10 8; have h7 := step 18 1; have h8 := step 19 2
    rw [← h8, ← h7, ← h6, ← h5, ← h4, ← h3, ← h2, ← h1, ← h0, List.drop_zero]
  have e2 : l.drop 21 = [67] := by
    obtain ⟨h1, h2⟩ := List.getElem?_eq_some_iff.1 he
    rw [List.drop_eq_getElem_cons h1, h2, List.drop_of_length_le (by omega)]
  rw [e2] at e1
  have h6 := fld_lt l 10 8
  unfold Chg.put chgOf
  dsimp only
  rw [uns_sgn (by omega)]
  simp only [Int.toNat_natCast]
  rw [be_fld (by omega), be_fld (by omega), be_fld (by omega), be_fld (by omega), be_fld (by omega), be_fld (by omega), be_fld (by omega), be_fld (by omega), be_fld (by omega)]
  exact e1.symm
/-- it comes back -/
theorem chgOf_put {c : Chg} (hm : c.may = true) (hn : I64 c.n) : chgOf c.put = c := by
  rw [Chg.may_iff] at hm
  obtain ⟨⟨i0, i1, i2, i3⟩, ⟨t0, t1⟩, ⟨k0, k1⟩, ⟨a0, a1⟩, ⟨b0, b1⟩, ⟨r0, r1⟩, s0, s1⟩ := hm
  have hu := uns_lt c.n
  have f0 : fld c.put 0 1 = c.id.rep.toNat := fld_at (a := []) rfl (by omega)
  have f1 : fld c.put 1 2 = c.id.seq.toNat := by
    unfold Chg.put
    exact fld_at (by simp [be_length]) (by omega)
  have f2 : fld c.put 3 4 = c.time.toNat := by
    unfold Chg.put
    rw [← List.append_assoc]
    exact fld_at (by simp [be_length]) (by omega)
  have f3 : fld c.put 7 1 = c.kind.toNat := by
    unfold Chg.put
    rw [← List.append_assoc, ← List.append_assoc]
    exact fld_at (by simp [be_length]) (by omega)
  have f4 : fld c.put 8 1 = c.a.toNat := by
    unfold Chg.put
    rw [← List.append_assoc, ← List.append_assoc, ← List.append_assoc]
    exact fld_at (by simp [be_length]) (by omega)
  have f5 : fld c.put 9 1 = c.b.toNat := by
    unfold Chg.put
    rw [← List.append_assoc, ← List.append_assoc, ← List.append_assoc, ← List.append_assoc]
    exact fld_at (by simp [be_length]) (by omega)
  have f6 : fld c.put 10 8 = uns c.n := by
    unfold Chg.put
    rw [← List.append_assoc, ← List.append_assoc, ← List.append_assoc, ← List.append_assoc, ← List.append_assoc]
    exact fld_at (by simp [be_length]) (by omega)
  have f7 : fld c.put 18 1 = c.ref.rep.toNat := by
    unfold Chg.put
    rw [← List.append_assoc, ← List.append_assoc, ← List.append_assoc, ← List.append_assoc, ← List.append_assoc, ← List.append_assoc]
    exact fld_at (by simp [be_length]) (by omega)
  have f8 : fld c.put 19 2 = c.ref.seq.toNat := by
    unfold Chg.put
    rw [← List.append_assoc, ← List.append_assoc, ← List.append_assoc, ← List.append_assoc, ← List.append_assoc, ← List.append_assoc, ← List.append_assoc]
    exact fld_at (by simp [be_length]) (by omega)
  unfold chgOf
  rw [f0, f1, f2, f3, f4, f5, f6, f7, f8, sgn_uns hn]
  rw [Int.toNat_of_nonneg i0, Int.toNat_of_nonneg (by omega), Int.toNat_of_nonneg (by omega), Int.toNat_of_nonneg k0, Int.toNat_of_nonneg a0, Int.toNat_of_nonneg b0, Int.toNat_of_nonneg r0, Int.toNat_of_nonneg s0]
theorem put_last (c : Chg) : c.put[21]? = some 67 := by
  unfold Chg.put
  rw [← List.append_assoc, ← List.append_assoc, ← List.append_assoc, ← List.append_assoc, ← List.append_assoc, ← List.append_assoc, ← List.append_assoc, ← List.append_assoc, List.getElem?_append_right (by simp [be_length])]
  simp [be_length]
/-- the change whose octets they are -/
def cget (l : List UInt8) : Option Chg := if l.length = 22 ∧ l[21]? = some 67 ∧ (chgOf l).may = true then some (chgOf l) else none
theorem cget_some {l : List UInt8} {c : Chg} (h : cget l = some c) : c = chgOf l ∧ c.may = true ∧ c.put = l ∧ c.ok := by
  unfold cget at h
  split at h
  · rename_i hh
    injection h with h
    subst h
    exact ⟨rfl, hh.2.2, put_chgOf hh.1 hh.2.1, chgOf_ok l⟩
  · cases h
theorem cget_put {c : Chg} (hm : c.may = true) (hn : I64 c.n) : cget c.put = some c := by
  unfold cget
  rw [chgOf_put hm hn, if_pos ⟨c.put_length, put_last c, hm⟩]

/-! ### a reader, step by step -/
def stp (s : Bool × List UInt8) (w : Nat) : Bool × List UInt8 := (nx s.1 s.2 w).2
def vl (s : Bool × List UInt8) (w : Nat) : Nat := match (nx s.1 s.2 w).1 with | none => 0 | some x => get x
def oks (s : Bool × List UInt8) (w : Nat) : Bool := (nx s.1 s.2 w).1.isSome
theorem nx_ok {l : List UInt8} {k : Nat} (h : k ≤ l.length) : nx false l k = (some (l.take k), false, l.drop k) := by
  unfold nx
  rw [if_neg (by simp), if_neg (by omega), Int.toNat_natCast]
theorem nx_no {l : List UInt8} {k : Nat} (h : l.length < k) : nx false l k = (none, true, l) := by
  unfold nx
  rw [if_neg (by simp), if_pos (by omega)]
theorem nx_bad {l : List UInt8} {k : Int} : nx true l k = (none, true, l) := rfl
theorem stp_ok {l : List UInt8} {i w : Nat} (h : i + w ≤ l.length) : stp (false, l.drop i) w = (false, l.drop (i + w)) ∧ vl (false, l.drop i) w = fld l i w ∧ oks (false, l.drop i) w = true := by
  have h1 : nx false (l.drop i) w = _ := nx_ok (by simp; omega)
  unfold stp vl oks
  dsimp only
  rw [h1, List.drop_drop]
  exact ⟨rfl, rfl, rfl⟩
theorem vl_lt (s : Bool × List UInt8) (w : Nat) : vl s w < 256 ^ w := by
  unfold vl nx
  split
  · exact Nat.pow_pos (by omega)
  · rename_i x hx
    split at hx
    · cases hx
    · split at hx
      · cases hx
      · injection hx with hx
        subst hx
        have h := get_lt (s.2.take (w : Int).toNat)
        have h2 : (s.2.take (w : Int).toNat).length ≤ w := by simp; omega
        exact Nat.lt_of_lt_of_le h (Nat.pow_le_pow_right (by omega) h2)
/-- widths, one behind the other -/
def runs : List Nat → Bool × List UInt8 → Bool × List UInt8
  | [], s => s
  | w :: ws, s => runs ws (stp s w)
theorem runs_bad (ws : List Nat) (l : List UInt8) : runs ws (true, l) = (true, l) := by
  induction ws with
  | nil => rfl
  | cons w ws ih => exact ih
theorem runs_short (ws : List Nat) (w : Nat) (l : List UInt8) (h : l.length < ws.sum + w) : vl (runs ws (false, l)) w = 0 := by
  induction ws generalizing l with
  | nil =>
    simp at h
    unfold runs vl
    dsimp only
    rw [nx_no h]
  | cons a ws ih =>
    simp at h
    unfold runs
    by_cases ha : a ≤ l.length
    · have := (stp_ok (l := l) (i := 0) (w := a) (by omega)).1
      rw [List.drop_zero, Nat.zero_add] at this
      rw [this]
      exact ih _ (by simp; omega)
    · have : stp (false, l) a = (true, l) := by
        unfold stp
        dsimp only
        rw [nx_no (by omega)]
      rw [this, runs_bad]
      rfl
theorem runs_snoc (ws : List Nat) (w : Nat) (s : Bool × List UInt8) : runs (ws ++ [w]) s = stp (runs ws s) w := by
  induction ws generalizing s with
  | nil => rfl
  | cons a ws ih => exact ih _
/-- what stands ahead of the i-th, and what is read -/
def st (ws : List Nat) (l : List UInt8) (i : Nat) : Bool × List UInt8 := runs (ws.take i) (false, l)
def va (ws : List Nat) (l : List UInt8) (i : Nat) : Nat := vl (st ws l i) (ws.getD i 0)
theorem st_long {ws : List Nat} {l : List UInt8} {i : Nat} (hi : i ≤ ws.length) (h : (ws.take i).sum ≤ l.length) : st ws l i = (false, l.drop (ws.take i).sum) := by
  induction i with
  | zero => simp [st, runs]
  | succ i ih =>
    have e : ws.take (i + 1) = ws.take i ++ [ws[i]] := List.take_succ_eq_append_getElem (by omega)
    have hs : (ws.take (i + 1)).sum = (ws.take i).sum + ws[i] := by rw [e, List.sum_append]; simp
    have h1 := ih (by omega) (by omega)
    unfold st at h1 ⊢
    rw [hs, e, runs_snoc, h1, (stp_ok (by omega)).1]
theorem va_long {ws : List Nat} {l : List UInt8} {i k w : Nat} (hk : (ws.take i).sum = k) (hw : ws.getD i 0 = w) (hi : i ≤ ws.length) (h : k + w ≤ l.length) : va ws l i = fld l k w := by
  subst hk hw
  unfold va
  rw [st_long hi (by omega), (stp_ok h).2.1]
theorem va_short {ws : List Nat} {l : List UInt8} {i : Nat} (h : l.length < (ws.take i).sum + ws.getD i 0) : va ws l i = 0 := runs_short _ _ _ h
theorem va_lt (ws : List Nat) (l : List UInt8) (i : Nat) : va ws l i < 256 ^ ws.getD i 0 := vl_lt _ _
theorem sgn_small {k : Nat} (h : k < 9223372036854775808) : sgn k = k := if_pos h
/-! ### what change.Get reads -/
abbrev chgW : List Nat := [1, 2, 4, 1, 1, 1, 8, 1, 2, 1]
def chgRun (l : List UInt8) : Chg := ⟨⟨va chgW l 0, va chgW l 1⟩, va chgW l 2, va chgW l 3, va chgW l 4, va chgW l 5, sgn (va chgW l 6), ⟨va chgW l 7, va chgW l 8⟩⟩
theorem chgRun_long {l : List UInt8} (h : 22 ≤ l.length) : chgRun l = chgOf l ∧ va chgW l 9 = fld l 21 1 ∧ st chgW l 10 = (false, l.drop 22) := by
  refine ⟨?_, va_long rfl rfl (by decide) (by omega), st_long (by decide) (by simpa using h)⟩
  unfold chgRun chgOf
  rw [va_long (k := 0) (w := 1) rfl rfl (by decide) (by omega), va_long (k := 1) (w := 2) rfl rfl (by decide) (by omega), va_long (k := 3) (w := 4) rfl rfl (by decide) (by omega), va_long (k := 7) (w := 1) rfl rfl (by decide) (by omega), va_long (k := 8) (w := 1) rfl rfl (by decide) (by omega),
    va_long (k := 9) (w := 1) rfl rfl (by decide) (by omega), va_long (k := 10) (w := 8) rfl rfl (by decide) (by omega), va_long (k := 18) (w := 1) rfl rfl (by decide) (by omega), va_long (k := 19) (w := 2) rfl rfl (by decide) (by omega)]
theorem ite_iff {p q : Prop} [Decidable p] [Decidable q] {α : Type} {x y : α} (h : p ↔ q) : (if p then x else y) = if q then x else y := by
  by_cases hp : p
  · rw [if_pos hp, if_pos (h.1 hp)]
  · rw [if_neg hp, if_neg (fun hq => hp (h.2 hq))]
theorem cget_run (l : List UInt8) : cget l = if va chgW l 9 = 67 ∧ (!(st chgW l 10).1 && (st chgW l 10).2.isEmpty) = true ∧ (chgRun l).may = true then some (chgRun l) else none := by
  by_cases h : 22 ≤ l.length
  · obtain ⟨h1, h2, h3⟩ := chgRun_long h
    rw [h1, h2, h3]
    unfold cget
    have e1 : (fld l 21 1 = 67) ↔ l[21]? = some 67 := by
      rw [fld_one (by omega), List.getElem?_eq_getElem (by omega)]
      constructor
      · intro h; rw [show l[21] = 67 from UInt8.toNat_inj.1 h]
      · intro h; injection h with h; rw [h]; rfl
    have e2 : ((!(false, l.drop 22).1 && (false, l.drop 22).2.isEmpty) = true) ↔ l.length = 22 := by
      simp
      omega
    exact ite_iff ⟨fun ⟨a, b, c⟩ => ⟨e1.2 b, e2.2 a, c⟩, fun ⟨a, b, c⟩ => ⟨e2.1 b, e1.1 a, c⟩⟩
  · rw [va_short (i := 9) (by simp; omega), if_neg (by simp)]
    exact if_neg fun ⟨h1, _⟩ => by omega
end Go.Proofs.Ytihblcljkndpgaa.Sep
/- change, by parts of memory. -/
namespace Go.Proofs.Ytihblcljkndpgaa.Sep
open Go.RowKit Go.Proofs.Ytihblcljkndpgaa.Reg Go.Proofs.Ytihblcljkndpgaa.Oct
open Go.Proofs.Ytihblcljkndpgaa.Mem hiding Rd Own
theorem arr4_rec : RecA Try.prog 24 [.int .i64 0, .int .i64 0, .int .i64 0, .int .i64 0] [(0, 1), (1, 1), (2, 1), (3, 1)] 1 := ⟨by kernel_rfl, by kernel_rfl, rfl⟩
-- types: octT idnT chgT
-- recs: rec_Reader idnT_rec chgT_rec
-- eqs: idnT_eqa chgT_eqa
-- arrs: arr4_rec
-- funcs
set_option maxRecDepth 100000
set_option maxHeartbeats 6000000
theorem sYChg {P : Program} {E : Env} {H : List Asn} {ρ : Operand → Value} {o : Oper} {v : Value} (h : Yld P E H ρ o v := by first | (intro _ _; first | (first | (apply V.move; (· exact rfl); (· exact sLk)) | (apply V.assign; (· exact rfl); (· exact sLk)) | (apply V.nilCheck; (· exact rfl); (· exact rfl)) | (apply V.fieldAddr; (· exact rfl); (· exact rfl); (· exact rfl); (· exact rfl); (· exact rfl); (· decide); (· exact sLk); (· exact sAdd)) | (apply V.extract; (· exact rfl); (· exact rfl); (· exact rfl)) | (apply V.not; (· exact rfl); (· exact rfl)) | (apply V.pickT; (· exact rfl); (· exact rfl); (· exact sTst); (· exact sLk)) | (apply V.pickF; (· exact rfl); (· exact rfl); (· exact sTst); (· exact sLk))) | (first | (apply V.add; (· exact rfl); (· exact rfl); (· exact rfl); (· exact sNum)) | (apply V.sub; (· exact rfl); (· exact rfl); (· exact rfl); (· exact sNum)) | (apply V.mul; (· exact rfl); (· exact rfl); (· exact rfl); (· exact sNum)) | (apply V.lss; (· exact rfl); (· exact rfl); (· exact rfl)) | (apply V.leq; (· exact rfl); (· exact rfl); (· exact rfl)) | (apply V.gtr; (· exact rfl); (· exact rfl); (· exact rfl)) | (apply V.geq; (· exact rfl); (· exact rfl); (· exact rfl)) | (apply V.eql; (· exact rfl); (· exact rfl); (· exact rfl))) | (first | (apply V.neq; (· exact rfl); (· exact rfl); (· exact rfl)) | (apply V.neqP; (· exact rfl); (· exact rfl); (· exact rfl); (· exact rfl)) | (apply V.eqlP; (· exact rfl); (· exact rfl); (· exact rfl); (· exact rfl)) | (apply V.eqlN; (· exact rfl); (· exact rfl); (· exact rfl); (· exact rfl)) | (apply V.neqN; (· exact rfl); (· exact rfl); (· exact rfl); (· exact rfl)) | (apply V.len; (· exact rfl); (· exact rfl); (· exact rfl); (· exact sMax)) | (apply V.conv; (· exact rfl); (· exact rfl); (· exact rfl); (· exact rfl); (· exact sNum)) | (apply V.shl8; (· exact rfl); (· exact rfl); (· exact rfl); (· exact sNum))) | (first | (apply V.shl; (· exact rfl); (· exact rfl); (· exact rfl); (· exact sOm); (· exact sNum)) | (apply V.shr; (· exact rfl); (· exact rfl); (· exact rfl); (· exact sOm); (· exact sNum)) | (apply V.quo; (· exact rfl); (· exact rfl); (· exact rfl); (· exact sOm); (· exact sQuo)) | (apply V.rem; (· exact rfl); (· exact rfl); (· exact rfl); (· exact sOm); (· exact sRem)) | (apply V.bits_; (· exact rfl); (· decide); (· exact rfl); (· exact rfl); (· exact sNum)) | (apply V.neg; (· exact rfl); (· exact rfl); (· exact sNum)) | (apply V.eqlS; (· exact rfl); (· exact rfl); (· exact rfl)) | (apply V.neqS; (· exact rfl); (· exact rfl); (· exact rfl))) | (first | (apply V.eqlB; (· exact rfl); (· exact rfl); (· exact rfl); (· exact rfl)) | (apply V.neqB; (· exact rfl); (· exact rfl); (· exact rfl); (· exact rfl)) | (apply V.max; (· exact rfl); (· exact rfl); (· exact rfl)) | (apply V.min; (· exact rfl); (· exact rfl); (· exact rfl)) | (apply V.func1; (· exact rfl); (· exact sLk)) | (apply V.indexA; (· exact rfl); (· exact rfl); (· exact rfl); (· exact rfl); (· exact rfl); (· exact rfl); (· exact rfl); (· exact rfl); (· exact sJ); (· exact sOm); (· exact sOm); (· exact sAsm)) | (apply V.eqlA; (· exact rfl); (· exact sLk); (· exact sLk); (· exact idnT_eqa)) | (apply V.neqA; (· exact rfl); (· exact sLk); (· exact sLk); (· exact idnT_eqa))) | (first | (apply V.eqlA; (· exact rfl); (· exact sLk); (· exact sLk); (· exact chgT_eqa)) | (apply V.neqA; (· exact rfl); (· exact sLk); (· exact sLk); (· exact chgT_eqa)))) | (first | (first | (apply Y.load; (· exact rfl); (· exact rfl); (· exact rfl); (· exact rfl); (· exact sCell)) | (apply Y.indexAddr; (· exact rfl); (· exact rfl); (· exact rfl); (· exact sRdH); (· exact sJ); (· exact sOm); (· exact sAsm); (· exact sRfl); (· exact sRfl)) | (apply Y.loadElem; (· exact rfl); (· exact rfl); (· exact sRdH); rotate_left; (· exact sRfl); rotate_right; (· exact sAsm); (· exact sRfl)) | (apply Y.sliceArr; (· exact rfl); (· exact rfl); (· exact rfl); (· exact rfl)) | (apply Y.loadBlk; (· exact rfl); (· exact rfl); (· exact rfl); (· exact rfl); (· exact rfl); (· exact rfl); (· exact sHas); (· exact sSeg)) | (apply Y.loadPart; (· exact rfl); (· exact rfl); (· exact sRdH); rotate_left; (· exact sRfl); rotate_right; (· exact sAsm); (· exact rfl); (· exact rfl); (· exact rfl); (· exact rfl); (· exact sSeg)) | (apply Y.fieldL; (· exact rfl); (· exact rfl); (· exact rfl); (· exact rfl); (· exact rfl); (· exact rfl); (· exact rfl)) | (apply Y.fieldS; (· exact rfl); (· exact rfl); (· exact rfl); (· exact rfl); (· exact rfl); (· exact rfl); (· exact rfl); (· exact rfl); (· exact rfl); (· exact sSeg))) | (first | (apply Y.len; (· exact rfl); (· exact rfl); (· exact sRdH); (· exact sRfl)) | (apply Y.str; (· exact rfl); (· exact rfl); (· exact sRdH)) | (apply Y.sliceLo; (· exact rfl); (· exact rfl); (· exact rfl); (· exact sRdH); (· exact sJ); (· exact sOm); (· exact sOm); (· exact sRfl)) | (apply Y.sliceHi; (· exact rfl); (· exact rfl); (· exact rfl); (· exact sRdH); (· exact sJ); (· exact sOm); (· exact sOm); (· exact sRfl)) | (apply Y.sliceHiMax; (· exact rfl); (· exact rfl); (· exact rfl); (· exact rfl); (· exact sRdH); (· exact sJ); (· exact sOm); (· exact sJ); (· exact sOm); (· exact sOm); (· exact sOm); (· exact sRfl)) | (apply Y.sliceLoHi; (· exact rfl); (· exact rfl); (· exact rfl); (· exact rfl); (· exact sRdH); (· exact sJ); (· exact sOm); (· exact sJ); (· exact sOm); (· exact sOm); (· exact sOm); (· exact sRfl)) | (apply Y.strLen; (· exact rfl); (· exact rfl); (· exact rfl); (· exact sMax)) | (apply Y.indexStr; (· exact rfl); (· exact rfl); (· exact rfl); (· exact rfl); (· exact sJ); (· exact sOm); (· exact sAsm))) | (first | (apply Y.buildA; (· exact rfl); (· exact sPv); (· exact arr4_rec); (· exact sFil)) | (apply Y.build; (· exact rfl); (· exact sPv); (· exact rec_Reader); (· exact sFil)) | (apply Y.build; (· exact rfl); (· exact sPv); (· exact idnT_rec); (· exact sFil)) | (apply Y.build; (· exact rfl); (· exact sPv); (· exact chgT_rec); (· exact sFil))))) : Yld P E H ρ o v := h
theorem sSChg {P : Program} {N : Nat} {E : Env} {F : Nat → Value} {H : List Asn} {o : Oper} {K : Value → List Asn → Prop} (h : Stp P N E F H o K := by first | (first | (apply S.boxK; (· exact rfl); (· exact sLk); (· exact sCel)) | (apply S.append1K; (· exact rfl); (· exact rfl); (· exact rfl); (· exact rfl); (· exact sNN); (· exact (fun _ _ => sRepl)); (· exact sNL); (· exact sRfl); (· first | (conv => lhs; simp only [octT, idnT, chgT]) | rfl); (· exact sOm); (· exact sOm)) | (apply S.appendK; (· exact rfl); (· exact rfl); (· exact rfl); (· exact sNN); (· exact (fun _ _ => sRepl)); (· exact sRdH); (· exact sNL); (· exact sRfl); (· first | (conv => lhs; simp only [octT, idnT, chgT]) | rfl); (· exact sOm); (· exact sOm)) | (apply S.appendNilK; (· exact rfl); (· exact rfl); (· exact rfl); (· exact sRdH); (· exact sRfl); (· first | (conv => lhs; simp only [octT, idnT, chgT]) | rfl); (· exact sOm); (· exact sOm)) | (apply (S.buildSliceK (T := octT) (l := [])); (· exact rfl); (· exact rfl); (· exact rfl); (· exact rfl); (· decide)) | (apply (S.buildSlice1K (T := octT)); (· exact rfl); (· exact sLk); (· first | rfl | (with_reducible exact octT_val _ sOm sOm)); (· exact rfl); (· decide)) | (apply (S.buildSlice2K (T := octT)); (· exact rfl); (· exact sLk); (· first | rfl | (with_reducible exact octT_val _ sOm sOm)); (· exact sLk); (· first | rfl | (with_reducible exact octT_val _ sOm sOm)); (· exact rfl); (· decide)) | (apply (S.buildSlice3K (T := octT)); (· exact rfl); (· exact sLk); (· first | rfl | (with_reducible exact octT_val _ sOm sOm)); (· exact sLk); (· first | rfl | (with_reducible exact octT_val _ sOm sOm)); (· exact sLk); (· first | rfl | (with_reducible exact octT_val _ sOm sOm)); (· exact rfl); (· decide))) | (first | (apply (S.buildSliceK (T := idnT) (l := [])); (· exact rfl); (· exact rfl); (· exact rfl); (· exact rfl); (· decide)) | (apply (S.buildSlice1K (T := idnT)); (· exact rfl); (· exact sLk); (· first | rfl | (with_reducible exact idnT_val _ sOm sOm)); (· exact rfl); (· decide)) | (apply (S.buildSlice2K (T := idnT)); (· exact rfl); (· exact sLk); (· first | rfl | (with_reducible exact idnT_val _ sOm sOm)); (· exact sLk); (· first | rfl | (with_reducible exact idnT_val _ sOm sOm)); (· exact rfl); (· decide)) | (apply (S.buildSlice3K (T := idnT)); (· exact rfl); (· exact sLk); (· first | rfl | (with_reducible exact idnT_val _ sOm sOm)); (· exact sLk); (· first | rfl | (with_reducible exact idnT_val _ sOm sOm)); (· exact sLk); (· first | rfl | (with_reducible exact idnT_val _ sOm sOm)); (· exact rfl); (· decide)) | (apply (S.buildSliceK (T := chgT) (l := [])); (· exact rfl); (· exact rfl); (· exact rfl); (· exact rfl); (· decide)) | (apply (S.buildSlice1K (T := chgT)); (· exact rfl); (· exact sLk); (· first | rfl | (with_reducible exact chgT_val _ sOm sOm)); (· exact rfl); (· decide)) | (apply (S.buildSlice2K (T := chgT)); (· exact rfl); (· exact sLk); (· first | rfl | (with_reducible exact chgT_val _ sOm sOm)); (· exact sLk); (· first | rfl | (with_reducible exact chgT_val _ sOm sOm)); (· exact rfl); (· decide)) | (apply (S.buildSlice3K (T := chgT)); (· exact rfl); (· exact sLk); (· first | rfl | (with_reducible exact chgT_val _ sOm sOm)); (· exact sLk); (· first | rfl | (with_reducible exact chgT_val _ sOm sOm)); (· exact sLk); (· first | rfl | (with_reducible exact chgT_val _ sOm sOm)); (· exact rfl); (· decide))) | (first | (apply (S.storeEK (T := octT)); (· exact rfl); (· exact rfl); (· exact sLk); (· exact sRepl); rotate_left; (· exact sRfl); rotate_right; (· exact sAsm); (· first | rfl | (with_reducible exact octT_val _ sOm sOm)); (· exact sRfl)) | (apply (S.storeEK (T := idnT)); (· exact rfl); (· exact rfl); (· exact sLk); (· exact sRepl); rotate_left; (· exact sRfl); rotate_right; (· exact sAsm); (· first | rfl | (with_reducible exact idnT_val _ sOm sOm)); (· exact sRfl)) | (apply (S.storeEK (T := chgT)); (· exact rfl); (· exact rfl); (· exact sLk); (· exact sRepl); rotate_left; (· exact sRfl); rotate_right; (· exact sAsm); (· first | rfl | (with_reducible exact chgT_val _ sOm sOm)); (· exact sRfl)) | (apply S.allocK; (· exact rfl); (· exact rec_Reader.zero)) | (apply S.allocK; (· exact rfl); (· exact idnT_rec.zero)) | (apply S.allocK; (· exact rfl); (· exact chgT_rec.zero)) | (apply (S.makeSliceK (T := octT) (z := octT_z)); (· exact rfl); (· exact rfl); (· exact rfl); (· exact sJ); (· exact sOm); (· exact rfl); (· exact rfl); (· first | (conv => lhs; simp only [octT, idnT, chgT]) | rfl); (· exact sOm); (· exact sOm)) | (apply (S.makeSliceK (T := idnT) (z := idnT_z)); (· exact rfl); (· exact rfl); (· exact rfl); (· exact sJ); (· exact sOm); (· exact rfl); (· exact rfl); (· first | (conv => lhs; simp only [octT, idnT, chgT]) | rfl); (· exact sOm); (· exact sOm))) | (first | (apply (S.makeSliceK (T := chgT) (z := chgT_z)); (· exact rfl); (· exact rfl); (· exact rfl); (· exact sJ); (· exact sOm); (· exact rfl); (· exact rfl); (· first | (conv => lhs; simp only [octT, idnT, chgT]) | rfl); (· exact sOm); (· exact sOm)) | (apply S.storeAggK; (· exact rfl); (· exact rfl); (· exact sLk); (· exact rfl); (· exact rfl); (· exact rfl); (· exact sRepl); (· exact sPut)) | (apply S.copyInK; (· exact rfl); (· exact rfl); (· exact rfl); (· exact sAsm); (· exact sRepl); (· exact sRdH); rotate_left; (· exact rfl); rotate_right; (· exact sAsm); (· exact sOm); (· exact sAsm); (· exact rfl); (· exact sMax)) | (apply S.store1K; (· exact rfl); (· exact rfl); (· exact sLk); (· exact sRfl); (· exact rfl); (· exact rfl); (· exact sRepl); (· exact sLn); (· exact sSetL)))) : Stp P N E F H o K := h
theorem wChg {p q : Prop} (hq : q) (h : Box q → p := by intro h; (first | (focus (apply L.val; (· decide); (· exact sYChg))) | refine C.seq ?_ | refine C.region ?_ | refine L.nil ?_ | refine C.block ?_ | refine C.exit ?_ | refine C.skip ?_ | refine C.ret ?_ | (focus (apply L.on; (· exact rfl); (· decide); (· exact rfl); (· exact sTst))) | (focus (apply L.off; (· decide); (· exact rfl); (· decide); (· exact rfl); (· exact sTst))) | (focus (apply L.offU; (· decide); (· exact rfl); (· decide); (· exact rfl))) | (focus (apply C.condT; (· exact rfl); (· exact sTst))) | (focus (apply C.condF; (· exact rfl); (· exact sTst))) | refine Dr.done ?_ | refine DrA.done ?_ | (focus (apply DrA.take; (· exact rfl); (· decide); (· exact sGon); (· exact sYChg))) | (focus (apply Dr.take; (· exact rfl); (· decide); (· exact sGon); (· exact sYChg))) | (focus (apply Dr.skip; (· exact rfl); (· decide); (· exact sGoff))) | (focus (apply Dr.goSkip; (· exact rfl); (· decide); (· exact sGoff))) | with_reducible refine T.n ?_ | with_reducible refine T.ret ?_ | with_reducible refine T.exit ?_ | with_reducible refine I.n ?_ | with_reducible refine I.ret ?_ | with_reducible refine I.hit ?_ | with_reducible refine I.miss (by decide) ?_); (repeat (first | (focus (apply L.val; (· decide); (· exact sYChg))) | refine C.seq ?_ | refine C.region ?_ | refine L.nil ?_ | refine C.block ?_ | refine C.exit ?_ | refine C.skip ?_ | refine C.ret ?_ | (focus (apply L.on; (· exact rfl); (· decide); (· exact rfl); (· exact sTst))) | (focus (apply L.off; (· decide); (· exact rfl); (· decide); (· exact rfl); (· exact sTst))) | (focus (apply L.offU; (· decide); (· exact rfl); (· decide); (· exact rfl))) | (focus (apply C.condT; (· exact rfl); (· exact sTst))) | (focus (apply C.condF; (· exact rfl); (· exact sTst))) | refine Dr.done ?_ | refine DrA.done ?_ | (focus (apply DrA.take; (· exact rfl); (· decide); (· exact sGon); (· exact sYChg))) | (focus (apply Dr.take; (· exact rfl); (· decide); (· exact sGon); (· exact sYChg))) | (focus (apply Dr.skip; (· exact rfl); (· decide); (· exact sGoff))) | (focus (apply Dr.goSkip; (· exact rfl); (· decide); (· exact sGoff))) | with_reducible refine T.n ?_ | with_reducible refine T.ret ?_ | with_reducible refine T.exit ?_ | with_reducible refine I.n ?_ | with_reducible refine I.ret ?_ | with_reducible refine I.hit ?_ | with_reducible refine I.miss (by decide) ?_)); exact h.out) : p := h ⟨hq⟩
theorem vChg {p q : Prop} (hq : q) (h : Box q → p := by intro h; (first | (focus (apply L.val; (· decide); (· exact sYChg))) | refine C.seq ?_ | refine C.region ?_ | refine L.nil ?_ | refine C.block ?_ | refine C.exit ?_ | refine C.skip ?_ | refine C.ret ?_ | (focus (apply L.on; (· exact rfl); (· decide); (· exact rfl); (· exact sTst))) | (focus (apply L.off; (· decide); (· exact rfl); (· decide); (· exact rfl); (· exact sTst))) | (focus (apply L.offU; (· decide); (· exact rfl); (· decide); (· exact rfl))) | (focus (apply C.condT; (· exact rfl); (· exact sTst))) | (focus (apply C.condF; (· exact rfl); (· exact sTst))) | refine Dr.done ?_ | refine DrA.done ?_ | (focus (apply DrA.take; (· exact rfl); (· decide); (· exact sGon); (· exact sYChg))) | (focus (apply Dr.take; (· exact rfl); (· decide); (· exact sGon); (· exact sYChg))) | (focus (apply Dr.skip; (· exact rfl); (· decide); (· exact sGoff))) | (focus (apply Dr.goSkip; (· exact rfl); (· decide); (· exact sGoff))) | with_reducible refine T.n ?_ | with_reducible refine T.ret ?_ | with_reducible refine T.exit ?_ | with_reducible refine I.n ?_ | with_reducible refine I.ret ?_ | with_reducible refine I.hit ?_ | with_reducible refine I.miss (by decide) ?_); exact h.out) : p := h ⟨hq⟩
theorem kChg {p q : Prop} (hq : q) (h : Box q → p := by intro h; first | (apply L.stepK; (· decide); (· exact sSChg); exact h.out) | (apply L.step0K; (· exact sSChg); exact h.out) | (apply Dr.goZ; (· exact rfl); (· rintro k ⟨⟩ <;> decide); (· exact sGon); (· exact sSChg); exact h.out) | (apply Dr.goZs; (· exact rfl); (· rintro k ⟨⟩ <;> decide); (· exact sGon); (· exact sSChg); exact h.out) | (apply Go1.goK; (· exact rfl); (· rintro k ⟨⟩ <;> decide); (· exact sGon); (· exact sSChg); exact h.out) | (apply Dr.goK; (· exact rfl); (· rintro k ⟨⟩ <;> decide); (· exact sGon); (· exact sSChg); exact h.out)) : p := h ⟨hq⟩
abbrev cells (L : List Int) : List Value := L.map (Value.int .i64)
theorem ccheck_any (E : Env) (c : Chg) : Tri Try.prog E 67 #[.agg c.cs.toArray] [] fun e H' => e = .returned (.int .i64 (if c.may then 0 else 4)) ∧ H' = [] := by
  refine tri Try.func67 rfl Try.ntmps67 (by simp) ?_
  have hall : ([c.kind, c.a, c.b, c.ref.rep].all small) = (small c.kind && small c.a && small c.b && small c.ref.rep) := by simp [Bool.and_assoc]
  have hll : [c.kind, c.a, c.b, c.ref.rep].length = 4 := rfl
  repeat (first | refine wChg ?_ | (refine kChg ?_; (first | rintro _ _ ⟨rfl, rfl⟩ | rintro _ _ ⟨_, rfl, rfl⟩ | rintro _ _ ⟨_, _, ⟨_, _⟩, rfl, rfl⟩); try refine ⟨sConv, ?_⟩) | refine Dr.two ?_ ?_)
  rename_i g
  generalize hL : [c.kind, c.a, c.b, c.ref.rep] = qs at hall hll
  refine C.loop (X := Nat) (fun i => [(1, .pointer (some ⟨g, 0, none⟩)), (3, .bool ((qs.take i).all small)), (15, .agg (cells qs).toArray), (16, .int .i64 i)]) (fun i => [blk g 50 c.cs]) (fun i => i ≤ 4) (fun i => 4 - i) 0 (by subst hL; exact sHolds) Conv.refl (by omega) ?_
  rintro i G hi
  by_cases hlt : i < 4
  · have hli : i < qs.length := by omega
    have hx : (cells qs)[i]? = some (Value.int .i64 qs[i]) := by simp [cells, hli]
    have hstep : (qs.take (i + 1)).all small = ((qs.take i).all small && small qs[i]) := by
      rw [List.take_succ_eq_append_getElem hli, List.all_append]; simp
    generalize qs[i] = n at hx hstep
    by_cases hb : (qs.take i).all small = true
    · rw [hb] at hstep ⊢
      repeat (first | refine wChg ?_ | (refine kChg ?_; (first | rintro _ _ ⟨rfl, rfl⟩ | rintro _ _ ⟨_, rfl, rfl⟩ | rintro _ _ ⟨_, _, ⟨_, _⟩, rfl, rfl⟩); try refine ⟨sConv, ?_⟩) | refine Dr.two ?_ ?_)
      refine L.step (by decide) (S.call rfl rfl Try.func37 (by kernel_rfl) rfl sPicks (fun E' hE => in_any E' n 0 255) ?_)
      rintro e H' ⟨rfl, rfl⟩
      refine ⟨_, rfl, _, sCat, ?_⟩
      repeat (first | refine wChg ?_ | (refine kChg ?_; (first | rintro _ _ ⟨rfl, rfl⟩ | rintro _ _ ⟨_, rfl, rfl⟩ | rintro _ _ ⟨_, _, ⟨_, _⟩, rfl, rfl⟩); try refine ⟨sConv, ?_⟩) | refine Dr.two ?_ ?_)
      refine ⟨i + 1, ?_, Conv.refl, by omega, by omega⟩
      rw [hstep]
      exact sHolds
    · have hb : (qs.take i).all small = false := by simpa using hb
      rw [hb] at hstep ⊢
      repeat (first | refine wChg ?_ | (refine kChg ?_; (first | rintro _ _ ⟨rfl, rfl⟩ | rintro _ _ ⟨_, rfl, rfl⟩ | rintro _ _ ⟨_, _, ⟨_, _⟩, rfl, rfl⟩); try refine ⟨sConv, ?_⟩) | refine Dr.two ?_ ?_)
      refine ⟨i + 1, ?_, Conv.refl, by omega, by omega⟩
      rw [hstep]
      exact sHolds
  · obtain rfl : i = 4 := by omega
    rw [List.take_of_length_le (by omega), hall]
    clear hL hall hll
    cases hs : (small c.kind && small c.a && small c.b && small c.ref.rep)
    · have hm : c.may = false := by
        unfold Chg.may
        revert hs
        cases small c.kind <;> cases small c.a <;> cases small c.b <;> cases small c.ref.rep <;> simp
      rw [hm]
      repeat (first | refine wChg ?_ | (refine kChg ?_; (first | rintro _ _ ⟨rfl, rfl⟩ | rintro _ _ ⟨_, rfl, rfl⟩ | rintro _ _ ⟨_, _, ⟨_, _⟩, rfl, rfl⟩); try refine ⟨sConv, ?_⟩) | refine Dr.two ?_ ?_)
      exact ret1 rfl sRet sConv (⟨rfl, rfl⟩)
    · have hm : c.may = (c.id.may && decide (1 ≤ c.time ∧ c.time ≤ 1073741824) && decide (0 ≤ c.ref.seq ∧ c.ref.seq ≤ 65535)) := by
        unfold Chg.may
        revert hs
        cases small c.kind <;> cases small c.a <;> cases small c.b <;> cases small c.ref.rep <;> simp
      rw [hm]
      repeat (first | refine wChg ?_ | (refine kChg ?_; (first | rintro _ _ ⟨rfl, rfl⟩ | rintro _ _ ⟨_, rfl, rfl⟩ | rintro _ _ ⟨_, _, ⟨_, _⟩, rfl, rfl⟩); try refine ⟨sConv, ?_⟩) | refine Dr.two ?_ ?_)
      refine L.step (by decide) (S.call rfl rfl Try.func64 (by kernel_rfl) rfl sPicks (fun E' hE => imay_any E' c.id) ?_)
      rintro e H' ⟨rfl, rfl⟩
      refine ⟨_, rfl, _, sCat, ?_⟩
      cases h1 : c.id.may
      · repeat (first | refine wChg ?_ | (refine kChg ?_; (first | rintro _ _ ⟨rfl, rfl⟩ | rintro _ _ ⟨_, rfl, rfl⟩ | rintro _ _ ⟨_, _, ⟨_, _⟩, rfl, rfl⟩); try refine ⟨sConv, ?_⟩) | refine Dr.two ?_ ?_)
        exact ret1 rfl sRet sConv (⟨rfl, rfl⟩)
      · repeat (first | refine wChg ?_ | (refine kChg ?_; (first | rintro _ _ ⟨rfl, rfl⟩ | rintro _ _ ⟨_, rfl, rfl⟩ | rintro _ _ ⟨_, _, ⟨_, _⟩, rfl, rfl⟩); try refine ⟨sConv, ?_⟩) | refine Dr.two ?_ ?_)
        refine L.step (by decide) (S.call rfl rfl Try.func37 (by kernel_rfl) rfl sPicks (fun E' hE => in_any E' c.time 1 1073741824) ?_)
        rintro e H' ⟨rfl, rfl⟩
        refine ⟨_, rfl, _, sCat, ?_⟩
        cases h2 : decide (1 ≤ c.time ∧ c.time ≤ 1073741824)
        · repeat (first | refine wChg ?_ | (refine kChg ?_; (first | rintro _ _ ⟨rfl, rfl⟩ | rintro _ _ ⟨_, rfl, rfl⟩ | rintro _ _ ⟨_, _, ⟨_, _⟩, rfl, rfl⟩); try refine ⟨sConv, ?_⟩) | refine Dr.two ?_ ?_)
          exact ret1 rfl sRet sConv (⟨rfl, rfl⟩)
        · repeat (first | refine wChg ?_ | (refine kChg ?_; (first | rintro _ _ ⟨rfl, rfl⟩ | rintro _ _ ⟨_, rfl, rfl⟩ | rintro _ _ ⟨_, _, ⟨_, _⟩, rfl, rfl⟩); try refine ⟨sConv, ?_⟩) | refine Dr.two ?_ ?_)
          refine L.step (by decide) (S.call rfl rfl Try.func37 (by kernel_rfl) rfl sPicks (fun E' hE => in_any E' c.ref.seq 0 65535) ?_)
          rintro e H' ⟨rfl, rfl⟩
          refine ⟨_, rfl, _, sCat, ?_⟩
          cases h3 : decide (0 ≤ c.ref.seq ∧ c.ref.seq ≤ 65535)
          · repeat (first | refine wChg ?_ | (refine kChg ?_; (first | rintro _ _ ⟨rfl, rfl⟩ | rintro _ _ ⟨_, rfl, rfl⟩ | rintro _ _ ⟨_, _, ⟨_, _⟩, rfl, rfl⟩); try refine ⟨sConv, ?_⟩) | refine Dr.two ?_ ?_)
            exact ret1 rfl sRet sConv (⟨rfl, rfl⟩)
          · repeat (first | refine wChg ?_ | (refine kChg ?_; (first | rintro _ _ ⟨rfl, rfl⟩ | rintro _ _ ⟨_, rfl, rfl⟩ | rintro _ _ ⟨_, _, ⟨_, _⟩, rfl, rfl⟩); try refine ⟨sConv, ?_⟩) | refine Dr.two ?_ ?_)
            exact ret1 rfl sRet sConv (⟨rfl, rfl⟩)
end Go.Proofs.Ytihblcljkndpgaa.Sep
/- The document's changes, by parts of memory. -/
namespace Go.Proofs.Ytihblcljkndpgaa.Sep
open Go.RowKit Go.Proofs.Ytihblcljkndpgaa.Reg Go.Proofs.Ytihblcljkndpgaa.Oct
open Go.Proofs.Ytihblcljkndpgaa.Mem hiding Rd Own
-- types: octT idnT chgT
-- recs: rec_Reader idnT_rec chgT_rec
-- eqs: idnT_eqa chgT_eqa
-- zeros: z_octs
-- funcs
set_option maxRecDepth 100000
set_option maxHeartbeats 6000000
theorem sYR09 {P : Program} {E : Env} {H : List Asn} {ρ : Operand → Value} {o : Oper} {v : Value} (h : Yld P E H ρ o v := by first | (intro _ _; first | (first | (apply V.move; (· exact rfl); (· exact sLk)) | (apply V.assign; (· exact rfl); (· exact sLk)) | (apply V.nilCheck; (· exact rfl); (· exact rfl)) | (apply V.fieldAddr; (· exact rfl); (· exact rfl); (· exact rfl); (· exact rfl); (· exact rfl); (· decide); (· exact sLk); (· exact sAdd)) | (apply V.extract; (· exact rfl); (· exact rfl); (· exact rfl)) | (apply V.not; (· exact rfl); (· exact rfl)) | (apply V.pickT; (· exact rfl); (· exact rfl); (· exact sTst); (· exact sLk)) | (apply V.pickF; (· exact rfl); (· exact rfl); (· exact sTst); (· exact sLk))) | (first | (apply V.add; (· exact rfl); (· exact rfl); (· exact rfl); (· exact sNum)) | (apply V.sub; (· exact rfl); (· exact rfl); (· exact rfl); (· exact sNum)) | (apply V.mul; (· exact rfl); (· exact rfl); (· exact rfl); (· exact sNum)) | (apply V.lss; (· exact rfl); (· exact rfl); (· exact rfl)) | (apply V.leq; (· exact rfl); (· exact rfl); (· exact rfl)) | (apply V.gtr; (· exact rfl); (· exact rfl); (· exact rfl)) | (apply V.geq; (· exact rfl); (· exact rfl); (· exact rfl)) | (apply V.eql; (· exact rfl); (· exact rfl); (· exact rfl))) | (first | (apply V.neq; (· exact rfl); (· exact rfl); (· exact rfl)) | (apply V.neqP; (· exact rfl); (· exact rfl); (· exact rfl); (· exact rfl)) | (apply V.eqlP; (· exact rfl); (· exact rfl); (· exact rfl); (· exact rfl)) | (apply V.eqlN; (· exact rfl); (· exact rfl); (· exact rfl); (· exact rfl)) | (apply V.neqN; (· exact rfl); (· exact rfl); (· exact rfl); (· exact rfl)) | (apply V.len; (· exact rfl); (· exact rfl); (· exact rfl); (· exact sMax)) | (apply V.conv; (· exact rfl); (· exact rfl); (· exact rfl); (· exact rfl); (· exact sNum)) | (apply V.shl8; (· exact rfl); (· exact rfl); (· exact rfl); (· exact sNum))) | (first | (apply V.shl; (· exact rfl); (· exact rfl); (· exact rfl); (· exact sOm); (· exact sNum)) | (apply V.shr; (· exact rfl); (· exact rfl); (· exact rfl); (· exact sOm); (· exact sNum)) | (apply V.quo; (· exact rfl); (· exact rfl); (· exact rfl); (· exact sOm); (· exact sQuo)) | (apply V.rem; (· exact rfl); (· exact rfl); (· exact rfl); (· exact sOm); (· exact sRem)) | (apply V.bits_; (· exact rfl); (· decide); (· exact rfl); (· exact rfl); (· exact sNum)) | (apply V.neg; (· exact rfl); (· exact rfl); (· exact sNum)) | (apply V.eqlS; (· exact rfl); (· exact rfl); (· exact rfl)) | (apply V.neqS; (· exact rfl); (· exact rfl); (· exact rfl))) | (first | (apply V.eqlB; (· exact rfl); (· exact rfl); (· exact rfl); (· exact rfl)) | (apply V.neqB; (· exact rfl); (· exact rfl); (· exact rfl); (· exact rfl)) | (apply V.max; (· exact rfl); (· exact rfl); (· exact rfl)) | (apply V.min; (· exact rfl); (· exact rfl); (· exact rfl)) | (apply V.func1; (· exact rfl); (· exact sLk)) | (apply V.indexA; (· exact rfl); (· exact rfl); (· exact rfl); (· exact rfl); (· exact rfl); (· exact rfl); (· exact rfl); (· exact rfl); (· exact sJ); (· exact sOm); (· exact sOm); (· exact sAsm)) | (apply V.eqlA; (· exact rfl); (· exact sLk); (· exact sLk); (· exact idnT_eqa)) | (apply V.neqA; (· exact rfl); (· exact sLk); (· exact sLk); (· exact idnT_eqa))) | (first | (apply V.eqlA; (· exact rfl); (· exact sLk); (· exact sLk); (· exact chgT_eqa)) | (apply V.neqA; (· exact rfl); (· exact sLk); (· exact sLk); (· exact chgT_eqa)))) | (first | (first | (apply Y.load; (· exact rfl); (· exact rfl); (· exact rfl); (· exact rfl); (· exact sCell)) | (apply Y.indexAddr; (· exact rfl); (· exact rfl); (· exact rfl); (· exact sRdH); (· exact sJ); (· exact sOm); (· exact sAsm); (· exact sRfl); (· exact sRfl)) | (apply Y.loadElem; (· exact rfl); (· exact rfl); (· exact sRdH); rotate_left; (· exact sRfl); rotate_right; (· exact sAsm); (· exact sRfl)) | (apply Y.sliceArr; (· exact rfl); (· exact rfl); (· exact rfl); (· exact rfl)) | (apply Y.loadBlk; (· exact rfl); (· exact rfl); (· exact rfl); (· exact rfl); (· exact rfl); (· exact rfl); (· exact sHas); (· exact sSeg)) | (apply Y.loadPart; (· exact rfl); (· exact rfl); (· exact sRdH); rotate_left; (· exact sRfl); rotate_right; (· exact sAsm); (· exact rfl); (· exact rfl); (· exact rfl); (· exact rfl); (· exact sSeg)) | (apply Y.fieldL; (· exact rfl); (· exact rfl); (· exact rfl); (· exact rfl); (· exact rfl); (· exact rfl); (· exact rfl)) | (apply Y.fieldS; (· exact rfl); (· exact rfl); (· exact rfl); (· exact rfl); (· exact rfl); (· exact rfl); (· exact rfl); (· exact rfl); (· exact rfl); (· exact sSeg))) | (first | (apply Y.len; (· exact rfl); (· exact rfl); (· exact sRdH); (· exact sRfl)) | (apply Y.str; (· exact rfl); (· exact rfl); (· exact sRdH)) | (apply Y.sliceLo; (· exact rfl); (· exact rfl); (· exact rfl); (· exact sRdH); (· exact sJ); (· exact sOm); (· exact sOm); (· exact sRfl)) | (apply Y.sliceHi; (· exact rfl); (· exact rfl); (· exact rfl); (· exact sRdH); (· exact sJ); (· exact sOm); (· exact sOm); (· exact sRfl)) | (apply Y.sliceHiMax; (· exact rfl); (· exact rfl); (· exact rfl); (· exact rfl); (· exact sRdH); (· exact sJ); (· exact sOm); (· exact sJ); (· exact sOm); (· exact sOm); (· exact sOm); (· exact sRfl)) | (apply Y.sliceLoHi; (· exact rfl); (· exact rfl); (· exact rfl); (· exact rfl); (· exact sRdH); (· exact sJ); (· exact sOm); (· exact sJ); (· exact sOm); (· exact sOm); (· exact sOm); (· exact sRfl)) | (apply Y.strLen; (· exact rfl); (· exact rfl); (· exact rfl); (· exact sMax)) | (apply Y.indexStr; (· exact rfl); (· exact rfl); (· exact rfl); (· exact rfl); (· exact sJ); (· exact sOm); (· exact sAsm))) | (first | (apply Y.build; (· exact rfl); (· exact sPv); (· exact rec_Reader); (· exact sFil)) | (apply Y.build; (· exact rfl); (· exact sPv); (· exact idnT_rec); (· exact sFil)) | (apply Y.build; (· exact rfl); (· exact sPv); (· exact chgT_rec); (· exact sFil))))) : Yld P E H ρ o v := h
theorem sSR09 {P : Program} {N : Nat} {E : Env} {F : Nat → Value} {H : List Asn} {o : Oper} {K : Value → List Asn → Prop} (h : Stp P N E F H o K := by first | (first | (apply S.boxK; (· exact rfl); (· exact sLk); (· exact sCel)) | (apply S.append1K; (· exact rfl); (· exact rfl); (· exact rfl); (· exact rfl); (· exact sNN); (· exact (fun _ _ => sRepl)); (· exact sNL); (· exact sRfl); (· first | (conv => lhs; simp only [octT, idnT, chgT]) | rfl); (· exact sOm); (· exact sOm)) | (apply S.appendK; (· exact rfl); (· exact rfl); (· exact rfl); (· exact sNN); (· exact (fun _ _ => sRepl)); (· exact sRdH); (· exact sNL); (· exact sRfl); (· first | (conv => lhs; simp only [octT, idnT, chgT]) | rfl); (· exact sOm); (· exact sOm)) | (apply S.appendNilK; (· exact rfl); (· exact rfl); (· exact rfl); (· exact sRdH); (· exact sRfl); (· first | (conv => lhs; simp only [octT, idnT, chgT]) | rfl); (· exact sOm); (· exact sOm)) | (apply (S.buildSliceK (T := octT) (l := [])); (· exact rfl); (· exact rfl); (· exact rfl); (· exact rfl); (· decide)) | (apply (S.buildSlice1K (T := octT)); (· exact rfl); (· exact sLk); (· first | rfl | (with_reducible exact octT_val _ sOm sOm)); (· exact rfl); (· decide)) | (apply (S.buildSlice2K (T := octT)); (· exact rfl); (· exact sLk); (· first | rfl | (with_reducible exact octT_val _ sOm sOm)); (· exact sLk); (· first | rfl | (with_reducible exact octT_val _ sOm sOm)); (· exact rfl); (· decide)) | (apply (S.buildSlice3K (T := octT)); (· exact rfl); (· exact sLk); (· first | rfl | (with_reducible exact octT_val _ sOm sOm)); (· exact sLk); (· first | rfl | (with_reducible exact octT_val _ sOm sOm)); (· exact sLk); (· first | rfl | (with_reducible exact octT_val _ sOm sOm)); (· exact rfl); (· decide))) | (first | (apply (S.buildSliceK (T := idnT) (l := [])); (· exact rfl); (· exact rfl); (· exact rfl); (· exact rfl); (· decide)) | (apply (S.buildSlice1K (T := idnT)); (· exact rfl); (· exact sLk); (· first | rfl | (with_reducible exact idnT_val _ sOm sOm)); (· exact rfl); (· decide)) | (apply (S.buildSlice2K (T := idnT)); (· exact rfl); (· exact sLk); (· first | rfl | (with_reducible exact idnT_val _ sOm sOm)); (· exact sLk); (· first | rfl | (with_reducible exact idnT_val _ sOm sOm)); (· exact rfl); (· decide)) | (apply (S.buildSlice3K (T := idnT)); (· exact rfl); (· exact sLk); (· first | rfl | (with_reducible exact idnT_val _ sOm sOm)); (· exact sLk); (· first | rfl | (with_reducible exact idnT_val _ sOm sOm)); (· exact sLk); (· first | rfl | (with_reducible exact idnT_val _ sOm sOm)); (· exact rfl); (· decide)) | (apply (S.buildSliceK (T := chgT) (l := [])); (· exact rfl); (· exact rfl); (· exact rfl); (· exact rfl); (· decide)) | (apply (S.buildSlice1K (T := chgT)); (· exact rfl); (· exact sLk); (· first | rfl | (with_reducible exact chgT_val _ sOm sOm)); (· exact rfl); (· decide)) | (apply (S.buildSlice2K (T := chgT)); (· exact rfl); (· exact sLk); (· first | rfl | (with_reducible exact chgT_val _ sOm sOm)); (· exact sLk); (· first | rfl | (with_reducible exact chgT_val _ sOm sOm)); (· exact rfl); (· decide)) | (apply (S.buildSlice3K (T := chgT)); (· exact rfl); (· exact sLk); (· first | rfl | (with_reducible exact chgT_val _ sOm sOm)); (· exact sLk); (· first | rfl | (with_reducible exact chgT_val _ sOm sOm)); (· exact sLk); (· first | rfl | (with_reducible exact chgT_val _ sOm sOm)); (· exact rfl); (· decide))) | (first | (apply (S.storeEK (T := octT)); (· exact rfl); (· exact rfl); (· exact sLk); (· exact sRepl); rotate_left; (· exact sRfl); rotate_right; (· exact sAsm); (· first | rfl | (with_reducible exact octT_val _ sOm sOm)); (· exact sRfl)) | (apply (S.storeEK (T := idnT)); (· exact rfl); (· exact rfl); (· exact sLk); (· exact sRepl); rotate_left; (· exact sRfl); rotate_right; (· exact sAsm); (· first | rfl | (with_reducible exact idnT_val _ sOm sOm)); (· exact sRfl)) | (apply (S.storeEK (T := chgT)); (· exact rfl); (· exact rfl); (· exact sLk); (· exact sRepl); rotate_left; (· exact sRfl); rotate_right; (· exact sAsm); (· first | rfl | (with_reducible exact chgT_val _ sOm sOm)); (· exact sRfl)) | (apply S.allocK; (· exact rfl); (· exact rec_Reader.zero)) | (apply S.allocK; (· exact rfl); (· exact idnT_rec.zero)) | (apply S.allocK; (· exact rfl); (· exact chgT_rec.zero)) | (apply S.allocK; (· exact rfl); (· exact z_octs)) | (apply (S.makeSliceK (T := octT) (z := octT_z)); (· exact rfl); (· exact rfl); (· exact rfl); (· exact sJ); (· exact sOm); (· exact rfl); (· exact rfl); (· first | (conv => lhs; simp only [octT, idnT, chgT]) | rfl); (· exact sOm); (· exact sOm))) | (first | (apply (S.makeSliceK (T := idnT) (z := idnT_z)); (· exact rfl); (· exact rfl); (· exact rfl); (· exact sJ); (· exact sOm); (· exact rfl); (· exact rfl); (· first | (conv => lhs; simp only [octT, idnT, chgT]) | rfl); (· exact sOm); (· exact sOm)) | (apply (S.makeSliceK (T := chgT) (z := chgT_z)); (· exact rfl); (· exact rfl); (· exact rfl); (· exact sJ); (· exact sOm); (· exact rfl); (· exact rfl); (· first | (conv => lhs; simp only [octT, idnT, chgT]) | rfl); (· exact sOm); (· exact sOm)) | (apply S.storeAggK; (· exact rfl); (· exact rfl); (· exact sLk); (· exact rfl); (· exact rfl); (· exact rfl); (· exact sRepl); (· exact sPut)) | (apply S.copyInK; (· exact rfl); (· exact rfl); (· exact rfl); (· exact sAsm); (· exact sRepl); (· exact sRdH); rotate_left; (· exact rfl); rotate_right; (· exact sAsm); (· exact sOm); (· exact sAsm); (· exact rfl); (· exact sMax)) | (apply S.store1K; (· exact rfl); (· exact rfl); (· exact sLk); (· exact sRfl); (· exact rfl); (· exact rfl); (· exact sRepl); (· exact sLn); (· exact sSetL)))) : Stp P N E F H o K := h
theorem wR09 {p q : Prop} (hq : q) (h : Box q → p := by intro h; (first | (focus (apply L.val; (· decide); (· exact sYR09))) | refine C.seq ?_ | refine C.region ?_ | refine L.nil ?_ | refine C.block ?_ | refine C.exit ?_ | refine C.skip ?_ | refine C.ret ?_ | (focus (apply L.on; (· exact rfl); (· decide); (· exact rfl); (· exact sTst))) | (focus (apply L.off; (· decide); (· exact rfl); (· decide); (· exact rfl); (· exact sTst))) | (focus (apply L.offU; (· decide); (· exact rfl); (· decide); (· exact rfl))) | (focus (apply C.condT; (· exact rfl); (· exact sTst))) | (focus (apply C.condF; (· exact rfl); (· exact sTst))) | refine Dr.done ?_ | refine DrA.done ?_ | (focus (apply DrA.take; (· exact rfl); (· decide); (· exact sGon); (· exact sYR09))) | (focus (apply Dr.take; (· exact rfl); (· decide); (· exact sGon); (· exact sYR09))) | (focus (apply Dr.skip; (· exact rfl); (· decide); (· exact sGoff))) | (focus (apply Dr.goSkip; (· exact rfl); (· decide); (· exact sGoff))) | with_reducible refine T.n ?_ | with_reducible refine T.ret ?_ | with_reducible refine T.exit ?_ | with_reducible refine I.n ?_ | with_reducible refine I.ret ?_ | with_reducible refine I.hit ?_ | with_reducible refine I.miss (by decide) ?_); (repeat (first | (focus (apply L.val; (· decide); (· exact sYR09))) | refine C.seq ?_ | refine C.region ?_ | refine L.nil ?_ | refine C.block ?_ | refine C.exit ?_ | refine C.skip ?_ | refine C.ret ?_ | (focus (apply L.on; (· exact rfl); (· decide); (· exact rfl); (· exact sTst))) | (focus (apply L.off; (· decide); (· exact rfl); (· decide); (· exact rfl); (· exact sTst))) | (focus (apply L.offU; (· decide); (· exact rfl); (· decide); (· exact rfl))) | (focus (apply C.condT; (· exact rfl); (· exact sTst))) | (focus (apply C.condF; (· exact rfl); (· exact sTst))) | refine Dr.done ?_ | refine DrA.done ?_ | (focus (apply DrA.take; (· exact rfl); (· decide); (· exact sGon); (· exact sYR09))) | (focus (apply Dr.take; (· exact rfl); (· decide); (· exact sGon); (· exact sYR09))) | (focus (apply Dr.skip; (· exact rfl); (· decide); (· exact sGoff))) | (focus (apply Dr.goSkip; (· exact rfl); (· decide); (· exact sGoff))) | with_reducible refine T.n ?_ | with_reducible refine T.ret ?_ | with_reducible refine T.exit ?_ | with_reducible refine I.n ?_ | with_reducible refine I.ret ?_ | with_reducible refine I.hit ?_ | with_reducible refine I.miss (by decide) ?_)); exact h.out) : p := h ⟨hq⟩
theorem vR09 {p q : Prop} (hq : q) (h : Box q → p := by intro h; (first | (focus (apply L.val; (· decide); (· exact sYR09))) | refine C.seq ?_ | refine C.region ?_ | refine L.nil ?_ | refine C.block ?_ | refine C.exit ?_ | refine C.skip ?_ | refine C.ret ?_ | (focus (apply L.on; (· exact rfl); (· decide); (· exact rfl); (· exact sTst))) | (focus (apply L.off; (· decide); (· exact rfl); (· decide); (· exact rfl); (· exact sTst))) | (focus (apply L.offU; (· decide); (· exact rfl); (· decide); (· exact rfl))) | (focus (apply C.condT; (· exact rfl); (· exact sTst))) | (focus (apply C.condF; (· exact rfl); (· exact sTst))) | refine Dr.done ?_ | refine DrA.done ?_ | (focus (apply DrA.take; (· exact rfl); (· decide); (· exact sGon); (· exact sYR09))) | (focus (apply Dr.take; (· exact rfl); (· decide); (· exact sGon); (· exact sYR09))) | (focus (apply Dr.skip; (· exact rfl); (· decide); (· exact sGoff))) | (focus (apply Dr.goSkip; (· exact rfl); (· decide); (· exact sGoff))) | with_reducible refine T.n ?_ | with_reducible refine T.ret ?_ | with_reducible refine T.exit ?_ | with_reducible refine I.n ?_ | with_reducible refine I.ret ?_ | with_reducible refine I.hit ?_ | with_reducible refine I.miss (by decide) ?_); exact h.out) : p := h ⟨hq⟩
theorem kR09 {p q : Prop} (hq : q) (h : Box q → p := by intro h; first | (apply L.stepK; (· decide); (· exact sSR09); exact h.out) | (apply L.step0K; (· exact sSR09); exact h.out) | (apply Dr.goZ; (· exact rfl); (· rintro k ⟨⟩ <;> decide); (· exact sGon); (· exact sSR09); exact h.out) | (apply Dr.goZs; (· exact rfl); (· rintro k ⟨⟩ <;> decide); (· exact sGon); (· exact sSR09); exact h.out) | (apply Go1.goK; (· exact rfl); (· rintro k ⟨⟩ <;> decide); (· exact sGon); (· exact sSR09); exact h.out) | (apply Dr.goK; (· exact rfl); (· rintro k ⟨⟩ <;> decide); (· exact sGon); (· exact sSR09); exact h.out)) : p := h ⟨hq⟩
theorem small_any (E : Env) (n : Int) : Tri Try.prog E 88 #[.int .i64 n] [] fun e H' => e = .returned (.bool (small n)) ∧ H' = [] := by
  refine tri Try.func88 rfl Try.ntmps88 (by simp) ?_
  by_cases h0 : 0 ≤ n
  · have hx : small n = decide (n ≤ 255) := by simp [small, h0]
    rw [hx]
    repeat (first | refine wR09 ?_ | (refine kR09 ?_; (first | rintro _ _ ⟨rfl, rfl⟩ | rintro _ _ ⟨_, rfl, rfl⟩ | rintro _ _ ⟨_, _, ⟨_, _⟩, rfl, rfl⟩); try refine ⟨sConv, ?_⟩) | refine Dr.two ?_ ?_)
    exact ret1 rfl sRet sConv (⟨rfl, rfl⟩)
  · have hx : small n = false := by simp [small, h0]
    rw [hx]
    repeat (first | refine wR09 ?_ | (refine kR09 ?_; (first | rintro _ _ ⟨rfl, rfl⟩ | rintro _ _ ⟨_, rfl, rfl⟩ | rintro _ _ ⟨_, _, ⟨_, _⟩, rfl, rfl⟩); try refine ⟨sConv, ?_⟩) | refine Dr.two ?_ ?_)
    exact ret1 rfl sRet sConv (⟨rfl, rfl⟩)
theorem r9may_any (E : Env) (c : Chg) : Tri Try.prog E 78 #[.agg c.cs.toArray] [] fun e H' => e = .returned (.bool c.may) ∧ H' = [] := by
  refine tri Try.func78 rfl Try.ntmps78 (by simp) ?_
  repeat (first | refine wR09 ?_ | (refine kR09 ?_; (first | rintro _ _ ⟨rfl, rfl⟩ | rintro _ _ ⟨_, rfl, rfl⟩ | rintro _ _ ⟨_, _, ⟨_, _⟩, rfl, rfl⟩); try refine ⟨sConv, ?_⟩) | refine Dr.two ?_ ?_)
  refine L.step (by decide) (S.call rfl rfl Try.func82 (by kernel_rfl) rfl sPicks (fun E' hE => rmay_any E' c.id) ?_)
  rintro e H' ⟨rfl, rfl⟩
  refine ⟨_, rfl, _, sCat, ?_⟩
  have hall : c.may = (c.id.may && (decide (1 ≤ c.time) && (decide (c.time ≤ 1073741824) && (small c.kind && (small c.a && (small c.b && (small c.ref.rep && (decide (0 ≤ c.ref.seq) && decide (c.ref.seq ≤ 65535))))))))) := by
    unfold Chg.may
    rw [Bool.eq_iff_iff]
    simp [and_assoc]
  rw [hall]
  cases h1 : c.id.may
  · repeat (first | refine wR09 ?_ | (refine kR09 ?_; (first | rintro _ _ ⟨rfl, rfl⟩ | rintro _ _ ⟨_, rfl, rfl⟩ | rintro _ _ ⟨_, _, ⟨_, _⟩, rfl, rfl⟩); try refine ⟨sConv, ?_⟩) | refine Dr.two ?_ ?_)
    exact ret1 rfl sRet sConv (⟨rfl, rfl⟩)
  by_cases h2 : 1 ≤ c.time
  case neg =>
    rw [decide_eq_false h2]
    repeat (first | refine wR09 ?_ | (refine kR09 ?_; (first | rintro _ _ ⟨rfl, rfl⟩ | rintro _ _ ⟨_, rfl, rfl⟩ | rintro _ _ ⟨_, _, ⟨_, _⟩, rfl, rfl⟩); try refine ⟨sConv, ?_⟩) | refine Dr.two ?_ ?_)
    exact ret1 rfl sRet sConv (⟨rfl, rfl⟩)
  by_cases h3 : c.time ≤ 1073741824
  case neg =>
    rw [decide_eq_true h2, decide_eq_false h3]
    repeat (first | refine wR09 ?_ | (refine kR09 ?_; (first | rintro _ _ ⟨rfl, rfl⟩ | rintro _ _ ⟨_, rfl, rfl⟩ | rintro _ _ ⟨_, _, ⟨_, _⟩, rfl, rfl⟩); try refine ⟨sConv, ?_⟩) | refine Dr.two ?_ ?_)
    exact ret1 rfl sRet sConv (⟨rfl, rfl⟩)
  rw [decide_eq_true h2, decide_eq_true h3]
  repeat (first | refine wR09 ?_ | (refine kR09 ?_; (first | rintro _ _ ⟨rfl, rfl⟩ | rintro _ _ ⟨_, rfl, rfl⟩ | rintro _ _ ⟨_, _, ⟨_, _⟩, rfl, rfl⟩); try refine ⟨sConv, ?_⟩) | refine Dr.two ?_ ?_)
  refine L.step (by decide) (S.call rfl rfl Try.func88 (by kernel_rfl) rfl sPicks (fun E' hE => small_any E' c.kind) ?_)
  rintro e H' ⟨rfl, rfl⟩
  refine ⟨_, rfl, _, sCat, ?_⟩
  cases h4 : small c.kind
  · repeat (first | refine wR09 ?_ | (refine kR09 ?_; (first | rintro _ _ ⟨rfl, rfl⟩ | rintro _ _ ⟨_, rfl, rfl⟩ | rintro _ _ ⟨_, _, ⟨_, _⟩, rfl, rfl⟩); try refine ⟨sConv, ?_⟩) | refine Dr.two ?_ ?_)
    exact ret1 rfl sRet sConv (⟨rfl, rfl⟩)
  repeat (first | refine wR09 ?_ | (refine kR09 ?_; (first | rintro _ _ ⟨rfl, rfl⟩ | rintro _ _ ⟨_, rfl, rfl⟩ | rintro _ _ ⟨_, _, ⟨_, _⟩, rfl, rfl⟩); try refine ⟨sConv, ?_⟩) | refine Dr.two ?_ ?_)
  refine L.step (by decide) (S.call rfl rfl Try.func88 (by kernel_rfl) rfl sPicks (fun E' hE => small_any E' c.a) ?_)
  rintro e H' ⟨rfl, rfl⟩
  refine ⟨_, rfl, _, sCat, ?_⟩
  cases h5 : small c.a
  · repeat (first | refine wR09 ?_ | (refine kR09 ?_; (first | rintro _ _ ⟨rfl, rfl⟩ | rintro _ _ ⟨_, rfl, rfl⟩ | rintro _ _ ⟨_, _, ⟨_, _⟩, rfl, rfl⟩); try refine ⟨sConv, ?_⟩) | refine Dr.two ?_ ?_)
    exact ret1 rfl sRet sConv (⟨rfl, rfl⟩)
  repeat (first | refine wR09 ?_ | (refine kR09 ?_; (first | rintro _ _ ⟨rfl, rfl⟩ | rintro _ _ ⟨_, rfl, rfl⟩ | rintro _ _ ⟨_, _, ⟨_, _⟩, rfl, rfl⟩); try refine ⟨sConv, ?_⟩) | refine Dr.two ?_ ?_)
  refine L.step (by decide) (S.call rfl rfl Try.func88 (by kernel_rfl) rfl sPicks (fun E' hE => small_any E' c.b) ?_)
  rintro e H' ⟨rfl, rfl⟩
  refine ⟨_, rfl, _, sCat, ?_⟩
  cases h6 : small c.b
  · repeat (first | refine wR09 ?_ | (refine kR09 ?_; (first | rintro _ _ ⟨rfl, rfl⟩ | rintro _ _ ⟨_, rfl, rfl⟩ | rintro _ _ ⟨_, _, ⟨_, _⟩, rfl, rfl⟩); try refine ⟨sConv, ?_⟩) | refine Dr.two ?_ ?_)
    exact ret1 rfl sRet sConv (⟨rfl, rfl⟩)
  repeat (first | refine wR09 ?_ | (refine kR09 ?_; (first | rintro _ _ ⟨rfl, rfl⟩ | rintro _ _ ⟨_, rfl, rfl⟩ | rintro _ _ ⟨_, _, ⟨_, _⟩, rfl, rfl⟩); try refine ⟨sConv, ?_⟩) | refine Dr.two ?_ ?_)
  refine L.step (by decide) (S.call rfl rfl Try.func88 (by kernel_rfl) rfl sPicks (fun E' hE => small_any E' c.ref.rep) ?_)
  rintro e H' ⟨rfl, rfl⟩
  refine ⟨_, rfl, _, sCat, ?_⟩
  cases h7 : small c.ref.rep
  · repeat (first | refine wR09 ?_ | (refine kR09 ?_; (first | rintro _ _ ⟨rfl, rfl⟩ | rintro _ _ ⟨_, rfl, rfl⟩ | rintro _ _ ⟨_, _, ⟨_, _⟩, rfl, rfl⟩); try refine ⟨sConv, ?_⟩) | refine Dr.two ?_ ?_)
    exact ret1 rfl sRet sConv (⟨rfl, rfl⟩)
  by_cases h8 : 0 ≤ c.ref.seq
  case neg =>
    rw [decide_eq_false h8]
    repeat (first | refine wR09 ?_ | (refine kR09 ?_; (first | rintro _ _ ⟨rfl, rfl⟩ | rintro _ _ ⟨_, rfl, rfl⟩ | rintro _ _ ⟨_, _, ⟨_, _⟩, rfl, rfl⟩); try refine ⟨sConv, ?_⟩) | refine Dr.two ?_ ?_)
    exact ret1 rfl sRet sConv (⟨rfl, rfl⟩)
  rw [decide_eq_true h8]
  repeat (first | refine wR09 ?_ | (refine kR09 ?_; (first | rintro _ _ ⟨rfl, rfl⟩ | rintro _ _ ⟨_, rfl, rfl⟩ | rintro _ _ ⟨_, _, ⟨_, _⟩, rfl, rfl⟩); try refine ⟨sConv, ?_⟩) | refine Dr.two ?_ ?_)
  exact ret1 rfl sRet sConv (⟨rfl, rfl⟩)
end Go.Proofs.Ytihblcljkndpgaa.Sep
/- The document's Get, by parts of memory. -/
namespace Go.Proofs.Ytihblcljkndpgaa.Sep
open Go.RowKit Go.Proofs.Ytihblcljkndpgaa.Reg Go.Proofs.Ytihblcljkndpgaa.Oct
open Go.Proofs.Ytihblcljkndpgaa.Mem hiding Rd Own
-- types: octT idnT chgT
-- recs: rec_Reader idnT_rec chgT_rec
-- eqs: idnT_eqa chgT_eqa
-- zeros: z_octs
-- funcs
set_option maxRecDepth 100000
set_option maxHeartbeats 6000000
theorem sYR9c {P : Program} {E : Env} {H : List Asn} {ρ : Operand → Value} {o : Oper} {v : Value} (h : Yld P E H ρ o v := by first | (intro _ _; first | (first | (apply V.move; (· exact rfl); (· exact sLk)) | (apply V.assign; (· exact rfl); (· exact sLk)) | (apply V.nilCheck; (· exact rfl); (· exact rfl)) | (apply V.fieldAddr; (· exact rfl); (· exact rfl); (· exact rfl); (· exact rfl); (· exact rfl); (· decide); (· exact sLk); (· exact sAdd)) | (apply V.extract; (· exact rfl); (· exact rfl); (· exact rfl)) | (apply V.not; (· exact rfl); (· exact rfl)) | (apply V.pickT; (· exact rfl); (· exact rfl); (· exact sTst); (· exact sLk)) | (apply V.pickF; (· exact rfl); (· exact rfl); (· exact sTst); (· exact sLk))) | (first | (apply V.add; (· exact rfl); (· exact rfl); (· exact rfl); (· exact sNum)) | (apply V.sub; (· exact rfl); (· exact rfl); (· exact rfl); (· exact sNum)) | (apply V.mul; (· exact rfl); (· exact rfl); (· exact rfl); (· exact sNum)) | (apply V.lss; (· exact rfl); (· exact rfl); (· exact rfl)) | (apply V.leq; (· exact rfl); (· exact rfl); (· exact rfl)) | (apply V.gtr; (· exact rfl); (· exact rfl); (· exact rfl)) | (apply V.geq; (· exact rfl); (· exact rfl); (· exact rfl)) | (apply V.eql; (· exact rfl); (· exact rfl); (· exact rfl))) | (first | (apply V.neq; (· exact rfl); (· exact rfl); (· exact rfl)) | (apply V.neqP; (· exact rfl); (· exact rfl); (· exact rfl); (· exact rfl)) | (apply V.eqlP; (· exact rfl); (· exact rfl); (· exact rfl); (· exact rfl)) | (apply V.eqlN; (· exact rfl); (· exact rfl); (· exact rfl); (· exact rfl)) | (apply V.neqN; (· exact rfl); (· exact rfl); (· exact rfl); (· exact rfl)) | (apply V.len; (· exact rfl); (· exact rfl); (· exact rfl); (· exact sMax)) | (apply V.conv; (· exact rfl); (· exact rfl); (· exact rfl); (· exact rfl); (· exact sNum)) | (apply V.shl8; (· exact rfl); (· exact rfl); (· exact rfl); (· exact sNum))) | (first | (apply V.shl; (· exact rfl); (· exact rfl); (· exact rfl); (· exact sOm); (· exact sNum)) | (apply V.shr; (· exact rfl); (· exact rfl); (· exact rfl); (· exact sOm); (· exact sNum)) | (apply V.quo; (· exact rfl); (· exact rfl); (· exact rfl); (· exact sOm); (· exact sQuo)) | (apply V.rem; (· exact rfl); (· exact rfl); (· exact rfl); (· exact sOm); (· exact sRem)) | (apply V.bits_; (· exact rfl); (· decide); (· exact rfl); (· exact rfl); (· exact sNum)) | (apply V.neg; (· exact rfl); (· exact rfl); (· exact sNum)) | (apply V.eqlS; (· exact rfl); (· exact rfl); (· exact rfl)) | (apply V.neqS; (· exact rfl); (· exact rfl); (· exact rfl))) | (first | (apply V.eqlB; (· exact rfl); (· exact rfl); (· exact rfl); (· exact rfl)) | (apply V.neqB; (· exact rfl); (· exact rfl); (· exact rfl); (· exact rfl)) | (apply V.max; (· exact rfl); (· exact rfl); (· exact rfl)) | (apply V.min; (· exact rfl); (· exact rfl); (· exact rfl)) | (apply V.func1; (· exact rfl); (· exact sLk)) | (apply V.indexA; (· exact rfl); (· exact rfl); (· exact rfl); (· exact rfl); (· exact rfl); (· exact rfl); (· exact rfl); (· exact rfl); (· exact sJ); (· exact sOm); (· exact sOm); (· exact sAsm)) | (apply V.eqlA; (· exact rfl); (· exact sLk); (· exact sLk); (· exact idnT_eqa)) | (apply V.neqA; (· exact rfl); (· exact sLk); (· exact sLk); (· exact idnT_eqa))) | (first | (apply V.eqlA; (· exact rfl); (· exact sLk); (· exact sLk); (· exact chgT_eqa)) | (apply V.neqA; (· exact rfl); (· exact sLk); (· exact sLk); (· exact chgT_eqa)))) | (first | (first | (apply Y.load; (· exact rfl); (· exact rfl); (· exact rfl); (· exact rfl); (· exact sCell)) | (apply Y.indexAddr; (· exact rfl); (· exact rfl); (· exact rfl); (· exact sRdH); (· exact sJ); (· exact sOm); (· exact sAsm); (· exact sRfl); (· exact sRfl)) | (apply Y.loadElem; (· exact rfl); (· exact rfl); (· exact sRdH); rotate_left; (· exact sRfl); rotate_right; (· exact sAsm); (· exact sRfl)) | (apply Y.sliceArr; (· exact rfl); (· exact rfl); (· exact rfl); (· exact rfl)) | (apply Y.loadBlk; (· exact rfl); (· exact rfl); (· exact rfl); (· exact rfl); (· exact rfl); (· exact rfl); (· exact sHas); (· exact sSeg)) | (apply Y.loadPart; (· exact rfl); (· exact rfl); (· exact sRdH); rotate_left; (· exact sRfl); rotate_right; (· exact sAsm); (· exact rfl); (· exact rfl); (· exact rfl); (· exact rfl); (· exact sSeg)) | (apply Y.fieldL; (· exact rfl); (· exact rfl); (· exact rfl); (· exact rfl); (· exact rfl); (· exact rfl); (· exact rfl)) | (apply Y.fieldS; (· exact rfl); (· exact rfl); (· exact rfl); (· exact rfl); (· exact rfl); (· exact rfl); (· exact rfl); (· exact rfl); (· exact rfl); (· exact sSeg))) | (first | (apply Y.len; (· exact rfl); (· exact rfl); (· exact sRdH); (· exact sRfl)) | (apply Y.str; (· exact rfl); (· exact rfl); (· exact sRdH)) | (apply Y.sliceLo; (· exact rfl); (· exact rfl); (· exact rfl); (· exact sRdH); (· exact sJ); (· exact sOm); (· exact sOm); (· exact sRfl)) | (apply Y.sliceHi; (· exact rfl); (· exact rfl); (· exact rfl); (· exact sRdH); (· exact sJ); (· exact sOm); (· exact sOm); (· exact sRfl)) | (apply Y.sliceHiMax; (· exact rfl); (· exact rfl); (· exact rfl); (· exact rfl); (· exact sRdH); (· exact sJ); (· exact sOm); (· exact sJ); (· exact sOm); (· exact sOm); (· exact sOm); (· exact sRfl)) | (apply Y.sliceLoHi; (· exact rfl); (· exact rfl); (· exact rfl); (· exact rfl); (· exact sRdH); (· exact sJ); (· exact sOm); (· exact sJ); (· exact sOm); (· exact sOm); (· exact sOm); (· exact sRfl)) | (apply Y.strLen; (· exact rfl); (· exact rfl); (· exact rfl); (· exact sMax)) | (apply Y.indexStr; (· exact rfl); (· exact rfl); (· exact rfl); (· exact rfl); (· exact sJ); (· exact sOm); (· exact sAsm))) | (first | (apply Y.build; (· exact rfl); (· exact sPv); (· exact rec_Reader); (· exact sFil)) | (apply Y.build; (· exact rfl); (· exact sPv); (· exact idnT_rec); (· exact sFil)) | (apply Y.build; (· exact rfl); (· exact sPv); (· exact chgT_rec); (· exact sFil))))) : Yld P E H ρ o v := h
theorem sSR9c {P : Program} {N : Nat} {E : Env} {F : Nat → Value} {H : List Asn} {o : Oper} {K : Value → List Asn → Prop} (h : Stp P N E F H o K := by first | (first | (apply S.boxK; (· exact rfl); (· exact sLk); (· exact sCel)) | (apply S.append1K; (· exact rfl); (· exact rfl); (· exact rfl); (· exact rfl); (· exact sNN); (· exact (fun _ _ => sRepl)); (· exact sNL); (· exact sRfl); (· first | (conv => lhs; simp only [octT, idnT, chgT]) | rfl); (· exact sOm); (· exact sOm)) | (apply S.appendK; (· exact rfl); (· exact rfl); (· exact rfl); (· exact sNN); (· exact (fun _ _ => sRepl)); (· exact sRdH); (· exact sNL); (· exact sRfl); (· first | (conv => lhs; simp only [octT, idnT, chgT]) | rfl); (· exact sOm); (· exact sOm)) | (apply S.appendNilK; (· exact rfl); (· exact rfl); (· exact rfl); (· exact sRdH); (· exact sRfl); (· first | (conv => lhs; simp only [octT, idnT, chgT]) | rfl); (· exact sOm); (· exact sOm)) | (apply (S.buildSliceK (T := octT) (l := [])); (· exact rfl); (· exact rfl); (· exact rfl); (· exact rfl); (· decide)) | (apply (S.buildSlice1K (T := octT)); (· exact rfl); (· exact sLk); (· first | rfl | (with_reducible exact octT_val _ sOm sOm)); (· exact rfl); (· decide)) | (apply (S.buildSlice2K (T := octT)); (· exact rfl); (· exact sLk); (· first | rfl | (with_reducible exact octT_val _ sOm sOm)); (· exact sLk); (· first | rfl | (with_reducible exact octT_val _ sOm sOm)); (· exact rfl); (· decide)) | (apply (S.buildSlice3K (T := octT)); (· exact rfl); (· exact sLk); (· first | rfl | (with_reducible exact octT_val _ sOm sOm)); (· exact sLk); (· first | rfl | (with_reducible exact octT_val _ sOm sOm)); (· exact sLk); (· first | rfl | (with_reducible exact octT_val _ sOm sOm)); (· exact rfl); (· decide))) | (first | (apply (S.buildSliceK (T := idnT) (l := [])); (· exact rfl); (· exact rfl); (· exact rfl); (· exact rfl); (· decide)) | (apply (S.buildSlice1K (T := idnT)); (· exact rfl); (· exact sLk); (· first | rfl | (with_reducible exact idnT_val _ sOm sOm)); (· exact rfl); (· decide)) | (apply (S.buildSlice2K (T := idnT)); (· exact rfl); (· exact sLk); (· first | rfl | (with_reducible exact idnT_val _ sOm sOm)); (· exact sLk); (· first | rfl | (with_reducible exact idnT_val _ sOm sOm)); (· exact rfl); (· decide)) | (apply (S.buildSlice3K (T := idnT)); (· exact rfl); (· exact sLk); (· first | rfl | (with_reducible exact idnT_val _ sOm sOm)); (· exact sLk); (· first | rfl | (with_reducible exact idnT_val _ sOm sOm)); (· exact sLk); (· first | rfl | (with_reducible exact idnT_val _ sOm sOm)); (· exact rfl); (· decide)) | (apply (S.buildSliceK (T := chgT) (l := [])); (· exact rfl); (· exact rfl); (· exact rfl); (· exact rfl); (· decide)) | (apply (S.buildSlice1K (T := chgT)); (· exact rfl); (· exact sLk); (· first | rfl | (with_reducible exact chgT_val _ sOm sOm)); (· exact rfl); (· decide)) | (apply (S.buildSlice2K (T := chgT)); (· exact rfl); (· exact sLk); (· first | rfl | (with_reducible exact chgT_val _ sOm sOm)); (· exact sLk); (· first | rfl | (with_reducible exact chgT_val _ sOm sOm)); (· exact rfl); (· decide)) | (apply (S.buildSlice3K (T := chgT)); (· exact rfl); (· exact sLk); (· first | rfl | (with_reducible exact chgT_val _ sOm sOm)); (· exact sLk); (· first | rfl | (with_reducible exact chgT_val _ sOm sOm)); (· exact sLk); (· first | rfl | (with_reducible exact chgT_val _ sOm sOm)); (· exact rfl); (· decide))) | (first | (apply (S.storeEK (T := octT)); (· exact rfl); (· exact rfl); (· exact sLk); (· exact sRepl); rotate_left; (· exact sRfl); rotate_right; (· exact sAsm); (· first | rfl | (with_reducible exact octT_val _ sOm sOm)); (· exact sRfl)) | (apply (S.storeEK (T := idnT)); (· exact rfl); (· exact rfl); (· exact sLk); (· exact sRepl); rotate_left; (· exact sRfl); rotate_right; (· exact sAsm); (· first | rfl | (with_reducible exact idnT_val _ sOm sOm)); (· exact sRfl)) | (apply (S.storeEK (T := chgT)); (· exact rfl); (· exact rfl); (· exact sLk); (· exact sRepl); rotate_left; (· exact sRfl); rotate_right; (· exact sAsm); (· first | rfl | (with_reducible exact chgT_val _ sOm sOm)); (· exact sRfl)) | (apply S.allocK; (· exact rfl); (· exact rec_Reader.zero)) | (apply S.allocK; (· exact rfl); (· exact idnT_rec.zero)) | (apply S.allocK; (· exact rfl); (· exact chgT_rec.zero)) | (apply S.allocK; (· exact rfl); (· exact z_octs)) | (apply (S.makeSliceK (T := octT) (z := octT_z)); (· exact rfl); (· exact rfl); (· exact rfl); (· exact sJ); (· exact sOm); (· exact rfl); (· exact rfl); (· first | (conv => lhs; simp only [octT, idnT, chgT]) | rfl); (· exact sOm); (· exact sOm))) | (first | (apply (S.makeSliceK (T := idnT) (z := idnT_z)); (· exact rfl); (· exact rfl); (· exact rfl); (· exact sJ); (· exact sOm); (· exact rfl); (· exact rfl); (· first | (conv => lhs; simp only [octT, idnT, chgT]) | rfl); (· exact sOm); (· exact sOm)) | (apply (S.makeSliceK (T := chgT) (z := chgT_z)); (· exact rfl); (· exact rfl); (· exact rfl); (· exact sJ); (· exact sOm); (· exact rfl); (· exact rfl); (· first | (conv => lhs; simp only [octT, idnT, chgT]) | rfl); (· exact sOm); (· exact sOm)) | (apply S.storeAggK; (· exact rfl); (· exact rfl); (· exact sLk); (· exact rfl); (· exact rfl); (· exact rfl); (· exact sRepl); (· exact sPut)) | (apply S.copyInK; (· exact rfl); (· exact rfl); (· exact rfl); (· exact sAsm); (· exact sRepl); (· exact sRdH); rotate_left; (· exact rfl); rotate_right; (· exact sAsm); (· exact sOm); (· exact sAsm); (· exact rfl); (· exact sMax)) | (apply S.store1K; (· exact rfl); (· exact rfl); (· exact sLk); (· exact sRfl); (· exact rfl); (· exact rfl); (· exact sRepl); (· exact sLn); (· exact sSetL)))) : Stp P N E F H o K := h
theorem wR9c {p q : Prop} (hq : q) (h : Box q → p := by intro h; (first | (focus (apply L.val; (· decide); (· exact sYR9c))) | refine C.seq ?_ | refine C.region ?_ | refine L.nil ?_ | refine C.block ?_ | refine C.exit ?_ | refine C.skip ?_ | refine C.ret ?_ | (focus (apply L.on; (· exact rfl); (· decide); (· exact rfl); (· exact sTst))) | (focus (apply L.off; (· decide); (· exact rfl); (· decide); (· exact rfl); (· exact sTst))) | (focus (apply L.offU; (· decide); (· exact rfl); (· decide); (· exact rfl))) | (focus (apply C.condT; (· exact rfl); (· exact sTst))) | (focus (apply C.condF; (· exact rfl); (· exact sTst))) | refine Dr.done ?_ | refine DrA.done ?_ | (focus (apply DrA.take; (· exact rfl); (· decide); (· exact sGon); (· exact sYR9c))) | (focus (apply Dr.take; (· exact rfl); (· decide); (· exact sGon); (· exact sYR9c))) | (focus (apply Dr.skip; (· exact rfl); (· decide); (· exact sGoff))) | (focus (apply Dr.goSkip; (· exact rfl); (· decide); (· exact sGoff))) | with_reducible refine T.n ?_ | with_reducible refine T.ret ?_ | with_reducible refine T.exit ?_ | with_reducible refine I.n ?_ | with_reducible refine I.ret ?_ | with_reducible refine I.hit ?_ | with_reducible refine I.miss (by decide) ?_); (repeat (first | (focus (apply L.val; (· decide); (· exact sYR9c))) | refine C.seq ?_ | refine C.region ?_ | refine L.nil ?_ | refine C.block ?_ | refine C.exit ?_ | refine C.skip ?_ | refine C.ret ?_ | (focus (apply L.on; (· exact rfl); (· decide); (· exact rfl); (· exact sTst))) | (focus (apply L.off; (· decide); (· exact rfl); (· decide); (· exact rfl); (· exact sTst))) | (focus (apply L.offU; (· decide); (· exact rfl); (· decide); (· exact rfl))) | (focus (apply C.condT; (· exact rfl); (· exact sTst))) | (focus (apply C.condF; (· exact rfl); (· exact sTst))) | refine Dr.done ?_ | refine DrA.done ?_ | (focus (apply DrA.take; (· exact rfl); (· decide); (· exact sGon); (· exact sYR9c))) | (focus (apply Dr.take; (· exact rfl); (· decide); (· exact sGon); (· exact sYR9c))) | (focus (apply Dr.skip; (· exact rfl); (· decide); (· exact sGoff))) | (focus (apply Dr.goSkip; (· exact rfl); (· decide); (· exact sGoff))) | with_reducible refine T.n ?_ | with_reducible refine T.ret ?_ | with_reducible refine T.exit ?_ | with_reducible refine I.n ?_ | with_reducible refine I.ret ?_ | with_reducible refine I.hit ?_ | with_reducible refine I.miss (by decide) ?_)); exact h.out) : p := h ⟨hq⟩
theorem vR9c {p q : Prop} (hq : q) (h : Box q → p := by intro h; (first | (focus (apply L.val; (· decide); (· exact sYR9c))) | refine C.seq ?_ | refine C.region ?_ | refine L.nil ?_ | refine C.block ?_ | refine C.exit ?_ | refine C.skip ?_ | refine C.ret ?_ | (focus (apply L.on; (· exact rfl); (· decide); (· exact rfl); (· exact sTst))) | (focus (apply L.off; (· decide); (· exact rfl); (· decide); (· exact rfl); (· exact sTst))) | (focus (apply L.offU; (· decide); (· exact rfl); (· decide); (· exact rfl))) | (focus (apply C.condT; (· exact rfl); (· exact sTst))) | (focus (apply C.condF; (· exact rfl); (· exact sTst))) | refine Dr.done ?_ | refine DrA.done ?_ | (focus (apply DrA.take; (· exact rfl); (· decide); (· exact sGon); (· exact sYR9c))) | (focus (apply Dr.take; (· exact rfl); (· decide); (· exact sGon); (· exact sYR9c))) | (focus (apply Dr.skip; (· exact rfl); (· decide); (· exact sGoff))) | (focus (apply Dr.goSkip; (· exact rfl); (· decide); (· exact sGoff))) | with_reducible refine T.n ?_ | with_reducible refine T.ret ?_ | with_reducible refine T.exit ?_ | with_reducible refine I.n ?_ | with_reducible refine I.ret ?_ | with_reducible refine I.hit ?_ | with_reducible refine I.miss (by decide) ?_); exact h.out) : p := h ⟨hq⟩
theorem kR9c {p q : Prop} (hq : q) (h : Box q → p := by intro h; first | (apply L.stepK; (· decide); (· exact sSR9c); exact h.out) | (apply L.step0K; (· exact sSR9c); exact h.out) | (apply Dr.goZ; (· exact rfl); (· rintro k ⟨⟩ <;> decide); (· exact sGon); (· exact sSR9c); exact h.out) | (apply Dr.goZs; (· exact rfl); (· rintro k ⟨⟩ <;> decide); (· exact sGon); (· exact sSR9c); exact h.out) | (apply Go1.goK; (· exact rfl); (· rintro k ⟨⟩ <;> decide); (· exact sGon); (· exact sSR9c); exact h.out) | (apply Dr.goK; (· exact rfl); (· rintro k ⟨⟩ <;> decide); (· exact sGon); (· exact sSR9c); exact h.out)) : p := h ⟨hq⟩
theorem rgetf_any (E : Env) (A : Option Addr) (n c : Nat) (l : List UInt8) (hr : Rd E octT A n c l) (i m w : Nat) (hm : m = i + w) (hw : w ≤ 8) (hmn : m ≤ n) :
    Tri Try.prog E 21 #[.slice (if c = i then A else A.map (·.add (i * octT.size))) (m - i) (c - i)] [] fun e H' => e = .returned (.int .u64 (fld l i w : Nat)) ∧ H' = [] := by
  have h := rget_any E _ _ _ _ (hr.cut (j := i) (m := m) (by omega) hmn) (by omega)
  rw [fld_cut l i w m hm] at h
  exact h
theorem r9get_any (E : Env) (A : Option Addr) (n c : Nat) (l : List UInt8) (r : Option Chg) (hx : cget l = r) (hr : Rd E octT A n c l) :
    Tri Try.prog E 51 #[.slice A n c] [] fun e H' => e = .returned (.tuple #[.agg (r.getD chgT_z).cs.toArray, .bool r.isSome]) ∧ H' = [] := by
  have hn := hr.len
  have hcap := hr.cap
  have hno : r = none → r.getD chgT_z = chgT_z ∧ r.isSome = false := fun h => by rw [h]; exact ⟨rfl, rfl⟩
  refine tri Try.func51 rfl Try.ntmps51 (by simp) ?_
  unfold cget at hx
  by_cases hl : n = 22
  case neg =>
    rw [if_neg (fun h => hl (by omega))] at hx
    obtain ⟨e1, e2⟩ := hno hx.symm
    rw [e1, e2]
    repeat (first | refine wR9c ?_ | (refine kR9c ?_; (first | rintro _ _ ⟨rfl, rfl⟩ | rintro _ _ ⟨_, rfl, rfl⟩ | rintro _ _ ⟨_, _, ⟨_, _⟩, rfl, rfl⟩); try refine ⟨sConv, ?_⟩) | refine Dr.two ?_ ?_)
    apply retC2; (· exact rfl); (· exact sRet); (· exact rfl); (· exact rfl); (· exact rfl); (· exact sHas); (· exact rfl); (· exact sRet); rotate_left; (· exact (⟨rfl, rfl⟩)); (· exact sConv)
  have g21 : l[21]? = some l[21] := List.getElem?_eq_getElem (by omega)
  generalize l[21] = b21 at g21
  by_cases h67 : b21 = 67
  case neg =>
    have h67' : b21.toNat ≠ 67 := fun h => h67 (UInt8.toNat_inj.1 h)
    rw [if_neg (fun h => h67 (by rw [g21] at h; exact Option.some.inj h.2.1))] at hx
    obtain ⟨e1, e2⟩ := hno hx.symm
    rw [e1, e2]
    repeat (first | refine wR9c ?_ | (refine kR9c ?_; (first | rintro _ _ ⟨rfl, rfl⟩ | rintro _ _ ⟨_, rfl, rfl⟩ | rintro _ _ ⟨_, _, ⟨_, _⟩, rfl, rfl⟩); try refine ⟨sConv, ?_⟩) | refine Dr.two ?_ ?_)
    apply retC2; (· exact rfl); (· exact sRet); (· exact rfl); (· exact rfl); (· exact rfl); (· exact sHas); (· exact rfl); (· exact sRet); rotate_left; (· exact (⟨rfl, rfl⟩)); (· exact sConv)
  subst h67
  have h67n : (67 : UInt8).toNat = 67 := rfl
  have g0 : l[0]? = some l[0] := List.getElem?_eq_getElem (by omega)
  have g7 : l[7]? = some l[7] := List.getElem?_eq_getElem (by omega)
  have g8 : l[8]? = some l[8] := List.getElem?_eq_getElem (by omega)
  have g9 : l[9]? = some l[9] := List.getElem?_eq_getElem (by omega)
  have g18 : l[18]? = some l[18] := List.getElem?_eq_getElem (by omega)
  have f0 := fld_one (l := l) (i := 0) (by omega)
  have f7 := fld_one (l := l) (i := 7) (by omega)
  have f8 := fld_one (l := l) (i := 8) (by omega)
  have f9 := fld_one (l := l) (i := 9) (by omega)
  have f18 := fld_one (l := l) (i := 18) (by omega)
  have u0 := UInt8.toNat_lt l[0]
  have u7 := UInt8.toNat_lt l[7]
  have u8_ := UInt8.toNat_lt l[8]
  have u9 := UInt8.toNat_lt l[9]
  have u18 := UInt8.toNat_lt l[18]
  generalize l[0] = b0 at g0 f0 u0
  generalize l[7] = b7 at g7 f7 u7
  generalize l[8] = b8 at g8 f8 u8_
  generalize l[9] = b9 at g9 f9 u9
  generalize l[18] = b18 at g18 f18 u18
  have l1 := fld_lt l 1 2
  have l3 := fld_lt l 3 4
  have l19 := fld_lt l 19 2
  have hsg := wrap_sgn (k := fld l 10 8) (fld_lt l 10 8)
  have hcs : (chgOf l).cs = [.int .i64 b0.toNat, .int .i64 (fld l 1 2), .int .i64 (fld l 3 4), .int .i64 b7.toNat, .int .i64 b8.toNat, .int .i64 b9.toNat, .int .i64 (sgn (fld l 10 8)), .int .i64 b18.toNat, .int .i64 (fld l 19 2)] := by
    simp only [Chg.cs, chgOf, f0, f7, f8, f9, f18]
  have m3 : 3 ≤ n := by omega
  have m7 : 7 ≤ n := by omega
  have m18 : 18 ≤ n := by omega
  have m21 : 21 ≤ n := by omega
  repeat (first | refine wR9c ?_ | (refine kR9c ?_; (first | rintro _ _ ⟨rfl, rfl⟩ | rintro _ _ ⟨_, rfl, rfl⟩ | rintro _ _ ⟨_, _, ⟨_, _⟩, rfl, rfl⟩); try refine ⟨sConv, ?_⟩) | refine Dr.two ?_ ?_)
  rename_i gres
  refine C.mid (X := Nat) (fun g => [(2, .pointer (some ⟨gres, 0, none⟩)), (4, .pointer (some ⟨g, 0, none⟩))]) (fun g => [blk gres 50 [.int .i64 0, .int .i64 0, .int .i64 0, .int .i64 0, .int .i64 0, .int .i64 0, .int .i64 0, .int .i64 0, .int .i64 0], blk g 50 [.int .i64 b0.toNat, .int .i64 (fld l 1 2), .int .i64 (fld l 3 4), .int .i64 b7.toNat, .int .i64 b8.toNat, .int .i64 b9.toNat, .int .i64 (sgn (fld l 10 8)), .int .i64 b18.toNat, .int .i64 (fld l 19 2)]]) (fun _ => True) ?_ ?_
  · repeat (first | refine wR9c ?_ | (refine kR9c ?_; (first | rintro _ _ ⟨rfl, rfl⟩ | rintro _ _ ⟨_, rfl, rfl⟩ | rintro _ _ ⟨_, _, ⟨_, _⟩, rfl, rfl⟩); try refine ⟨sConv, ?_⟩) | refine Dr.two ?_ ?_)
    refine C.regionA 100000 (.one 0 false (.one 1 false (.one 2 false (.one 3 false (.one 4 false (.one 5 false (.one 9 false (.one 10 false (.one 13 false (.one 14 false (.one 15 false (.one 16 false (.one 17 false (.one 18 false (.one 19 false (.one 20 false (.one 21 false (.one 22 false (.one 23 false (.one 24 false (.one 25 false (.one 26 false (.one 29 false (.one 30 false (.one 31 false (.one 32 false (.one 33 false (.one 34 false (.two 6 (.one 7 false (.one 8 false (.two 11 (.one 12 false (.two 27 (.one 28 false (.two 35 (.one 36 false (.one 37 false (.one 38 false (.one 39 true (.one 40 true .nil))))) 39 (.one 35 true (.one 36 false (.one 37 false (.one 38 false (.one 40 true .nil))))))) 39 (.one 27 true (.one 28 false (.one 35 true (.one 36 false (.one 37 false (.one 38 false (.one 40 true .nil))))))))) 39 (.one 11 true (.one 12 false (.one 27 true (.one 28 false (.one 35 true (.one 36 false (.one 37 false (.one 38 false (.one 40 true .nil)))))))))))) 39 (.one 6 true (.one 7 false (.one 8 false (.one 11 true (.one 12 false (.one 27 true (.one 28 false (.one 35 true (.one 36 false (.one 37 false (.one 38 false (.one 40 true .nil))))))))))))))))))))))))))))))))))))))))) _ (by kernel_rfl) (by kernel_rfl) Conv.refl ?_
    repeat (first | refine vR9c ?_ | (refine kR9c ?_; (first | rintro _ _ ⟨rfl, rfl⟩ | rintro _ _ ⟨_, rfl, rfl⟩ | rintro _ _ ⟨_, _, ⟨_, _⟩, rfl, rfl⟩); try refine ⟨sConv, ?_⟩))
    refine Dr.two ?_ ?_
    · refine Go1.go rfl (by rintro k ⟨⟩ <;> decide) sGon (S.call rfl rfl Try.func21 (by kernel_rfl) rfl sPicks (fun E' hE => rgetf_any E' A n c l sRd 1 3 2 rfl (by decide) m3) ?_)
      rintro e H' ⟨rfl, rfl⟩
      refine ⟨_, rfl, _, sCat, sConv, ?_⟩
      repeat (first | refine vR9c ?_ | (refine kR9c ?_; (first | rintro _ _ ⟨rfl, rfl⟩ | rintro _ _ ⟨_, rfl, rfl⟩ | rintro _ _ ⟨_, _, ⟨_, _⟩, rfl, rfl⟩); try refine ⟨sConv, ?_⟩))
      refine Dr.two ?_ ?_
      · refine Go1.go rfl (by rintro k ⟨⟩ <;> decide) sGon (S.call rfl rfl Try.func21 (by kernel_rfl) rfl sPicks (fun E' hE => rgetf_any E' A n c l sRd 3 7 4 rfl (by decide) m7) ?_)
        rintro e H' ⟨rfl, rfl⟩
        refine ⟨_, rfl, _, sCat, sConv, ?_⟩
        repeat (first | refine vR9c ?_ | (refine kR9c ?_; (first | rintro _ _ ⟨rfl, rfl⟩ | rintro _ _ ⟨_, rfl, rfl⟩ | rintro _ _ ⟨_, _, ⟨_, _⟩, rfl, rfl⟩); try refine ⟨sConv, ?_⟩))
        refine Dr.two ?_ ?_
        · refine Go1.go rfl (by rintro k ⟨⟩ <;> decide) sGon (S.call rfl rfl Try.func21 (by kernel_rfl) rfl sPicks (fun E' hE => rgetf_any E' A n c l sRd 10 18 8 rfl (by decide) m18) ?_)
          rintro e H' ⟨rfl, rfl⟩
          refine ⟨_, rfl, _, sCat, sConv, ?_⟩
          repeat (first | refine vR9c ?_ | (refine kR9c ?_; (first | rintro _ _ ⟨rfl, rfl⟩ | rintro _ _ ⟨_, rfl, rfl⟩ | rintro _ _ ⟨_, _, ⟨_, _⟩, rfl, rfl⟩); try refine ⟨sConv, ?_⟩))
          refine Dr.two ?_ ?_
          · refine Go1.go rfl (by rintro k ⟨⟩ <;> decide) sGon (S.call rfl rfl Try.func21 (by kernel_rfl) rfl sPicks (fun E' hE => rgetf_any E' A n c l sRd 19 21 2 rfl (by decide) m21) ?_)
            rintro e H' ⟨rfl, rfl⟩
            refine ⟨_, rfl, _, sCat, sConv, ?_⟩
            repeat (first | refine wR9c ?_ | (refine kR9c ?_; (first | rintro _ _ ⟨rfl, rfl⟩ | rintro _ _ ⟨_, rfl, rfl⟩ | rintro _ _ ⟨_, _, ⟨_, _⟩, rfl, rfl⟩); try refine ⟨sConv, ?_⟩) | refine Dr.two ?_ ?_)
            exact ⟨_, sHolds, sConv, trivial⟩
          · repeat (first | refine vR9c ?_ | (refine kR9c ?_; (first | rintro _ _ ⟨rfl, rfl⟩ | rintro _ _ ⟨_, rfl, rfl⟩ | rintro _ _ ⟨_, _, ⟨_, _⟩, rfl, rfl⟩); try refine ⟨sConv, ?_⟩))
            refine Dr.go rfl (by rintro k ⟨⟩ <;> decide) sGon (S.call rfl rfl Try.func21 (by kernel_rfl) rfl sPicks (fun E' hE => rgetf_any E' A n c l sRd 19 21 2 rfl (by decide) m21) ?_)
            rintro e H' ⟨rfl, rfl⟩
            refine ⟨_, rfl, _, sCat, sConv, ?_⟩
            repeat (first | refine wR9c ?_ | (refine kR9c ?_; (first | rintro _ _ ⟨rfl, rfl⟩ | rintro _ _ ⟨_, rfl, rfl⟩ | rintro _ _ ⟨_, _, ⟨_, _⟩, rfl, rfl⟩); try refine ⟨sConv, ?_⟩) | refine Dr.two ?_ ?_)
            exact ⟨_, sHolds, sConv, trivial⟩
        · repeat (first | refine vR9c ?_ | (refine kR9c ?_; (first | rintro _ _ ⟨rfl, rfl⟩ | rintro _ _ ⟨_, rfl, rfl⟩ | rintro _ _ ⟨_, _, ⟨_, _⟩, rfl, rfl⟩); try refine ⟨sConv, ?_⟩))
          refine Dr.go rfl (by rintro k ⟨⟩ <;> decide) sGon (S.call rfl rfl Try.func21 (by kernel_rfl) rfl sPicks (fun E' hE => rgetf_any E' A n c l sRd 10 18 8 rfl (by decide) m18) ?_)
          rintro e H' ⟨rfl, rfl⟩
          refine ⟨_, rfl, _, sCat, sConv, ?_⟩
          repeat (first | refine vR9c ?_ | (refine kR9c ?_; (first | rintro _ _ ⟨rfl, rfl⟩ | rintro _ _ ⟨_, rfl, rfl⟩ | rintro _ _ ⟨_, _, ⟨_, _⟩, rfl, rfl⟩); try refine ⟨sConv, ?_⟩))
          refine Dr.go rfl (by rintro k ⟨⟩ <;> decide) sGon (S.call rfl rfl Try.func21 (by kernel_rfl) rfl sPicks (fun E' hE => rgetf_any E' A n c l sRd 19 21 2 rfl (by decide) m21) ?_)
          rintro e H' ⟨rfl, rfl⟩
          refine ⟨_, rfl, _, sCat, sConv, ?_⟩
          repeat (first | refine wR9c ?_ | (refine kR9c ?_; (first | rintro _ _ ⟨rfl, rfl⟩ | rintro _ _ ⟨_, rfl, rfl⟩ | rintro _ _ ⟨_, _, ⟨_, _⟩, rfl, rfl⟩); try refine ⟨sConv, ?_⟩) | refine Dr.two ?_ ?_)
          exact ⟨_, sHolds, sConv, trivial⟩
      · repeat (first | refine vR9c ?_ | (refine kR9c ?_; (first | rintro _ _ ⟨rfl, rfl⟩ | rintro _ _ ⟨_, rfl, rfl⟩ | rintro _ _ ⟨_, _, ⟨_, _⟩, rfl, rfl⟩); try refine ⟨sConv, ?_⟩))
        refine Dr.go rfl (by rintro k ⟨⟩ <;> decide) sGon (S.call rfl rfl Try.func21 (by kernel_rfl) rfl sPicks (fun E' hE => rgetf_any E' A n c l sRd 3 7 4 rfl (by decide) m7) ?_)
        rintro e H' ⟨rfl, rfl⟩
        refine ⟨_, rfl, _, sCat, sConv, ?_⟩
        repeat (first | refine vR9c ?_ | (refine kR9c ?_; (first | rintro _ _ ⟨rfl, rfl⟩ | rintro _ _ ⟨_, rfl, rfl⟩ | rintro _ _ ⟨_, _, ⟨_, _⟩, rfl, rfl⟩); try refine ⟨sConv, ?_⟩))
        refine Dr.go rfl (by rintro k ⟨⟩ <;> decide) sGon (S.call rfl rfl Try.func21 (by kernel_rfl) rfl sPicks (fun E' hE => rgetf_any E' A n c l sRd 10 18 8 rfl (by decide) m18) ?_)
        rintro e H' ⟨rfl, rfl⟩
        refine ⟨_, rfl, _, sCat, sConv, ?_⟩
        repeat (first | refine vR9c ?_ | (refine kR9c ?_; (first | rintro _ _ ⟨rfl, rfl⟩ | rintro _ _ ⟨_, rfl, rfl⟩ | rintro _ _ ⟨_, _, ⟨_, _⟩, rfl, rfl⟩); try refine ⟨sConv, ?_⟩))
        refine Dr.go rfl (by rintro k ⟨⟩ <;> decide) sGon (S.call rfl rfl Try.func21 (by kernel_rfl) rfl sPicks (fun E' hE => rgetf_any E' A n c l sRd 19 21 2 rfl (by decide) m21) ?_)
        rintro e H' ⟨rfl, rfl⟩
        refine ⟨_, rfl, _, sCat, sConv, ?_⟩
        repeat (first | refine wR9c ?_ | (refine kR9c ?_; (first | rintro _ _ ⟨rfl, rfl⟩ | rintro _ _ ⟨_, rfl, rfl⟩ | rintro _ _ ⟨_, _, ⟨_, _⟩, rfl, rfl⟩); try refine ⟨sConv, ?_⟩) | refine Dr.two ?_ ?_)
        exact ⟨_, sHolds, sConv, trivial⟩
    · repeat (first | refine vR9c ?_ | (refine kR9c ?_; (first | rintro _ _ ⟨rfl, rfl⟩ | rintro _ _ ⟨_, rfl, rfl⟩ | rintro _ _ ⟨_, _, ⟨_, _⟩, rfl, rfl⟩); try refine ⟨sConv, ?_⟩))
      refine Dr.go rfl (by rintro k ⟨⟩ <;> decide) sGon (S.call rfl rfl Try.func21 (by kernel_rfl) rfl sPicks (fun E' hE => rgetf_any E' A n c l sRd 1 3 2 rfl (by decide) m3) ?_)
      rintro e H' ⟨rfl, rfl⟩
      refine ⟨_, rfl, _, sCat, sConv, ?_⟩
      repeat (first | refine vR9c ?_ | (refine kR9c ?_; (first | rintro _ _ ⟨rfl, rfl⟩ | rintro _ _ ⟨_, rfl, rfl⟩ | rintro _ _ ⟨_, _, ⟨_, _⟩, rfl, rfl⟩); try refine ⟨sConv, ?_⟩))
      refine Dr.go rfl (by rintro k ⟨⟩ <;> decide) sGon (S.call rfl rfl Try.func21 (by kernel_rfl) rfl sPicks (fun E' hE => rgetf_any E' A n c l sRd 3 7 4 rfl (by decide) m7) ?_)
      rintro e H' ⟨rfl, rfl⟩
      refine ⟨_, rfl, _, sCat, sConv, ?_⟩
      repeat (first | refine vR9c ?_ | (refine kR9c ?_; (first | rintro _ _ ⟨rfl, rfl⟩ | rintro _ _ ⟨_, rfl, rfl⟩ | rintro _ _ ⟨_, _, ⟨_, _⟩, rfl, rfl⟩); try refine ⟨sConv, ?_⟩))
      refine Dr.go rfl (by rintro k ⟨⟩ <;> decide) sGon (S.call rfl rfl Try.func21 (by kernel_rfl) rfl sPicks (fun E' hE => rgetf_any E' A n c l sRd 10 18 8 rfl (by decide) m18) ?_)
      rintro e H' ⟨rfl, rfl⟩
      refine ⟨_, rfl, _, sCat, sConv, ?_⟩
      repeat (first | refine vR9c ?_ | (refine kR9c ?_; (first | rintro _ _ ⟨rfl, rfl⟩ | rintro _ _ ⟨_, rfl, rfl⟩ | rintro _ _ ⟨_, _, ⟨_, _⟩, rfl, rfl⟩); try refine ⟨sConv, ?_⟩))
      refine Dr.go rfl (by rintro k ⟨⟩ <;> decide) sGon (S.call rfl rfl Try.func21 (by kernel_rfl) rfl sPicks (fun E' hE => rgetf_any E' A n c l sRd 19 21 2 rfl (by decide) m21) ?_)
      rintro e H' ⟨rfl, rfl⟩
      refine ⟨_, rfl, _, sCat, sConv, ?_⟩
      repeat (first | refine wR9c ?_ | (refine kR9c ?_; (first | rintro _ _ ⟨rfl, rfl⟩ | rintro _ _ ⟨_, rfl, rfl⟩ | rintro _ _ ⟨_, _, ⟨_, _⟩, rfl, rfl⟩); try refine ⟨sConv, ?_⟩) | refine Dr.two ?_ ?_)
      exact ⟨_, sHolds, sConv, trivial⟩
  rintro g G -
  rw [← hcs]
  repeat (first | refine wR9c ?_ | (refine kR9c ?_; (first | rintro _ _ ⟨rfl, rfl⟩ | rintro _ _ ⟨_, rfl, rfl⟩ | rintro _ _ ⟨_, _, ⟨_, _⟩, rfl, rfl⟩); try refine ⟨sConv, ?_⟩) | refine Dr.two ?_ ?_)
  refine L.step (by decide) (S.call rfl rfl Try.func78 (by kernel_rfl) rfl sPicks (fun E' hE => r9may_any E' (chgOf l)) ?_)
  rintro e H' ⟨rfl, rfl⟩
  refine ⟨_, rfl, _, sCat, ?_⟩
  cases hm : (chgOf l).may
  · rw [if_neg (fun h => by rw [hm] at h; cases h.2.2)] at hx
    obtain ⟨e1, e2⟩ := hno hx.symm
    rw [e1, e2]
    repeat (first | refine wR9c ?_ | (refine kR9c ?_; (first | rintro _ _ ⟨rfl, rfl⟩ | rintro _ _ ⟨_, rfl, rfl⟩ | rintro _ _ ⟨_, _, ⟨_, _⟩, rfl, rfl⟩); try refine ⟨sConv, ?_⟩) | refine Dr.two ?_ ?_)
    apply retC2; (· exact rfl); (· exact sRet); (· exact rfl); (· exact rfl); (· exact rfl); (· exact sHas); (· exact rfl); (· exact sRet); rotate_left; (· exact (⟨rfl, rfl⟩)); (· exact sConv)
  · rw [if_pos ⟨by omega, g21, hm⟩] at hx
    subst hx
    repeat (first | refine wR9c ?_ | (refine kR9c ?_; (first | rintro _ _ ⟨rfl, rfl⟩ | rintro _ _ ⟨_, rfl, rfl⟩ | rintro _ _ ⟨_, _, ⟨_, _⟩, rfl, rfl⟩); try refine ⟨sConv, ?_⟩) | refine Dr.two ?_ ?_)
    apply retC2; (· exact rfl); (· exact sRet); (· exact rfl); (· exact rfl); (· exact rfl); (· exact sHas); (· exact rfl); (· exact sRet); rotate_left; (· exact (⟨rfl, rfl⟩)); (· exact sConv)
end Go.Proofs.Ytihblcljkndpgaa.Sep
/- change.Put and the document's Put, by parts of memory. -/
namespace Go.Proofs.Ytihblcljkndpgaa.Sep
open Go.RowKit Go.Proofs.Ytihblcljkndpgaa.Reg Go.Proofs.Ytihblcljkndpgaa.Oct
open Go.Proofs.Ytihblcljkndpgaa.Mem hiding Rd Own
-- types: octT idnT chgT
-- recs: rec_Reader idnT_rec chgT_rec
-- eqs: idnT_eqa chgT_eqa
-- zeros: z_octs z_rdr
-- funcs
set_option maxRecDepth 100000
set_option maxHeartbeats 6000000
theorem sYChp {P : Program} {E : Env} {H : List Asn} {ρ : Operand → Value} {o : Oper} {v : Value} (h : Yld P E H ρ o v := by first | (intro _ _; first | (first | (apply V.move; (· exact rfl); (· exact sLk)) | (apply V.assign; (· exact rfl); (· exact sLk)) | (apply V.nilCheck; (· exact rfl); (· exact rfl)) | (apply V.fieldAddr; (· exact rfl); (· exact rfl); (· exact rfl); (· exact rfl); (· exact rfl); (· decide); (· exact sLk); (· exact sAdd)) | (apply V.extract; (· exact rfl); (· exact rfl); (· exact rfl)) | (apply V.not; (· exact rfl); (· exact rfl)) | (apply V.pickT; (· exact rfl); (· exact rfl); (· exact sTst); (· exact sLk)) | (apply V.pickF; (· exact rfl); (· exact rfl); (· exact sTst); (· exact sLk))) | (first | (apply V.add; (· exact rfl); (· exact rfl); (· exact rfl); (· exact sNum)) | (apply V.sub; (· exact rfl); (· exact rfl); (· exact rfl); (· exact sNum)) | (apply V.mul; (· exact rfl); (· exact rfl); (· exact rfl); (· exact sNum)) | (apply V.lss; (· exact rfl); (· exact rfl); (· exact rfl)) | (apply V.leq; (· exact rfl); (· exact rfl); (· exact rfl)) | (apply V.gtr; (· exact rfl); (· exact rfl); (· exact rfl)) | (apply V.geq; (· exact rfl); (· exact rfl); (· exact rfl)) | (apply V.eql; (· exact rfl); (· exact rfl); (· exact rfl))) | (first | (apply V.neq; (· exact rfl); (· exact rfl); (· exact rfl)) | (apply V.neqP; (· exact rfl); (· exact rfl); (· exact rfl); (· exact rfl)) | (apply V.eqlP; (· exact rfl); (· exact rfl); (· exact rfl); (· exact rfl)) | (apply V.eqlN; (· exact rfl); (· exact rfl); (· exact rfl); (· exact rfl)) | (apply V.neqN; (· exact rfl); (· exact rfl); (· exact rfl); (· exact rfl)) | (apply V.len; (· exact rfl); (· exact rfl); (· exact rfl); (· exact sMax)) | (apply V.conv; (· exact rfl); (· exact rfl); (· exact rfl); (· exact rfl); (· exact sNum)) | (apply V.shl8; (· exact rfl); (· exact rfl); (· exact rfl); (· exact sNum))) | (first | (apply V.shl; (· exact rfl); (· exact rfl); (· exact rfl); (· exact sOm); (· exact sNum)) | (apply V.shr; (· exact rfl); (· exact rfl); (· exact rfl); (· exact sOm); (· exact sNum)) | (apply V.quo; (· exact rfl); (· exact rfl); (· exact rfl); (· exact sOm); (· exact sQuo)) | (apply V.rem; (· exact rfl); (· exact rfl); (· exact rfl); (· exact sOm); (· exact sRem)) | (apply V.bits_; (· exact rfl); (· decide); (· exact rfl); (· exact rfl); (· exact sNum)) | (apply V.neg; (· exact rfl); (· exact rfl); (· exact sNum)) | (apply V.eqlS; (· exact rfl); (· exact rfl); (· exact rfl)) | (apply V.neqS; (· exact rfl); (· exact rfl); (· exact rfl))) | (first | (apply V.eqlB; (· exact rfl); (· exact rfl); (· exact rfl); (· exact rfl)) | (apply V.neqB; (· exact rfl); (· exact rfl); (· exact rfl); (· exact rfl)) | (apply V.max; (· exact rfl); (· exact rfl); (· exact rfl)) | (apply V.min; (· exact rfl); (· exact rfl); (· exact rfl)) | (apply V.func1; (· exact rfl); (· exact sLk)) | (apply V.indexA; (· exact rfl); (· exact rfl); (· exact rfl); (· exact rfl); (· exact rfl); (· exact rfl); (· exact rfl); (· exact rfl); (· exact sJ); (· exact sOm); (· exact sOm); (· exact sAsm)) | (apply V.eqlA; (· exact rfl); (· exact sLk); (· exact sLk); (· exact idnT_eqa)) | (apply V.neqA; (· exact rfl); (· exact sLk); (· exact sLk); (· exact idnT_eqa))) | (first | (apply V.eqlA; (· exact rfl); (· exact sLk); (· exact sLk); (· exact chgT_eqa)) | (apply V.neqA; (· exact rfl); (· exact sLk); (· exact sLk); (· exact chgT_eqa)))) | (first | (first | (apply Y.load; (· exact rfl); (· exact rfl); (· exact rfl); (· exact rfl); (· exact sCell)) | (apply Y.indexAddr; (· exact rfl); (· exact rfl); (· exact rfl); (· exact sRdH); (· exact sJ); (· exact sOm); (· exact sAsm); (· exact sRfl); (· exact sRfl)) | (apply Y.loadElem; (· exact rfl); (· exact rfl); (· exact sRdH); rotate_left; (· exact sRfl); rotate_right; (· exact sAsm); (· exact sRfl)) | (apply Y.sliceArr; (· exact rfl); (· exact rfl); (· exact rfl); (· exact rfl)) | (apply Y.loadBlk; (· exact rfl); (· exact rfl); (· exact rfl); (· exact rfl); (· exact rfl); (· exact rfl); (· exact sHas); (· exact sSeg)) | (apply Y.loadPart; (· exact rfl); (· exact rfl); (· exact sRdH); rotate_left; (· exact sRfl); rotate_right; (· exact sAsm); (· exact rfl); (· exact rfl); (· exact rfl); (· exact rfl); (· exact sSeg)) | (apply Y.fieldL; (· exact rfl); (· exact rfl); (· exact rfl); (· exact rfl); (· exact rfl); (· exact rfl); (· exact rfl)) | (apply Y.fieldS; (· exact rfl); (· exact rfl); (· exact rfl); (· exact rfl); (· exact rfl); (· exact rfl); (· exact rfl); (· exact rfl); (· exact rfl); (· exact sSeg))) | (first | (apply Y.len; (· exact rfl); (· exact rfl); (· exact sRdH); (· exact sRfl)) | (apply Y.str; (· exact rfl); (· exact rfl); (· exact sRdH)) | (apply Y.sliceLo; (· exact rfl); (· exact rfl); (· exact rfl); (· exact sRdH); (· exact sJ); (· exact sOm); (· exact sOm); (· exact sRfl)) | (apply Y.sliceHi; (· exact rfl); (· exact rfl); (· exact rfl); (· exact sRdH); (· exact sJ); (· exact sOm); (· exact sOm); (· exact sRfl)) | (apply Y.sliceHiMax; (· exact rfl); (· exact rfl); (· exact rfl); (· exact rfl); (· exact sRdH); (· exact sJ); (· exact sOm); (· exact sJ); (· exact sOm); (· exact sOm); (· exact sOm); (· exact sRfl)) | (apply Y.sliceLoHi; (· exact rfl); (· exact rfl); (· exact rfl); (· exact rfl); (· exact sRdH); (· exact sJ); (· exact sOm); (· exact sJ); (· exact sOm); (· exact sOm); (· exact sOm); (· exact sRfl)) | (apply Y.strLen; (· exact rfl); (· exact rfl); (· exact rfl); (· exact sMax)) | (apply Y.indexStr; (· exact rfl); (· exact rfl); (· exact rfl); (· exact rfl); (· exact sJ); (· exact sOm); (· exact sAsm))) | (first | (apply Y.build; (· exact rfl); (· exact sPv); (· exact rec_Reader); (· exact sFil)) | (apply Y.build; (· exact rfl); (· exact sPv); (· exact idnT_rec); (· exact sFil)) | (apply Y.build; (· exact rfl); (· exact sPv); (· exact chgT_rec); (· exact sFil))))) : Yld P E H ρ o v := h
theorem sSChp {P : Program} {N : Nat} {E : Env} {F : Nat → Value} {H : List Asn} {o : Oper} {K : Value → List Asn → Prop} (h : Stp P N E F H o K := by first | (first | (apply S.boxK; (· exact rfl); (· exact sLk); (· exact sCel)) | (apply S.append1K; (· exact rfl); (· exact rfl); (· exact rfl); (· exact rfl); (· exact sNN); (· exact (fun _ _ => sRepl)); (· exact sNL); (· exact sRfl); (· first | (conv => lhs; simp only [octT, idnT, chgT]) | rfl); (· exact sOm); (· exact sOm)) | (apply S.appendK; (· exact rfl); (· exact rfl); (· exact rfl); (· exact sNN); (· exact (fun _ _ => sRepl)); (· exact sRdH); (· exact sNL); (· exact sRfl); (· first | (conv => lhs; simp only [octT, idnT, chgT]) | rfl); (· exact sOm); (· exact sOm)) | (apply S.appendNilK; (· exact rfl); (· exact rfl); (· exact rfl); (· exact sRdH); (· exact sRfl); (· first | (conv => lhs; simp only [octT, idnT, chgT]) | rfl); (· exact sOm); (· exact sOm)) | (apply (S.buildSliceK (T := octT) (l := [])); (· exact rfl); (· exact rfl); (· exact rfl); (· exact rfl); (· decide)) | (apply (S.buildSlice1K (T := octT)); (· exact rfl); (· exact sLk); (· first | rfl | (with_reducible exact octT_val _ sOm sOm)); (· exact rfl); (· decide)) | (apply (S.buildSlice2K (T := octT)); (· exact rfl); (· exact sLk); (· first | rfl | (with_reducible exact octT_val _ sOm sOm)); (· exact sLk); (· first | rfl | (with_reducible exact octT_val _ sOm sOm)); (· exact rfl); (· decide)) | (apply (S.buildSlice3K (T := octT)); (· exact rfl); (· exact sLk); (· first | rfl | (with_reducible exact octT_val _ sOm sOm)); (· exact sLk); (· first | rfl | (with_reducible exact octT_val _ sOm sOm)); (· exact sLk); (· first | rfl | (with_reducible exact octT_val _ sOm sOm)); (· exact rfl); (· decide))) | (first | (apply (S.buildSliceK (T := idnT) (l := [])); (· exact rfl); (· exact rfl); (· exact rfl); (· exact rfl); (· decide)) | (apply (S.buildSlice1K (T := idnT)); (· exact rfl); (· exact sLk); (· first | rfl | (with_reducible exact idnT_val _ sOm sOm)); (· exact rfl); (· decide)) | (apply (S.buildSlice2K (T := idnT)); (· exact rfl); (· exact sLk); (· first | rfl | (with_reducible exact idnT_val _ sOm sOm)); (· exact sLk); (· first | rfl | (with_reducible exact idnT_val _ sOm sOm)); (· exact rfl); (· decide)) | (apply (S.buildSlice3K (T := idnT)); (· exact rfl); (· exact sLk); (· first | rfl | (with_reducible exact idnT_val _ sOm sOm)); (· exact sLk); (· first | rfl | (with_reducible exact idnT_val _ sOm sOm)); (· exact sLk); (· first | rfl | (with_reducible exact idnT_val _ sOm sOm)); (· exact rfl); (· decide)) | (apply (S.buildSliceK (T := chgT) (l := [])); (· exact rfl); (· exact rfl); (· exact rfl); (· exact rfl); (· decide)) | (apply (S.buildSlice1K (T := chgT)); (· exact rfl); (· exact sLk); (· first | rfl | (with_reducible exact chgT_val _ sOm sOm)); (· exact rfl); (· decide)) | (apply (S.buildSlice2K (T := chgT)); (· exact rfl); (· exact sLk); (· first | rfl | (with_reducible exact chgT_val _ sOm sOm)); (· exact sLk); (· first | rfl | (with_reducible exact chgT_val _ sOm sOm)); (· exact rfl); (· decide)) | (apply (S.buildSlice3K (T := chgT)); (· exact rfl); (· exact sLk); (· first | rfl | (with_reducible exact chgT_val _ sOm sOm)); (· exact sLk); (· first | rfl | (with_reducible exact chgT_val _ sOm sOm)); (· exact sLk); (· first | rfl | (with_reducible exact chgT_val _ sOm sOm)); (· exact rfl); (· decide))) | (first | (apply (S.storeEK (T := octT)); (· exact rfl); (· exact rfl); (· exact sLk); (· exact sRepl); rotate_left; (· exact sRfl); rotate_right; (· exact sAsm); (· first | rfl | (with_reducible exact octT_val _ sOm sOm)); (· exact sRfl)) | (apply (S.storeEK (T := idnT)); (· exact rfl); (· exact rfl); (· exact sLk); (· exact sRepl); rotate_left; (· exact sRfl); rotate_right; (· exact sAsm); (· first | rfl | (with_reducible exact idnT_val _ sOm sOm)); (· exact sRfl)) | (apply (S.storeEK (T := chgT)); (· exact rfl); (· exact rfl); (· exact sLk); (· exact sRepl); rotate_left; (· exact sRfl); rotate_right; (· exact sAsm); (· first | rfl | (with_reducible exact chgT_val _ sOm sOm)); (· exact sRfl)) | (apply S.allocK; (· exact rfl); (· exact rec_Reader.zero)) | (apply S.allocK; (· exact rfl); (· exact idnT_rec.zero)) | (apply S.allocK; (· exact rfl); (· exact chgT_rec.zero)) | (apply S.allocK; (· exact rfl); (· exact z_octs)) | (apply S.allocK; (· exact rfl); (· exact z_rdr))) | (first | (apply (S.makeSliceK (T := octT) (z := octT_z)); (· exact rfl); (· exact rfl); (· exact rfl); (· exact sJ); (· exact sOm); (· exact rfl); (· exact rfl); (· first | (conv => lhs; simp only [octT, idnT, chgT]) | rfl); (· exact sOm); (· exact sOm)) | (apply (S.makeSliceK (T := idnT) (z := idnT_z)); (· exact rfl); (· exact rfl); (· exact rfl); (· exact sJ); (· exact sOm); (· exact rfl); (· exact rfl); (· first | (conv => lhs; simp only [octT, idnT, chgT]) | rfl); (· exact sOm); (· exact sOm)) | (apply (S.makeSliceK (T := chgT) (z := chgT_z)); (· exact rfl); (· exact rfl); (· exact rfl); (· exact sJ); (· exact sOm); (· exact rfl); (· exact rfl); (· first | (conv => lhs; simp only [octT, idnT, chgT]) | rfl); (· exact sOm); (· exact sOm)) | (apply S.storeAggK; (· exact rfl); (· exact rfl); (· exact sLk); (· exact rfl); (· exact rfl); (· exact rfl); (· exact sRepl); (· exact sPut)) | (apply S.copyInK; (· exact rfl); (· exact rfl); (· exact rfl); (· exact sAsm); (· exact sRepl); (· exact sRdH); rotate_left; (· exact rfl); rotate_right; (· exact sAsm); (· exact sOm); (· exact sAsm); (· exact rfl); (· exact sMax)) | (apply S.store1K; (· exact rfl); (· exact rfl); (· exact sLk); (· exact sRfl); (· exact rfl); (· exact rfl); (· exact sRepl); (· exact sLn); (· exact sSetL)))) : Stp P N E F H o K := h
theorem wChp {p q : Prop} (hq : q) (h : Box q → p := by intro h; (first | (focus (apply L.val; (· decide); (· exact sYChp))) | refine C.seq ?_ | refine C.region ?_ | refine L.nil ?_ | refine C.block ?_ | refine C.exit ?_ | refine C.skip ?_ | refine C.ret ?_ | (focus (apply L.on; (· exact rfl); (· decide); (· exact rfl); (· exact sTst))) | (focus (apply L.off; (· decide); (· exact rfl); (· decide); (· exact rfl); (· exact sTst))) | (focus (apply L.offU; (· decide); (· exact rfl); (· decide); (· exact rfl))) | (focus (apply C.condT; (· exact rfl); (· exact sTst))) | (focus (apply C.condF; (· exact rfl); (· exact sTst))) | refine Dr.done ?_ | refine DrA.done ?_ | (focus (apply DrA.take; (· exact rfl); (· decide); (· exact sGon); (· exact sYChp))) | (focus (apply Dr.take; (· exact rfl); (· decide); (· exact sGon); (· exact sYChp))) | (focus (apply Dr.skip; (· exact rfl); (· decide); (· exact sGoff))) | (focus (apply Dr.goSkip; (· exact rfl); (· decide); (· exact sGoff))) | with_reducible refine T.n ?_ | with_reducible refine T.ret ?_ | with_reducible refine T.exit ?_ | with_reducible refine I.n ?_ | with_reducible refine I.ret ?_ | with_reducible refine I.hit ?_ | with_reducible refine I.miss (by decide) ?_); (repeat (first | (focus (apply L.val; (· decide); (· exact sYChp))) | refine C.seq ?_ | refine C.region ?_ | refine L.nil ?_ | refine C.block ?_ | refine C.exit ?_ | refine C.skip ?_ | refine C.ret ?_ | (focus (apply L.on; (· exact rfl); (· decide); (· exact rfl); (· exact sTst))) | (focus (apply L.off; (· decide); (· exact rfl); (· decide); (· exact rfl); (· exact sTst))) | (focus (apply L.offU; (· decide); (· exact rfl); (· decide); (· exact rfl))) | (focus (apply C.condT; (· exact rfl); (· exact sTst))) | (focus (apply C.condF; (· exact rfl); (· exact sTst))) | refine Dr.done ?_ | refine DrA.done ?_ | (focus (apply DrA.take; (· exact rfl); (· decide); (· exact sGon); (· exact sYChp))) | (focus (apply Dr.take; (· exact rfl); (· decide); (· exact sGon); (· exact sYChp))) | (focus (apply Dr.skip; (· exact rfl); (· decide); (· exact sGoff))) | (focus (apply Dr.goSkip; (· exact rfl); (· decide); (· exact sGoff))) | with_reducible refine T.n ?_ | with_reducible refine T.ret ?_ | with_reducible refine T.exit ?_ | with_reducible refine I.n ?_ | with_reducible refine I.ret ?_ | with_reducible refine I.hit ?_ | with_reducible refine I.miss (by decide) ?_)); exact h.out) : p := h ⟨hq⟩
theorem vChp {p q : Prop} (hq : q) (h : Box q → p := by intro h; (first | (focus (apply L.val; (· decide); (· exact sYChp))) | refine C.seq ?_ | refine C.region ?_ | refine L.nil ?_ | refine C.block ?_ | refine C.exit ?_ | refine C.skip ?_ | refine C.ret ?_ | (focus (apply L.on; (· exact rfl); (· decide); (· exact rfl); (· exact sTst))) | (focus (apply L.off; (· decide); (· exact rfl); (· decide); (· exact rfl); (· exact sTst))) | (focus (apply L.offU; (· decide); (· exact rfl); (· decide); (· exact rfl))) | (focus (apply C.condT; (· exact rfl); (· exact sTst))) | (focus (apply C.condF; (· exact rfl); (· exact sTst))) | refine Dr.done ?_ | refine DrA.done ?_ | (focus (apply DrA.take; (· exact rfl); (· decide); (· exact sGon); (· exact sYChp))) | (focus (apply Dr.take; (· exact rfl); (· decide); (· exact sGon); (· exact sYChp))) | (focus (apply Dr.skip; (· exact rfl); (· decide); (· exact sGoff))) | (focus (apply Dr.goSkip; (· exact rfl); (· decide); (· exact sGoff))) | with_reducible refine T.n ?_ | with_reducible refine T.ret ?_ | with_reducible refine T.exit ?_ | with_reducible refine I.n ?_ | with_reducible refine I.ret ?_ | with_reducible refine I.hit ?_ | with_reducible refine I.miss (by decide) ?_); exact h.out) : p := h ⟨hq⟩
theorem kChp {p q : Prop} (hq : q) (h : Box q → p := by intro h; first | (apply L.stepK; (· decide); (· exact sSChp); exact h.out) | (apply L.step0K; (· exact sSChp); exact h.out) | (apply Dr.goZ; (· exact rfl); (· rintro k ⟨⟩ <;> decide); (· exact sGon); (· exact sSChp); exact h.out) | (apply Dr.goZs; (· exact rfl); (· rintro k ⟨⟩ <;> decide); (· exact sGon); (· exact sSChp); exact h.out) | (apply Go1.goK; (· exact rfl); (· rintro k ⟨⟩ <;> decide); (· exact sGon); (· exact sSChp); exact h.out) | (apply Dr.goK; (· exact rfl); (· rintro k ⟨⟩ <;> decide); (· exact sGon); (· exact sSChp); exact h.out)) : p := h ⟨hq⟩
theorem put1_any (E : Env) (g : Nat) (A : Option Addr) (nl cap n' w : Nat) (l : List UInt8) (n : Int) (k : Nat) (W : Int) (hW : W = w) (hn : nl + w = n') (hk : IntKind.u64.wrap n = k) (hk2 : k < 18446744073709551616) (hw : 1 ≤ w ∧ w ≤ 8) (hr : Rd E octT A nl cap l) (hl : nl ≤ 140737488355300) :
    Tri Try.prog E 83 #[.int .i64 n, .int .i64 W, .pointer (some ⟨g, 0, none⟩)] [blk g 22 [.slice A nl cap]] fun e H' => ∃ A' c', e = .returned (.tuple #[]) ∧ H' = [blk g 22 [.slice A' n' c'], own octT A' n' c' (l ++ be k w)] := by
  refine tri Try.func83 rfl Try.ntmps83 (by simp) ?_
  repeat (first | refine wChp ?_ | (refine kChp ?_; (first | rintro _ _ ⟨rfl, rfl⟩ | rintro _ _ ⟨_, rfl, rfl⟩ | rintro _ _ ⟨_, _, ⟨_, _⟩, rfl, rfl⟩); try refine ⟨sConv, ?_⟩) | refine Dr.two ?_ ?_)
  refine L.step (by decide) (S.call rfl rfl Try.func56 (by kernel_rfl) rfl sPicks (fun E' hE => putw_any E' A nl cap n' w l k W hW hn hw sRd hk2 hl) ?_)
  rintro e H' ⟨A', c', rfl, hc, rfl⟩
  refine ⟨_, rfl, _, sCat, ?_⟩
  repeat (first | refine wChp ?_ | (refine kChp ?_; (first | rintro _ _ ⟨rfl, rfl⟩ | rintro _ _ ⟨_, rfl, rfl⟩ | rintro _ _ ⟨_, _, ⟨_, _⟩, rfl, rfl⟩); try refine ⟨sConv, ?_⟩) | refine Dr.two ?_ ?_)
  exact end0 rfl sConv (⟨_, _, rfl, rfl⟩)
theorem cput_no (E : Env) (c : Chg) (hm : c.may = false) : Tri Try.prog E 57 #[.agg c.cs.toArray] [] fun e H' => e = .returned (.tuple #[.slice none 0 0, .int .i64 4]) ∧ H' = [] := by
  refine tri Try.func57 rfl Try.ntmps57 (by simp) ?_
  repeat (first | refine wChp ?_ | (refine kChp ?_; (first | rintro _ _ ⟨rfl, rfl⟩ | rintro _ _ ⟨_, rfl, rfl⟩ | rintro _ _ ⟨_, _, ⟨_, _⟩, rfl, rfl⟩); try refine ⟨sConv, ?_⟩) | refine Dr.two ?_ ?_)
  refine L.step (by decide) (S.call rfl rfl Try.func67 (by kernel_rfl) rfl sPicks (fun E' hE => ccheck_any E' c) ?_)
  rw [hm, if_neg Bool.false_ne_true]
  rintro e H' ⟨rfl, rfl⟩
  refine ⟨_, rfl, _, sCat, ?_⟩
  repeat (first | refine wChp ?_ | (refine kChp ?_; (first | rintro _ _ ⟨rfl, rfl⟩ | rintro _ _ ⟨_, rfl, rfl⟩ | rintro _ _ ⟨_, _, ⟨_, _⟩, rfl, rfl⟩); try refine ⟨sConv, ?_⟩) | refine Dr.two ?_ ?_)
  exact ret2 rfl sRet sRet sConv (⟨rfl, rfl⟩)
theorem cput_ok (E : Env) (c : Chg) (hm : c.may = true) : Tri Try.prog E 57 #[.agg c.cs.toArray] [] fun e H' => ∃ A' c', e = .returned (.tuple #[.slice A' 22 c', .int .i64 0]) ∧ H' = [own octT A' 22 c' c.put] := by
  obtain ⟨⟨i0, i1, i2, i3⟩, ⟨t0, t1⟩, ⟨k0, k1⟩, ⟨a0, a1⟩, ⟨b0, b1⟩, ⟨r0, r1⟩, s0, s1⟩ := (Chg.may_iff c).1 hm
  have hu := uns_lt c.n
  have w0 := wrap_nat i0 (by omega)
  have w1 := wrap_nat (n := c.id.seq) (by omega) (by omega)
  have w2 := wrap_nat (n := c.time) (by omega) (by omega)
  have w3 := wrap_nat k0 (by omega)
  have w4 := wrap_nat a0 (by omega)
  have w5 := wrap_nat b0 (by omega)
  have w6 := wrap_uns c.n
  have w7 := wrap_nat r0 (by omega)
  have w8 := wrap_nat s0 (by omega)
  have w9 : IntKind.u64.wrap 67 = (67 : Nat) := by rw [IntKind.wrap_u64]; rfl
  have g0 : c.id.rep.toNat < 18446744073709551616 := by omega
  have g1 : c.id.seq.toNat < 18446744073709551616 := by omega
  have g2 : c.time.toNat < 18446744073709551616 := by omega
  have g3 : c.kind.toNat < 18446744073709551616 := by omega
  have g4 : c.a.toNat < 18446744073709551616 := by omega
  have g5 : c.b.toNat < 18446744073709551616 := by omega
  have g7 : c.ref.rep.toNat < 18446744073709551616 := by omega
  have g8 : c.ref.seq.toNat < 18446744073709551616 := by omega
  have hfin : ([] ++ be c.id.rep.toNat 1 ++ be c.id.seq.toNat 2 ++ be c.time.toNat 4 ++ be c.kind.toNat 1 ++ be c.a.toNat 1 ++ be c.b.toNat 1 ++ be (uns c.n) 8 ++ be c.ref.rep.toNat 1 ++ be c.ref.seq.toNat 2 ++ be 67 1) = c.put := by
    rw [be_one 67]
    simp [Chg.put]
  have o1 : 1 ≤ 1 ∧ 1 ≤ 8 := by omega
  have o2 : 1 ≤ 2 ∧ 2 ≤ 8 := by omega
  have o4 : 1 ≤ 4 ∧ 4 ≤ 8 := by omega
  have o8 : 1 ≤ 8 ∧ 8 ≤ 8 := by omega
  have big : ∀ k, k ≤ 22 → k ≤ 140737488355300 := fun k h => by omega
  refine tri Try.func57 rfl Try.ntmps57 (by simp) ?_
  repeat (first | refine wChp ?_ | (refine kChp ?_; (first | rintro _ _ ⟨rfl, rfl⟩ | rintro _ _ ⟨_, rfl, rfl⟩ | rintro _ _ ⟨_, _, ⟨_, _⟩, rfl, rfl⟩); try refine ⟨sConv, ?_⟩) | refine Dr.two ?_ ?_)
  refine L.step (by decide) (S.call rfl rfl Try.func67 (by kernel_rfl) rfl sPicks (fun E' hE => ccheck_any E' c) ?_)
  rw [hm, if_pos rfl]
  rintro e H' ⟨rfl, rfl⟩
  refine ⟨_, rfl, _, sCat, ?_⟩
  repeat (first | refine wChp ?_ | (refine kChp ?_; (first | rintro _ _ ⟨rfl, rfl⟩ | rintro _ _ ⟨_, rfl, rfl⟩ | rintro _ _ ⟨_, _, ⟨_, _⟩, rfl, rfl⟩); try refine ⟨sConv, ?_⟩) | refine Dr.two ?_ ?_)
  rename_i gc g
  refine L.step (by decide) (S.callV rfl sLk rfl rfl Try.func83 (by kernel_rfl) rfl sPicks (fun E' hE => put1_any E' g none 0 0 1 1 ([] : List UInt8) c.id.rep c.id.rep.toNat 1 rfl rfl w0 g0 o1 sRd (big 0 (by decide))) ?_)
  rintro e H' ⟨A1, c1, rfl, rfl⟩
  refine ⟨_, rfl, _, sCat, ?_⟩
  repeat (first | refine wChp ?_ | (refine kChp ?_; (first | rintro _ _ ⟨rfl, rfl⟩ | rintro _ _ ⟨_, rfl, rfl⟩ | rintro _ _ ⟨_, _, ⟨_, _⟩, rfl, rfl⟩); try refine ⟨sConv, ?_⟩) | refine Dr.two ?_ ?_)
  refine L.step (by decide) (S.callV rfl sLk rfl rfl Try.func83 (by kernel_rfl) rfl sPicks (fun E' hE => put1_any E' g A1 1 c1 3 2 _ c.id.seq c.id.seq.toNat 2 rfl rfl w1 g1 o2 sRd (big 1 (by decide))) ?_)
  rintro e H' ⟨A2, c2, rfl, rfl⟩
  refine ⟨_, rfl, _, sCat, ?_⟩
  repeat (first | refine wChp ?_ | (refine kChp ?_; (first | rintro _ _ ⟨rfl, rfl⟩ | rintro _ _ ⟨_, rfl, rfl⟩ | rintro _ _ ⟨_, _, ⟨_, _⟩, rfl, rfl⟩); try refine ⟨sConv, ?_⟩) | refine Dr.two ?_ ?_)
  refine L.step (by decide) (S.callV rfl sLk rfl rfl Try.func83 (by kernel_rfl) rfl sPicks (fun E' hE => put1_any E' g A2 3 c2 7 4 _ c.time c.time.toNat 4 rfl rfl w2 g2 o4 sRd (big 3 (by decide))) ?_)
  rintro e H' ⟨A3, c3, rfl, rfl⟩
  refine ⟨_, rfl, _, sCat, ?_⟩
  repeat (first | refine wChp ?_ | (refine kChp ?_; (first | rintro _ _ ⟨rfl, rfl⟩ | rintro _ _ ⟨_, rfl, rfl⟩ | rintro _ _ ⟨_, _, ⟨_, _⟩, rfl, rfl⟩); try refine ⟨sConv, ?_⟩) | refine Dr.two ?_ ?_)
  refine L.step (by decide) (S.callV rfl sLk rfl rfl Try.func83 (by kernel_rfl) rfl sPicks (fun E' hE => put1_any E' g A3 7 c3 8 1 _ c.kind c.kind.toNat 1 rfl rfl w3 g3 o1 sRd (big 7 (by decide))) ?_)
  rintro e H' ⟨A4, c4, rfl, rfl⟩
  refine ⟨_, rfl, _, sCat, ?_⟩
  repeat (first | refine wChp ?_ | (refine kChp ?_; (first | rintro _ _ ⟨rfl, rfl⟩ | rintro _ _ ⟨_, rfl, rfl⟩ | rintro _ _ ⟨_, _, ⟨_, _⟩, rfl, rfl⟩); try refine ⟨sConv, ?_⟩) | refine Dr.two ?_ ?_)
  refine L.step (by decide) (S.callV rfl sLk rfl rfl Try.func83 (by kernel_rfl) rfl sPicks (fun E' hE => put1_any E' g A4 8 c4 9 1 _ c.a c.a.toNat 1 rfl rfl w4 g4 o1 sRd (big 8 (by decide))) ?_)
  rintro e H' ⟨A5, c5, rfl, rfl⟩
  refine ⟨_, rfl, _, sCat, ?_⟩
  repeat (first | refine wChp ?_ | (refine kChp ?_; (first | rintro _ _ ⟨rfl, rfl⟩ | rintro _ _ ⟨_, rfl, rfl⟩ | rintro _ _ ⟨_, _, ⟨_, _⟩, rfl, rfl⟩); try refine ⟨sConv, ?_⟩) | refine Dr.two ?_ ?_)
  refine L.step (by decide) (S.callV rfl sLk rfl rfl Try.func83 (by kernel_rfl) rfl sPicks (fun E' hE => put1_any E' g A5 9 c5 10 1 _ c.b c.b.toNat 1 rfl rfl w5 g5 o1 sRd (big 9 (by decide))) ?_)
  rintro e H' ⟨A6, c6, rfl, rfl⟩
  refine ⟨_, rfl, _, sCat, ?_⟩
  repeat (first | refine wChp ?_ | (refine kChp ?_; (first | rintro _ _ ⟨rfl, rfl⟩ | rintro _ _ ⟨_, rfl, rfl⟩ | rintro _ _ ⟨_, _, ⟨_, _⟩, rfl, rfl⟩); try refine ⟨sConv, ?_⟩) | refine Dr.two ?_ ?_)
  refine L.step (by decide) (S.callV rfl sLk rfl rfl Try.func83 (by kernel_rfl) rfl sPicks (fun E' hE => put1_any E' g A6 10 c6 18 8 _ c.n (uns c.n) 8 rfl rfl w6 hu o8 sRd (big 10 (by decide))) ?_)
  rintro e H' ⟨A7, c7, rfl, rfl⟩
  refine ⟨_, rfl, _, sCat, ?_⟩
  repeat (first | refine wChp ?_ | (refine kChp ?_; (first | rintro _ _ ⟨rfl, rfl⟩ | rintro _ _ ⟨_, rfl, rfl⟩ | rintro _ _ ⟨_, _, ⟨_, _⟩, rfl, rfl⟩); try refine ⟨sConv, ?_⟩) | refine Dr.two ?_ ?_)
  refine L.step (by decide) (S.callV rfl sLk rfl rfl Try.func83 (by kernel_rfl) rfl sPicks (fun E' hE => put1_any E' g A7 18 c7 19 1 _ c.ref.rep c.ref.rep.toNat 1 rfl rfl w7 g7 o1 sRd (big 18 (by decide))) ?_)
  rintro e H' ⟨A8, c8, rfl, rfl⟩
  refine ⟨_, rfl, _, sCat, ?_⟩
  repeat (first | refine wChp ?_ | (refine kChp ?_; (first | rintro _ _ ⟨rfl, rfl⟩ | rintro _ _ ⟨_, rfl, rfl⟩ | rintro _ _ ⟨_, _, ⟨_, _⟩, rfl, rfl⟩); try refine ⟨sConv, ?_⟩) | refine Dr.two ?_ ?_)
  refine L.step (by decide) (S.callV rfl sLk rfl rfl Try.func83 (by kernel_rfl) rfl sPicks (fun E' hE => put1_any E' g A8 19 c8 21 2 _ c.ref.seq c.ref.seq.toNat 2 rfl rfl w8 g8 o2 sRd (big 19 (by decide))) ?_)
  rintro e H' ⟨A9, c9, rfl, rfl⟩
  refine ⟨_, rfl, _, sCat, ?_⟩
  repeat (first | refine wChp ?_ | (refine kChp ?_; (first | rintro _ _ ⟨rfl, rfl⟩ | rintro _ _ ⟨_, rfl, rfl⟩ | rintro _ _ ⟨_, _, ⟨_, _⟩, rfl, rfl⟩); try refine ⟨sConv, ?_⟩) | refine Dr.two ?_ ?_)
  refine L.step (by decide) (S.callV rfl sLk rfl rfl Try.func83 (by kernel_rfl) rfl sPicks (fun E' hE => put1_any E' g A9 21 c9 22 1 _ 67 67 1 rfl rfl w9 (by decide) o1 sRd (big 21 (by decide))) ?_)
  rintro e H' ⟨A0, c0, rfl, rfl⟩
  refine ⟨_, rfl, _, sCat, ?_⟩
  repeat (first | refine wChp ?_ | (refine kChp ?_; (first | rintro _ _ ⟨rfl, rfl⟩ | rintro _ _ ⟨_, rfl, rfl⟩ | rintro _ _ ⟨_, _, ⟨_, _⟩, rfl, rfl⟩); try refine ⟨sConv, ?_⟩) | refine Dr.two ?_ ?_)
  rw [hfin]
  exact ret2 rfl sRet sRet sConv (⟨_, _, rfl, rfl⟩)
end Go.Proofs.Ytihblcljkndpgaa.Sep
/- change.Get, by parts of memory. -/
namespace Go.Proofs.Ytihblcljkndpgaa.Sep
open Go.RowKit Go.Proofs.Ytihblcljkndpgaa.Reg Go.Proofs.Ytihblcljkndpgaa.Oct
open Go.Proofs.Ytihblcljkndpgaa.Mem hiding Rd Own
-- types: octT idnT chgT
-- recs: rec_Reader idnT_rec chgT_rec
-- eqs: idnT_eqa chgT_eqa
-- zeros: z_octs z_rdr
-- funcs
set_option maxRecDepth 100000
set_option maxHeartbeats 6000000
theorem sYChh {P : Program} {E : Env} {H : List Asn} {ρ : Operand → Value} {o : Oper} {v : Value} (h : Yld P E H ρ o v := by first | (intro _ _; first | (first | (apply V.move; (· exact rfl); (· exact sLk)) | (apply V.assign; (· exact rfl); (· exact sLk)) | (apply V.nilCheck; (· exact rfl); (· exact rfl)) | (apply V.fieldAddr; (· exact rfl); (· exact rfl); (· exact rfl); (· exact rfl); (· exact rfl); (· decide); (· exact sLk); (· exact sAdd)) | (apply V.extract; (· exact rfl); (· exact rfl); (· exact rfl)) | (apply V.not; (· exact rfl); (· exact rfl)) | (apply V.pickT; (· exact rfl); (· exact rfl); (· exact sTst); (· exact sLk)) | (apply V.pickF; (· exact rfl); (· exact rfl); (· exact sTst); (· exact sLk))) | (first | (apply V.add; (· exact rfl); (· exact rfl); (· exact rfl); (· exact sNum)) | (apply V.sub; (· exact rfl); (· exact rfl); (· exact rfl); (· exact sNum)) | (apply V.mul; (· exact rfl); (· exact rfl); (· exact rfl); (· exact sNum)) | (apply V.lss; (· exact rfl); (· exact rfl); (· exact rfl)) | (apply V.leq; (· exact rfl); (· exact rfl); (· exact rfl)) | (apply V.gtr; (· exact rfl); (· exact rfl); (· exact rfl)) | (apply V.geq; (· exact rfl); (· exact rfl); (· exact rfl)) | (apply V.eql; (· exact rfl); (· exact rfl); (· exact rfl))) | (first | (apply V.neq; (· exact rfl); (· exact rfl); (· exact rfl)) | (apply V.neqP; (· exact rfl); (· exact rfl); (· exact rfl); (· exact rfl)) | (apply V.eqlP; (· exact rfl); (· exact rfl); (· exact rfl); (· exact rfl)) | (apply V.eqlN; (· exact rfl); (· exact rfl); (· exact rfl); (· exact rfl)) | (apply V.neqN; (· exact rfl); (· exact rfl); (· exact rfl); (· exact rfl)) | (apply V.len; (· exact rfl); (· exact rfl); (· exact rfl); (· exact sMax)) | (apply V.conv; (· exact rfl); (· exact rfl); (· exact rfl); (· exact rfl); (· exact sNum)) | (apply V.shl8; (· exact rfl); (· exact rfl); (· exact rfl); (· exact sNum))) | (first | (apply V.shl; (· exact rfl); (· exact rfl); (· exact rfl); (· exact sOm); (· exact sNum)) | (apply V.shr; (· exact rfl); (· exact rfl); (· exact rfl); (· exact sOm); (· exact sNum)) | (apply V.quo; (· exact rfl); (· exact rfl); (· exact rfl); (· exact sOm); (· exact sQuo)) | (apply V.rem; (· exact rfl); (· exact rfl); (· exact rfl); (· exact sOm); (· exact sRem)) | (apply V.bits_; (· exact rfl); (· decide); (· exact rfl); (· exact rfl); (· exact sNum)) | (apply V.neg; (· exact rfl); (· exact rfl); (· exact sNum)) | (apply V.eqlS; (· exact rfl); (· exact rfl); (· exact rfl)) | (apply V.neqS; (· exact rfl); (· exact rfl); (· exact rfl))) | (first | (apply V.eqlB; (· exact rfl); (· exact rfl); (· exact rfl); (· exact rfl)) | (apply V.neqB; (· exact rfl); (· exact rfl); (· exact rfl); (· exact rfl)) | (apply V.max; (· exact rfl); (· exact rfl); (· exact rfl)) | (apply V.min; (· exact rfl); (· exact rfl); (· exact rfl)) | (apply V.func1; (· exact rfl); (· exact sLk)) | (apply V.indexA; (· exact rfl); (· exact rfl); (· exact rfl); (· exact rfl); (· exact rfl); (· exact rfl); (· exact rfl); (· exact rfl); (· exact sJ); (· exact sOm); (· exact sOm); (· exact sAsm)) | (apply V.eqlA; (· exact rfl); (· exact sLk); (· exact sLk); (· exact idnT_eqa)) | (apply V.neqA; (· exact rfl); (· exact sLk); (· exact sLk); (· exact idnT_eqa))) | (first | (apply V.eqlA; (· exact rfl); (· exact sLk); (· exact sLk); (· exact chgT_eqa)) | (apply V.neqA; (· exact rfl); (· exact sLk); (· exact sLk); (· exact chgT_eqa)))) | (first | (first | (apply Y.load; (· exact rfl); (· exact rfl); (· exact rfl); (· exact rfl); (· exact sCell)) | (apply Y.indexAddr; (· exact rfl); (· exact rfl); (· exact rfl); (· exact sRdH); (· exact sJ); (· exact sOm); (· exact sAsm); (· exact sRfl); (· exact sRfl)) | (apply Y.loadElem; (· exact rfl); (· exact rfl); (· exact sRdH); rotate_left; (· exact sRfl); rotate_right; (· exact sAsm); (· exact sRfl)) | (apply Y.sliceArr; (· exact rfl); (· exact rfl); (· exact rfl); (· exact rfl)) | (apply Y.loadBlk; (· exact rfl); (· exact rfl); (· exact rfl); (· exact rfl); (· exact rfl); (· exact rfl); (· exact sHas); (· exact sSeg)) | (apply Y.loadPart; (· exact rfl); (· exact rfl); (· exact sRdH); rotate_left; (· exact sRfl); rotate_right; (· exact sAsm); (· exact rfl); (· exact rfl); (· exact rfl); (· exact rfl); (· exact sSeg)) | (apply Y.fieldL; (· exact rfl); (· exact rfl); (· exact rfl); (· exact rfl); (· exact rfl); (· exact rfl); (· exact rfl)) | (apply Y.fieldS; (· exact rfl); (· exact rfl); (· exact rfl); (· exact rfl); (· exact rfl); (· exact rfl); (· exact rfl); (· exact rfl); (· exact rfl); (· exact sSeg))) | (first | (apply Y.len; (· exact rfl); (· exact rfl); (· exact sRdH); (· exact sRfl)) | (apply Y.str; (· exact rfl); (· exact rfl); (· exact sRdH)) | (apply Y.sliceLo; (· exact rfl); (· exact rfl); (· exact rfl); (· exact sRdH); (· exact sJ); (· exact sOm); (· exact sOm); (· exact sRfl)) | (apply Y.sliceHi; (· exact rfl); (· exact rfl); (· exact rfl); (· exact sRdH); (· exact sJ); (· exact sOm); (· exact sOm); (· exact sRfl)) | (apply Y.sliceHiMax; (· exact rfl); (· exact rfl); (· exact rfl); (· exact rfl); (· exact sRdH); (· exact sJ); (· exact sOm); (· exact sJ); (· exact sOm); (· exact sOm); (· exact sOm); (· exact sRfl)) | (apply Y.sliceLoHi; (· exact rfl); (· exact rfl); (· exact rfl); (· exact rfl); (· exact sRdH); (· exact sJ); (· exact sOm); (· exact sJ); (· exact sOm); (· exact sOm); (· exact sOm); (· exact sRfl)) | (apply Y.strLen; (· exact rfl); (· exact rfl); (· exact rfl); (· exact sMax)) | (apply Y.indexStr; (· exact rfl); (· exact rfl); (· exact rfl); (· exact rfl); (· exact sJ); (· exact sOm); (· exact sAsm))) | (first | (apply Y.build; (· exact rfl); (· exact sPv); (· exact rec_Reader); (· exact sFil)) | (apply Y.build; (· exact rfl); (· exact sPv); (· exact idnT_rec); (· exact sFil)) | (apply Y.build; (· exact rfl); (· exact sPv); (· exact chgT_rec); (· exact sFil))))) : Yld P E H ρ o v := h
theorem sSChh {P : Program} {N : Nat} {E : Env} {F : Nat → Value} {H : List Asn} {o : Oper} {K : Value → List Asn → Prop} (h : Stp P N E F H o K := by first | (first | (apply S.boxK; (· exact rfl); (· exact sLk); (· exact sCel)) | (apply S.append1K; (· exact rfl); (· exact rfl); (· exact rfl); (· exact rfl); (· exact sNN); (· exact (fun _ _ => sRepl)); (· exact sNL); (· exact sRfl); (· first | (conv => lhs; simp only [octT, idnT, chgT]) | rfl); (· exact sOm); (· exact sOm)) | (apply S.appendK; (· exact rfl); (· exact rfl); (· exact rfl); (· exact sNN); (· exact (fun _ _ => sRepl)); (· exact sRdH); (· exact sNL); (· exact sRfl); (· first | (conv => lhs; simp only [octT, idnT, chgT]) | rfl); (· exact sOm); (· exact sOm)) | (apply S.appendNilK; (· exact rfl); (· exact rfl); (· exact rfl); (· exact sRdH); (· exact sRfl); (· first | (conv => lhs; simp only [octT, idnT, chgT]) | rfl); (· exact sOm); (· exact sOm)) | (apply (S.buildSliceK (T := octT) (l := [])); (· exact rfl); (· exact rfl); (· exact rfl); (· exact rfl); (· decide)) | (apply (S.buildSlice1K (T := octT)); (· exact rfl); (· exact sLk); (· first | rfl | (with_reducible exact octT_val _ sOm sOm)); (· exact rfl); (· decide)) | (apply (S.buildSlice2K (T := octT)); (· exact rfl); (· exact sLk); (· first | rfl | (with_reducible exact octT_val _ sOm sOm)); (· exact sLk); (· first | rfl | (with_reducible exact octT_val _ sOm sOm)); (· exact rfl); (· decide)) | (apply (S.buildSlice3K (T := octT)); (· exact rfl); (· exact sLk); (· first | rfl | (with_reducible exact octT_val _ sOm sOm)); (· exact sLk); (· first | rfl | (with_reducible exact octT_val _ sOm sOm)); (· exact sLk); (· first | rfl | (with_reducible exact octT_val _ sOm sOm)); (· exact rfl); (· decide))) | (first | (apply (S.buildSliceK (T := idnT) (l := [])); (· exact rfl); (· exact rfl); (· exact rfl); (· exact rfl); (· decide)) | (apply (S.buildSlice1K (T := idnT)); (· exact rfl); (· exact sLk); (· first | rfl | (with_reducible exact idnT_val _ sOm sOm)); (· exact rfl); (· decide)) | (apply (S.buildSlice2K (T := idnT)); (· exact rfl); (· exact sLk); (· first | rfl | (with_reducible exact idnT_val _ sOm sOm)); (· exact sLk); (· first | rfl | (with_reducible exact idnT_val _ sOm sOm)); (· exact rfl); (· decide)) | (apply (S.buildSlice3K (T := idnT)); (· exact rfl); (· exact sLk); (· first | rfl | (with_reducible exact idnT_val _ sOm sOm)); (· exact sLk); (· first | rfl | (with_reducible exact idnT_val _ sOm sOm)); (· exact sLk); (· first | rfl | (with_reducible exact idnT_val _ sOm sOm)); (· exact rfl); (· decide)) | (apply (S.buildSliceK (T := chgT) (l := [])); (· exact rfl); (· exact rfl); (· exact rfl); (· exact rfl); (· decide)) | (apply (S.buildSlice1K (T := chgT)); (· exact rfl); (· exact sLk); (· first | rfl | (with_reducible exact chgT_val _ sOm sOm)); (· exact rfl); (· decide)) | (apply (S.buildSlice2K (T := chgT)); (· exact rfl); (· exact sLk); (· first | rfl | (with_reducible exact chgT_val _ sOm sOm)); (· exact sLk); (· first | rfl | (with_reducible exact chgT_val _ sOm sOm)); (· exact rfl); (· decide)) | (apply (S.buildSlice3K (T := chgT)); (· exact rfl); (· exact sLk); (· first | rfl | (with_reducible exact chgT_val _ sOm sOm)); (· exact sLk); (· first | rfl | (with_reducible exact chgT_val _ sOm sOm)); (· exact sLk); (· first | rfl | (with_reducible exact chgT_val _ sOm sOm)); (· exact rfl); (· decide))) | (first | (apply (S.storeEK (T := octT)); (· exact rfl); (· exact rfl); (· exact sLk); (· exact sRepl); rotate_left; (· exact sRfl); rotate_right; (· exact sAsm); (· first | rfl | (with_reducible exact octT_val _ sOm sOm)); (· exact sRfl)) | (apply (S.storeEK (T := idnT)); (· exact rfl); (· exact rfl); (· exact sLk); (· exact sRepl); rotate_left; (· exact sRfl); rotate_right; (· exact sAsm); (· first | rfl | (with_reducible exact idnT_val _ sOm sOm)); (· exact sRfl)) | (apply (S.storeEK (T := chgT)); (· exact rfl); (· exact rfl); (· exact sLk); (· exact sRepl); rotate_left; (· exact sRfl); rotate_right; (· exact sAsm); (· first | rfl | (with_reducible exact chgT_val _ sOm sOm)); (· exact sRfl)) | (apply S.allocK; (· exact rfl); (· exact rec_Reader.zero)) | (apply S.allocK; (· exact rfl); (· exact idnT_rec.zero)) | (apply S.allocK; (· exact rfl); (· exact chgT_rec.zero)) | (apply S.allocK; (· exact rfl); (· exact z_octs)) | (apply S.allocK; (· exact rfl); (· exact z_rdr))) | (first | (apply (S.makeSliceK (T := octT) (z := octT_z)); (· exact rfl); (· exact rfl); (· exact rfl); (· exact sJ); (· exact sOm); (· exact rfl); (· exact rfl); (· first | (conv => lhs; simp only [octT, idnT, chgT]) | rfl); (· exact sOm); (· exact sOm)) | (apply (S.makeSliceK (T := idnT) (z := idnT_z)); (· exact rfl); (· exact rfl); (· exact rfl); (· exact sJ); (· exact sOm); (· exact rfl); (· exact rfl); (· first | (conv => lhs; simp only [octT, idnT, chgT]) | rfl); (· exact sOm); (· exact sOm)) | (apply (S.makeSliceK (T := chgT) (z := chgT_z)); (· exact rfl); (· exact rfl); (· exact rfl); (· exact sJ); (· exact sOm); (· exact rfl); (· exact rfl); (· first | (conv => lhs; simp only [octT, idnT, chgT]) | rfl); (· exact sOm); (· exact sOm)) | (apply S.storeAggK; (· exact rfl); (· exact rfl); (· exact sLk); (· exact rfl); (· exact rfl); (· exact rfl); (· exact sRepl); (· exact sPut)) | (apply S.copyInK; (· exact rfl); (· exact rfl); (· exact rfl); (· exact sAsm); (· exact sRepl); (· exact sRdH); rotate_left; (· exact rfl); rotate_right; (· exact sAsm); (· exact sOm); (· exact sAsm); (· exact rfl); (· exact sMax)) | (apply S.store1K; (· exact rfl); (· exact rfl); (· exact sLk); (· exact sRfl); (· exact rfl); (· exact rfl); (· exact sRepl); (· exact sLn); (· exact sSetL)))) : Stp P N E F H o K := h
theorem wChh {p q : Prop} (hq : q) (h : Box q → p := by intro h; (first | (focus (apply L.val; (· decide); (· exact sYChh))) | refine C.seq ?_ | refine C.region ?_ | refine L.nil ?_ | refine C.block ?_ | refine C.exit ?_ | refine C.skip ?_ | refine C.ret ?_ | (focus (apply L.on; (· exact rfl); (· decide); (· exact rfl); (· exact sTst))) | (focus (apply L.off; (· decide); (· exact rfl); (· decide); (· exact rfl); (· exact sTst))) | (focus (apply L.offU; (· decide); (· exact rfl); (· decide); (· exact rfl))) | (focus (apply C.condT; (· exact rfl); (· exact sTst))) | (focus (apply C.condF; (· exact rfl); (· exact sTst))) | refine Dr.done ?_ | refine DrA.done ?_ | (focus (apply DrA.take; (· exact rfl); (· decide); (· exact sGon); (· exact sYChh))) | (focus (apply Dr.take; (· exact rfl); (· decide); (· exact sGon); (· exact sYChh))) | (focus (apply Dr.skip; (· exact rfl); (· decide); (· exact sGoff))) | (focus (apply Dr.goSkip; (· exact rfl); (· decide); (· exact sGoff))) | with_reducible refine T.n ?_ | with_reducible refine T.ret ?_ | with_reducible refine T.exit ?_ | with_reducible refine I.n ?_ | with_reducible refine I.ret ?_ | with_reducible refine I.hit ?_ | with_reducible refine I.miss (by decide) ?_); (repeat (first | (focus (apply L.val; (· decide); (· exact sYChh))) | refine C.seq ?_ | refine C.region ?_ | refine L.nil ?_ | refine C.block ?_ | refine C.exit ?_ | refine C.skip ?_ | refine C.ret ?_ | (focus (apply L.on; (· exact rfl); (· decide); (· exact rfl); (· exact sTst))) | (focus (apply L.off; (· decide); (· exact rfl); (· decide); (· exact rfl); (· exact sTst))) | (focus (apply L.offU; (· decide); (· exact rfl); (· decide); (· exact rfl))) | (focus (apply C.condT; (· exact rfl); (· exact sTst))) | (focus (apply C.condF; (· exact rfl); (· exact sTst))) | refine Dr.done ?_ | refine DrA.done ?_ | (focus (apply DrA.take; (· exact rfl); (· decide); (· exact sGon); (· exact sYChh))) | (focus (apply Dr.take; (· exact rfl); (· decide); (· exact sGon); (· exact sYChh))) | (focus (apply Dr.skip; (· exact rfl); (· decide); (· exact sGoff))) | (focus (apply Dr.goSkip; (· exact rfl); (· decide); (· exact sGoff))) | with_reducible refine T.n ?_ | with_reducible refine T.ret ?_ | with_reducible refine T.exit ?_ | with_reducible refine I.n ?_ | with_reducible refine I.ret ?_ | with_reducible refine I.hit ?_ | with_reducible refine I.miss (by decide) ?_)); exact h.out) : p := h ⟨hq⟩
theorem vChh {p q : Prop} (hq : q) (h : Box q → p := by intro h; (first | (focus (apply L.val; (· decide); (· exact sYChh))) | refine C.seq ?_ | refine C.region ?_ | refine L.nil ?_ | refine C.block ?_ | refine C.exit ?_ | refine C.skip ?_ | refine C.ret ?_ | (focus (apply L.on; (· exact rfl); (· decide); (· exact rfl); (· exact sTst))) | (focus (apply L.off; (· decide); (· exact rfl); (· decide); (· exact rfl); (· exact sTst))) | (focus (apply L.offU; (· decide); (· exact rfl); (· decide); (· exact rfl))) | (focus (apply C.condT; (· exact rfl); (· exact sTst))) | (focus (apply C.condF; (· exact rfl); (· exact sTst))) | refine Dr.done ?_ | refine DrA.done ?_ | (focus (apply DrA.take; (· exact rfl); (· decide); (· exact sGon); (· exact sYChh))) | (focus (apply Dr.take; (· exact rfl); (· decide); (· exact sGon); (· exact sYChh))) | (focus (apply Dr.skip; (· exact rfl); (· decide); (· exact sGoff))) | (focus (apply Dr.goSkip; (· exact rfl); (· decide); (· exact sGoff))) | with_reducible refine T.n ?_ | with_reducible refine T.ret ?_ | with_reducible refine T.exit ?_ | with_reducible refine I.n ?_ | with_reducible refine I.ret ?_ | with_reducible refine I.hit ?_ | with_reducible refine I.miss (by decide) ?_); exact h.out) : p := h ⟨hq⟩
theorem kChh {p q : Prop} (hq : q) (h : Box q → p := by intro h; first | (apply L.stepK; (· decide); (· exact sSChh); exact h.out) | (apply L.step0K; (· exact sSChh); exact h.out) | (apply Dr.goZ; (· exact rfl); (· rintro k ⟨⟩ <;> decide); (· exact sGon); (· exact sSChh); exact h.out) | (apply Dr.goZs; (· exact rfl); (· rintro k ⟨⟩ <;> decide); (· exact sGon); (· exact sSChh); exact h.out) | (apply Go1.goK; (· exact rfl); (· rintro k ⟨⟩ <;> decide); (· exact sGon); (· exact sSChh); exact h.out) | (apply Dr.goK; (· exact rfl); (· rintro k ⟨⟩ <;> decide); (· exact sGon); (· exact sSChh); exact h.out)) : p := h ⟨hq⟩
/-- what a 'take' answers -/
def Took (gr g : Nat) (A : Option Addr) (n c : Nat) (l : List UInt8) (s : Bool × List UInt8) (v : Value) (e : Ending) (H' : List Asn) : Prop :=
  ∃ A' n' c', e = .returned v ∧ Also A n c l A' n' c' s.2 ∧ H' = [blk gr 54 [.pointer (some ⟨g, 0, none⟩)], rdr g true s.1 A' n' c']
theorem tk_vl (s : Bool × List UInt8) (w : Nat) : tk (nx s.1 s.2 w).1 = .tuple #[.int .u64 (vl s w : Nat), .bool (oks s w)] := by
  unfold vl oks
  cases (nx s.1 s.2 w).1 <;> rfl
theorem take1_any (E : Env) (gr g : Nat) (s s' : Bool × List UInt8) (w : Nat) (v : Int) (hs : stp s w = s') (hv : sgn (vl s w) = v) (A : Option Addr) (n c : Nat) (W : Int) (hW : W = w) (hw : 1 ≤ w ∧ w ≤ 8) (hr : Rd E octT A n c s.2) :
    Tri Try.prog E 87 #[.int .i64 W, .pointer (some ⟨gr, 0, none⟩)] [blk gr 54 [.pointer (some ⟨g, 0, none⟩)], rdr g true s.1 A n c] (Took gr g A n c s.2 s' (.int .i64 v)) := by
  subst hs hv
  have hwid : wid W = (w : Int) := by unfold wid; rw [if_neg (by omega)]; exact hW
  have hlt := vl_lt s w
  have hlt2 : vl s w < 18446744073709551616 := Nat.lt_of_lt_of_le hlt (Nat.le_trans (Nat.pow_le_pow_right (by omega) hw.2) (by decide))
  have hc := wrap_sgn hlt2
  refine tri Try.func87 rfl Try.ntmps87 (by simp) ?_
  repeat (first | refine wChh ?_ | (refine kChh ?_; (first | rintro _ _ ⟨rfl, rfl⟩ | rintro _ _ ⟨_, rfl, rfl⟩ | rintro _ _ ⟨_, _, ⟨_, _⟩, rfl, rfl⟩); try refine ⟨sConv, ?_⟩) | refine Dr.two ?_ ?_)
  refine L.step (by decide) (S.call rfl rfl Try.func41 (by kernel_rfl) rfl sPicks (fun E' hE => take_any E' g s.1 A n c s.2 W sRd) ?_)
  obtain ⟨o, ho⟩ : ∃ o, nx s.1 s.2 (w : Int) = (o, stp s w) := ⟨_, rfl⟩
  have htk := tk_vl s w
  rw [ho] at htk
  rw [hwid, ho]
  rintro e H' ⟨A', n', c', rfl, hal, rfl⟩
  dsimp only at htk hal ⊢
  rw [htk]
  refine ⟨_, rfl, _, sCat, ?_⟩
  repeat (first | refine wChh ?_ | (refine kChh ?_; (first | rintro _ _ ⟨rfl, rfl⟩ | rintro _ _ ⟨_, rfl, rfl⟩ | rintro _ _ ⟨_, _, ⟨_, _⟩, rfl, rfl⟩); try refine ⟨sConv, ?_⟩) | refine Dr.two ?_ ?_)
  exact ret1 rfl sRet sConv (⟨_, _, _, rfl, hal, rfl⟩)
theorem cget_any (E : Env) (A : Option Addr) (n c : Nat) (l : List UInt8) (r : Option Chg) (hx : cget l = r) (hr : Rd E octT A n c l) (hl : n ≤ 140737488355300) :
    Tri Try.prog E 73 #[.slice A n c] [] fun e H' => e = .returned (.tuple #[.agg (r.getD chgT_z).cs.toArray, .int .i64 (if r.isSome then 0 else 16)]) ∧ H' = [] := by
  have o1 : 1 ≤ 1 ∧ 1 ≤ 8 := by omega
  have o2 : 1 ≤ 2 ∧ 2 ≤ 8 := by omega
  have o4 : 1 ≤ 4 ∧ 4 ≤ 8 := by omega
  have o8 : 1 ≤ 8 ∧ 8 ≤ 8 := by omega
  have q0 : sgn (vl (false, l) 1) = (va chgW l 0 : Nat) := sgn_small (Nat.lt_trans (vl_lt _ 1) (by decide))
  have q1 : sgn (vl (st chgW l 1) 2) = (va chgW l 1 : Nat) := sgn_small (Nat.lt_trans (vl_lt _ 2) (by decide))
  have q2 : sgn (vl (st chgW l 2) 4) = (va chgW l 2 : Nat) := sgn_small (Nat.lt_trans (vl_lt _ 4) (by decide))
  have q3 : sgn (vl (st chgW l 3) 1) = (va chgW l 3 : Nat) := sgn_small (Nat.lt_trans (vl_lt _ 1) (by decide))
  have q4 : sgn (vl (st chgW l 4) 1) = (va chgW l 4 : Nat) := sgn_small (Nat.lt_trans (vl_lt _ 1) (by decide))
  have q5 : sgn (vl (st chgW l 5) 1) = (va chgW l 5 : Nat) := sgn_small (Nat.lt_trans (vl_lt _ 1) (by decide))
  have q7 : sgn (vl (st chgW l 7) 1) = (va chgW l 7 : Nat) := sgn_small (Nat.lt_trans (vl_lt _ 1) (by decide))
  have q8 : sgn (vl (st chgW l 8) 2) = (va chgW l 8 : Nat) := sgn_small (Nat.lt_trans (vl_lt _ 2) (by decide))
  have q9 : sgn (vl (st chgW l 9) 1) = (va chgW l 9 : Nat) := sgn_small (Nat.lt_trans (vl_lt _ 1) (by decide))
  have b6 := vl_lt (st chgW l 6) 8
  have i6 : I64 (sgn (va chgW l 6)) := sgn_ok b6
  unfold I64 at i6
  have hcr := cget_run l
  refine tri Try.func73 rfl Try.ntmps73 (by simp) ?_
  repeat (first | refine wChh ?_ | (refine kChh ?_; (first | rintro _ _ ⟨rfl, rfl⟩ | rintro _ _ ⟨_, rfl, rfl⟩ | rintro _ _ ⟨_, _, ⟨_, _⟩, rfl, rfl⟩); try refine ⟨sConv, ?_⟩) | refine Dr.two ?_ ?_)
  refine L.step (by decide) (S.call rfl rfl Try.func17 (by kernel_rfl) rfl sPicks (fun E' hE => new_any E' A n c l sRd (by omega)) ?_)
  rintro e H' ⟨g, A0, c0, rfl, h5, h6, rfl⟩
  refine ⟨_, rfl, _, sCat, ?_⟩
  unfold adr
  repeat (first | refine wChh ?_ | (refine kChh ?_; (first | rintro _ _ ⟨rfl, rfl⟩ | rintro _ _ ⟨_, rfl, rfl⟩ | rintro _ _ ⟨_, _, ⟨_, _⟩, rfl, rfl⟩); try refine ⟨sConv, ?_⟩) | refine Dr.two ?_ ?_)
  rename_i gres gr gc
  refine L.step (by decide) (S.callV rfl sLk rfl rfl Try.func87 (by kernel_rfl) rfl sPicks (fun E' hE => take1_any E' gr g (false, l) (st chgW l 1) 1 _ rfl q0 A0 n c0 1 rfl o1 sRd) ?_)
  rintro e H' ⟨A1, n1, c1, rfl, hal1, rfl⟩
  refine ⟨_, rfl, _, sCat, ?_⟩
  repeat (first | refine wChh ?_ | (refine kChh ?_; (first | rintro _ _ ⟨rfl, rfl⟩ | rintro _ _ ⟨_, rfl, rfl⟩ | rintro _ _ ⟨_, _, ⟨_, _⟩, rfl, rfl⟩); try refine ⟨sConv, ?_⟩) | refine Dr.two ?_ ?_)
  refine L.step (by decide) (S.callV rfl sLk rfl rfl Try.func87 (by kernel_rfl) rfl sPicks (fun E' hE => take1_any E' gr g (st chgW l 1) (st chgW l 2) 2 _ rfl q1 A1 n1 c1 2 rfl o2 (hal1 _ sRd)) ?_)
  rintro e H' ⟨A2, n2, c2, rfl, hal2, rfl⟩
  refine ⟨_, rfl, _, sCat, ?_⟩
  repeat (first | refine wChh ?_ | (refine kChh ?_; (first | rintro _ _ ⟨rfl, rfl⟩ | rintro _ _ ⟨_, rfl, rfl⟩ | rintro _ _ ⟨_, _, ⟨_, _⟩, rfl, rfl⟩); try refine ⟨sConv, ?_⟩) | refine Dr.two ?_ ?_)
  refine L.step (by decide) (S.callV rfl sLk rfl rfl Try.func87 (by kernel_rfl) rfl sPicks (fun E' hE => take1_any E' gr g (st chgW l 2) (st chgW l 3) 4 _ rfl q2 A2 n2 c2 4 rfl o4 (hal2 _ (hal1 _ sRd))) ?_)
  rintro e H' ⟨A3, n3, c3, rfl, hal3, rfl⟩
  refine ⟨_, rfl, _, sCat, ?_⟩
  repeat (first | refine wChh ?_ | (refine kChh ?_; (first | rintro _ _ ⟨rfl, rfl⟩ | rintro _ _ ⟨_, rfl, rfl⟩ | rintro _ _ ⟨_, _, ⟨_, _⟩, rfl, rfl⟩); try refine ⟨sConv, ?_⟩) | refine Dr.two ?_ ?_)
  refine L.step (by decide) (S.callV rfl sLk rfl rfl Try.func87 (by kernel_rfl) rfl sPicks (fun E' hE => take1_any E' gr g (st chgW l 3) (st chgW l 4) 1 _ rfl q3 A3 n3 c3 1 rfl o1 (hal3 _ (hal2 _ (hal1 _ sRd)))) ?_)
  rintro e H' ⟨A4, n4, c4, rfl, hal4, rfl⟩
  refine ⟨_, rfl, _, sCat, ?_⟩
  repeat (first | refine wChh ?_ | (refine kChh ?_; (first | rintro _ _ ⟨rfl, rfl⟩ | rintro _ _ ⟨_, rfl, rfl⟩ | rintro _ _ ⟨_, _, ⟨_, _⟩, rfl, rfl⟩); try refine ⟨sConv, ?_⟩) | refine Dr.two ?_ ?_)
  refine L.step (by decide) (S.callV rfl sLk rfl rfl Try.func87 (by kernel_rfl) rfl sPicks (fun E' hE => take1_any E' gr g (st chgW l 4) (st chgW l 5) 1 _ rfl q4 A4 n4 c4 1 rfl o1 (hal4 _ (hal3 _ (hal2 _ (hal1 _ sRd))))) ?_)
  rintro e H' ⟨A5, n5, c5, rfl, hal5, rfl⟩
  refine ⟨_, rfl, _, sCat, ?_⟩
  repeat (first | refine wChh ?_ | (refine kChh ?_; (first | rintro _ _ ⟨rfl, rfl⟩ | rintro _ _ ⟨_, rfl, rfl⟩ | rintro _ _ ⟨_, _, ⟨_, _⟩, rfl, rfl⟩); try refine ⟨sConv, ?_⟩) | refine Dr.two ?_ ?_)
  refine L.step (by decide) (S.callV rfl sLk rfl rfl Try.func87 (by kernel_rfl) rfl sPicks (fun E' hE => take1_any E' gr g (st chgW l 5) (st chgW l 6) 1 _ rfl q5 A5 n5 c5 1 rfl o1 (hal5 _ (hal4 _ (hal3 _ (hal2 _ (hal1 _ sRd)))))) ?_)
  rintro e H' ⟨A6, n6, c6, rfl, hal6, rfl⟩
  refine ⟨_, rfl, _, sCat, ?_⟩
  repeat (first | refine wChh ?_ | (refine kChh ?_; (first | rintro _ _ ⟨rfl, rfl⟩ | rintro _ _ ⟨_, rfl, rfl⟩ | rintro _ _ ⟨_, _, ⟨_, _⟩, rfl, rfl⟩); try refine ⟨sConv, ?_⟩) | refine Dr.two ?_ ?_)
  refine L.step (by decide) (S.callV rfl sLk rfl rfl Try.func87 (by kernel_rfl) rfl sPicks (fun E' hE => take1_any E' gr g (st chgW l 6) (st chgW l 7) 8 _ rfl rfl A6 n6 c6 8 rfl o8 (hal6 _ (hal5 _ (hal4 _ (hal3 _ (hal2 _ (hal1 _ sRd))))))) ?_)
  rintro e H' ⟨A7, n7, c7, rfl, hal7, rfl⟩
  refine ⟨_, rfl, _, sCat, ?_⟩
  repeat (first | refine wChh ?_ | (refine kChh ?_; (first | rintro _ _ ⟨rfl, rfl⟩ | rintro _ _ ⟨_, rfl, rfl⟩ | rintro _ _ ⟨_, _, ⟨_, _⟩, rfl, rfl⟩); try refine ⟨sConv, ?_⟩) | refine Dr.two ?_ ?_)
  refine L.step (by decide) (S.callV rfl sLk rfl rfl Try.func87 (by kernel_rfl) rfl sPicks (fun E' hE => take1_any E' gr g (st chgW l 7) (st chgW l 8) 1 _ rfl q7 A7 n7 c7 1 rfl o1 (hal7 _ (hal6 _ (hal5 _ (hal4 _ (hal3 _ (hal2 _ (hal1 _ sRd)))))))) ?_)
  rintro e H' ⟨A8, n8, c8, rfl, hal8, rfl⟩
  refine ⟨_, rfl, _, sCat, ?_⟩
  repeat (first | refine wChh ?_ | (refine kChh ?_; (first | rintro _ _ ⟨rfl, rfl⟩ | rintro _ _ ⟨_, rfl, rfl⟩ | rintro _ _ ⟨_, _, ⟨_, _⟩, rfl, rfl⟩); try refine ⟨sConv, ?_⟩) | refine Dr.two ?_ ?_)
  refine L.step (by decide) (S.callV rfl sLk rfl rfl Try.func87 (by kernel_rfl) rfl sPicks (fun E' hE => take1_any E' gr g (st chgW l 8) (st chgW l 9) 2 _ rfl q8 A8 n8 c8 2 rfl o2 (hal8 _ (hal7 _ (hal6 _ (hal5 _ (hal4 _ (hal3 _ (hal2 _ (hal1 _ sRd))))))))) ?_)
  rintro e H' ⟨A9, n9, c9, rfl, hal9, rfl⟩
  refine ⟨_, rfl, _, sCat, ?_⟩
  repeat (first | refine wChh ?_ | (refine kChh ?_; (first | rintro _ _ ⟨rfl, rfl⟩ | rintro _ _ ⟨_, rfl, rfl⟩ | rintro _ _ ⟨_, _, ⟨_, _⟩, rfl, rfl⟩); try refine ⟨sConv, ?_⟩) | refine Dr.two ?_ ?_)
  refine L.step (by decide) (S.callV rfl sLk rfl rfl Try.func87 (by kernel_rfl) rfl sPicks (fun E' hE => take1_any E' gr g (st chgW l 9) (st chgW l 10) 1 _ rfl q9 A9 n9 c9 1 rfl o1 (hal9 _ (hal8 _ (hal7 _ (hal6 _ (hal5 _ (hal4 _ (hal3 _ (hal2 _ (hal1 _ sRd)))))))))) ?_)
  rintro e H' ⟨Ax, nx', cx, rfl, halx, rfl⟩
  refine ⟨_, rfl, _, sCat, ?_⟩
  have hno : r = none → r.getD chgT_z = chgT_z ∧ r.isSome = false := fun h => by rw [h]; exact ⟨rfl, rfl⟩
  by_cases h9 : va chgW l 9 = 67
  · repeat (first | refine wChh ?_ | (refine kChh ?_; (first | rintro _ _ ⟨rfl, rfl⟩ | rintro _ _ ⟨_, rfl, rfl⟩ | rintro _ _ ⟨_, _, ⟨_, _⟩, rfl, rfl⟩); try refine ⟨sConv, ?_⟩) | refine Dr.two ?_ ?_)
    refine L.step (by decide) (S.call rfl rfl Try.func75 (by kernel_rfl) rfl sPicks (fun E' hE => done_any E' g (st chgW l 10).1 Ax nx' cx (st chgW l 10).2 (halx _ (hal9 _ (hal8 _ (hal7 _ (hal6 _ (hal5 _ (hal4 _ (hal3 _ (hal2 _ (hal1 _ sRd))))))))))) ?_)
    rintro e H' ⟨rfl, rfl⟩
    refine ⟨_, rfl, _, sCat, ?_⟩
    cases hd : (!(st chgW l 10).1 && (st chgW l 10).2.isEmpty)
    · obtain ⟨e1, e2⟩ := hno (by rw [← hx, hcr, if_neg (by rw [hd]; simp)])
      rw [e1, e2]
      repeat (first | refine wChh ?_ | (refine kChh ?_; (first | rintro _ _ ⟨rfl, rfl⟩ | rintro _ _ ⟨_, rfl, rfl⟩ | rintro _ _ ⟨_, _, ⟨_, _⟩, rfl, rfl⟩); try refine ⟨sConv, ?_⟩) | refine Dr.two ?_ ?_)
      apply retC2; (· exact rfl); (· exact sRet); (· exact rfl); (· exact rfl); (· exact rfl); (· exact sHas); (· exact rfl); (· exact sRet); rotate_left; (· exact (⟨rfl, rfl⟩)); (· exact sConv)
    · repeat (first | refine wChh ?_ | (refine kChh ?_; (first | rintro _ _ ⟨rfl, rfl⟩ | rintro _ _ ⟨_, rfl, rfl⟩ | rintro _ _ ⟨_, _, ⟨_, _⟩, rfl, rfl⟩); try refine ⟨sConv, ?_⟩) | refine Dr.two ?_ ?_)
      refine L.step (by decide) (S.call rfl rfl Try.func67 (by kernel_rfl) rfl sPicks (fun E' hE => ccheck_any E' (chgRun l)) ?_)
      rintro e H' ⟨rfl, rfl⟩
      refine ⟨_, rfl, _, sCat, ?_⟩
      cases hm : (chgRun l).may
      · obtain ⟨e1, e2⟩ := hno (by rw [← hx, hcr, if_neg (by rw [hm]; simp)])
        rw [e1, e2, if_neg Bool.false_ne_true]
        repeat (first | refine wChh ?_ | (refine kChh ?_; (first | rintro _ _ ⟨rfl, rfl⟩ | rintro _ _ ⟨_, rfl, rfl⟩ | rintro _ _ ⟨_, _, ⟨_, _⟩, rfl, rfl⟩); try refine ⟨sConv, ?_⟩) | refine Dr.two ?_ ?_)
        apply retC2; (· exact rfl); (· exact sRet); (· exact rfl); (· exact rfl); (· exact rfl); (· exact sHas); (· exact rfl); (· exact sRet); rotate_left; (· exact (⟨rfl, rfl⟩)); (· exact sConv)
      · have e1 : r = some (chgRun l) := by rw [← hx, hcr, if_pos ⟨h9, hd, hm⟩]
        rw [e1, if_pos rfl]
        repeat (first | refine wChh ?_ | (refine kChh ?_; (first | rintro _ _ ⟨rfl, rfl⟩ | rintro _ _ ⟨_, rfl, rfl⟩ | rintro _ _ ⟨_, _, ⟨_, _⟩, rfl, rfl⟩); try refine ⟨sConv, ?_⟩) | refine Dr.two ?_ ?_)
        apply retC2; (· exact rfl); (· exact sRet); (· exact rfl); (· exact rfl); (· exact rfl); (· exact sHas); (· exact rfl); (· exact sRet); rotate_left; (· exact (⟨rfl, rfl⟩)); (· exact sConv)
  · obtain ⟨e1, e2⟩ := hno (by rw [← hx, hcr, if_neg (fun h => h9 h.1)])
    rw [e1, e2]
    repeat (first | refine wChh ?_ | (refine kChh ?_; (first | rintro _ _ ⟨rfl, rfl⟩ | rintro _ _ ⟨_, rfl, rfl⟩ | rintro _ _ ⟨_, _, ⟨_, _⟩, rfl, rfl⟩); try refine ⟨sConv, ?_⟩) | refine Dr.two ?_ ?_)
    apply retC2; (· exact rfl); (· exact sRet); (· exact rfl); (· exact rfl); (· exact rfl); (· exact sHas); (· exact rfl); (· exact sRet); rotate_left; (· exact (⟨rfl, rfl⟩)); (· exact sConv)
end Go.Proofs.Ytihblcljkndpgaa.Sep
/- Lists of changes as octets, plainly: no function in sight. -/
namespace Go.Proofs.Ytihblcljkndpgaa.Sep
open Go.Proofs.Ytihblcljkndpgaa.Oct
set_option maxRecDepth 100000
def putall (l : List Chg) : List UInt8 := (l.map Chg.put).flatten
theorem putall_length (l : List Chg) : (putall l).length = 22 * l.length := by
  induction l with
  | nil => rfl
  | cons c l ih =>
    have : putall (c :: l) = c.put ++ putall l := rfl
    rw [this, List.length_append, c.put_length, ih, List.length_cons]; omega
theorem putall_cons (c : Chg) (l : List Chg) : putall (c :: l) = c.put ++ putall l := rfl
theorem putall_snoc (l : List Chg) (c : Chg) : putall (l ++ [c]) = putall l ++ c.put := by simp [putall]
def enlist (l : List Chg) : List UInt8 := UInt8.ofNat l.length :: putall l
def pieces : Nat → List UInt8 → Option (List Chg)
  | 0, _ => some []
  | k + 1, t => match cget (t.take 22), pieces k (t.drop 22) with
    | some c, some l => some (c :: l)
    | _, _ => none
def clst : List UInt8 → Option (List Chg)
  | [] => none
  | h :: t => if h.toNat ≤ 48 ∧ t.length = 22 * h.toNat then pieces h.toNat t else none
theorem pieces_some {k : Nat} {t : List UInt8} {l : List Chg} (h : pieces k t = some l) (ht : t.length = 22 * k) : l.length = k ∧ putall l = t ∧ l.all Chg.may = true ∧ ∀ c ∈ l, c.ok := by
  induction k generalizing t l with
  | zero =>
    injection h with h
    subst h
    exact ⟨rfl, (List.eq_nil_of_length_eq_zero (by omega)).symm, rfl, fun _ hc => by cases hc⟩
  | succ k ih =>
    unfold pieces at h
    split at h
    · rename_i c l' hc hl
      injection h with h
      subst h
      obtain ⟨h1, h2, h3, h4⟩ := ih hl (by simp; omega)
      obtain ⟨_, hm, hp, hok⟩ := cget_some hc
      refine ⟨by simp [h1], ?_, by simp [hm]; simpa using h3, fun x hx => ?_⟩
      · rw [putall_cons, hp, h2, List.take_append_drop]
      · rcases List.mem_cons.1 hx with rfl | hx
        · exact hok
        · exact h4 x hx
    · cases h
theorem pieces_putall {l : List Chg} (hm : l.all Chg.may = true) (hn : ∀ c ∈ l, I64 c.n) : pieces l.length (putall l) = some l := by
  induction l with
  | nil => rfl
  | cons c l ih =>
    simp at hm
    rw [List.length_cons, pieces, putall_cons, List.take_left' c.put_length, List.drop_left' c.put_length, cget_put hm.1 (hn c (by simp)), ih (by simpa using hm.2) fun x hx => hn x (by simp [hx])]
theorem clst_some {b : List UInt8} {l : List Chg} (h : clst b = some l) : l.length ≤ 48 ∧ enlist l = b ∧ l.all Chg.may = true := by
  cases b with
  | nil => cases h
  | cons x t =>
    have h : (if x.toNat ≤ 48 ∧ t.length = 22 * x.toNat then pieces x.toNat t else none) = some l := h
    split at h
    · rename_i hh
      obtain ⟨h1, h2, h3, _⟩ := pieces_some h hh.2
      refine ⟨by omega, ?_, h3⟩
      unfold enlist
      rw [h1, h2]
      congr 1
      exact UInt8.ofNat_toNat
    · cases h
theorem clst_enlist {l : List Chg} (h48 : l.length ≤ 48) (hm : l.all Chg.may = true) (hn : ∀ c ∈ l, I64 c.n) : clst (enlist l) = some l := by
  have e : (UInt8.ofNat l.length).toNat = l.length := by simp; omega
  show (if (UInt8.ofNat l.length).toNat ≤ 48 ∧ (putall l).length = 22 * (UInt8.ofNat l.length).toNat then pieces (UInt8.ofNat l.length).toNat (putall l) else none) = some l
  rw [e, if_pos ⟨h48, putall_length l⟩]
  exact pieces_putall hm hn
theorem enlist_length (l : List Chg) : (enlist l).length = 1 + 22 * l.length := by unfold enlist; rw [List.length_cons, putall_length]; omega
end Go.Proofs.Ytihblcljkndpgaa.Sep
/- change.All and change.List, by parts of memory. -/
namespace Go.Proofs.Ytihblcljkndpgaa.Sep
open Go.RowKit Go.Proofs.Ytihblcljkndpgaa.Reg Go.Proofs.Ytihblcljkndpgaa.Oct
open Go.Proofs.Ytihblcljkndpgaa.Mem hiding Rd Own
-- types: octT idnT chgT
-- recs: rec_Reader idnT_rec chgT_rec
-- eqs: idnT_eqa chgT_eqa
-- zeros: z_octs
-- funcs
set_option maxRecDepth 100000
set_option maxHeartbeats 6000000
theorem sYCh3 {P : Program} {E : Env} {H : List Asn} {ρ : Operand → Value} {o : Oper} {v : Value} (h : Yld P E H ρ o v := by first | (intro _ _; first | (first | (apply V.move; (· exact rfl); (· exact sLk)) | (apply V.assign; (· exact rfl); (· exact sLk)) | (apply V.nilCheck; (· exact rfl); (· exact rfl)) | (apply V.fieldAddr; (· exact rfl); (· exact rfl); (· exact rfl); (· exact rfl); (· exact rfl); (· decide); (· exact sLk); (· exact sAdd)) | (apply V.extract; (· exact rfl); (· exact rfl); (· exact rfl)) | (apply V.not; (· exact rfl); (· exact rfl)) | (apply V.pickT; (· exact rfl); (· exact rfl); (· exact sTst); (· exact sLk)) | (apply V.pickF; (· exact rfl); (· exact rfl); (· exact sTst); (· exact sLk))) | (first | (apply V.add; (· exact rfl); (· exact rfl); (· exact rfl); (· exact sNum)) | (apply V.sub; (· exact rfl); (· exact rfl); (· exact rfl); (· exact sNum)) | (apply V.mul; (· exact rfl); (· exact rfl); (· exact rfl); (· exact sNum)) | (apply V.lss; (· exact rfl); (· exact rfl); (· exact rfl)) | (apply V.leq; (· exact rfl); (· exact rfl); (· exact rfl)) | (apply V.gtr; (· exact rfl); (· exact rfl); (· exact rfl)) | (apply V.geq; (· exact rfl); (· exact rfl); (· exact rfl)) | (apply V.eql; (· exact rfl); (· exact rfl); (· exact rfl))) | (first | (apply V.neq; (· exact rfl); (· exact rfl); (· exact rfl)) | (apply V.neqP; (· exact rfl); (· exact rfl); (· exact rfl); (· exact rfl)) | (apply V.eqlP; (· exact rfl); (· exact rfl); (· exact rfl); (· exact rfl)) | (apply V.eqlN; (· exact rfl); (· exact rfl); (· exact rfl); (· exact rfl)) | (apply V.neqN; (· exact rfl); (· exact rfl); (· exact rfl); (· exact rfl)) | (apply V.len; (· exact rfl); (· exact rfl); (· exact rfl); (· exact sMax)) | (apply V.conv; (· exact rfl); (· exact rfl); (· exact rfl); (· exact rfl); (· exact sNum)) | (apply V.shl8; (· exact rfl); (· exact rfl); (· exact rfl); (· exact sNum))) | (first | (apply V.shl; (· exact rfl); (· exact rfl); (· exact rfl); (· exact sOm); (· exact sNum)) | (apply V.shr; (· exact rfl); (· exact rfl); (· exact rfl); (· exact sOm); (· exact sNum)) | (apply V.quo; (· exact rfl); (· exact rfl); (· exact rfl); (· exact sOm); (· exact sQuo)) | (apply V.rem; (· exact rfl); (· exact rfl); (· exact rfl); (· exact sOm); (· exact sRem)) | (apply V.bits_; (· exact rfl); (· decide); (· exact rfl); (· exact rfl); (· exact sNum)) | (apply V.neg; (· exact rfl); (· exact rfl); (· exact sNum)) | (apply V.eqlS; (· exact rfl); (· exact rfl); (· exact rfl)) | (apply V.neqS; (· exact rfl); (· exact rfl); (· exact rfl))) | (first | (apply V.eqlB; (· exact rfl); (· exact rfl); (· exact rfl); (· exact rfl)) | (apply V.neqB; (· exact rfl); (· exact rfl); (· exact rfl); (· exact rfl)) | (apply V.max; (· exact rfl); (· exact rfl); (· exact rfl)) | (apply V.min; (· exact rfl); (· exact rfl); (· exact rfl)) | (apply V.func1; (· exact rfl); (· exact sLk)) | (apply V.indexA; (· exact rfl); (· exact rfl); (· exact rfl); (· exact rfl); (· exact rfl); (· exact rfl); (· exact rfl); (· exact rfl); (· exact sJ); (· exact sOm); (· exact sOm); (· exact sAsm)) | (apply V.eqlA; (· exact rfl); (· exact sLk); (· exact sLk); (· exact idnT_eqa)) | (apply V.neqA; (· exact rfl); (· exact sLk); (· exact sLk); (· exact idnT_eqa))) | (first | (apply V.eqlA; (· exact rfl); (· exact sLk); (· exact sLk); (· exact chgT_eqa)) | (apply V.neqA; (· exact rfl); (· exact sLk); (· exact sLk); (· exact chgT_eqa)))) | (first | (first | (apply Y.load; (· exact rfl); (· exact rfl); (· exact rfl); (· exact rfl); (· exact sCell)) | (apply Y.indexAddr; (· exact rfl); (· exact rfl); (· exact rfl); (· exact sRdH); (· exact sJ); (· exact sOm); (· exact sAsm); (· exact sRfl); (· exact sRfl)) | (apply Y.loadElem; (· exact rfl); (· exact rfl); (· exact sRdH); rotate_left; (· exact sRfl); rotate_right; (· exact sAsm); (· exact sRfl)) | (apply Y.sliceArr; (· exact rfl); (· exact rfl); (· exact rfl); (· exact rfl)) | (apply Y.loadBlk; (· exact rfl); (· exact rfl); (· exact rfl); (· exact rfl); (· exact rfl); (· exact rfl); (· exact sHas); (· exact sSeg)) | (apply Y.loadPart; (· exact rfl); (· exact rfl); (· exact sRdH); rotate_left; (· exact sRfl); rotate_right; (· exact sAsm); (· exact rfl); (· exact rfl); (· exact rfl); (· exact rfl); (· exact sSeg)) | (apply Y.fieldL; (· exact rfl); (· exact rfl); (· exact rfl); (· exact rfl); (· exact rfl); (· exact rfl); (· exact rfl)) | (apply Y.fieldS; (· exact rfl); (· exact rfl); (· exact rfl); (· exact rfl); (· exact rfl); (· exact rfl); (· exact rfl); (· exact rfl); (· exact rfl); (· exact sSeg))) | (first | (apply Y.len; (· exact rfl); (· exact rfl); (· exact sRdH); (· exact sRfl)) | (apply Y.str; (· exact rfl); (· exact rfl); (· exact sRdH)) | (apply Y.sliceLo; (· exact rfl); (· exact rfl); (· exact rfl); (· exact sRdH); (· exact sJ); (· exact sOm); (· exact sOm); (· exact sRfl)) | (apply Y.sliceHi; (· exact rfl); (· exact rfl); (· exact rfl); (· exact sRdH); (· exact sJ); (· exact sOm); (· exact sOm); (· exact sRfl)) | (apply Y.sliceHiMax; (· exact rfl); (· exact rfl); (· exact rfl); (· exact rfl); (· exact sRdH); (· exact sJ); (· exact sOm); (· exact sJ); (· exact sOm); (· exact sOm); (· exact sOm); (· exact sRfl)) | (apply Y.sliceLoHi; (· exact rfl); (· exact rfl); (· exact rfl); (· exact rfl); (· exact sRdH); (· exact sJ); (· exact sOm); (· exact sJ); (· exact sOm); (· exact sOm); (· exact sOm); (· exact sRfl)) | (apply Y.strLen; (· exact rfl); (· exact rfl); (· exact rfl); (· exact sMax)) | (apply Y.indexStr; (· exact rfl); (· exact rfl); (· exact rfl); (· exact rfl); (· exact sJ); (· exact sOm); (· exact sAsm))) | (first | (apply Y.build; (· exact rfl); (· exact sPv); (· exact rec_Reader); (· exact sFil)) | (apply Y.build; (· exact rfl); (· exact sPv); (· exact idnT_rec); (· exact sFil)) | (apply Y.build; (· exact rfl); (· exact sPv); (· exact chgT_rec); (· exact sFil))))) : Yld P E H ρ o v := h
theorem sSCh3 {P : Program} {N : Nat} {E : Env} {F : Nat → Value} {H : List Asn} {o : Oper} {K : Value → List Asn → Prop} (h : Stp P N E F H o K := by first | (first | (apply S.boxK; (· exact rfl); (· exact sLk); (· exact sCel)) | (apply S.append1K; (· exact rfl); (· exact rfl); (· exact rfl); (· exact rfl); (· exact sNN); (· exact (fun _ _ => sRepl)); (· exact sNL); (· exact sRfl); (· first | (conv => lhs; simp only [octT, idnT, chgT]) | rfl); (· exact sOm); (· exact sOm)) | (apply S.appendK; (· exact rfl); (· exact rfl); (· exact rfl); (· exact sNN); (· exact (fun _ _ => sRepl)); (· exact sRdH); (· exact sNL); (· exact sRfl); (· first | (conv => lhs; simp only [octT, idnT, chgT]) | rfl); (· exact sOm); (· exact sOm)) | (apply S.appendNilK; (· exact rfl); (· exact rfl); (· exact rfl); (· exact sRdH); (· exact sRfl); (· first | (conv => lhs; simp only [octT, idnT, chgT]) | rfl); (· exact sOm); (· exact sOm)) | (apply (S.buildSliceK (T := octT) (l := [])); (· exact rfl); (· exact rfl); (· exact rfl); (· exact rfl); (· decide)) | (apply (S.buildSlice1K (T := octT)); (· exact rfl); (· exact sLk); (· first | rfl | (with_reducible exact octT_val _ sOm sOm)); (· exact rfl); (· decide)) | (apply (S.buildSlice2K (T := octT)); (· exact rfl); (· exact sLk); (· first | rfl | (with_reducible exact octT_val _ sOm sOm)); (· exact sLk); (· first | rfl | (with_reducible exact octT_val _ sOm sOm)); (· exact rfl); (· decide)) | (apply (S.buildSlice3K (T := octT)); (· exact rfl); (· exact sLk); (· first | rfl | (with_reducible exact octT_val _ sOm sOm)); (· exact sLk); (· first | rfl | (with_reducible exact octT_val _ sOm sOm)); (· exact sLk); (· first | rfl | (with_reducible exact octT_val _ sOm sOm)); (· exact rfl); (· decide))) | (first | (apply (S.buildSliceK (T := idnT) (l := [])); (· exact rfl); (· exact rfl); (· exact rfl); (· exact rfl); (· decide)) | (apply (S.buildSlice1K (T := idnT)); (· exact rfl); (· exact sLk); (· first | rfl | (with_reducible exact idnT_val _ sOm sOm)); (· exact rfl); (· decide)) | (apply (S.buildSlice2K (T := idnT)); (· exact rfl); (· exact sLk); (· first | rfl | (with_reducible exact idnT_val _ sOm sOm)); (· exact sLk); (· first | rfl | (with_reducible exact idnT_val _ sOm sOm)); (· exact rfl); (· decide)) | (apply (S.buildSlice3K (T := idnT)); (· exact rfl); (· exact sLk); (· first | rfl | (with_reducible exact idnT_val _ sOm sOm)); (· exact sLk); (· first | rfl | (with_reducible exact idnT_val _ sOm sOm)); (· exact sLk); (· first | rfl | (with_reducible exact idnT_val _ sOm sOm)); (· exact rfl); (· decide)) | (apply (S.buildSliceK (T := chgT) (l := [])); (· exact rfl); (· exact rfl); (· exact rfl); (· exact rfl); (· decide)) | (apply (S.buildSlice1K (T := chgT)); (· exact rfl); (· exact sLk); (· first | rfl | (with_reducible exact chgT_val _ sOm sOm)); (· exact rfl); (· decide)) | (apply (S.buildSlice2K (T := chgT)); (· exact rfl); (· exact sLk); (· first | rfl | (with_reducible exact chgT_val _ sOm sOm)); (· exact sLk); (· first | rfl | (with_reducible exact chgT_val _ sOm sOm)); (· exact rfl); (· decide)) | (apply (S.buildSlice3K (T := chgT)); (· exact rfl); (· exact sLk); (· first | rfl | (with_reducible exact chgT_val _ sOm sOm)); (· exact sLk); (· first | rfl | (with_reducible exact chgT_val _ sOm sOm)); (· exact sLk); (· first | rfl | (with_reducible exact chgT_val _ sOm sOm)); (· exact rfl); (· decide))) | (first | (apply (S.storeEK (T := octT)); (· exact rfl); (· exact rfl); (· exact sLk); (· exact sRepl); rotate_left; (· exact sRfl); rotate_right; (· exact sAsm); (· first | rfl | (with_reducible exact octT_val _ sOm sOm)); (· exact sRfl)) | (apply (S.storeEK (T := idnT)); (· exact rfl); (· exact rfl); (· exact sLk); (· exact sRepl); rotate_left; (· exact sRfl); rotate_right; (· exact sAsm); (· first | rfl | (with_reducible exact idnT_val _ sOm sOm)); (· exact sRfl)) | (apply (S.storeEK (T := chgT)); (· exact rfl); (· exact rfl); (· exact sLk); (· exact sRepl); rotate_left; (· exact sRfl); rotate_right; (· exact sAsm); (· first | rfl | (with_reducible exact chgT_val _ sOm sOm)); (· exact sRfl)) | (apply S.allocK; (· exact rfl); (· exact rec_Reader.zero)) | (apply S.allocK; (· exact rfl); (· exact idnT_rec.zero)) | (apply S.allocK; (· exact rfl); (· exact chgT_rec.zero)) | (apply S.allocK; (· exact rfl); (· exact z_octs)) | (apply (S.makeSliceK (T := octT) (z := octT_z)); (· exact rfl); (· exact rfl); (· exact rfl); (· exact sJ); (· exact sOm); (· exact rfl); (· exact rfl); (· first | (conv => lhs; simp only [octT, idnT, chgT]) | rfl); (· exact sOm); (· exact sOm))) | (first | (apply (S.makeSliceK (T := idnT) (z := idnT_z)); (· exact rfl); (· exact rfl); (· exact rfl); (· exact sJ); (· exact sOm); (· exact rfl); (· exact rfl); (· first | (conv => lhs; simp only [octT, idnT, chgT]) | rfl); (· exact sOm); (· exact sOm)) | (apply (S.makeSliceK (T := chgT) (z := chgT_z)); (· exact rfl); (· exact rfl); (· exact rfl); (· exact sJ); (· exact sOm); (· exact rfl); (· exact rfl); (· first | (conv => lhs; simp only [octT, idnT, chgT]) | rfl); (· exact sOm); (· exact sOm)) | (apply S.storeAggK; (· exact rfl); (· exact rfl); (· exact sLk); (· exact rfl); (· exact rfl); (· exact rfl); (· exact sRepl); (· exact sPut)) | (apply S.copyInK; (· exact rfl); (· exact rfl); (· exact rfl); (· exact sAsm); (· exact sRepl); (· exact sRdH); rotate_left; (· exact rfl); rotate_right; (· exact sAsm); (· exact sOm); (· exact sAsm); (· exact rfl); (· exact sMax)) | (apply S.store1K; (· exact rfl); (· exact rfl); (· exact sLk); (· exact sRfl); (· exact rfl); (· exact rfl); (· exact sRepl); (· exact sLn); (· exact sSetL)))) : Stp P N E F H o K := h
theorem wCh3 {p q : Prop} (hq : q) (h : Box q → p := by intro h; (first | (focus (apply L.val; (· decide); (· exact sYCh3))) | refine C.seq ?_ | refine C.region ?_ | refine L.nil ?_ | refine C.block ?_ | refine C.exit ?_ | refine C.skip ?_ | refine C.ret ?_ | (focus (apply L.on; (· exact rfl); (· decide); (· exact rfl); (· exact sTst))) | (focus (apply L.off; (· decide); (· exact rfl); (· decide); (· exact rfl); (· exact sTst))) | (focus (apply L.offU; (· decide); (· exact rfl); (· decide); (· exact rfl))) | (focus (apply C.condT; (· exact rfl); (· exact sTst))) | (focus (apply C.condF; (· exact rfl); (· exact sTst))) | refine Dr.done ?_ | refine DrA.done ?_ | (focus (apply DrA.take; (· exact rfl); (· decide); (· exact sGon); (· exact sYCh3))) | (focus (apply Dr.take; (· exact rfl); (· decide); (· exact sGon); (· exact sYCh3))) | (focus (apply Dr.skip; (· exact rfl); (· decide); (· exact sGoff))) | (focus (apply Dr.goSkip; (· exact rfl); (· decide); (· exact sGoff))) | with_reducible refine T.n ?_ | with_reducible refine T.ret ?_ | with_reducible refine T.exit ?_ | with_reducible refine I.n ?_ | with_reducible refine I.ret ?_ | with_reducible refine I.hit ?_ | with_reducible refine I.miss (by decide) ?_); (repeat (first | (focus (apply L.val; (· decide); (· exact sYCh3))) | refine C.seq ?_ | refine C.region ?_ | refine L.nil ?_ | refine C.block ?_ | refine C.exit ?_ | refine C.skip ?_ | refine C.ret ?_ | (focus (apply L.on; (· exact rfl); (· decide); (· exact rfl); (· exact sTst))) | (focus (apply L.off; (· decide); (· exact rfl); (· decide); (· exact rfl); (· exact sTst))) | (focus (apply L.offU; (· decide); (· exact rfl); (· decide); (· exact rfl))) | (focus (apply C.condT; (· exact rfl); (· exact sTst))) | (focus (apply C.condF; (· exact rfl); (· exact sTst))) | refine Dr.done ?_ | refine DrA.done ?_ | (focus (apply DrA.take; (· exact rfl); (· decide); (· exact sGon); (· exact sYCh3))) | (focus (apply Dr.take; (· exact rfl); (· decide); (· exact sGon); (· exact sYCh3))) | (focus (apply Dr.skip; (· exact rfl); (· decide); (· exact sGoff))) | (focus (apply Dr.goSkip; (· exact rfl); (· decide); (· exact sGoff))) | with_reducible refine T.n ?_ | with_reducible refine T.ret ?_ | with_reducible refine T.exit ?_ | with_reducible refine I.n ?_ | with_reducible refine I.ret ?_ | with_reducible refine I.hit ?_ | with_reducible refine I.miss (by decide) ?_)); exact h.out) : p := h ⟨hq⟩
theorem vCh3 {p q : Prop} (hq : q) (h : Box q → p := by intro h; (first | (focus (apply L.val; (· decide); (· exact sYCh3))) | refine C.seq ?_ | refine C.region ?_ | refine L.nil ?_ | refine C.block ?_ | refine C.exit ?_ | refine C.skip ?_ | refine C.ret ?_ | (focus (apply L.on; (· exact rfl); (· decide); (· exact rfl); (· exact sTst))) | (focus (apply L.off; (· decide); (· exact rfl); (· decide); (· exact rfl); (· exact sTst))) | (focus (apply L.offU; (· decide); (· exact rfl); (· decide); (· exact rfl))) | (focus (apply C.condT; (· exact rfl); (· exact sTst))) | (focus (apply C.condF; (· exact rfl); (· exact sTst))) | refine Dr.done ?_ | refine DrA.done ?_ | (focus (apply DrA.take; (· exact rfl); (· decide); (· exact sGon); (· exact sYCh3))) | (focus (apply Dr.take; (· exact rfl); (· decide); (· exact sGon); (· exact sYCh3))) | (focus (apply Dr.skip; (· exact rfl); (· decide); (· exact sGoff))) | (focus (apply Dr.goSkip; (· exact rfl); (· decide); (· exact sGoff))) | with_reducible refine T.n ?_ | with_reducible refine T.ret ?_ | with_reducible refine T.exit ?_ | with_reducible refine I.n ?_ | with_reducible refine I.ret ?_ | with_reducible refine I.hit ?_ | with_reducible refine I.miss (by decide) ?_); exact h.out) : p := h ⟨hq⟩
theorem kCh3 {p q : Prop} (hq : q) (h : Box q → p := by intro h; first | (apply L.stepK; (· decide); (· exact sSCh3); exact h.out) | (apply L.step0K; (· exact sSCh3); exact h.out) | (apply Dr.goZ; (· exact rfl); (· rintro k ⟨⟩ <;> decide); (· exact sGon); (· exact sSCh3); exact h.out) | (apply Dr.goZs; (· exact rfl); (· rintro k ⟨⟩ <;> decide); (· exact sGon); (· exact sSCh3); exact h.out) | (apply Go1.goK; (· exact rfl); (· rintro k ⟨⟩ <;> decide); (· exact sGon); (· exact sSCh3); exact h.out) | (apply Dr.goK; (· exact rfl); (· rintro k ⟨⟩ <;> decide); (· exact sGon); (· exact sSCh3); exact h.out)) : p := h ⟨hq⟩
section
variable (E : Env) (A : Option Addr) (n c : Nat)
theorem call_long (l : List Chg) (hr : Rd E chgT A n c l) (h : 48 < n) : Tri Try.prog E 29 #[.slice A n c] [] fun e H' => e = .returned (.tuple #[.slice none 0 0, .int .i64 3]) ∧ H' = [] := by
  have hn := hr.len
  have hcap := hr.cap
  refine tri Try.func29 rfl Try.ntmps29 (by simp) ?_
  repeat (first | refine wCh3 ?_ | (refine kCh3 ?_; (first | rintro _ _ ⟨rfl, rfl⟩ | rintro _ _ ⟨_, rfl, rfl⟩ | rintro _ _ ⟨_, _, ⟨_, _⟩, rfl, rfl⟩); try refine ⟨sConv, ?_⟩) | refine Dr.two ?_ ?_)
  exact ret2 rfl sRet sRet sConv (⟨rfl, rfl⟩)
/-- what All answers -/
def AllPost (l : List Chg) (e : Ending) (H' : List Asn) : Prop :=
  match l.all Chg.may with
  | true => ∃ A' c', e = .returned (.tuple #[.slice A' (1 + 22 * l.length) c', .int .i64 0]) ∧ H' = [own octT A' (1 + 22 * l.length) c' (enlist l)]
  | false => e = .returned (.tuple #[.slice none 0 0, .int .i64 4]) ∧ H' = []
theorem call_any (l : List Chg) (hr : Rd E chgT A n c l) (h : n ≤ 48) : Tri Try.prog E 29 #[.slice A n c] [] (AllPost l) := by
  have hn := hr.len
  have hcap := hr.cap
  refine tri Try.func29 rfl Try.ntmps29 (by simp) ?_
  repeat (first | refine wCh3 ?_ | (refine kCh3 ?_; (first | rintro _ _ ⟨rfl, rfl⟩ | rintro _ _ ⟨_, rfl, rfl⟩ | rintro _ _ ⟨_, _, ⟨_, _⟩, rfl, rfl⟩); try refine ⟨sConv, ?_⟩) | refine Dr.two ?_ ?_)
  rename_i g
  have hu8 : UInt8.ofNat ((n : Int).toNat) = UInt8.ofNat l.length := by rw [Int.toNat_natCast, hn]
  rw [hu8]
  refine C.loop (X := Nat × Option Addr × Nat) (fun x => [(4, .slice x.2.1 (1 + 22 * x.1) x.2.2), (16, .slice A n c), (17, .int .i64 n), (18, .int .i64 x.1)]) (fun x => [own octT x.2.1 (1 + 22 * x.1) x.2.2 (UInt8.ofNat l.length :: putall (l.take x.1))]) (fun x => x.1 ≤ n ∧ (l.take x.1).all Chg.may = true) (fun x => n - x.1) (0, _, _) sHolds Conv.refl ⟨Nat.zero_le _, rfl⟩ ?_
  rintro ⟨i, A', c'⟩ G ⟨hi, hall⟩
  dsimp only at hi hall ⊢
  by_cases hlt : i < n
  · have hli : i < l.length := by omega
    have g1 : l[i]? = some l[i] := List.getElem?_eq_getElem hli
    have hstep : l.take (i + 1) = l.take i ++ [l[i]] := List.take_succ_eq_append_getElem hli
    have hmem : l[i] ∈ l := List.getElem_mem hli
    generalize l[i] = x at g1 hstep hmem
    have e1 : 1 + 22 * i + 22 = 1 + 22 * (i + 1) := by omega
    cases hm : x.may
    · have hno : l.all Chg.may = false := by
        rw [List.all_eq_false]
        exact ⟨x, hmem, by rw [hm]; simp⟩
      repeat (first | refine wCh3 ?_ | (refine kCh3 ?_; (first | rintro _ _ ⟨rfl, rfl⟩ | rintro _ _ ⟨_, rfl, rfl⟩ | rintro _ _ ⟨_, _, ⟨_, _⟩, rfl, rfl⟩); try refine ⟨sConv, ?_⟩) | refine Dr.two ?_ ?_)
      refine L.step (by decide) (S.call rfl rfl Try.func57 (by kernel_rfl) rfl sPicks (fun E' hE => cput_no E' x hm) ?_)
      rintro e H' ⟨rfl, rfl⟩
      refine ⟨_, rfl, _, sCat, ?_⟩
      repeat (first | refine wCh3 ?_ | (refine kCh3 ?_; (first | rintro _ _ ⟨rfl, rfl⟩ | rintro _ _ ⟨_, rfl, rfl⟩ | rintro _ _ ⟨_, _, ⟨_, _⟩, rfl, rfl⟩); try refine ⟨sConv, ?_⟩) | refine Dr.two ?_ ?_)
      unfold AllPost
      rw [hno]
      exact ret2 rfl sRet sRet sConv (⟨rfl, rfl⟩)
    · have e2 : UInt8.ofNat l.length :: putall (l.take i) ++ x.put = UInt8.ofNat l.length :: putall (l.take (i + 1)) := by rw [hstep, putall_snoc]; rfl
      repeat (first | refine wCh3 ?_ | (refine kCh3 ?_; (first | rintro _ _ ⟨rfl, rfl⟩ | rintro _ _ ⟨_, rfl, rfl⟩ | rintro _ _ ⟨_, _, ⟨_, _⟩, rfl, rfl⟩); try refine ⟨sConv, ?_⟩) | refine Dr.two ?_ ?_)
      refine L.step (by decide) (S.call rfl rfl Try.func57 (by kernel_rfl) rfl sPicks (fun E' hE => cput_ok E' x hm) ?_)
      rintro e H' ⟨A1, c1, rfl, rfl⟩
      refine ⟨_, rfl, _, sCat, ?_⟩
      repeat (first | refine wCh3 ?_ | (refine kCh3 ?_; (first | rintro _ _ ⟨rfl, rfl⟩ | rintro _ _ ⟨_, rfl, rfl⟩ | rintro _ _ ⟨_, _, ⟨_, _⟩, rfl, rfl⟩); try refine ⟨sConv, ?_⟩) | refine Dr.two ?_ ?_)
      rw [e1, e2]
      exact ⟨(i + 1, _, _), sHolds, sConv, ⟨by dsimp only; omega, by dsimp only; rw [hstep, List.all_append, hall]; simp [hm]⟩, by dsimp only; omega⟩
  · obtain rfl : i = n := by omega
    have e3 : l.take i = l := List.take_of_length_le (by omega)
    rw [e3] at hall ⊢
    unfold AllPost
    rw [hall, ← hn]
    repeat (first | refine wCh3 ?_ | (refine kCh3 ?_; (first | rintro _ _ ⟨rfl, rfl⟩ | rintro _ _ ⟨_, rfl, rfl⟩ | rintro _ _ ⟨_, _, ⟨_, _⟩, rfl, rfl⟩); try refine ⟨sConv, ?_⟩) | refine Dr.two ?_ ?_)
    exact ret2 rfl sRet sRet sConv (⟨_, _, rfl, by unfold enlist; rw [← hn]⟩)
end
section
variable (E : Env) (A : Option Addr) (n c : Nat)
theorem clist_bad (l : List UInt8) (hr : Rd E octT A n c l) (hl : n ≤ 140737488355300) (h : ∀ x t, l = x :: t → ¬ (x.toNat ≤ 48 ∧ t.length = 22 * x.toNat)) :
    Tri Try.prog E 47 #[.slice A n c] [] fun e H' => e = .returned (.tuple #[.slice none 0 0, .int .i64 16]) ∧ H' = [] := by
  have hn := hr.len
  have hcap := hr.cap
  refine tri Try.func47 rfl Try.ntmps47 (by simp) ?_
  repeat (first | refine wCh3 ?_ | (refine kCh3 ?_; (first | rintro _ _ ⟨rfl, rfl⟩ | rintro _ _ ⟨_, rfl, rfl⟩ | rintro _ _ ⟨_, _, ⟨_, _⟩, rfl, rfl⟩); try refine ⟨sConv, ?_⟩) | refine Dr.two ?_ ?_)
  refine L.step (by decide) (S.call rfl rfl Try.func17 (by kernel_rfl) rfl sPicks (fun E' hE => new_any E' A n c l sRd (by omega)) ?_)
  rintro e H' ⟨g, A0, c0, rfl, h5, h6, rfl⟩
  refine ⟨_, rfl, _, sCat, ?_⟩
  repeat (first | refine wCh3 ?_ | (refine kCh3 ?_; (first | rintro _ _ ⟨rfl, rfl⟩ | rintro _ _ ⟨_, rfl, rfl⟩ | rintro _ _ ⟨_, _, ⟨_, _⟩, rfl, rfl⟩); try refine ⟨sConv, ?_⟩) | refine Dr.two ?_ ?_)
  refine L.step (by decide) (S.call rfl rfl Try.func41 (by kernel_rfl) rfl sPicks (fun E' hE => take_any E' g false A0 n c0 l 1 sRd) ?_)
  cases l with
  | nil =>
    rw [show nx false ([] : List UInt8) (wid 1) = (none, true, []) from rfl]
    rintro e H' ⟨A1, n1, c1, rfl, hal1, rfl⟩
    refine ⟨_, rfl, _, sCat, ?_⟩
    simp only [tk]
    repeat (first | refine wCh3 ?_ | (refine kCh3 ?_; (first | rintro _ _ ⟨rfl, rfl⟩ | rintro _ _ ⟨_, rfl, rfl⟩ | rintro _ _ ⟨_, _, ⟨_, _⟩, rfl, rfl⟩); try refine ⟨sConv, ?_⟩) | refine Dr.two ?_ ?_)
    refine L.step (by decide) (S.call rfl rfl Try.func72 (by kernel_rfl) rfl sPicks (fun E' hE => bad_any E' g true true A1 n1 c1) ?_)
    rintro e H' ⟨rfl, rfl⟩
    refine ⟨_, rfl, _, sCat, ?_⟩
    repeat (first | refine wCh3 ?_ | (refine kCh3 ?_; (first | rintro _ _ ⟨rfl, rfl⟩ | rintro _ _ ⟨_, rfl, rfl⟩ | rintro _ _ ⟨_, _, ⟨_, _⟩, rfl, rfl⟩); try refine ⟨sConv, ?_⟩) | refine Dr.two ?_ ?_)
    exact ret2 rfl sRet sRet sConv (⟨rfl, rfl⟩)
  | cons x t =>
    have hx := UInt8.toNat_lt x
    rw [show nx false (x :: t) (wid 1) = (some [x], false, t) from nx_ok (k := 1) (by simp)]
    rintro e H' ⟨A1, n1, c1, rfl, hal1, rfl⟩
    refine ⟨_, rfl, _, sCat, ?_⟩
    have hg : Oct.get [x] = x.toNat := by simp [Oct.get]
    simp only [tk, hg]
    repeat (first | refine wCh3 ?_ | (refine kCh3 ?_; (first | rintro _ _ ⟨rfl, rfl⟩ | rintro _ _ ⟨_, rfl, rfl⟩ | rintro _ _ ⟨_, _, ⟨_, _⟩, rfl, rfl⟩); try refine ⟨sConv, ?_⟩) | refine Dr.two ?_ ?_)
    refine L.step (by decide) (S.call rfl rfl Try.func72 (by kernel_rfl) rfl sPicks (fun E' hE => bad_any E' g true false A1 n1 c1) ?_)
    rintro e H' ⟨rfl, rfl⟩
    refine ⟨_, rfl, _, sCat, ?_⟩
    by_cases h48 : x.toNat ≤ 48
    · have ht : t.length ≠ 22 * x.toNat := fun ht => h x t rfl ⟨h48, ht⟩
      simp only [List.length_cons] at hn
      repeat (first | refine wCh3 ?_ | (refine kCh3 ?_; (first | rintro _ _ ⟨rfl, rfl⟩ | rintro _ _ ⟨_, rfl, rfl⟩ | rintro _ _ ⟨_, _, ⟨_, _⟩, rfl, rfl⟩); try refine ⟨sConv, ?_⟩) | refine Dr.two ?_ ?_)
      refine L.step (by decide) (S.call rfl rfl Try.func46 (by kernel_rfl) rfl sPicks (fun E' hE => left_any E' g false A1 n1 c1 t (hal1 _ sRd)) ?_)
      rw [if_neg Bool.false_ne_true]
      rintro e H' ⟨rfl, rfl⟩
      refine ⟨_, rfl, _, sCat, ?_⟩
      repeat (first | refine wCh3 ?_ | (refine kCh3 ?_; (first | rintro _ _ ⟨rfl, rfl⟩ | rintro _ _ ⟨_, rfl, rfl⟩ | rintro _ _ ⟨_, _, ⟨_, _⟩, rfl, rfl⟩); try refine ⟨sConv, ?_⟩) | refine Dr.two ?_ ?_)
      exact ret2 rfl sRet sRet sConv (⟨rfl, rfl⟩)
    · repeat (first | refine wCh3 ?_ | (refine kCh3 ?_; (first | rintro _ _ ⟨rfl, rfl⟩ | rintro _ _ ⟨_, rfl, rfl⟩ | rintro _ _ ⟨_, _, ⟨_, _⟩, rfl, rfl⟩); try refine ⟨sConv, ?_⟩) | refine Dr.two ?_ ?_)
      exact ret2 rfl sRet sRet sConv (⟨rfl, rfl⟩)
/-- what List answers of pieces -/
def ListPost (r : Option (List Chg)) (e : Ending) (H' : List Asn) : Prop :=
  match r with
  | some xs => ∃ O co, e = .returned (.tuple #[.slice O xs.length co, .int .i64 0]) ∧ H' = [own chgT O xs.length co xs]
  | none => e = .returned (.tuple #[.slice none 0 0, .int .i64 16]) ∧ H' = []
theorem clist_ok (x : UInt8) (t : List UInt8) (hr : Rd E octT A n c (x :: t)) (h48 : x.toNat ≤ 48) (ht : t.length = 22 * x.toNat) :
    Tri Try.prog E 47 #[.slice A n c] [] (ListPost (pieces x.toNat t)) := by
  have hn := hr.len
  have hcap := hr.cap
  simp only [List.length_cons] at hn
  have hg : Oct.get [x] = x.toNat := by simp [Oct.get]
  refine tri Try.func47 rfl Try.ntmps47 (by simp) ?_
  repeat (first | refine wCh3 ?_ | (refine kCh3 ?_; (first | rintro _ _ ⟨rfl, rfl⟩ | rintro _ _ ⟨_, rfl, rfl⟩ | rintro _ _ ⟨_, _, ⟨_, _⟩, rfl, rfl⟩); try refine ⟨sConv, ?_⟩) | refine Dr.two ?_ ?_)
  refine L.step (by decide) (S.call rfl rfl Try.func17 (by kernel_rfl) rfl sPicks (fun E' hE => new_any E' A n c (x :: t) sRd (by omega)) ?_)
  rintro e H' ⟨g, A0, c0, rfl, h5, h6, rfl⟩
  refine ⟨_, rfl, _, sCat, ?_⟩
  repeat (first | refine wCh3 ?_ | (refine kCh3 ?_; (first | rintro _ _ ⟨rfl, rfl⟩ | rintro _ _ ⟨_, rfl, rfl⟩ | rintro _ _ ⟨_, _, ⟨_, _⟩, rfl, rfl⟩); try refine ⟨sConv, ?_⟩) | refine Dr.two ?_ ?_)
  refine L.step (by decide) (S.call rfl rfl Try.func41 (by kernel_rfl) rfl sPicks (fun E' hE => take_any E' g false A0 n c0 (x :: t) 1 sRd) ?_)
  rw [show nx false (x :: t) (wid 1) = (some [x], false, t) from nx_ok (k := 1) (by simp)]
  rintro e H' ⟨A1, n1, c1, rfl, hal1, rfl⟩
  refine ⟨_, rfl, _, sCat, ?_⟩
  simp only [tk, hg]
  generalize x.toNat = k at *
  repeat (first | refine wCh3 ?_ | (refine kCh3 ?_; (first | rintro _ _ ⟨rfl, rfl⟩ | rintro _ _ ⟨_, rfl, rfl⟩ | rintro _ _ ⟨_, _, ⟨_, _⟩, rfl, rfl⟩); try refine ⟨sConv, ?_⟩) | refine Dr.two ?_ ?_)
  refine L.step (by decide) (S.call rfl rfl Try.func72 (by kernel_rfl) rfl sPicks (fun E' hE => bad_any E' g true false A1 n1 c1) ?_)
  rintro e H' ⟨rfl, rfl⟩
  refine ⟨_, rfl, _, sCat, ?_⟩
  repeat (first | refine wCh3 ?_ | (refine kCh3 ?_; (first | rintro _ _ ⟨rfl, rfl⟩ | rintro _ _ ⟨_, rfl, rfl⟩ | rintro _ _ ⟨_, _, ⟨_, _⟩, rfl, rfl⟩); try refine ⟨sConv, ?_⟩) | refine Dr.two ?_ ?_)
  refine L.step (by decide) (S.call rfl rfl Try.func46 (by kernel_rfl) rfl sPicks (fun E' hE => left_any E' g false A1 n1 c1 t (hal1 _ sRd)) ?_)
  rw [if_neg Bool.false_ne_true]
  rintro e H' ⟨rfl, rfl⟩
  refine ⟨_, rfl, _, sCat, ?_⟩
  repeat (first | refine wCh3 ?_ | (refine kCh3 ?_; (first | rintro _ _ ⟨rfl, rfl⟩ | rintro _ _ ⟨_, rfl, rfl⟩ | rintro _ _ ⟨_, _, ⟨_, _⟩, rfl, rfl⟩); try refine ⟨sConv, ?_⟩) | refine Dr.two ?_ ?_)
  unfold adr
  refine C.loop (X := List Chg × (Option Addr × Nat) × Option Addr × Nat × Nat) (fun q => [(4, .pointer (some ⟨g, 0, none⟩)), (7, .slice q.2.1.1 q.1.length q.2.1.2), (33, .int .u64 k), (34, .int .u64 q.1.length)])
    (fun q => [rdr g true false q.2.2.1 q.2.2.2.1 q.2.2.2.2, own octT A0 n c0 (x :: t), own chgT q.2.1.1 q.1.length q.2.1.2 q.1]) (fun q => q.1.length ≤ k ∧ pieces k t = (pieces (k - q.1.length) (t.drop (22 * q.1.length))).map (q.1 ++ ·) ∧ Also A0 n c0 (x :: t) q.2.2.1 q.2.2.2.1 q.2.2.2.2 (t.drop (22 * q.1.length)))
    (fun q => k - q.1.length) ([], (none, 0), A1, n1, c1) sHolds (by simp only [List.length_nil]; exact (Conv.nil chgT).trans sConv) ⟨Nat.zero_le _, by simp, hal1⟩ ?_
  rintro ⟨xs, ⟨O, co⟩, A2, n2, c2⟩ G ⟨hk, hp, hal⟩
  dsimp only at hk hp hal ⊢
  by_cases hlt : xs.length < k
  · have hl22 : ((t.drop (22 * xs.length)).take 22).length = 22 := by simp; omega
    have hnx : nx false (t.drop (22 * xs.length)) 22 = (some ((t.drop (22 * xs.length)).take 22), false, (t.drop (22 * xs.length)).drop 22) := nx_ok (k := 22) (by simp; omega)
    have hdd : (t.drop (22 * xs.length)).drop 22 = t.drop (22 * (xs.length + 1)) := by rw [List.drop_drop]; congr 1
    have hlen : (t.drop (22 * xs.length)).length ≤ 140737488355328 := by simp; omega
    have hpk : k - xs.length = (k - (xs.length + 1)) + 1 := by omega
    rw [hpk, pieces, hdd] at hp
    repeat (first | refine wCh3 ?_ | (refine kCh3 ?_; (first | rintro _ _ ⟨rfl, rfl⟩ | rintro _ _ ⟨_, rfl, rfl⟩ | rintro _ _ ⟨_, _, ⟨_, _⟩, rfl, rfl⟩); try refine ⟨sConv, ?_⟩) | refine Dr.two ?_ ?_)
    refine L.step (by decide) (S.call rfl rfl Try.func43 (by kernel_rfl) rfl sPicks (fun E' hE => bytes_any E' g false A2 n2 c2 (t.drop (22 * xs.length)) 22 (hal _ sRd) hlen) ?_)
    rw [hnx, hdd]
    rintro e H' ⟨A3, n3, c3, B, d, rfl, hal3, hmd, hd3, rfl⟩
    dsimp only [Option.getD, Option.isSome] at hmd ⊢
    rw [hl22] at hmd ⊢
    refine ⟨_, rfl, _, sCat, ?_⟩
    cases hc : cget ((t.drop (22 * xs.length)).take 22) with
    | none =>
      rw [hc] at hp
      repeat (first | refine wCh3 ?_ | (refine kCh3 ?_; (first | rintro _ _ ⟨rfl, rfl⟩ | rintro _ _ ⟨_, rfl, rfl⟩ | rintro _ _ ⟨_, _, ⟨_, _⟩, rfl, rfl⟩); try refine ⟨sConv, ?_⟩) | refine Dr.two ?_ ?_)
      refine L.step (by decide) (S.call rfl rfl Try.func73 (by kernel_rfl) rfl sPicks (fun E' hE => cget_any E' B 22 d _ none hc sRd (by decide)) ?_)
      rintro e H' ⟨rfl, rfl⟩
      refine ⟨_, rfl, _, sCat, ?_⟩
      dsimp only [Option.getD, Option.isSome]
      rw [if_neg Bool.false_ne_true]
      repeat (first | refine wCh3 ?_ | (refine kCh3 ?_; (first | rintro _ _ ⟨rfl, rfl⟩ | rintro _ _ ⟨_, rfl, rfl⟩ | rintro _ _ ⟨_, _, ⟨_, _⟩, rfl, rfl⟩); try refine ⟨sConv, ?_⟩) | refine Dr.two ?_ ?_)
      rw [hp]
      exact ret2 rfl sRet sRet sConv (⟨rfl, rfl⟩)
    | some y =>
      rw [hc] at hp
      repeat (first | refine wCh3 ?_ | (refine kCh3 ?_; (first | rintro _ _ ⟨rfl, rfl⟩ | rintro _ _ ⟨_, rfl, rfl⟩ | rintro _ _ ⟨_, _, ⟨_, _⟩, rfl, rfl⟩); try refine ⟨sConv, ?_⟩) | refine Dr.two ?_ ?_)
      refine L.step (by decide) (S.call rfl rfl Try.func73 (by kernel_rfl) rfl sPicks (fun E' hE => cget_any E' B 22 d _ (some y) hc sRd (by decide)) ?_)
      rintro e H' ⟨rfl, rfl⟩
      refine ⟨_, rfl, _, sCat, ?_⟩
      dsimp only [Option.getD, Option.isSome]
      rw [if_pos rfl]
      repeat (first | refine wCh3 ?_ | (refine kCh3 ?_; (first | rintro _ _ ⟨rfl, rfl⟩ | rintro _ _ ⟨_, rfl, rfl⟩ | rintro _ _ ⟨_, _, ⟨_, _⟩, rfl, rfl⟩); try refine ⟨sConv, ?_⟩) | refine Dr.two ?_ ?_)
      rename_i O' co' _ _
      refine ⟨(xs ++ [y], (O', co'), A3, n3, c3), ?_, ?_, ⟨by simp; omega, ?_, ?_⟩, by simp; omega⟩
      · dsimp only
        rw [show (xs ++ [y]).length = xs.length + 1 by simp]
        exact sHolds
      · dsimp only
        rw [show (xs ++ [y]).length = xs.length + 1 by simp]
        exact sConv
      · dsimp only
        rw [show (xs ++ [y]).length = xs.length + 1 by simp, hp]
        cases pieces (k - (xs.length + 1)) (t.drop (22 * (xs.length + 1))) <;> simp
      · dsimp only
        rw [show (xs ++ [y]).length = xs.length + 1 by simp]
        exact hal.trans hal3
  · have hkk : xs.length = k := by omega
    rw [hkk, Nat.sub_self] at hp
    have hp : pieces k t = some xs := by rw [hp]; simp [pieces]
    rw [hp]
    repeat (first | refine wCh3 ?_ | (refine kCh3 ?_; (first | rintro _ _ ⟨rfl, rfl⟩ | rintro _ _ ⟨_, rfl, rfl⟩ | rintro _ _ ⟨_, _, ⟨_, _⟩, rfl, rfl⟩); try refine ⟨sConv, ?_⟩) | refine Dr.two ?_ ?_)
    exact ret2 rfl sRet sRet sConv (⟨_, _, rfl, rfl⟩)
end
end Go.Proofs.Ytihblcljkndpgaa.Sep
