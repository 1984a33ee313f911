/- octet.Put, and the document's Put, by parts of memory. -/
import Derived.Test.YtkhmplaocfjpjaaOct2
namespace Go.Proofs.Ytkhmplaocfjpjaa.Sep
open Go.RowKit Go.Proofs.Ytkhmplaocfjpjaa.Reg Go.Proofs.Ytkhmplaocfjpjaa.Oct
open Go.Proofs.Ytkhmplaocfjpjaa.Mem hiding Rd Own
-- types: octT
set_option maxRecDepth 100000
set_option maxHeartbeats 8000000
theorem sYOc3 {P : Program} {E : Env} {H : List Asn} {ρ : Operand → Value} {o : Oper} {v : Value} (h : Yld P E H ρ o v := by first | (intro _ _; first | (first | (apply V.move; (· exact rfl); (· exact sLk)) | (apply V.assign; (· exact rfl); (· exact sLk)) | (apply V.nilCheck; (· exact rfl); (· exact rfl)) | (apply V.fieldAddr; (· exact rfl); (· exact rfl); (· exact rfl); (· exact rfl); (· exact rfl); (· decide); (· exact sLk); (· exact sAdd)) | (apply V.extract; (· exact rfl); (· exact rfl); (· exact rfl)) | (apply V.not; (· exact rfl); (· exact rfl)) | (apply V.pickT; (· exact rfl); (· exact rfl); (· exact sTst); (· exact sLk)) | (apply V.pickF; (· exact rfl); (· exact rfl); (· exact sTst); (· exact sLk))) | (first | (apply V.add; (· exact rfl); (· exact rfl); (· exact rfl); (· exact sNum)) | (apply V.sub; (· exact rfl); (· exact rfl); (· exact rfl); (· exact sNum)) | (apply V.mul; (· exact rfl); (· exact rfl); (· exact rfl); (· exact sNum)) | (apply V.lss; (· exact rfl); (· exact rfl); (· exact rfl)) | (apply V.leq; (· exact rfl); (· exact rfl); (· exact rfl)) | (apply V.gtr; (· exact rfl); (· exact rfl); (· exact rfl)) | (apply V.geq; (· exact rfl); (· exact rfl); (· exact rfl)) | (apply V.eql; (· exact rfl); (· exact rfl); (· exact rfl))) | (first | (apply V.neq; (· exact rfl); (· exact rfl); (· exact rfl)) | (apply V.neqP; (· exact rfl); (· exact rfl); (· exact rfl); (· exact rfl)) | (apply V.eqlP; (· exact rfl); (· exact rfl); (· exact rfl); (· exact rfl)) | (apply V.eqlN; (· exact rfl); (· exact rfl); (· exact rfl); (· exact rfl)) | (apply V.neqN; (· exact rfl); (· exact rfl); (· exact rfl); (· exact rfl)) | (apply V.len; (· exact rfl); (· exact rfl); (· exact rfl); (· exact sMax)) | (apply V.conv; (· exact rfl); (· exact rfl); (· exact rfl); (· exact rfl); (· exact sNum)) | (apply V.shl8; (· exact rfl); (· exact rfl); (· exact rfl); (· exact sNum))) | (first | (apply V.shl; (· exact rfl); (· exact rfl); (· exact rfl); (· exact sOm); (· exact sNum)) | (apply V.shr; (· exact rfl); (· exact rfl); (· exact rfl); (· exact sOm); (· exact sNum)) | (apply V.quo; (· exact rfl); (· exact rfl); (· exact rfl); (· exact sOm); (· exact sQuo)) | (apply V.rem; (· exact rfl); (· exact rfl); (· exact rfl); (· exact sOm); (· exact sRem)) | (apply V.bits_; (· exact rfl); (· decide); (· exact rfl); (· exact rfl); (· exact sNum)) | (apply V.neg; (· exact rfl); (· exact rfl); (· exact sNum)) | (apply V.eqlS; (· exact rfl); (· exact rfl); (· exact rfl)) | (apply V.neqS; (· exact rfl); (· exact rfl); (· exact rfl))) | (first | (apply V.eqlB; (· exact rfl); (· exact rfl); (· exact rfl); (· exact rfl)) | (apply V.neqB; (· exact rfl); (· exact rfl); (· exact rfl); (· exact rfl)) | (apply V.max; (· exact rfl); (· exact rfl); (· exact rfl)) | (apply V.min; (· exact rfl); (· exact rfl); (· exact rfl)))) | (first | (first | (apply Y.load; (· exact rfl); (· exact rfl); (· exact rfl); (· exact rfl); (· exact sCell)) | (apply Y.indexAddr; (· exact rfl); (· exact rfl); (· exact rfl); (· exact sRdH); (· exact sJ); (· exact sOm); (· exact sAsm); (· exact sRfl); (· exact sRfl)) | (apply Y.loadElem; (· exact rfl); (· exact rfl); (· exact sRdH); rotate_left; (· exact sRfl); rotate_right; (· exact sAsm); (· exact sRfl)) | (apply Y.sliceArr; (· exact rfl); (· exact rfl); (· exact rfl); (· exact rfl)) | (apply Y.loadBlk; (· exact rfl); (· exact rfl); (· exact rfl); (· exact rfl); (· exact rfl); (· exact rfl); (· exact sHas); (· exact sSeg)) | (apply Y.loadPart; (· exact rfl); (· exact rfl); (· exact sRdH); rotate_left; (· exact sRfl); rotate_right; (· exact sAsm); (· exact rfl); (· exact rfl); (· exact rfl); (· exact rfl); (· exact sSeg)) | (apply Y.fieldL; (· exact rfl); (· exact rfl); (· exact rfl); (· exact rfl); (· exact rfl); (· exact rfl); (· exact rfl)) | (apply Y.fieldS; (· exact rfl); (· exact rfl); (· exact rfl); (· exact rfl); (· exact rfl); (· exact rfl); (· exact rfl); (· exact rfl); (· exact rfl); (· exact sSeg))) | (first | (apply Y.len; (· exact rfl); (· exact rfl); (· exact sRdH); (· exact sRfl)) | (apply Y.str; (· exact rfl); (· exact rfl); (· exact sRdH)) | (apply Y.sliceLo; (· exact rfl); (· exact rfl); (· exact rfl); (· exact sRdH); (· exact sJ); (· exact sOm); (· exact sOm); (· exact sRfl)) | (apply Y.sliceHi; (· exact rfl); (· exact rfl); (· exact rfl); (· exact sRdH); (· exact sJ); (· exact sOm); (· exact sOm); (· exact sRfl)) | (apply Y.sliceHiMax; (· exact rfl); (· exact rfl); (· exact rfl); (· exact rfl); (· exact sRdH); (· exact sJ); (· exact sOm); (· exact sJ); (· exact sOm); (· exact sOm); (· exact sOm); (· exact sRfl)) | (apply Y.sliceLoHi; (· exact rfl); (· exact rfl); (· exact rfl); (· exact rfl); (· exact sRdH); (· exact sJ); (· exact sOm); (· exact sJ); (· exact sOm); (· exact sOm); (· exact sOm); (· exact sRfl)) | (apply Y.strLen; (· exact rfl); (· exact rfl); (· exact rfl); (· exact sMax)) | (apply Y.indexStr; (· exact rfl); (· exact rfl); (· exact rfl); (· exact rfl); (· exact sJ); (· exact sOm); (· exact sAsm))))) : Yld P E H ρ o v := h
theorem sSOc3 {P : Program} {N : Nat} {E : Env} {F : Nat → Value} {H : List Asn} {o : Oper} {K : Value → List Asn → Prop} (h : Stp P N E F H o K := by first | (first | (apply S.boxK; (· exact rfl); (· exact sLk); (· exact sCel)) | (apply S.append1K; (· exact rfl); (· exact rfl); (· exact rfl); (· exact rfl); (· exact sNN); (· exact (fun _ _ => sRepl)); (· exact sNL); (· exact sRfl); (· first | (conv => lhs; simp only [octT]) | rfl); (· exact sOm); (· exact sOm)) | (apply S.appendK; (· exact rfl); (· exact rfl); (· exact rfl); (· exact sNN); (· exact (fun _ _ => sRepl)); (· exact sRdH); (· exact sNL); (· exact sRfl); (· first | (conv => lhs; simp only [octT]) | rfl); (· exact sOm); (· exact sOm)) | (apply S.appendNilK; (· exact rfl); (· exact rfl); (· exact rfl); (· exact sRdH); (· exact sRfl); (· first | (conv => lhs; simp only [octT]) | rfl); (· exact sOm); (· exact sOm)) | (apply (S.buildSliceK (T := octT) (l := [])); (· exact rfl); (· exact rfl); (· exact rfl); (· exact rfl); (· decide)) | (apply (S.buildSlice1K (T := octT)); (· exact rfl); (· exact sLk); (· first | rfl | (with_reducible exact octT_val _ sOm sOm)); (· exact rfl); (· decide)) | (apply (S.storeEK (T := octT)); (· exact rfl); (· exact rfl); (· exact sLk); (· exact sRepl); rotate_left; (· exact sRfl); rotate_right; (· exact sAsm); (· first | rfl | (with_reducible exact octT_val _ sOm sOm)); (· exact sRfl)) | (apply (S.makeSliceK (T := octT) (z := octT_z)); (· exact rfl); (· exact rfl); (· exact rfl); (· exact sJ); (· exact sOm); (· exact rfl); (· exact rfl); (· first | (conv => lhs; simp only [octT]) | rfl); (· exact sOm); (· exact sOm))) | (first | (apply S.storeAggK; (· exact rfl); (· exact rfl); (· exact sLk); (· exact rfl); (· exact rfl); (· exact rfl); (· exact sRepl); (· exact sPut)) | (apply S.copyInK; (· exact rfl); (· exact rfl); (· exact rfl); (· exact sAsm); (· exact sRepl); (· exact sRdH); rotate_left; (· exact rfl); rotate_right; (· exact sAsm); (· exact sOm); (· exact sAsm); (· exact rfl); (· exact sMax)) | (apply S.store1K; (· exact rfl); (· exact rfl); (· exact sLk); (· exact sRfl); (· exact rfl); (· exact rfl); (· exact sRepl); (· exact sLn); (· exact sSetL)))) : Stp P N E F H o K := h
theorem wOc3 {p q : Prop} (hq : q) (h : Box q → p := by intro h; (first | (focus (apply L.val; (· decide); (· exact sYOc3))) | refine C.seq ?_ | refine C.region ?_ | refine L.nil ?_ | refine C.block ?_ | refine C.exit ?_ | refine C.skip ?_ | refine C.ret ?_ | (focus (apply L.on; (· exact rfl); (· decide); (· exact rfl); (· exact sTst))) | (focus (apply L.off; (· decide); (· exact rfl); (· decide); (· exact rfl); (· exact sTst))) | (focus (apply L.offU; (· decide); (· exact rfl); (· decide); (· exact rfl))) | (focus (apply C.condT; (· exact rfl); (· exact sTst))) | (focus (apply C.condF; (· exact rfl); (· exact sTst))) | refine Dr.done ?_ | refine DrA.done ?_ | (focus (apply DrA.take; (· exact rfl); (· decide); (· exact sGon); (· exact sYOc3))) | (focus (apply Dr.take; (· exact rfl); (· decide); (· exact sGon); (· exact sYOc3))) | (focus (apply Dr.skip; (· exact rfl); (· decide); (· exact sGoff))) | (focus (apply Dr.goSkip; (· exact rfl); (· decide); (· exact sGoff))) | with_reducible refine T.n ?_ | with_reducible refine T.ret ?_ | with_reducible refine T.exit ?_ | with_reducible refine I.n ?_ | with_reducible refine I.ret ?_ | with_reducible refine I.hit ?_ | with_reducible refine I.miss (by decide) ?_); (repeat (first | (focus (apply L.val; (· decide); (· exact sYOc3))) | refine C.seq ?_ | refine C.region ?_ | refine L.nil ?_ | refine C.block ?_ | refine C.exit ?_ | refine C.skip ?_ | refine C.ret ?_ | (focus (apply L.on; (· exact rfl); (· decide); (· exact rfl); (· exact sTst))) | (focus (apply L.off; (· decide); (· exact rfl); (· decide); (· exact rfl); (· exact sTst))) | (focus (apply L.offU; (· decide); (· exact rfl); (· decide); (· exact rfl))) | (focus (apply C.condT; (· exact rfl); (· exact sTst))) | (focus (apply C.condF; (· exact rfl); (· exact sTst))) | refine Dr.done ?_ | refine DrA.done ?_ | (focus (apply DrA.take; (· exact rfl); (· decide); (· exact sGon); (· exact sYOc3))) | (focus (apply Dr.take; (· exact rfl); (· decide); (· exact sGon); (· exact sYOc3))) | (focus (apply Dr.skip; (· exact rfl); (· decide); (· exact sGoff))) | (focus (apply Dr.goSkip; (· exact rfl); (· decide); (· exact sGoff))) | with_reducible refine T.n ?_ | with_reducible refine T.ret ?_ | with_reducible refine T.exit ?_ | with_reducible refine I.n ?_ | with_reducible refine I.ret ?_ | with_reducible refine I.hit ?_ | with_reducible refine I.miss (by decide) ?_)); exact h.out) : p := h ⟨hq⟩
theorem vOc3 {p q : Prop} (hq : q) (h : Box q → p := by intro h; (first | (focus (apply L.val; (· decide); (· exact sYOc3))) | refine C.seq ?_ | refine C.region ?_ | refine L.nil ?_ | refine C.block ?_ | refine C.exit ?_ | refine C.skip ?_ | refine C.ret ?_ | (focus (apply L.on; (· exact rfl); (· decide); (· exact rfl); (· exact sTst))) | (focus (apply L.off; (· decide); (· exact rfl); (· decide); (· exact rfl); (· exact sTst))) | (focus (apply L.offU; (· decide); (· exact rfl); (· decide); (· exact rfl))) | (focus (apply C.condT; (· exact rfl); (· exact sTst))) | (focus (apply C.condF; (· exact rfl); (· exact sTst))) | refine Dr.done ?_ | refine DrA.done ?_ | (focus (apply DrA.take; (· exact rfl); (· decide); (· exact sGon); (· exact sYOc3))) | (focus (apply Dr.take; (· exact rfl); (· decide); (· exact sGon); (· exact sYOc3))) | (focus (apply Dr.skip; (· exact rfl); (· decide); (· exact sGoff))) | (focus (apply Dr.goSkip; (· exact rfl); (· decide); (· exact sGoff))) | with_reducible refine T.n ?_ | with_reducible refine T.ret ?_ | with_reducible refine T.exit ?_ | with_reducible refine I.n ?_ | with_reducible refine I.ret ?_ | with_reducible refine I.hit ?_ | with_reducible refine I.miss (by decide) ?_); exact h.out) : p := h ⟨hq⟩
theorem kOc3 {p q : Prop} (hq : q) (h : Box q → p := by intro h; first | (apply L.stepK; (· decide); (· exact sSOc3); exact h.out) | (apply L.step0K; (· exact sSOc3); exact h.out) | (apply Dr.goZ; (· exact rfl); (· rintro k ⟨⟩ <;> decide); (· exact sGon); (· exact sSOc3); exact h.out) | (apply Dr.goZs; (· exact rfl); (· rintro k ⟨⟩ <;> decide); (· exact sGon); (· exact sSOc3); exact h.out) | (apply Go1.goK; (· exact rfl); (· rintro k ⟨⟩ <;> decide); (· exact sGon); (· exact sSOc3); exact h.out) | (apply Dr.goK; (· exact rfl); (· rintro k ⟨⟩ <;> decide); (· exact sGon); (· exact sSOc3); exact h.out)) : p := h ⟨hq⟩

theorem shr_eq (n i : Nat) (h : i < 8) : ((n : Int)) / 2 ^ min ((8 * (i : Int)).toNat) IntKind.u64.bits = ((n / 2 ^ (8 * i) : Nat) : Int) := by
  have e : min ((8 * (i : Int)).toNat) IntKind.u64.bits = 8 * i := by
    have h1 : (8 * (i : Int)).toNat = 8 * i := by omega
    have h2 : IntKind.u64.bits = 64 := rfl
    rw [h1, h2]; omega
  rw [e, div_pow_cast]
def PutPost (r : List UInt8) (e : Ending) (H' : List Asn) : Prop := ∃ A' c', e = .returned (.slice A' r.length c') ∧ r.length ≤ c' ∧ c' ≤ maxLen ∧ H' = [own octT A' r.length c' r]
theorem put_any (E : Env) (A : Option Addr) (nl cap : Nat) (l : List UInt8) (n : Nat) (w : Int) (hr : Rd E octT A nl cap l) (hn : n < 18446744073709551616) (hl : nl ≤ 140737488355300) :
    Tri Try.prog E 115 #[.slice A nl cap, .int .u64 n, .int .i64 w] [] (PutPost (Oct.put l n w)) := by
  have hnl := hr.len
  refine tri Try.func115 rfl Try.ntmps115 (by simp) ?_
  by_cases hw : w < 1 ∨ 8 < w
  · have hp : Oct.put l n w = l := by simp [Oct.put, hw]
    rw [hp]
    subst hnl
    by_cases h1 : w < 1
    all_goals
      repeat (first | refine wOc3 ?_ | (refine kOc3 ?_; (first | rintro _ _ ⟨rfl, rfl⟩ | rintro _ _ ⟨_, rfl, rfl⟩ | rintro _ _ ⟨_, _, ⟨_, _⟩, rfl, rfl⟩); try refine ⟨sConv, ?_⟩) | refine Dr.two ?_ ?_)
      exact ret1 rfl sRet sConv (⟨_, _, rfl, by assumption, by assumption, rfl⟩)
  · have hp : Oct.put l n w = l ++ be n w.toNat := by simp [Oct.put, hw]
    rw [hp]
    obtain ⟨w, rfl⟩ := Int.eq_ofNat_of_zero_le (show 0 ≤ w by omega)
    rw [Int.toNat_natCast]
    repeat (first | refine wOc3 ?_ | (refine kOc3 ?_; (first | rintro _ _ ⟨rfl, rfl⟩ | rintro _ _ ⟨_, rfl, rfl⟩ | rintro _ _ ⟨_, _, ⟨_, _⟩, rfl, rfl⟩); try refine ⟨sConv, ?_⟩) | refine Dr.two ?_ ?_)
    refine C.loop (X := Nat × Option Addr × Nat) (fun x => [(1, .int .u64 n), (7, .slice x.2.1 (nl + x.1) x.2.2), (8, .int .i64 ((w : Int) - 1 - x.1))]) (fun x => [own octT x.2.1 (nl + x.1) x.2.2 (l ++ (be n w).take x.1)]) (fun x => x.1 ≤ w ∧ nl + x.1 ≤ x.2.2 ∧ x.2.2 ≤ maxLen) (fun x => w - x.1) (0, _, _) sHolds (by simp only [List.take_zero, List.append_nil]; exact Conv.refl) ⟨Nat.zero_le _, by assumption, by assumption⟩ ?_
    rintro ⟨k, A', c'⟩ G ⟨hk, hc1, hc2⟩
    dsimp only at hk hc1 hc2 ⊢
    by_cases hlt : k < w
    · obtain ⟨i, hi⟩ : ∃ i : Nat, (w : Int) - 1 - k = i := ⟨w - 1 - k, by omega⟩
      have e1 := shr_eq n i (by omega)
      have e2 : l ++ (be n w).take k ++ [UInt8.ofNat (((n / 2 ^ (8 * i) : Nat) : Int) % 256).toNat] = l ++ (be n w).take (k + 1) := by
        rw [be_take n w k hlt, byte_mod, List.append_assoc, show w - 1 - k = i by omega]
      rw [hi]
      repeat (first | refine wOc3 ?_ | (refine kOc3 ?_; (first | rintro _ _ ⟨rfl, rfl⟩ | rintro _ _ ⟨_, rfl, rfl⟩ | rintro _ _ ⟨_, _, ⟨_, _⟩, rfl, rfl⟩); try refine ⟨sConv, ?_⟩) | refine Dr.two ?_ ?_)
      refine ⟨(k + 1, _, _), sHolds, ?_, by dsimp only; omega, by dsimp only; omega⟩
      dsimp only
      rw [e2]
      exact Conv.refl
    · repeat (first | refine wOc3 ?_ | (refine kOc3 ?_; (first | rintro _ _ ⟨rfl, rfl⟩ | rintro _ _ ⟨_, rfl, rfl⟩ | rintro _ _ ⟨_, _, ⟨_, _⟩, rfl, rfl⟩); try refine ⟨sConv, ?_⟩) | refine Dr.two ?_ ?_)
      obtain rfl : k = w := by omega
      have e : (be n k).take k = be n k := List.take_of_length_le (by rw [be_length]; omega)
      have el : nl + k = (l ++ be n k).length := by rw [List.length_append, be_length, hnl]
      rw [e]
      rw [el] at hc1 ⊢
      exact ret1 rfl sRet sConv (⟨_, _, rfl, hc1, hc2, rfl⟩)
theorem pow_div (n i k : Nat) (h : k < i) : (n / 2 ^ (8 * k)) / 256 = n / 2 ^ (8 * (k + 1)) := by
  rw [show (256 : Nat) = 2 ^ 8 by decide, Nat.div_div_eq_div_mul, ← Nat.pow_add]
  congr 2
theorem rput_any (E : Env) (A : Option Addr) (nl cap : Nat) (l : List UInt8) (n : Nat) (w : Int) (hr : Rd E octT A nl cap l) (hn : n < 18446744073709551616) (hl : nl ≤ 140737488355300) (hw : -9223372036854775807 ≤ w ∧ w ≤ 9223372036854775807) :
    Tri Try.prog E 141 #[.slice A nl cap, .int .u64 n, .int .i64 w] [] (PutPost (Oct.put l n w)) := by
  have hnl := hr.len
  refine tri Try.func141 rfl Try.ntmps141 (by simp) ?_
  by_cases hww : w < 1 ∨ 8 < w
  · have hp : Oct.put l n w = l := by simp [Oct.put, hww]
    rw [hp]
    subst hnl
    repeat (first | refine wOc3 ?_ | (refine kOc3 ?_; (first | rintro _ _ ⟨rfl, rfl⟩ | rintro _ _ ⟨_, rfl, rfl⟩ | rintro _ _ ⟨_, _, ⟨_, _⟩, rfl, rfl⟩); try refine ⟨sConv, ?_⟩) | refine Dr.two ?_ ?_)
    rename_i A' c' h1 h2
    refine C.loop (X := Unit) (fun _ => [(1, .int .u64 n), (2, .int .i64 w), (7, .slice A' l.length c'), (8, .int .i64 (w - 1))]) (fun _ => [own octT A' l.length c' l]) (fun _ => True) (fun _ => 0) () sHolds sConv trivial ?_
    rintro - G -
    by_cases h0 : w < 1
    · repeat (first | refine wOc3 ?_ | (refine kOc3 ?_; (first | rintro _ _ ⟨rfl, rfl⟩ | rintro _ _ ⟨_, rfl, rfl⟩ | rintro _ _ ⟨_, _, ⟨_, _⟩, rfl, rfl⟩); try refine ⟨sConv, ?_⟩) | refine Dr.two ?_ ?_)
      exact ret1 rfl sRet sConv (⟨_, _, rfl, h1, h2, rfl⟩)
    · repeat (first | refine wOc3 ?_ | (refine kOc3 ?_; (first | rintro _ _ ⟨rfl, rfl⟩ | rintro _ _ ⟨_, rfl, rfl⟩ | rintro _ _ ⟨_, _, ⟨_, _⟩, rfl, rfl⟩); try refine ⟨sConv, ?_⟩) | refine Dr.two ?_ ?_)
      exact ret1 rfl sRet sConv (⟨_, _, rfl, h1, h2, rfl⟩)
  · have hp : Oct.put l n w = l ++ be n w.toNat := by simp [Oct.put, hww]
    rw [hp]
    obtain ⟨w, rfl⟩ := Int.eq_ofNat_of_zero_le (show 0 ≤ w by omega)
    rw [Int.toNat_natCast]
    repeat (first | refine wOc3 ?_ | (refine kOc3 ?_; (first | rintro _ _ ⟨rfl, rfl⟩ | rintro _ _ ⟨_, rfl, rfl⟩ | rintro _ _ ⟨_, _, ⟨_, _⟩, rfl, rfl⟩); try refine ⟨sConv, ?_⟩) | refine Dr.two ?_ ?_)
    refine C.loop (X := Nat × Option Addr × Nat) (fun x => [(1, .int .u64 n), (2, .int .i64 w), (7, .slice x.2.1 (nl + x.1) x.2.2), (8, .int .i64 ((w : Int) - 1 - x.1))]) (fun x => [own octT x.2.1 (nl + x.1) x.2.2 (l ++ (be n w).take x.1)]) (fun x => x.1 ≤ w ∧ nl + x.1 ≤ x.2.2 ∧ x.2.2 ≤ maxLen) (fun x => w - x.1) (0, _, _) sHolds (by simp only [List.take_zero, List.append_nil]; exact sConv) ⟨Nat.zero_le _, by assumption, by assumption⟩ ?_
    rintro ⟨k, A', c'⟩ G ⟨hk, hc1, hc2⟩
    dsimp only at hk hc1 hc2 ⊢
    by_cases hlt : k < w
    · obtain ⟨i, hi⟩ : ∃ i : Nat, (w : Int) - 1 - k = i := ⟨w - 1 - k, by omega⟩
      have e2 : l ++ (be n w).take k ++ [UInt8.ofNat (((n / 2 ^ (8 * i) : Nat) : Int) % 256).toNat] = l ++ (be n w).take (k + 1) := by
        rw [be_take n w k hlt, byte_mod, List.append_assoc, show w - 1 - k = i by omega]
      rw [hi]
      repeat (first | refine wOc3 ?_ | (refine kOc3 ?_; (first | rintro _ _ ⟨rfl, rfl⟩ | rintro _ _ ⟨_, rfl, rfl⟩ | rintro _ _ ⟨_, _, ⟨_, _⟩, rfl, rfl⟩); try refine ⟨sConv, ?_⟩) | refine Dr.two ?_ ?_)
      refine C.loop (X := Nat) (fun j => [(1, .int .u64 n), (2, .int .i64 w), (7, .slice A' (nl + k) c'), (8, .int .i64 i), (9, .int .u64 (n / 2 ^ (8 * j) : Nat)), (10, .int .i64 j)]) (fun _ => [own octT A' (nl + k) c' (l ++ (be n w).take k)]) (fun j => j ≤ i) (fun j => i - j) 0 sHolds Conv.refl (Nat.zero_le _) ?_
      rintro j G hj
      by_cases hji : j < i
      · have e3 := pow_div n i j hji
        have e4 : IntKind.u64.wrap (((n / 2 ^ (8 * j) : Nat) : Int).tdiv 256) = ((n / 2 ^ (8 * (j + 1)) : Nat) : Int) := by
          have hnn : n / 2 ^ (8 * j) < 18446744073709551616 := Nat.lt_of_le_of_lt (Nat.div_le_self _ _) hn
          rw [← e3]
          clear e3 e2
          generalize n / 2 ^ (8 * j) = m at *
          rw [IntWalk.u64_quo _ _ (by omega)]; omega
        repeat (first | refine wOc3 ?_ | (refine kOc3 ?_; (first | rintro _ _ ⟨rfl, rfl⟩ | rintro _ _ ⟨_, rfl, rfl⟩ | rintro _ _ ⟨_, _, ⟨_, _⟩, rfl, rfl⟩); try refine ⟨sConv, ?_⟩) | refine Dr.two ?_ ?_)
        exact ⟨j + 1, sHolds, Conv.refl, by omega, by omega⟩
      · obtain rfl : j = i := by omega
        have e5 : ((n / 2 ^ (8 * j) : Nat) : Int).tmod 256 = ((n / 2 ^ (8 * j) : Nat) : Int) % 256 := Int.tmod_eq_emod_of_nonneg (Int.natCast_nonneg _)
        repeat (first | refine wOc3 ?_ | (refine kOc3 ?_; (first | rintro _ _ ⟨rfl, rfl⟩ | rintro _ _ ⟨_, rfl, rfl⟩ | rintro _ _ ⟨_, _, ⟨_, _⟩, rfl, rfl⟩); try refine ⟨sConv, ?_⟩) | refine Dr.two ?_ ?_)
        refine ⟨(k + 1, _, _), sHolds, ?_, by dsimp only; omega, by dsimp only; omega⟩
        dsimp only
        rw [e2]
        exact Conv.refl
    · repeat (first | refine wOc3 ?_ | (refine kOc3 ?_; (first | rintro _ _ ⟨rfl, rfl⟩ | rintro _ _ ⟨_, rfl, rfl⟩ | rintro _ _ ⟨_, _, ⟨_, _⟩, rfl, rfl⟩); try refine ⟨sConv, ?_⟩) | refine Dr.two ?_ ?_)
      obtain rfl : k = w := by omega
      have e : (be n k).take k = be n k := List.take_of_length_le (by rw [be_length]; omega)
      have el : nl + k = (l ++ be n k).length := by rw [List.length_append, be_length, hnl]
      rw [e]
      rw [el] at hc1 ⊢
      exact ret1 rfl sRet sConv (⟨_, _, rfl, hc1, hc2, rfl⟩)
end Go.Proofs.Ytkhmplaocfjpjaa.Sep
