/- delay, and the document's waits, by parts of memory. -/
import Derived.Test.YtkhmplaocfjpjaaDelayPlain
import Derived.Test.YtkhmplaocfjpjaaNum
namespace Go.Proofs.Ytkhmplaocfjpjaa.Sep
open Go.RowKit Go.Proofs.Ytkhmplaocfjpjaa.Reg Go.Proofs.Ytkhmplaocfjpjaa.Dly
open Go.Proofs.Ytkhmplaocfjpjaa.Mem hiding Rd Own
-- types: octT
set_option maxRecDepth 100000
set_option maxHeartbeats 8000000
theorem sYDl2 {P : Program} {E : Env} {H : List Asn} {ρ : Operand → Value} {o : Oper} {v : Value} (h : Yld P E H ρ o v := by first | (intro _ _; first | (first | (apply V.move; (· exact rfl); (· exact sLk)) | (apply V.assign; (· exact rfl); (· exact sLk)) | (apply V.nilCheck; (· exact rfl); (· exact rfl)) | (apply V.fieldAddr; (· exact rfl); (· exact rfl); (· exact rfl); (· exact rfl); (· exact rfl); (· decide); (· exact sLk); (· exact sAdd)) | (apply V.extract; (· exact rfl); (· exact rfl); (· exact rfl)) | (apply V.not; (· exact rfl); (· exact rfl)) | (apply V.pickT; (· exact rfl); (· exact rfl); (· exact sTst); (· exact sLk)) | (apply V.pickF; (· exact rfl); (· exact rfl); (· exact sTst); (· exact sLk))) | (first | (apply V.add; (· exact rfl); (· exact rfl); (· exact rfl); (· exact sNum)) | (apply V.sub; (· exact rfl); (· exact rfl); (· exact rfl); (· exact sNum)) | (apply V.mul; (· exact rfl); (· exact rfl); (· exact rfl); (· exact sNum)) | (apply V.lss; (· exact rfl); (· exact rfl); (· exact rfl)) | (apply V.leq; (· exact rfl); (· exact rfl); (· exact rfl)) | (apply V.gtr; (· exact rfl); (· exact rfl); (· exact rfl)) | (apply V.geq; (· exact rfl); (· exact rfl); (· exact rfl)) | (apply V.eql; (· exact rfl); (· exact rfl); (· exact rfl))) | (first | (apply V.neq; (· exact rfl); (· exact rfl); (· exact rfl)) | (apply V.neqP; (· exact rfl); (· exact rfl); (· exact rfl); (· exact rfl)) | (apply V.eqlP; (· exact rfl); (· exact rfl); (· exact rfl); (· exact rfl)) | (apply V.eqlN; (· exact rfl); (· exact rfl); (· exact rfl); (· exact rfl)) | (apply V.neqN; (· exact rfl); (· exact rfl); (· exact rfl); (· exact rfl)) | (apply V.len; (· exact rfl); (· exact rfl); (· exact rfl); (· exact sMax)) | (apply V.conv; (· exact rfl); (· exact rfl); (· exact rfl); (· exact rfl); (· exact sNum)) | (apply V.shl8; (· exact rfl); (· exact rfl); (· exact rfl); (· exact sNum))) | (first | (apply V.shl; (· exact rfl); (· exact rfl); (· exact rfl); (· exact sOm); (· exact sNum)) | (apply V.shr; (· exact rfl); (· exact rfl); (· exact rfl); (· exact sOm); (· exact sNum)) | (apply V.quo; (· exact rfl); (· exact rfl); (· exact rfl); (· exact sOm); (· exact sQuo)) | (apply V.rem; (· exact rfl); (· exact rfl); (· exact rfl); (· exact sOm); (· exact sRem)) | (apply V.bits_; (· exact rfl); (· decide); (· exact rfl); (· exact rfl); (· exact sNum)) | (apply V.neg; (· exact rfl); (· exact rfl); (· exact sNum)) | (apply V.eqlS; (· exact rfl); (· exact rfl); (· exact rfl)) | (apply V.neqS; (· exact rfl); (· exact rfl); (· exact rfl))) | (first | (apply V.eqlB; (· exact rfl); (· exact rfl); (· exact rfl); (· exact rfl)) | (apply V.neqB; (· exact rfl); (· exact rfl); (· exact rfl); (· exact rfl)) | (apply V.max; (· exact rfl); (· exact rfl); (· exact rfl)) | (apply V.min; (· exact rfl); (· exact rfl); (· exact rfl)))) | (first | (first | (apply Y.load; (· exact rfl); (· exact rfl); (· exact rfl); (· exact rfl); (· exact sCell)) | (apply Y.indexAddr; (· exact rfl); (· exact rfl); (· exact rfl); (· exact sRdH); (· exact sJ); (· exact sOm); (· exact sAsm); (· exact sRfl); (· exact sRfl)) | (apply Y.loadElem; (· exact rfl); (· exact rfl); (· exact sRdH); rotate_left; (· exact sRfl); rotate_right; (· exact sAsm); (· exact sRfl)) | (apply Y.sliceArr; (· exact rfl); (· exact rfl); (· exact rfl); (· exact rfl)) | (apply Y.loadBlk; (· exact rfl); (· exact rfl); (· exact rfl); (· exact rfl); (· exact rfl); (· exact rfl); (· exact sHas); (· exact sSeg)) | (apply Y.loadPart; (· exact rfl); (· exact rfl); (· exact sRdH); rotate_left; (· exact sRfl); rotate_right; (· exact sAsm); (· exact rfl); (· exact rfl); (· exact rfl); (· exact rfl); (· exact sSeg)) | (apply Y.fieldL; (· exact rfl); (· exact rfl); (· exact rfl); (· exact rfl); (· exact rfl); (· exact rfl); (· exact rfl)) | (apply Y.fieldS; (· exact rfl); (· exact rfl); (· exact rfl); (· exact rfl); (· exact rfl); (· exact rfl); (· exact rfl); (· exact rfl); (· exact rfl); (· exact sSeg))) | (first | (apply Y.len; (· exact rfl); (· exact rfl); (· exact sRdH); (· exact sRfl)) | (apply Y.str; (· exact rfl); (· exact rfl); (· exact sRdH)) | (apply Y.sliceLo; (· exact rfl); (· exact rfl); (· exact rfl); (· exact sRdH); (· exact sJ); (· exact sOm); (· exact sOm); (· exact sRfl)) | (apply Y.sliceHi; (· exact rfl); (· exact rfl); (· exact rfl); (· exact sRdH); (· exact sJ); (· exact sOm); (· exact sOm); (· exact sRfl)) | (apply Y.sliceHiMax; (· exact rfl); (· exact rfl); (· exact rfl); (· exact rfl); (· exact sRdH); (· exact sJ); (· exact sOm); (· exact sJ); (· exact sOm); (· exact sOm); (· exact sOm); (· exact sRfl)) | (apply Y.sliceLoHi; (· exact rfl); (· exact rfl); (· exact rfl); (· exact rfl); (· exact sRdH); (· exact sJ); (· exact sOm); (· exact sJ); (· exact sOm); (· exact sOm); (· exact sOm); (· exact sRfl)) | (apply Y.strLen; (· exact rfl); (· exact rfl); (· exact rfl); (· exact sMax)) | (apply Y.indexStr; (· exact rfl); (· exact rfl); (· exact rfl); (· exact rfl); (· exact sJ); (· exact sOm); (· exact sAsm))))) : Yld P E H ρ o v := h
theorem sSDl2 {P : Program} {N : Nat} {E : Env} {F : Nat → Value} {H : List Asn} {o : Oper} {K : Value → List Asn → Prop} (h : Stp P N E F H o K := by first | (first | (apply S.boxK; (· exact rfl); (· exact sLk); (· exact sCel)) | (apply S.append1K; (· exact rfl); (· exact rfl); (· exact rfl); (· exact rfl); (· exact sNN); (· exact (fun _ _ => sRepl)); (· exact sNL); (· exact sRfl); (· first | (conv => lhs; simp only [octT]) | rfl); (· exact sOm); (· exact sOm)) | (apply S.appendK; (· exact rfl); (· exact rfl); (· exact rfl); (· exact sNN); (· exact (fun _ _ => sRepl)); (· exact sRdH); (· exact sNL); (· exact sRfl); (· first | (conv => lhs; simp only [octT]) | rfl); (· exact sOm); (· exact sOm)) | (apply S.appendNilK; (· exact rfl); (· exact rfl); (· exact rfl); (· exact sRdH); (· exact sRfl); (· first | (conv => lhs; simp only [octT]) | rfl); (· exact sOm); (· exact sOm)) | (apply (S.buildSliceK (T := octT) (l := [])); (· exact rfl); (· exact rfl); (· exact rfl); (· exact rfl); (· decide)) | (apply (S.buildSlice1K (T := octT)); (· exact rfl); (· exact sLk); (· first | rfl | (with_reducible exact octT_val _ sOm sOm)); (· exact rfl); (· decide)) | (apply (S.storeEK (T := octT)); (· exact rfl); (· exact rfl); (· exact sLk); (· exact sRepl); rotate_left; (· exact sRfl); rotate_right; (· exact sAsm); (· first | rfl | (with_reducible exact octT_val _ sOm sOm)); (· exact sRfl)) | (apply (S.makeSliceK (T := octT) (z := octT_z)); (· exact rfl); (· exact rfl); (· exact rfl); (· exact sJ); (· exact sOm); (· exact rfl); (· exact rfl); (· first | (conv => lhs; simp only [octT]) | rfl); (· exact sOm); (· exact sOm))) | (first | (apply S.storeAggK; (· exact rfl); (· exact rfl); (· exact sLk); (· exact rfl); (· exact rfl); (· exact rfl); (· exact sRepl); (· exact sPut)) | (apply S.copyInK; (· exact rfl); (· exact rfl); (· exact rfl); (· exact sAsm); (· exact sRepl); (· exact sRdH); rotate_left; (· exact rfl); rotate_right; (· exact sAsm); (· exact sOm); (· exact sAsm); (· exact rfl); (· exact sMax)) | (apply S.store1K; (· exact rfl); (· exact rfl); (· exact sLk); (· exact sRfl); (· exact rfl); (· exact rfl); (· exact sRepl); (· exact sLn); (· exact sSetL)))) : Stp P N E F H o K := h
theorem wDl2 {p q : Prop} (hq : q) (h : Box q → p := by intro h; (first | (focus (apply L.val; (· decide); (· exact sYDl2))) | refine C.seq ?_ | refine C.region ?_ | refine L.nil ?_ | refine C.block ?_ | refine C.exit ?_ | refine C.skip ?_ | refine C.ret ?_ | (focus (apply L.on; (· exact rfl); (· decide); (· exact rfl); (· exact sTst))) | (focus (apply L.off; (· decide); (· exact rfl); (· decide); (· exact rfl); (· exact sTst))) | (focus (apply L.offU; (· decide); (· exact rfl); (· decide); (· exact rfl))) | (focus (apply C.condT; (· exact rfl); (· exact sTst))) | (focus (apply C.condF; (· exact rfl); (· exact sTst))) | refine Dr.done ?_ | refine DrA.done ?_ | (focus (apply DrA.take; (· exact rfl); (· decide); (· exact sGon); (· exact sYDl2))) | (focus (apply Dr.take; (· exact rfl); (· decide); (· exact sGon); (· exact sYDl2))) | (focus (apply Dr.skip; (· exact rfl); (· decide); (· exact sGoff))) | (focus (apply Dr.goSkip; (· exact rfl); (· decide); (· exact sGoff))) | with_reducible refine T.n ?_ | with_reducible refine T.ret ?_ | with_reducible refine T.exit ?_ | with_reducible refine I.n ?_ | with_reducible refine I.ret ?_ | with_reducible refine I.hit ?_ | with_reducible refine I.miss (by decide) ?_); (repeat (first | (focus (apply L.val; (· decide); (· exact sYDl2))) | refine C.seq ?_ | refine C.region ?_ | refine L.nil ?_ | refine C.block ?_ | refine C.exit ?_ | refine C.skip ?_ | refine C.ret ?_ | (focus (apply L.on; (· exact rfl); (· decide); (· exact rfl); (· exact sTst))) | (focus (apply L.off; (· decide); (· exact rfl); (· decide); (· exact rfl); (· exact sTst))) | (focus (apply L.offU; (· decide); (· exact rfl); (· decide); (· exact rfl))) | (focus (apply C.condT; (· exact rfl); (· exact sTst))) | (focus (apply C.condF; (· exact rfl); (· exact sTst))) | refine Dr.done ?_ | refine DrA.done ?_ | (focus (apply DrA.take; (· exact rfl); (· decide); (· exact sGon); (· exact sYDl2))) | (focus (apply Dr.take; (· exact rfl); (· decide); (· exact sGon); (· exact sYDl2))) | (focus (apply Dr.skip; (· exact rfl); (· decide); (· exact sGoff))) | (focus (apply Dr.goSkip; (· exact rfl); (· decide); (· exact sGoff))) | with_reducible refine T.n ?_ | with_reducible refine T.ret ?_ | with_reducible refine T.exit ?_ | with_reducible refine I.n ?_ | with_reducible refine I.ret ?_ | with_reducible refine I.hit ?_ | with_reducible refine I.miss (by decide) ?_)); exact h.out) : p := h ⟨hq⟩
theorem vDl2 {p q : Prop} (hq : q) (h : Box q → p := by intro h; (first | (focus (apply L.val; (· decide); (· exact sYDl2))) | refine C.seq ?_ | refine C.region ?_ | refine L.nil ?_ | refine C.block ?_ | refine C.exit ?_ | refine C.skip ?_ | refine C.ret ?_ | (focus (apply L.on; (· exact rfl); (· decide); (· exact rfl); (· exact sTst))) | (focus (apply L.off; (· decide); (· exact rfl); (· decide); (· exact rfl); (· exact sTst))) | (focus (apply L.offU; (· decide); (· exact rfl); (· decide); (· exact rfl))) | (focus (apply C.condT; (· exact rfl); (· exact sTst))) | (focus (apply C.condF; (· exact rfl); (· exact sTst))) | refine Dr.done ?_ | refine DrA.done ?_ | (focus (apply DrA.take; (· exact rfl); (· decide); (· exact sGon); (· exact sYDl2))) | (focus (apply Dr.take; (· exact rfl); (· decide); (· exact sGon); (· exact sYDl2))) | (focus (apply Dr.skip; (· exact rfl); (· decide); (· exact sGoff))) | (focus (apply Dr.goSkip; (· exact rfl); (· decide); (· exact sGoff))) | with_reducible refine T.n ?_ | with_reducible refine T.ret ?_ | with_reducible refine T.exit ?_ | with_reducible refine I.n ?_ | with_reducible refine I.ret ?_ | with_reducible refine I.hit ?_ | with_reducible refine I.miss (by decide) ?_); exact h.out) : p := h ⟨hq⟩
theorem kDl2 {p q : Prop} (hq : q) (h : Box q → p := by intro h; first | (apply L.stepK; (· decide); (· exact sSDl2); exact h.out) | (apply L.step0K; (· exact sSDl2); exact h.out) | (apply Dr.goZ; (· exact rfl); (· rintro k ⟨⟩ <;> decide); (· exact sGon); (· exact sSDl2); exact h.out) | (apply Dr.goZs; (· exact rfl); (· rintro k ⟨⟩ <;> decide); (· exact sGon); (· exact sSDl2); exact h.out) | (apply Go1.goK; (· exact rfl); (· rintro k ⟨⟩ <;> decide); (· exact sGon); (· exact sSDl2); exact h.out) | (apply Dr.goK; (· exact rfl); (· rintro k ⟨⟩ <;> decide); (· exact sGon); (· exact sSDl2); exact h.out)) : p := h ⟨hq⟩
section
variable (E : Env)
theorem clampT (n lo hi : Int) : Tri Try.prog E 80 #[.int .i64 n, .int .i64 lo, .int .i64 hi] [] fun e H' => e = .returned (.int .i64 (clamp n lo hi)) ∧ H' = [] := by
  refine tri Try.func80 rfl Try.ntmps80 (by simp) ?_
  unfold clamp
  by_cases h1 : n < lo
  · rw [if_pos h1]
    repeat (first | refine wDl2 ?_ | (refine kDl2 ?_; (first | rintro _ _ ⟨rfl, rfl⟩ | rintro _ _ ⟨_, rfl, rfl⟩ | rintro _ _ ⟨_, _, ⟨_, _⟩, rfl, rfl⟩); try refine ⟨sConv, ?_⟩) | refine Dr.two ?_ ?_)
    exact ret1 rfl sRet sConv (⟨rfl, rfl⟩)
  · rw [if_neg h1]
    by_cases h2 : hi < n
    · rw [if_pos h2]
      repeat (first | refine wDl2 ?_ | (refine kDl2 ?_; (first | rintro _ _ ⟨rfl, rfl⟩ | rintro _ _ ⟨_, rfl, rfl⟩ | rintro _ _ ⟨_, _, ⟨_, _⟩, rfl, rfl⟩); try refine ⟨sConv, ?_⟩) | refine Dr.two ?_ ?_)
      exact ret1 rfl sRet sConv (⟨rfl, rfl⟩)
    · rw [if_neg h2]
      repeat (first | refine wDl2 ?_ | (refine kDl2 ?_; (first | rintro _ _ ⟨rfl, rfl⟩ | rintro _ _ ⟨_, rfl, rfl⟩ | rintro _ _ ⟨_, _, ⟨_, _⟩, rfl, rfl⟩); try refine ⟨sConv, ?_⟩) | refine Dr.two ?_ ?_)
      exact ret1 rfl sRet sConv (⟨rfl, rfl⟩)
theorem nearT (n lo hi : Int) : Tri Try.prog E 39 #[.int .i64 n, .int .i64 lo, .int .i64 hi] [] fun e H' => e = .returned (.int .i64 (clamp n lo hi)) ∧ H' = [] := by
  refine tri Try.func39 rfl Try.ntmps39 (by simp) ?_
  unfold clamp
  by_cases h1 : n < lo
  · rw [if_pos h1]
    repeat (first | refine wDl2 ?_ | (refine kDl2 ?_; (first | rintro _ _ ⟨rfl, rfl⟩ | rintro _ _ ⟨_, rfl, rfl⟩ | rintro _ _ ⟨_, _, ⟨_, _⟩, rfl, rfl⟩); try refine ⟨sConv, ?_⟩) | refine Dr.two ?_ ?_)
    exact ret1 rfl sRet sConv (⟨rfl, rfl⟩)
  · rw [if_neg h1]
    by_cases h2 : hi < n
    · rw [if_pos h2]
      repeat (first | refine wDl2 ?_ | (refine kDl2 ?_; (first | rintro _ _ ⟨rfl, rfl⟩ | rintro _ _ ⟨_, rfl, rfl⟩ | rintro _ _ ⟨_, _, ⟨_, _⟩, rfl, rfl⟩); try refine ⟨sConv, ?_⟩) | refine Dr.two ?_ ?_)
      exact ret1 rfl sRet sConv (⟨rfl, rfl⟩)
    · rw [if_neg h2]
      repeat (first | refine wDl2 ?_ | (refine kDl2 ?_; (first | rintro _ _ ⟨rfl, rfl⟩ | rintro _ _ ⟨_, rfl, rfl⟩ | rintro _ _ ⟨_, _, ⟨_, _⟩, rfl, rfl⟩); try refine ⟨sConv, ?_⟩) | refine Dr.two ?_ ?_)
      exact ret1 rfl sRet sConv (⟨rfl, rfl⟩)
theorem dblS (m w : Int) (k : Nat) : dbl m (k + 1) w = min (2 * dbl m k w) m := rfl
theorem waitT (base most n : Int) : Tri Try.prog E 146 #[.int .i64 base, .int .i64 most, .int .i64 n] [] fun e H' => e = .returned (.int .i64 (wait base most n)) ∧ H' = [] := by
  have hm1 := clamp_lo most 1 64 (by omega)
  have hm2 := clamp_hi most 1 64 (by omega)
  have hb1 := clamp_lo base 1 64 (by omega)
  have hb2 := clamp_hi base 1 64 (by omega)
  have hbd := dbl_bd (clamp most 1 64) (min (clamp base 1 64) (clamp most 1 64)) (by omega) (by omega)
  refine tri Try.func146 rfl Try.ntmps146 (by simp) ?_
  repeat (first | refine wDl2 ?_ | (refine kDl2 ?_; (first | rintro _ _ ⟨rfl, rfl⟩ | rintro _ _ ⟨_, rfl, rfl⟩ | rintro _ _ ⟨_, _, ⟨_, _⟩, rfl, rfl⟩); try refine ⟨sConv, ?_⟩) | refine Dr.two ?_ ?_)
  refine L.step (by decide) (S.call rfl rfl Try.func80 (by kernel_rfl) rfl sPicks (fun E' hE => clampT E' most 1 64) ?_)
  rintro e H' ⟨rfl, rfl⟩
  refine ⟨_, rfl, _, sCat, ?_⟩
  repeat (first | refine wDl2 ?_ | (refine kDl2 ?_; (first | rintro _ _ ⟨rfl, rfl⟩ | rintro _ _ ⟨_, rfl, rfl⟩ | rintro _ _ ⟨_, _, ⟨_, _⟩, rfl, rfl⟩); try refine ⟨sConv, ?_⟩) | refine Dr.two ?_ ?_)
  refine L.step (by decide) (S.call rfl rfl Try.func80 (by kernel_rfl) rfl sPicks (fun E' hE => clampT E' base 1 64) ?_)
  rintro e H' ⟨rfl, rfl⟩
  refine ⟨_, rfl, _, sCat, ?_⟩
  unfold wait
  by_cases h : n < 1
  · rw [if_pos h]
    repeat (first | refine wDl2 ?_ | (refine kDl2 ?_; (first | rintro _ _ ⟨rfl, rfl⟩ | rintro _ _ ⟨_, rfl, rfl⟩ | rintro _ _ ⟨_, _, ⟨_, _⟩, rfl, rfl⟩); try refine ⟨sConv, ?_⟩) | refine Dr.two ?_ ?_)
    exact ret1 rfl sRet sConv (⟨rfl, rfl⟩)
  rw [if_neg h]
  obtain ⟨K, hK⟩ : ∃ K : Nat, K = (min n 64 - 1).toNat := ⟨_, rfl⟩
  have hK2 : min n 64 - 1 = (K : Int) := by omega
  have hK3 : K ≤ 63 := by omega
  have hsub : IntKind.i64.wrap (min n 64 - 1) = (K : Int) := by rw [IntWalk.i64_in _ (by omega)]; exact hK2
  rw [← hK]
  generalize clamp most 1 64 = M at *
  generalize hw : min (clamp base 1 64) M = w at *
  repeat (first | refine wDl2 ?_ | (refine kDl2 ?_; (first | rintro _ _ ⟨rfl, rfl⟩ | rintro _ _ ⟨_, rfl, rfl⟩ | rintro _ _ ⟨_, _, ⟨_, _⟩, rfl, rfl⟩); try refine ⟨sConv, ?_⟩) | refine Dr.two ?_ ?_)
  rw [hw]
  refine C.loop (X := Nat) (fun k => [(1, .int .i64 M), (7, .int .i64 (dbl M k w)), (18, .int .i64 K), (19, .int .i64 k)]) (fun _ => []) (fun k => k ≤ K) (fun k => K - k) 0 sHolds Conv.refl (Nat.zero_le _) ?_
  rintro k G hk
  have hb := hbd k
  by_cases hlt : k < K
  · have hs : min (2 * dbl M k w) M = dbl M (k + 1) w := rfl
    repeat (first | refine wDl2 ?_ | (refine kDl2 ?_; (first | rintro _ _ ⟨rfl, rfl⟩ | rintro _ _ ⟨_, rfl, rfl⟩ | rintro _ _ ⟨_, _, ⟨_, _⟩, rfl, rfl⟩); try refine ⟨sConv, ?_⟩) | refine Dr.two ?_ ?_)
    rw [hs]
    exact ⟨k + 1, sHolds, Conv.refl, by omega, by omega⟩
  · obtain rfl : k = K := by omega
    repeat (first | refine wDl2 ?_ | (refine kDl2 ?_; (first | rintro _ _ ⟨rfl, rfl⟩ | rintro _ _ ⟨_, rfl, rfl⟩ | rintro _ _ ⟨_, _, ⟨_, _⟩, rfl, rfl⟩); try refine ⟨sConv, ?_⟩) | refine Dr.two ?_ ?_)
    exact ret1 rfl sRet sConv (⟨rfl, rfl⟩)
theorem dueT (base most n last : Int) : Tri Try.prog E 135 #[.int .i64 base, .int .i64 most, .int .i64 n, .int .i64 last] [] fun e H' => e = .returned (.int .i64 (Dly.due base most n last)) ∧ H' = [] := by
  have h1 := wait_bd base most n
  have h2 := clamp_lo last 0 1073741824 (by omega)
  have h3 := clamp_hi last 0 1073741824 (by omega)
  refine tri Try.func135 rfl Try.ntmps135 (by simp) ?_
  unfold Dly.due
  repeat (first | refine wDl2 ?_ | (refine kDl2 ?_; (first | rintro _ _ ⟨rfl, rfl⟩ | rintro _ _ ⟨_, rfl, rfl⟩ | rintro _ _ ⟨_, _, ⟨_, _⟩, rfl, rfl⟩); try refine ⟨sConv, ?_⟩) | refine Dr.two ?_ ?_)
  refine L.step (by decide) (S.call rfl rfl Try.func80 (by kernel_rfl) rfl sPicks (fun E' hE => clampT E' last 0 1073741824) ?_)
  rintro e H' ⟨rfl, rfl⟩
  refine ⟨_, rfl, _, sCat, ?_⟩
  repeat (first | refine wDl2 ?_ | (refine kDl2 ?_; (first | rintro _ _ ⟨rfl, rfl⟩ | rintro _ _ ⟨_, rfl, rfl⟩ | rintro _ _ ⟨_, _, ⟨_, _⟩, rfl, rfl⟩); try refine ⟨sConv, ?_⟩) | refine Dr.two ?_ ?_)
  refine L.step (by decide) (S.call rfl rfl Try.func146 (by kernel_rfl) rfl sPicks (fun E' hE => waitT E' base most n) ?_)
  rintro e H' ⟨rfl, rfl⟩
  refine ⟨_, rfl, _, sCat, ?_⟩
  repeat (first | refine wDl2 ?_ | (refine kDl2 ?_; (first | rintro _ _ ⟨rfl, rfl⟩ | rintro _ _ ⟨_, rfl, rfl⟩ | rintro _ _ ⟨_, _, ⟨_, _⟩, rfl, rfl⟩); try refine ⟨sConv, ?_⟩) | refine Dr.two ?_ ?_)
  exact ret1 rfl sRet sConv (⟨rfl, rfl⟩)
def readyD (base most n last now : Int) : Bool := decide (n < 1) || decide (Dly.due base most n last ≤ now)
theorem readyT (base most n last now : Int) : Tri Try.prog E 134 #[.int .i64 base, .int .i64 most, .int .i64 n, .int .i64 last, .int .i64 now] [] fun e H' => e = .returned (.bool (readyD base most n last now)) ∧ H' = [] := by
  refine tri Try.func134 rfl Try.ntmps134 (by simp) ?_
  unfold readyD
  by_cases h : n < 1
  · rw [decide_eq_true h]
    repeat (first | refine wDl2 ?_ | (refine kDl2 ?_; (first | rintro _ _ ⟨rfl, rfl⟩ | rintro _ _ ⟨_, rfl, rfl⟩ | rintro _ _ ⟨_, _, ⟨_, _⟩, rfl, rfl⟩); try refine ⟨sConv, ?_⟩) | refine Dr.two ?_ ?_)
    exact ret1 rfl sRet sConv (⟨rfl, rfl⟩)
  · rw [decide_eq_false h]
    repeat (first | refine wDl2 ?_ | (refine kDl2 ?_; (first | rintro _ _ ⟨rfl, rfl⟩ | rintro _ _ ⟨_, rfl, rfl⟩ | rintro _ _ ⟨_, _, ⟨_, _⟩, rfl, rfl⟩); try refine ⟨sConv, ?_⟩) | refine Dr.two ?_ ?_)
    refine L.step (by decide) (S.call rfl rfl Try.func135 (by kernel_rfl) rfl sPicks (fun E' hE => dueT E' base most n last) ?_)
    rintro e H' ⟨rfl, rfl⟩
    refine ⟨_, rfl, _, sCat, ?_⟩
    repeat (first | refine wDl2 ?_ | (refine kDl2 ?_; (first | rintro _ _ ⟨rfl, rfl⟩ | rintro _ _ ⟨_, rfl, rfl⟩ | rintro _ _ ⟨_, _, ⟨_, _⟩, rfl, rfl⟩); try refine ⟨sConv, ?_⟩) | refine Dr.two ?_ ?_)
    exact ret1 rfl sRet sConv (⟨rfl, rfl⟩)
theorem rwaitT (base most n : Int) : Tri Try.prog E 145 #[.int .i64 base, .int .i64 most, .int .i64 n] [] fun e H' => e = .returned (.int .i64 (wait base most n)) ∧ H' = [] := by
  have hm1 := clamp_lo most 1 64 (by omega)
  have hm2 := clamp_hi most 1 64 (by omega)
  have hb1 := clamp_lo base 1 64 (by omega)
  have hb2 := clamp_hi base 1 64 (by omega)
  have hv : ¬ n < 1 → wait base most n = min (ref (clamp most 1 64) ((min n 64 - 1).toNat) (clamp base 1 64)) (clamp most 1 64) := fun h => by
    rw [ref_dbl _ _ _ (by omega) (by omega)]; exact if_neg h
  have hz : n < 1 → wait base most n = 0 := fun h => if_pos h
  refine tri Try.func145 rfl Try.ntmps145 (by simp) ?_
  generalize wait base most n = R at *
  repeat (first | refine wDl2 ?_ | (refine kDl2 ?_; (first | rintro _ _ ⟨rfl, rfl⟩ | rintro _ _ ⟨_, rfl, rfl⟩ | rintro _ _ ⟨_, _, ⟨_, _⟩, rfl, rfl⟩); try refine ⟨sConv, ?_⟩) | refine Dr.two ?_ ?_)
  refine L.step (by decide) (S.call rfl rfl Try.func39 (by kernel_rfl) rfl sPicks (fun E' hE => nearT E' base 1 64) ?_)
  rintro e H' ⟨rfl, rfl⟩
  refine ⟨_, rfl, _, sCat, ?_⟩
  repeat (first | refine wDl2 ?_ | (refine kDl2 ?_; (first | rintro _ _ ⟨rfl, rfl⟩ | rintro _ _ ⟨_, rfl, rfl⟩ | rintro _ _ ⟨_, _, ⟨_, _⟩, rfl, rfl⟩); try refine ⟨sConv, ?_⟩) | refine Dr.two ?_ ?_)
  refine L.step (by decide) (S.call rfl rfl Try.func39 (by kernel_rfl) rfl sPicks (fun E' hE => nearT E' most 1 64) ?_)
  rintro e H' ⟨rfl, rfl⟩
  refine ⟨_, rfl, _, sCat, ?_⟩
  generalize clamp most 1 64 = M at *
  generalize clamp base 1 64 = B at *
  by_cases h : n < 1
  · rw [hz h]
    repeat (first | refine wDl2 ?_ | (refine kDl2 ?_; (first | rintro _ _ ⟨rfl, rfl⟩ | rintro _ _ ⟨_, rfl, rfl⟩ | rintro _ _ ⟨_, _, ⟨_, _⟩, rfl, rfl⟩); try refine ⟨sConv, ?_⟩) | refine Dr.two ?_ ?_)
    exact ret1 rfl sRet sConv (⟨rfl, rfl⟩)
  have hv := hv h
  obtain ⟨K, hK⟩ : ∃ K : Nat, K = (min n 64 - 1).toNat := ⟨_, rfl⟩
  rw [← hK] at hv
  repeat (first | refine wDl2 ?_ | (refine kDl2 ?_; (first | rintro _ _ ⟨rfl, rfl⟩ | rintro _ _ ⟨_, rfl, rfl⟩ | rintro _ _ ⟨_, _, ⟨_, _⟩, rfl, rfl⟩); try refine ⟨sConv, ?_⟩) | refine Dr.two ?_ ?_)
  refine C.loop (X := Nat × Int) (fun q => [(1, .int .i64 M), (2, .int .i64 n), (7, .int .i64 q.2), (8, .int .i64 (q.1 + 1 : Nat))]) (fun _ => []) (fun q => q.1 ≤ K ∧ 1 ≤ q.2 ∧ q.2 ≤ 128 ∧ ref M (K - q.1) q.2 = ref M K B) (fun q => K - q.1) (0, B) sHolds Conv.refl ⟨Nat.zero_le _, by dsimp only; omega, by dsimp only; omega, rfl⟩ ?_
  rintro ⟨k, v⟩ G ⟨hk, hv1, hv2, hr⟩
  dsimp only at hk hv1 hv2 hr ⊢
  by_cases hlt : k < K
  · by_cases hvm : v < M
    · have hr2 : ref M (K - (k + 1)) (v * 2) = ref M K B := by
        rw [← hr, show K - k = (K - (k + 1)) + 1 by omega, ref, if_pos hvm]
      repeat (first | refine wDl2 ?_ | (refine kDl2 ?_; (first | rintro _ _ ⟨rfl, rfl⟩ | rintro _ _ ⟨_, rfl, rfl⟩ | rintro _ _ ⟨_, _, ⟨_, _⟩, rfl, rfl⟩); try refine ⟨sConv, ?_⟩) | refine Dr.two ?_ ?_)
      exact ⟨(k + 1, v * 2), sHolds, Conv.refl, ⟨by dsimp only; omega, by dsimp only; omega, by dsimp only; omega, hr2⟩, by dsimp only; omega⟩
    · have hz2 : ref M (K - k) v = v := by
        rw [show K - k = (K - (k + 1)) + 1 by omega, ref, if_neg hvm]
      by_cases hvM : M < v
      · have e : R = M := by rw [hv, ← hr, hz2]; omega
        rw [e]
        repeat (first | refine wDl2 ?_ | (refine kDl2 ?_; (first | rintro _ _ ⟨rfl, rfl⟩ | rintro _ _ ⟨_, rfl, rfl⟩ | rintro _ _ ⟨_, _, ⟨_, _⟩, rfl, rfl⟩); try refine ⟨sConv, ?_⟩) | refine Dr.two ?_ ?_)
        exact ret1 rfl sRet sConv (⟨rfl, rfl⟩)
      · have e : R = v := by rw [hv, ← hr, hz2]; omega
        rw [e]
        repeat (first | refine wDl2 ?_ | (refine kDl2 ?_; (first | rintro _ _ ⟨rfl, rfl⟩ | rintro _ _ ⟨_, rfl, rfl⟩ | rintro _ _ ⟨_, _, ⟨_, _⟩, rfl, rfl⟩); try refine ⟨sConv, ?_⟩) | refine Dr.two ?_ ?_)
        exact ret1 rfl sRet sConv (⟨rfl, rfl⟩)
  · have hz2 : ref M (K - k) v = v := by
      rw [show K - k = 0 by omega, ref]
    by_cases hn : (k : Int) + 1 < n
    · by_cases hvM : M < v
      · have e : R = M := by rw [hv, ← hr, hz2]; omega
        rw [e]
        repeat (first | refine wDl2 ?_ | (refine kDl2 ?_; (first | rintro _ _ ⟨rfl, rfl⟩ | rintro _ _ ⟨_, rfl, rfl⟩ | rintro _ _ ⟨_, _, ⟨_, _⟩, rfl, rfl⟩); try refine ⟨sConv, ?_⟩) | refine Dr.two ?_ ?_)
        exact ret1 rfl sRet sConv (⟨rfl, rfl⟩)
      · have e : R = v := by rw [hv, ← hr, hz2]; omega
        rw [e]
        repeat (first | refine wDl2 ?_ | (refine kDl2 ?_; (first | rintro _ _ ⟨rfl, rfl⟩ | rintro _ _ ⟨_, rfl, rfl⟩ | rintro _ _ ⟨_, _, ⟨_, _⟩, rfl, rfl⟩); try refine ⟨sConv, ?_⟩) | refine Dr.two ?_ ?_)
        exact ret1 rfl sRet sConv (⟨rfl, rfl⟩)
    · by_cases hvM : M < v
      · have e : R = M := by rw [hv, ← hr, hz2]; omega
        rw [e]
        repeat (first | refine wDl2 ?_ | (refine kDl2 ?_; (first | rintro _ _ ⟨rfl, rfl⟩ | rintro _ _ ⟨_, rfl, rfl⟩ | rintro _ _ ⟨_, _, ⟨_, _⟩, rfl, rfl⟩); try refine ⟨sConv, ?_⟩) | refine Dr.two ?_ ?_)
        exact ret1 rfl sRet sConv (⟨rfl, rfl⟩)
      · have e : R = v := by rw [hv, ← hr, hz2]; omega
        rw [e]
        repeat (first | refine wDl2 ?_ | (refine kDl2 ?_; (first | rintro _ _ ⟨rfl, rfl⟩ | rintro _ _ ⟨_, rfl, rfl⟩ | rintro _ _ ⟨_, _, ⟨_, _⟩, rfl, rfl⟩); try refine ⟨sConv, ?_⟩) | refine Dr.two ?_ ?_)
        exact ret1 rfl sRet sConv (⟨rfl, rfl⟩)
theorem rdueT (base most n last : Int) : Tri Try.prog E 132 #[.int .i64 base, .int .i64 most, .int .i64 n, .int .i64 last] [] fun e H' => e = .returned (.int .i64 (Dly.due base most n last)) ∧ H' = [] := by
  have h1 := wait_bd base most n
  have h2 := clamp_lo last 0 1073741824 (by omega)
  have h3 := clamp_hi last 0 1073741824 (by omega)
  refine tri Try.func132 rfl Try.ntmps132 (by simp) ?_
  unfold Dly.due
  repeat (first | refine wDl2 ?_ | (refine kDl2 ?_; (first | rintro _ _ ⟨rfl, rfl⟩ | rintro _ _ ⟨_, rfl, rfl⟩ | rintro _ _ ⟨_, _, ⟨_, _⟩, rfl, rfl⟩); try refine ⟨sConv, ?_⟩) | refine Dr.two ?_ ?_)
  refine L.step (by decide) (S.call rfl rfl Try.func39 (by kernel_rfl) rfl sPicks (fun E' hE => nearT E' last 0 1073741824) ?_)
  rintro e H' ⟨rfl, rfl⟩
  refine ⟨_, rfl, _, sCat, ?_⟩
  repeat (first | refine wDl2 ?_ | (refine kDl2 ?_; (first | rintro _ _ ⟨rfl, rfl⟩ | rintro _ _ ⟨_, rfl, rfl⟩ | rintro _ _ ⟨_, _, ⟨_, _⟩, rfl, rfl⟩); try refine ⟨sConv, ?_⟩) | refine Dr.two ?_ ?_)
  refine L.step (by decide) (S.call rfl rfl Try.func145 (by kernel_rfl) rfl sPicks (fun E' hE => rwaitT E' base most n) ?_)
  rintro e H' ⟨rfl, rfl⟩
  refine ⟨_, rfl, _, sCat, ?_⟩
  repeat (first | refine wDl2 ?_ | (refine kDl2 ?_; (first | rintro _ _ ⟨rfl, rfl⟩ | rintro _ _ ⟨_, rfl, rfl⟩ | rintro _ _ ⟨_, _, ⟨_, _⟩, rfl, rfl⟩); try refine ⟨sConv, ?_⟩) | refine Dr.two ?_ ?_)
  exact ret1 rfl sRet sConv (⟨rfl, rfl⟩)
end
end Go.Proofs.Ytkhmplaocfjpjaa.Sep
