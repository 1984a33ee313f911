/- frame, and the document's frames, by parts of memory. -/
import Derived.Test.YtkhmplaocfjpjaaCr
import Derived.Test.YtkhmplaocfjpjaaOct3
import Derived.Test.YtkhmplaocfjpjaaFramePlain
namespace Go.Proofs.Ytkhmplaocfjpjaa.Sep
open Go.RowKit Go.Proofs.Ytkhmplaocfjpjaa.Reg Go.Proofs.Ytkhmplaocfjpjaa.Oct Go.Proofs.Ytkhmplaocfjpjaa.Frm
open Go.Proofs.Ytkhmplaocfjpjaa.Mem hiding Rd Own
-- types: octT slT
-- recs: rec_Reader
set_option maxRecDepth 100000
set_option maxHeartbeats 8000000
theorem sYFrm {P : Program} {E : Env} {H : List Asn} {ρ : Operand → Value} {o : Oper} {v : Value} (h : Yld P E H ρ o v := by first | (intro _ _; first | (first | (apply V.move; (· exact rfl); (· exact sLk)) | (apply V.assign; (· exact rfl); (· exact sLk)) | (apply V.nilCheck; (· exact rfl); (· exact rfl)) | (apply V.fieldAddr; (· exact rfl); (· exact rfl); (· exact rfl); (· exact rfl); (· exact rfl); (· decide); (· exact sLk); (· exact sAdd)) | (apply V.extract; (· exact rfl); (· exact rfl); (· exact rfl)) | (apply V.not; (· exact rfl); (· exact rfl)) | (apply V.pickT; (· exact rfl); (· exact rfl); (· exact sTst); (· exact sLk)) | (apply V.pickF; (· exact rfl); (· exact rfl); (· exact sTst); (· exact sLk))) | (first | (apply V.add; (· exact rfl); (· exact rfl); (· exact rfl); (· exact sNum)) | (apply V.sub; (· exact rfl); (· exact rfl); (· exact rfl); (· exact sNum)) | (apply V.mul; (· exact rfl); (· exact rfl); (· exact rfl); (· exact sNum)) | (apply V.lss; (· exact rfl); (· exact rfl); (· exact rfl)) | (apply V.leq; (· exact rfl); (· exact rfl); (· exact rfl)) | (apply V.gtr; (· exact rfl); (· exact rfl); (· exact rfl)) | (apply V.geq; (· exact rfl); (· exact rfl); (· exact rfl)) | (apply V.eql; (· exact rfl); (· exact rfl); (· exact rfl))) | (first | (apply V.neq; (· exact rfl); (· exact rfl); (· exact rfl)) | (apply V.neqP; (· exact rfl); (· exact rfl); (· exact rfl); (· exact rfl)) | (apply V.eqlP; (· exact rfl); (· exact rfl); (· exact rfl); (· exact rfl)) | (apply V.eqlN; (· exact rfl); (· exact rfl); (· exact rfl); (· exact rfl)) | (apply V.neqN; (· exact rfl); (· exact rfl); (· exact rfl); (· exact rfl)) | (apply V.len; (· exact rfl); (· exact rfl); (· exact rfl); (· exact sMax)) | (apply V.conv; (· exact rfl); (· exact rfl); (· exact rfl); (· exact rfl); (· exact sNum)) | (apply V.shl8; (· exact rfl); (· exact rfl); (· exact rfl); (· exact sNum))) | (first | (apply V.shl; (· exact rfl); (· exact rfl); (· exact rfl); (· exact sOm); (· exact sNum)) | (apply V.shr; (· exact rfl); (· exact rfl); (· exact rfl); (· exact sOm); (· exact sNum)) | (apply V.quo; (· exact rfl); (· exact rfl); (· exact rfl); (· exact sOm); (· exact sQuo)) | (apply V.rem; (· exact rfl); (· exact rfl); (· exact rfl); (· exact sOm); (· exact sRem)) | (apply V.bits_; (· exact rfl); (· decide); (· exact rfl); (· exact rfl); (· exact sNum)) | (apply V.neg; (· exact rfl); (· exact rfl); (· exact sNum)) | (apply V.eqlS; (· exact rfl); (· exact rfl); (· exact rfl)) | (apply V.neqS; (· exact rfl); (· exact rfl); (· exact rfl))) | (first | (apply V.eqlB; (· exact rfl); (· exact rfl); (· exact rfl); (· exact rfl)) | (apply V.neqB; (· exact rfl); (· exact rfl); (· exact rfl); (· exact rfl)) | (apply V.max; (· exact rfl); (· exact rfl); (· exact rfl)) | (apply V.min; (· exact rfl); (· exact rfl); (· exact rfl)))) | (first | (first | (apply Y.load; (· exact rfl); (· exact rfl); (· exact rfl); (· exact rfl); (· exact sCell)) | (apply Y.indexAddr; (· exact rfl); (· exact rfl); (· exact rfl); (· exact sRdH); (· exact sJ); (· exact sOm); (· exact sAsm); (· exact sRfl); (· exact sRfl)) | (apply Y.loadElem; (· exact rfl); (· exact rfl); (· exact sRdH); rotate_left; (· exact sRfl); rotate_right; (· exact sAsm); (· exact sRfl)) | (apply Y.sliceArr; (· exact rfl); (· exact rfl); (· exact rfl); (· exact rfl)) | (apply Y.loadBlk; (· exact rfl); (· exact rfl); (· exact rfl); (· exact rfl); (· exact rfl); (· exact rfl); (· exact sHas); (· exact sSeg)) | (apply Y.loadPart; (· exact rfl); (· exact rfl); (· exact sRdH); rotate_left; (· exact sRfl); rotate_right; (· exact sAsm); (· exact rfl); (· exact rfl); (· exact rfl); (· exact rfl); (· exact sSeg)) | (apply Y.fieldL; (· exact rfl); (· exact rfl); (· exact rfl); (· exact rfl); (· exact rfl); (· exact rfl); (· exact rfl)) | (apply Y.fieldS; (· exact rfl); (· exact rfl); (· exact rfl); (· exact rfl); (· exact rfl); (· exact rfl); (· exact rfl); (· exact rfl); (· exact rfl); (· exact sSeg))) | (first | (apply Y.len; (· exact rfl); (· exact rfl); (· exact sRdH); (· exact sRfl)) | (apply Y.str; (· exact rfl); (· exact rfl); (· exact sRdH)) | (apply Y.sliceLo; (· exact rfl); (· exact rfl); (· exact rfl); (· exact sRdH); (· exact sJ); (· exact sOm); (· exact sOm); (· exact sRfl)) | (apply Y.sliceHi; (· exact rfl); (· exact rfl); (· exact rfl); (· exact sRdH); (· exact sJ); (· exact sOm); (· exact sOm); (· exact sRfl)) | (apply Y.sliceHiMax; (· exact rfl); (· exact rfl); (· exact rfl); (· exact rfl); (· exact sRdH); (· exact sJ); (· exact sOm); (· exact sJ); (· exact sOm); (· exact sOm); (· exact sOm); (· exact sRfl)) | (apply Y.sliceLoHi; (· exact rfl); (· exact rfl); (· exact rfl); (· exact rfl); (· exact sRdH); (· exact sJ); (· exact sOm); (· exact sJ); (· exact sOm); (· exact sOm); (· exact sOm); (· exact sRfl)) | (apply Y.strLen; (· exact rfl); (· exact rfl); (· exact rfl); (· exact sMax)) | (apply Y.indexStr; (· exact rfl); (· exact rfl); (· exact rfl); (· exact rfl); (· exact sJ); (· exact sOm); (· exact sAsm))) | (first | (apply Y.build; (· exact rfl); (· exact sPv); (· exact rec_Reader); (· exact sFil))))) : Yld P E H ρ o v := h
theorem sSFrm {P : Program} {N : Nat} {E : Env} {F : Nat → Value} {H : List Asn} {o : Oper} {K : Value → List Asn → Prop} (h : Stp P N E F H o K := by first | (first | (apply S.boxK; (· exact rfl); (· exact sLk); (· exact sCel)) | (apply S.append1K; (· exact rfl); (· exact rfl); (· exact rfl); (· exact rfl); (· exact sNN); (· exact (fun _ _ => sRepl)); (· exact sNL); (· exact sRfl); (· first | (conv => lhs; simp only [octT, slT]) | rfl); (· exact sOm); (· exact sOm)) | (apply S.appendK; (· exact rfl); (· exact rfl); (· exact rfl); (· exact sNN); (· exact (fun _ _ => sRepl)); (· exact sRdH); (· exact sNL); (· exact sRfl); (· first | (conv => lhs; simp only [octT, slT]) | rfl); (· exact sOm); (· exact sOm)) | (apply S.appendNilK; (· exact rfl); (· exact rfl); (· exact rfl); (· exact sRdH); (· exact sRfl); (· first | (conv => lhs; simp only [octT, slT]) | rfl); (· exact sOm); (· exact sOm)) | (apply (S.buildSliceK (T := octT) (l := [])); (· exact rfl); (· exact rfl); (· exact rfl); (· exact rfl); (· decide)) | (apply (S.buildSlice1K (T := octT)); (· exact rfl); (· exact sLk); (· first | rfl | (with_reducible exact octT_val _ sOm sOm)); (· exact rfl); (· decide)) | (apply (S.buildSliceK (T := slT) (l := [])); (· exact rfl); (· exact rfl); (· exact rfl); (· exact rfl); (· decide)) | (apply (S.buildSlice1K (T := slT)); (· exact rfl); (· exact sLk); (· first | rfl | (with_reducible exact slT_val _ sOm sOm)); (· exact rfl); (· decide))) | (first | (apply (S.storeEK (T := octT)); (· exact rfl); (· exact rfl); (· exact sLk); (· exact sRepl); rotate_left; (· exact sRfl); rotate_right; (· exact sAsm); (· first | rfl | (with_reducible exact octT_val _ sOm sOm)); (· exact sRfl)) | (apply (S.storeEK (T := slT)); (· exact rfl); (· exact rfl); (· exact sLk); (· exact sRepl); rotate_left; (· exact sRfl); rotate_right; (· exact sAsm); (· first | rfl | (with_reducible exact slT_val _ sOm sOm)); (· exact sRfl)) | (apply S.allocK; (· exact rfl); (· exact rec_Reader.zero)) | (apply (S.makeSliceK (T := octT) (z := octT_z)); (· exact rfl); (· exact rfl); (· exact rfl); (· exact sJ); (· exact sOm); (· exact rfl); (· exact rfl); (· first | (conv => lhs; simp only [octT, slT]) | rfl); (· exact sOm); (· exact sOm)) | (apply (S.makeSliceK (T := slT) (z := slT_z)); (· exact rfl); (· exact rfl); (· exact rfl); (· exact sJ); (· exact sOm); (· exact rfl); (· exact rfl); (· first | (conv => lhs; simp only [octT, slT]) | rfl); (· exact sOm); (· exact sOm)) | (apply S.storeAggK; (· exact rfl); (· exact rfl); (· exact sLk); (· exact rfl); (· exact rfl); (· exact rfl); (· exact sRepl); (· exact sPut)) | (apply S.copyInK; (· exact rfl); (· exact rfl); (· exact rfl); (· exact sAsm); (· exact sRepl); (· exact sRdH); rotate_left; (· exact rfl); rotate_right; (· exact sAsm); (· exact sOm); (· exact sAsm); (· exact rfl); (· exact sMax)) | (apply S.store1K; (· exact rfl); (· exact rfl); (· exact sLk); (· exact sRfl); (· exact rfl); (· exact rfl); (· exact sRepl); (· exact sLn); (· exact sSetL)))) : Stp P N E F H o K := h
theorem wFrm {p q : Prop} (hq : q) (h : Box q → p := by intro h; (first | (focus (apply L.val; (· decide); (· exact sYFrm))) | refine C.seq ?_ | refine C.region ?_ | refine L.nil ?_ | refine C.block ?_ | refine C.exit ?_ | refine C.skip ?_ | refine C.ret ?_ | (focus (apply L.on; (· exact rfl); (· decide); (· exact rfl); (· exact sTst))) | (focus (apply L.off; (· decide); (· exact rfl); (· decide); (· exact rfl); (· exact sTst))) | (focus (apply L.offU; (· decide); (· exact rfl); (· decide); (· exact rfl))) | (focus (apply C.condT; (· exact rfl); (· exact sTst))) | (focus (apply C.condF; (· exact rfl); (· exact sTst))) | refine Dr.done ?_ | refine DrA.done ?_ | (focus (apply DrA.take; (· exact rfl); (· decide); (· exact sGon); (· exact sYFrm))) | (focus (apply Dr.take; (· exact rfl); (· decide); (· exact sGon); (· exact sYFrm))) | (focus (apply Dr.skip; (· exact rfl); (· decide); (· exact sGoff))) | (focus (apply Dr.goSkip; (· exact rfl); (· decide); (· exact sGoff))) | with_reducible refine T.n ?_ | with_reducible refine T.ret ?_ | with_reducible refine T.exit ?_ | with_reducible refine I.n ?_ | with_reducible refine I.ret ?_ | with_reducible refine I.hit ?_ | with_reducible refine I.miss (by decide) ?_); (repeat (first | (focus (apply L.val; (· decide); (· exact sYFrm))) | refine C.seq ?_ | refine C.region ?_ | refine L.nil ?_ | refine C.block ?_ | refine C.exit ?_ | refine C.skip ?_ | refine C.ret ?_ | (focus (apply L.on; (· exact rfl); (· decide); (· exact rfl); (· exact sTst))) | (focus (apply L.off; (· decide); (· exact rfl); (· decide); (· exact rfl); (· exact sTst))) | (focus (apply L.offU; (· decide); (· exact rfl); (· decide); (· exact rfl))) | (focus (apply C.condT; (· exact rfl); (· exact sTst))) | (focus (apply C.condF; (· exact rfl); (· exact sTst))) | refine Dr.done ?_ | refine DrA.done ?_ | (focus (apply DrA.take; (· exact rfl); (· decide); (· exact sGon); (· exact sYFrm))) | (focus (apply Dr.take; (· exact rfl); (· decide); (· exact sGon); (· exact sYFrm))) | (focus (apply Dr.skip; (· exact rfl); (· decide); (· exact sGoff))) | (focus (apply Dr.goSkip; (· exact rfl); (· decide); (· exact sGoff))) | with_reducible refine T.n ?_ | with_reducible refine T.ret ?_ | with_reducible refine T.exit ?_ | with_reducible refine I.n ?_ | with_reducible refine I.ret ?_ | with_reducible refine I.hit ?_ | with_reducible refine I.miss (by decide) ?_)); exact h.out) : p := h ⟨hq⟩
theorem vFrm {p q : Prop} (hq : q) (h : Box q → p := by intro h; (first | (focus (apply L.val; (· decide); (· exact sYFrm))) | refine C.seq ?_ | refine C.region ?_ | refine L.nil ?_ | refine C.block ?_ | refine C.exit ?_ | refine C.skip ?_ | refine C.ret ?_ | (focus (apply L.on; (· exact rfl); (· decide); (· exact rfl); (· exact sTst))) | (focus (apply L.off; (· decide); (· exact rfl); (· decide); (· exact rfl); (· exact sTst))) | (focus (apply L.offU; (· decide); (· exact rfl); (· decide); (· exact rfl))) | (focus (apply C.condT; (· exact rfl); (· exact sTst))) | (focus (apply C.condF; (· exact rfl); (· exact sTst))) | refine Dr.done ?_ | refine DrA.done ?_ | (focus (apply DrA.take; (· exact rfl); (· decide); (· exact sGon); (· exact sYFrm))) | (focus (apply Dr.take; (· exact rfl); (· decide); (· exact sGon); (· exact sYFrm))) | (focus (apply Dr.skip; (· exact rfl); (· decide); (· exact sGoff))) | (focus (apply Dr.goSkip; (· exact rfl); (· decide); (· exact sGoff))) | with_reducible refine T.n ?_ | with_reducible refine T.ret ?_ | with_reducible refine T.exit ?_ | with_reducible refine I.n ?_ | with_reducible refine I.ret ?_ | with_reducible refine I.hit ?_ | with_reducible refine I.miss (by decide) ?_); exact h.out) : p := h ⟨hq⟩
theorem kFrm {p q : Prop} (hq : q) (h : Box q → p := by intro h; first | (apply L.stepK; (· decide); (· exact sSFrm); exact h.out) | (apply L.step0K; (· exact sSFrm); exact h.out) | (apply Dr.goZ; (· exact rfl); (· rintro k ⟨⟩ <;> decide); (· exact sGon); (· exact sSFrm); exact h.out) | (apply Dr.goZs; (· exact rfl); (· rintro k ⟨⟩ <;> decide); (· exact sGon); (· exact sSFrm); exact h.out) | (apply Go1.goK; (· exact rfl); (· rintro k ⟨⟩ <;> decide); (· exact sGon); (· exact sSFrm); exact h.out) | (apply Dr.goK; (· exact rfl); (· rintro k ⟨⟩ <;> decide); (· exact sGon); (· exact sSFrm); exact h.out)) : p := h ⟨hq⟩

theorem size_any (E : Env) (n : Int) : Tri Try.prog E 114 #[.int .i64 n] [] fun e H' => e = .returned (.int .i64 (if 1 ≤ n ∧ n ≤ 4096 then n + 7 else 0)) ∧ H' = [] := by
  refine tri Try.func114 rfl Try.ntmps114 (by simp) ?_
  by_cases h1 : n < 1
  · rw [if_neg (by omega)]
    repeat (first | refine wFrm ?_ | (refine kFrm ?_; (first | rintro _ _ ⟨rfl, rfl⟩ | rintro _ _ ⟨_, rfl, rfl⟩ | rintro _ _ ⟨_, _, ⟨_, _⟩, rfl, rfl⟩); try refine ⟨sConv, ?_⟩) | refine Dr.two ?_ ?_)
    exact ret1 rfl sRet sConv (⟨rfl, rfl⟩)
  · by_cases h2 : 4096 < n
    · rw [if_neg (by omega)]
      repeat (first | refine wFrm ?_ | (refine kFrm ?_; (first | rintro _ _ ⟨rfl, rfl⟩ | rintro _ _ ⟨_, rfl, rfl⟩ | rintro _ _ ⟨_, _, ⟨_, _⟩, rfl, rfl⟩); try refine ⟨sConv, ?_⟩) | refine Dr.two ?_ ?_)
      exact ret1 rfl sRet sConv (⟨rfl, rfl⟩)
    · rw [if_pos (by omega)]
      have e1 : IntKind.i64.wrap (2 + n) = n + 2 := by rw [IntWalk.i64_in _ (by omega)]; omega
      have e2 : IntKind.i64.wrap (n + 2 + 4) = n + 6 := by rw [IntWalk.i64_in _ (by omega)]; omega
      have e3 : IntKind.i64.wrap (n + 6 + 1) = n + 7 := by rw [IntWalk.i64_in _ (by omega)]; omega
      repeat (first | refine wFrm ?_ | (refine kFrm ?_; (first | rintro _ _ ⟨rfl, rfl⟩ | rintro _ _ ⟨_, rfl, rfl⟩ | rintro _ _ ⟨_, _, ⟨_, _⟩, rfl, rfl⟩); try refine ⟨sConv, ?_⟩) | refine Dr.two ?_ ?_)
      exact ret1 rfl sRet sConv (⟨rfl, rfl⟩)
section
variable (E : Env) (A : Option Addr) (n c : Nat) (l : List UInt8)
theorem putf_0 : Tri Try.prog E 82 #[.slice A 0 c] [] fun e H' => e = .returned (.tuple #[.slice none 0 0, .int .i64 4]) ∧ H' = [] := by
  have hm : 0 ≤ maxLen := Nat.zero_le _
  refine tri Try.func82 rfl Try.ntmps82 (by simp) ?_
  repeat (first | refine wFrm ?_ | (refine kFrm ?_; (first | rintro _ _ ⟨rfl, rfl⟩ | rintro _ _ ⟨_, rfl, rfl⟩ | rintro _ _ ⟨_, _, ⟨_, _⟩, rfl, rfl⟩); try refine ⟨sConv, ?_⟩) | refine Dr.two ?_ ?_)
  exact ret2 rfl sRet sRet sConv (⟨rfl, rfl⟩)
theorem putf_long (hr : Rd E octT A n c l) (hn : 4096 < n) : Tri Try.prog E 82 #[.slice A n c] [] fun e H' => e = .returned (.tuple #[.slice none 0 0, .int .i64 5]) ∧ H' = [] := by
  have hcap := hr.cap
  refine tri Try.func82 rfl Try.ntmps82 (by simp) ?_
  repeat (first | refine wFrm ?_ | (refine kFrm ?_; (first | rintro _ _ ⟨rfl, rfl⟩ | rintro _ _ ⟨_, rfl, rfl⟩ | rintro _ _ ⟨_, _, ⟨_, _⟩, rfl, rfl⟩); try refine ⟨sConv, ?_⟩) | refine Dr.two ?_ ?_)
  refine L.step (by decide) (S.call rfl rfl Try.func114 (by kernel_rfl) rfl sPicks (fun E' hE => size_any E' n) ?_)
  rw [if_neg (by omega)]
  rintro e H' ⟨rfl, rfl⟩
  refine ⟨_, rfl, _, sCat, ?_⟩
  repeat (first | refine wFrm ?_ | (refine kFrm ?_; (first | rintro _ _ ⟨rfl, rfl⟩ | rintro _ _ ⟨_, rfl, rfl⟩ | rintro _ _ ⟨_, _, ⟨_, _⟩, rfl, rfl⟩); try refine ⟨sConv, ?_⟩) | refine Dr.two ?_ ?_)
  exact ret2 rfl sRet sRet sConv (⟨rfl, rfl⟩)
theorem put2 (l : List UInt8) (k : Nat) : Oct.put l k 2 = l ++ be k 2 := if_neg (by omega)
theorem put4 (l : List UInt8) (k : Nat) : Oct.put l k 4 = l ++ be k 4 := if_neg (by omega)
theorem putf_ok (hr : Rd E octT A n c l) (h1 : 1 ≤ n) (hn : n ≤ 4096) : Tri Try.prog E 82 #[.slice A n c] [] fun e H' => ∃ A' c', e = .returned (.tuple #[.slice A' (n + 7) c', .int .i64 0]) ∧ H' = [own octT A' (n + 7) c' (fr l)] := by
  have hcap := hr.cap
  have hln := hr.len
  have hsl := Crc.sum_lt l
  have hp2 : Oct.put [] n 2 = be n 2 := by rw [put2]; rfl
  have hb2 := be_length n 2
  have hp4 : Oct.put (be n 2 ++ l) (Crc.sum l) 4 = be n 2 ++ l ++ be (Crc.sum l) 4 := put4 _ _
  have hb4 : (be n 2 ++ l ++ be (Crc.sum l) 4).length = n + 6 := by simp [be_length]; omega
  have hfr : be n 2 ++ l ++ be (Crc.sum l) 4 ++ [UInt8.ofNat (Int.toNat 90)] = fr l := by unfold fr; rw [← hln]; rfl
  refine tri Try.func82 rfl Try.ntmps82 (by simp) ?_
  repeat (first | refine wFrm ?_ | (refine kFrm ?_; (first | rintro _ _ ⟨rfl, rfl⟩ | rintro _ _ ⟨_, rfl, rfl⟩ | rintro _ _ ⟨_, _, ⟨_, _⟩, rfl, rfl⟩); try refine ⟨sConv, ?_⟩) | refine Dr.two ?_ ?_)
  refine L.step (by decide) (S.call rfl rfl Try.func114 (by kernel_rfl) rfl sPicks (fun E' hE => size_any E' n) ?_)
  rw [if_pos (by omega)]
  rintro e H' ⟨rfl, rfl⟩
  refine ⟨_, rfl, _, sCat, ?_⟩
  repeat (first | refine wFrm ?_ | (refine kFrm ?_; (first | rintro _ _ ⟨rfl, rfl⟩ | rintro _ _ ⟨_, rfl, rfl⟩ | rintro _ _ ⟨_, _, ⟨_, _⟩, rfl, rfl⟩); try refine ⟨sConv, ?_⟩) | refine Dr.two ?_ ?_)
  refine L.step (by decide) (S.call rfl rfl Try.func115 (by kernel_rfl) rfl sPicks (fun E' hE => put_any E' none 0 0 [] n 2 sRd (by omega) (by omega)) ?_)
  rw [hp2]
  unfold PutPost
  rw [hb2]
  rintro e H' ⟨A1, c1, rfl, h2, h3, rfl⟩
  refine ⟨_, rfl, _, sCat, ?_⟩
  repeat (first | refine wFrm ?_ | (refine kFrm ?_; (first | rintro _ _ ⟨rfl, rfl⟩ | rintro _ _ ⟨_, rfl, rfl⟩ | rintro _ _ ⟨_, _, ⟨_, _⟩, rfl, rfl⟩); try refine ⟨sConv, ?_⟩) | refine Dr.two ?_ ?_)
  rename_i A2 c2 _ _
  refine L.stepK (by decide) (S.buildSlice1K (T := slT) (e := (⟨A, n, c, l⟩ : Oc)) rfl rfl rfl rfl (by decide)) ?_; rintro _ _ ⟨_, rfl, rfl⟩
  repeat (first | refine wFrm ?_ | (refine kFrm ?_; (first | rintro _ _ ⟨rfl, rfl⟩ | rintro _ _ ⟨_, rfl, rfl⟩ | rintro _ _ ⟨_, _, ⟨_, _⟩, rfl, rfl⟩); try refine ⟨sConv, ?_⟩) | refine Dr.two ?_ ?_)
  refine L.step (by decide) (S.call rfl rfl Try.func116 (by kernel_rfl) rfl sPicks (fun E' hE => csum_one E' 0 A n c l sRd _ sRd) ?_)
  rintro e H' ⟨rfl, rfl⟩
  refine ⟨_, rfl, _, sCat, ?_⟩
  repeat (first | refine wFrm ?_ | (refine kFrm ?_; (first | rintro _ _ ⟨rfl, rfl⟩ | rintro _ _ ⟨_, rfl, rfl⟩ | rintro _ _ ⟨_, _, ⟨_, _⟩, rfl, rfl⟩); try refine ⟨sConv, ?_⟩) | refine Dr.two ?_ ?_)
  refine L.step (by decide) (S.call rfl rfl Try.func115 (by kernel_rfl) rfl sPicks (fun E' hE => put_any E' A2 (2 + n) c2 (be n 2 ++ l) (Crc.sum l) 4 sRd (by omega) (by omega)) ?_)
  rw [hp4]
  unfold PutPost
  rw [hb4]
  rintro e H' ⟨A3, c3, rfl, h4, h5, rfl⟩
  refine ⟨_, rfl, _, sCat, ?_⟩
  repeat (first | refine wFrm ?_ | (refine kFrm ?_; (first | rintro _ _ ⟨rfl, rfl⟩ | rintro _ _ ⟨_, rfl, rfl⟩ | rintro _ _ ⟨_, _, ⟨_, _⟩, rfl, rfl⟩); try refine ⟨sConv, ?_⟩) | refine Dr.two ?_ ?_)
  rw [hfr]
  exact ret2 rfl sRet sRet sConv (⟨_, _, rfl, rfl⟩)
theorem nx_some {l : List UInt8} {k : Nat} (h : k ≤ l.length) : nx false l k = (some (l.take k), false, l.drop k) := by
  unfold nx
  rw [if_neg (by simp), if_neg (by omega), Int.toNat_natCast]
theorem nx_short {l : List UInt8} {k : Nat} (h : l.length < k) : nx false l k = (none, true, l) := by
  unfold nx
  rw [if_neg (by simp), if_pos (by omega)]
/-- what stands once the head was read -/
theorem getf_yes (hr : Rd E octT A n c l) (hl : n ≤ 140737488355200) (x : List UInt8) (k : Nat) (hx : fget l = some (x, k)) :
    Tri Try.prog E 119 #[.slice A n c] [] fun e H' => ∃ B d, e = .returned (.tuple #[.slice B x.length d, .int .i64 k, .bool true]) ∧ H' = [own octT B x.length d x] := by
  have hn := hr.len
  have hcap := hr.cap
  unfold fget at hx
  split at hx
  case isFalse => cases hx
  rename_i hok
  injection hx with hx; injection hx with hx hk
  subst hk
  obtain ⟨h2, h1, h3, h4, h90, hsum⟩ := hok
  have hxl : x.length = size l := by rw [← hx]; simp; omega
  have hnx1 : nx false l (wid 2) = (some (l.take 2), false, l.drop 2) := nx_some h2
  have hnx2 : nx false (l.drop 2) (size l : Nat) = (some ((l.drop 2).take (size l)), false, (l.drop 2).drop (size l)) := nx_some (by simp; omega)
  have hnx3 : nx false ((l.drop 2).drop (size l)) (wid 4) = (some (((l.drop 2).drop (size l)).take 4), false, ((l.drop 2).drop (size l)).drop 4) := nx_some (by simp; omega)
  have hget : Oct.get (l.take 2) = size l := rfl
  have hg4 : Oct.get (((l.drop 2).drop (size l)).take 4) = Crc.sum x := by rw [List.drop_drop, Nat.add_comm 2 (size l), hsum, hx]
  have hsl := Crc.sum_lt x
  generalize size l = s at *
  have hs1 : IntKind.i64.wrap ((s : Int) + 7 - 1) = ((s + 6 : Nat) : Int) := by rw [IntWalk.i64_in _ (by omega)]; omega
  refine tri Try.func119 rfl Try.ntmps119 (by simp) ?_
  repeat (first | refine wFrm ?_ | (refine kFrm ?_; (first | rintro _ _ ⟨rfl, rfl⟩ | rintro _ _ ⟨_, rfl, rfl⟩ | rintro _ _ ⟨_, _, ⟨_, _⟩, rfl, rfl⟩); try refine ⟨sConv, ?_⟩) | refine Dr.two ?_ ?_)
  refine L.step (by decide) (S.call rfl rfl Try.func138 (by kernel_rfl) rfl sPicks (fun E' hE => new_any E' A n c l sRd (by omega)) ?_)
  rintro e H' ⟨g, A0, c0, rfl, h5, h6, rfl⟩
  refine ⟨_, rfl, _, sCat, ?_⟩
  unfold adr
  repeat (first | refine wFrm ?_ | (refine kFrm ?_; (first | rintro _ _ ⟨rfl, rfl⟩ | rintro _ _ ⟨_, rfl, rfl⟩ | rintro _ _ ⟨_, _, ⟨_, _⟩, rfl, rfl⟩); try refine ⟨sConv, ?_⟩) | refine Dr.two ?_ ?_)
  refine L.step (by decide) (S.call rfl rfl Try.func139 (by kernel_rfl) rfl sPicks (fun E' hE => take_any E' g false A0 n c0 l 2 sRd) ?_)
  rw [hnx1]
  rintro e H' ⟨A1, n1, c1, rfl, hal1, rfl⟩
  refine ⟨_, rfl, _, sCat, ?_⟩
  simp only [tk, hget]
  repeat (first | refine wFrm ?_ | (refine kFrm ?_; (first | rintro _ _ ⟨rfl, rfl⟩ | rintro _ _ ⟨_, rfl, rfl⟩ | rintro _ _ ⟨_, _, ⟨_, _⟩, rfl, rfl⟩); try refine ⟨sConv, ?_⟩) | refine Dr.two ?_ ?_)
  refine L.step (by decide) (S.call rfl rfl Try.func114 (by kernel_rfl) rfl sPicks (fun E' hE => size_any E' s) ?_)
  rw [if_pos (by omega)]
  rintro e H' ⟨rfl, rfl⟩
  refine ⟨_, rfl, _, sCat, ?_⟩
  repeat (first | refine wFrm ?_ | (refine kFrm ?_; (first | rintro _ _ ⟨rfl, rfl⟩ | rintro _ _ ⟨_, rfl, rfl⟩ | rintro _ _ ⟨_, _, ⟨_, _⟩, rfl, rfl⟩); try refine ⟨sConv, ?_⟩) | refine Dr.two ?_ ?_)
  refine L.step (by decide) (S.call rfl rfl Try.func140 (by kernel_rfl) rfl sPicks (fun E' hE => bytes_any E' g false A1 n1 c1 (l.drop 2) s (hal1 _ sRd) (by simp; omega)) ?_)
  rw [hnx2]
  rintro e H' ⟨A3, n3, c3, B, d, rfl, hal3, hmd, hd3, rfl⟩
  dsimp only [Option.getD, Option.isSome] at hmd ⊢
  rw [hx] at hmd ⊢
  refine ⟨_, rfl, _, sCat, ?_⟩
  repeat (first | refine wFrm ?_ | (refine kFrm ?_; (first | rintro _ _ ⟨rfl, rfl⟩ | rintro _ _ ⟨_, rfl, rfl⟩ | rintro _ _ ⟨_, _, ⟨_, _⟩, rfl, rfl⟩); try refine ⟨sConv, ?_⟩) | refine Dr.two ?_ ?_)
  refine L.step (by decide) (S.call rfl rfl Try.func139 (by kernel_rfl) rfl sPicks (fun E' hE => take_any E' g false A3 n3 c3 ((l.drop 2).drop s) 4 (hal3 _ (hal1 _ sRd))) ?_)
  rw [hnx3]
  rintro e H' ⟨A4, n4, c4, rfl, hal4, rfl⟩
  refine ⟨_, rfl, _, sCat, ?_⟩
  simp only [tk, hg4]
  repeat (first | refine wFrm ?_ | (refine kFrm ?_; (first | rintro _ _ ⟨rfl, rfl⟩ | rintro _ _ ⟨_, rfl, rfl⟩ | rintro _ _ ⟨_, _, ⟨_, _⟩, rfl, rfl⟩); try refine ⟨sConv, ?_⟩) | refine Dr.two ?_ ?_)
  refine L.stepK (by decide) (S.buildSlice1K (T := slT) (e := (⟨B, x.length, d, x⟩ : Oc)) rfl rfl rfl rfl (by decide)) ?_; rintro _ _ ⟨_, rfl, rfl⟩
  repeat (first | refine wFrm ?_ | (refine kFrm ?_; (first | rintro _ _ ⟨rfl, rfl⟩ | rintro _ _ ⟨_, rfl, rfl⟩ | rintro _ _ ⟨_, _, ⟨_, _⟩, rfl, rfl⟩); try refine ⟨sConv, ?_⟩) | refine Dr.two ?_ ?_)
  refine L.step (by decide) (S.call rfl rfl Try.func116 (by kernel_rfl) rfl sPicks (fun E' hE => csum_one E' 0 B x.length d x sRd _ sRd) ?_)
  rintro e H' ⟨rfl, rfl⟩
  refine ⟨_, rfl, _, sCat, ?_⟩
  repeat (first | refine wFrm ?_ | (refine kFrm ?_; (first | rintro _ _ ⟨rfl, rfl⟩ | rintro _ _ ⟨_, rfl, rfl⟩ | rintro _ _ ⟨_, _, ⟨_, _⟩, rfl, rfl⟩); try refine ⟨sConv, ?_⟩) | refine Dr.two ?_ ?_)
  exact ret3 rfl sRet sRet sRet sConv (⟨_, _, rfl, rfl⟩)
theorem getf_no (hr : Rd E octT A n c l) (hl : n ≤ 140737488355200) (hx : fget l = none) :
    Tri Try.prog E 119 #[.slice A n c] [] fun e H' => e = .returned (.tuple #[.slice none 0 0, .int .i64 0, .bool false]) ∧ H' = [] := by
  have hn := hr.len
  have hcap := hr.cap
  have hno : ¬ ok l := by
    intro h
    unfold fget at hx
    rw [if_pos h] at hx
    cases hx
  refine tri Try.func119 rfl Try.ntmps119 (by simp) ?_
  repeat (first | refine wFrm ?_ | (refine kFrm ?_; (first | rintro _ _ ⟨rfl, rfl⟩ | rintro _ _ ⟨_, rfl, rfl⟩ | rintro _ _ ⟨_, _, ⟨_, _⟩, rfl, rfl⟩); try refine ⟨sConv, ?_⟩) | refine Dr.two ?_ ?_)
  refine L.step (by decide) (S.call rfl rfl Try.func138 (by kernel_rfl) rfl sPicks (fun E' hE => new_any E' A n c l sRd (by omega)) ?_)
  rintro e H' ⟨g, A0, c0, rfl, h5, h6, rfl⟩
  refine ⟨_, rfl, _, sCat, ?_⟩
  unfold adr
  repeat (first | refine wFrm ?_ | (refine kFrm ?_; (first | rintro _ _ ⟨rfl, rfl⟩ | rintro _ _ ⟨_, rfl, rfl⟩ | rintro _ _ ⟨_, _, ⟨_, _⟩, rfl, rfl⟩); try refine ⟨sConv, ?_⟩) | refine Dr.two ?_ ?_)
  refine L.step (by decide) (S.call rfl rfl Try.func139 (by kernel_rfl) rfl sPicks (fun E' hE => take_any E' g false A0 n c0 l 2 sRd) ?_)
  by_cases h2 : 2 ≤ l.length
  · have hnx1 : nx false l (wid 2) = (some (l.take 2), false, l.drop 2) := nx_some h2
    have hget : Oct.get (l.take 2) = size l := rfl
    have hs65 : size l < 65536 := by
      have := get_lt (l.take 2)
      rw [List.length_take, Nat.min_eq_left h2] at this
      exact this
    rw [hnx1]
    rintro e H' ⟨A1, n1, c1, rfl, hal1, rfl⟩
    refine ⟨_, rfl, _, sCat, ?_⟩
    simp only [tk, hget]
    repeat (first | refine wFrm ?_ | (refine kFrm ?_; (first | rintro _ _ ⟨rfl, rfl⟩ | rintro _ _ ⟨_, rfl, rfl⟩ | rintro _ _ ⟨_, _, ⟨_, _⟩, rfl, rfl⟩); try refine ⟨sConv, ?_⟩) | refine Dr.two ?_ ?_)
    refine L.step (by decide) (S.call rfl rfl Try.func114 (by kernel_rfl) rfl sPicks (fun E' hE => size_any E' (size l)) ?_)
    by_cases h1 : 1 ≤ size l ∧ size l ≤ 4096
    · rw [if_pos (by omega)]
      rintro e H' ⟨rfl, rfl⟩
      refine ⟨_, rfl, _, sCat, ?_⟩
      by_cases h4 : size l + 7 ≤ l.length
      · have hx6 : l[size l + 6]? = some l[size l + 6] := List.getElem?_eq_getElem (by omega)
        have hs1 : IntKind.i64.wrap ((size l : Int) + 7 - 1) = ((size l + 6 : Nat) : Int) := by rw [IntWalk.i64_in _ (by omega)]; omega
        by_cases h90 : l[size l + 6] = 90
        · rw [h90] at hx6
          have hsum : Oct.get ((l.drop (size l + 2)).take 4) ≠ Crc.sum ((l.drop 2).take (size l)) := fun h => hno ⟨h2, h1.1, h1.2, h4, hx6, h⟩
          have hxl : ((l.drop 2).take (size l)).length = size l := by simp; omega
          have hnx2 : nx false (l.drop 2) (size l : Nat) = (some ((l.drop 2).take (size l)), false, (l.drop 2).drop (size l)) := nx_some (by simp; omega)
          have hnx3 : nx false ((l.drop 2).drop (size l)) (wid 4) = (some (((l.drop 2).drop (size l)).take 4), false, ((l.drop 2).drop (size l)).drop 4) := nx_some (by simp; omega)
          have hg4 : Oct.get (((l.drop 2).drop (size l)).take 4) ≠ Crc.sum ((l.drop 2).take (size l)) := by rw [List.drop_drop, Nat.add_comm 2 (size l)]; exact hsum
          have hsl := Crc.sum_lt ((l.drop 2).take (size l))
          have hgl := get_lt (((l.drop 2).drop (size l)).take 4)
          rw [show (((l.drop 2).drop (size l)).take 4).length = 4 by simp; omega] at hgl
          clear hget hno hx hsum
          generalize (l.drop 2).take (size l) = x at *
          generalize hy : Oct.get (((l.drop 2).drop (size l)).take 4) = y at *
          generalize size l = s at *
          repeat (first | refine wFrm ?_ | (refine kFrm ?_; (first | rintro _ _ ⟨rfl, rfl⟩ | rintro _ _ ⟨_, rfl, rfl⟩ | rintro _ _ ⟨_, _, ⟨_, _⟩, rfl, rfl⟩); try refine ⟨sConv, ?_⟩) | refine Dr.two ?_ ?_)
          refine L.step (by decide) (S.call rfl rfl Try.func140 (by kernel_rfl) rfl sPicks (fun E' hE => bytes_any E' g false A1 n1 c1 (l.drop 2) s (hal1 _ sRd) (by simp; omega)) ?_)
          rw [hnx2]
          rintro e H' ⟨A3, n3, c3, B, d, rfl, hal3, hmd, hd3, rfl⟩
          dsimp only [Option.getD, Option.isSome] at hmd ⊢
          refine ⟨_, rfl, _, sCat, ?_⟩
          repeat (first | refine wFrm ?_ | (refine kFrm ?_; (first | rintro _ _ ⟨rfl, rfl⟩ | rintro _ _ ⟨_, rfl, rfl⟩ | rintro _ _ ⟨_, _, ⟨_, _⟩, rfl, rfl⟩); try refine ⟨sConv, ?_⟩) | refine Dr.two ?_ ?_)
          refine L.step (by decide) (S.call rfl rfl Try.func139 (by kernel_rfl) rfl sPicks (fun E' hE => take_any E' g false A3 n3 c3 ((l.drop 2).drop s) 4 (hal3 _ (hal1 _ sRd))) ?_)
          rw [hnx3]
          rintro e H' ⟨A4, n4, c4, rfl, hal4, rfl⟩
          refine ⟨_, rfl, _, sCat, ?_⟩
          simp only [tk, hy]
          repeat (first | refine wFrm ?_ | (refine kFrm ?_; (first | rintro _ _ ⟨rfl, rfl⟩ | rintro _ _ ⟨_, rfl, rfl⟩ | rintro _ _ ⟨_, _, ⟨_, _⟩, rfl, rfl⟩); try refine ⟨sConv, ?_⟩) | refine Dr.two ?_ ?_)
          refine L.stepK (by decide) (S.buildSlice1K (T := slT) (e := (⟨B, x.length, d, x⟩ : Oc)) rfl rfl rfl rfl (by decide)) ?_; rintro _ _ ⟨_, rfl, rfl⟩
          repeat (first | refine wFrm ?_ | (refine kFrm ?_; (first | rintro _ _ ⟨rfl, rfl⟩ | rintro _ _ ⟨_, rfl, rfl⟩ | rintro _ _ ⟨_, _, ⟨_, _⟩, rfl, rfl⟩); try refine ⟨sConv, ?_⟩) | refine Dr.two ?_ ?_)
          refine L.step (by decide) (S.call rfl rfl Try.func116 (by kernel_rfl) rfl sPicks (fun E' hE => csum_one E' 0 B x.length d x sRd _ sRd) ?_)
          rintro e H' ⟨rfl, rfl⟩
          refine ⟨_, rfl, _, sCat, ?_⟩
          repeat (first | refine wFrm ?_ | (refine kFrm ?_; (first | rintro _ _ ⟨rfl, rfl⟩ | rintro _ _ ⟨_, rfl, rfl⟩ | rintro _ _ ⟨_, _, ⟨_, _⟩, rfl, rfl⟩); try refine ⟨sConv, ?_⟩) | refine Dr.two ?_ ?_)
          exact ret3 rfl sRet sRet sRet sConv (⟨rfl, rfl⟩)
        · have h90' : l[size l + 6].toNat ≠ 90 := fun h => h90 (UInt8.toNat_inj.1 h)
          repeat (first | refine wFrm ?_ | (refine kFrm ?_; (first | rintro _ _ ⟨rfl, rfl⟩ | rintro _ _ ⟨_, rfl, rfl⟩ | rintro _ _ ⟨_, _, ⟨_, _⟩, rfl, rfl⟩); try refine ⟨sConv, ?_⟩) | refine Dr.two ?_ ?_)
          exact ret3 rfl sRet sRet sRet sConv (⟨rfl, rfl⟩)
      · repeat (first | refine wFrm ?_ | (refine kFrm ?_; (first | rintro _ _ ⟨rfl, rfl⟩ | rintro _ _ ⟨_, rfl, rfl⟩ | rintro _ _ ⟨_, _, ⟨_, _⟩, rfl, rfl⟩); try refine ⟨sConv, ?_⟩) | refine Dr.two ?_ ?_)
        exact ret3 rfl sRet sRet sRet sConv (⟨rfl, rfl⟩)
    · rw [if_neg (by omega)]
      rintro e H' ⟨rfl, rfl⟩
      refine ⟨_, rfl, _, sCat, ?_⟩
      repeat (first | refine wFrm ?_ | (refine kFrm ?_; (first | rintro _ _ ⟨rfl, rfl⟩ | rintro _ _ ⟨_, rfl, rfl⟩ | rintro _ _ ⟨_, _, ⟨_, _⟩, rfl, rfl⟩); try refine ⟨sConv, ?_⟩) | refine Dr.two ?_ ?_)
      exact ret3 rfl sRet sRet sRet sConv (⟨rfl, rfl⟩)
  · have hnx1 : nx false l (wid 2) = (none, true, l) := nx_short (k := 2) (by omega)
    rw [hnx1]
    rintro e H' ⟨A1, n1, c1, rfl, hal1, rfl⟩
    refine ⟨_, rfl, _, sCat, ?_⟩
    simp only [tk]
    repeat (first | refine wFrm ?_ | (refine kFrm ?_; (first | rintro _ _ ⟨rfl, rfl⟩ | rintro _ _ ⟨_, rfl, rfl⟩ | rintro _ _ ⟨_, _, ⟨_, _⟩, rfl, rfl⟩); try refine ⟨sConv, ?_⟩) | refine Dr.two ?_ ?_)
    refine L.step (by decide) (S.call rfl rfl Try.func114 (by kernel_rfl) rfl sPicks (fun E' hE => size_any E' 0) ?_)
    rw [if_neg (by omega)]
    rintro e H' ⟨rfl, rfl⟩
    refine ⟨_, rfl, _, sCat, ?_⟩
    repeat (first | refine wFrm ?_ | (refine kFrm ?_; (first | rintro _ _ ⟨rfl, rfl⟩ | rintro _ _ ⟨_, rfl, rfl⟩ | rintro _ _ ⟨_, _, ⟨_, _⟩, rfl, rfl⟩); try refine ⟨sConv, ?_⟩) | refine Dr.two ?_ ?_)
    exact ret3 rfl sRet sRet sRet sConv (⟨rfl, rfl⟩)
/-! ### the document's -/
theorem rputf (hr : Rd E octT A n c l) (hn : n ≤ 4096) : Tri Try.prog E 124 #[.slice A n c] [] fun e H' => ∃ A' c', e = .returned (.slice A' (n + 7) c') ∧ H' = [own octT A' (n + 7) c' (fr l)] := by
  have hcap := hr.cap
  have hln := hr.len
  have hsl := Crc.sum_lt l
  have hp2 : Oct.put [] n 2 = be n 2 := by rw [put2]; rfl
  have hb2 := be_length n 2
  have hp4 : Oct.put [] (Crc.sum l) 4 = be (Crc.sum l) 4 := by rw [put4]; rfl
  have hb4 := be_length (Crc.sum l) 4
  have hfr : be n 2 ++ l ++ be (Crc.sum l) 4 ++ [UInt8.ofNat (Int.toNat 90)] = fr l := by unfold fr; rw [← hln]; rfl
  have hlen : 2 + n + 4 + 1 = n + 7 := by omega
  refine tri Try.func124 rfl Try.ntmps124 (by simp) ?_
  repeat (first | refine wFrm ?_ | (refine kFrm ?_; (first | rintro _ _ ⟨rfl, rfl⟩ | rintro _ _ ⟨_, rfl, rfl⟩ | rintro _ _ ⟨_, _, ⟨_, _⟩, rfl, rfl⟩); try refine ⟨sConv, ?_⟩) | refine Dr.two ?_ ?_)
  refine L.step (by decide) (S.call rfl rfl Try.func141 (by kernel_rfl) rfl sPicks (fun E' hE => rput_any E' none 0 0 [] n 2 sRd (by omega) (by omega) (by omega)) ?_)
  rw [hp2]
  unfold PutPost
  rw [hb2]
  rintro e H' ⟨A1, c1, rfl, h2, h3, rfl⟩
  refine ⟨_, rfl, _, sCat, ?_⟩
  repeat (first | refine wFrm ?_ | (refine kFrm ?_; (first | rintro _ _ ⟨rfl, rfl⟩ | rintro _ _ ⟨_, rfl, rfl⟩ | rintro _ _ ⟨_, _, ⟨_, _⟩, rfl, rfl⟩); try refine ⟨sConv, ?_⟩) | refine Dr.two ?_ ?_)
  refine L.step (by decide) (S.call rfl rfl Try.func142 (by kernel_rfl) rfl sPicks (fun E' hE => rsum_tri E' A n c l sRd) ?_)
  rintro e H' ⟨rfl, rfl⟩
  refine ⟨_, rfl, _, sCat, ?_⟩
  repeat (first | refine wFrm ?_ | (refine kFrm ?_; (first | rintro _ _ ⟨rfl, rfl⟩ | rintro _ _ ⟨_, rfl, rfl⟩ | rintro _ _ ⟨_, _, ⟨_, _⟩, rfl, rfl⟩); try refine ⟨sConv, ?_⟩) | refine Dr.two ?_ ?_)
  refine L.step (by decide) (S.call rfl rfl Try.func141 (by kernel_rfl) rfl sPicks (fun E' hE => rput_any E' none 0 0 [] (Crc.sum l) 4 sRd (by omega) (by omega) (by omega)) ?_)
  rw [hp4]
  unfold PutPost
  rw [hb4]
  rintro e H' ⟨A3, c3, rfl, h4, h5, rfl⟩
  refine ⟨_, rfl, _, sCat, ?_⟩
  repeat (first | refine wFrm ?_ | (refine kFrm ?_; (first | rintro _ _ ⟨rfl, rfl⟩ | rintro _ _ ⟨_, rfl, rfl⟩ | rintro _ _ ⟨_, _, ⟨_, _⟩, rfl, rfl⟩); try refine ⟨sConv, ?_⟩) | refine Dr.two ?_ ?_)
  rw [hfr, hlen]
  exact ret1 rfl sRet sConv (⟨_, _, rfl, rfl⟩)
end
end Go.Proofs.Ytkhmplaocfjpjaa.Sep
