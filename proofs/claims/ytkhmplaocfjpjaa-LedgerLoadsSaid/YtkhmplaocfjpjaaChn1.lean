/- chain: clones, what is found, what is settled, what is next; by parts of memory. -/
import Derived.Test.YtkhmplaocfjpjaaChnPlain
import Derived.Test.YtkhmplaocfjpjaaFld
namespace Go.Proofs.Ytkhmplaocfjpjaa.Sep
open Go.RowKit Go.Proofs.Ytkhmplaocfjpjaa.Reg
open Go.Proofs.Ytkhmplaocfjpjaa.Mem hiding Rd Own
-- types: entT enrT effT
-- recs: idnT_rec effT_rec cfgT_rec entT_rec enrT_rec keyT_rec reqT_rec chain_rec chref_rec
-- eqs: idnT_eqa effT_eqa entT_eqa enrT_eqa keyT_eqa reqT_eqa
-- funcs
-- flds
theorem entT_bytes : entT.bytes = 88 := rfl
theorem enrT_bytes : enrT.bytes = 88 := rfl
theorem effT_bytes : effT.bytes = 40 := rfl
theorem entT_val (e : Ent) : entT.val e = .agg e.cs.toArray := rfl
set_option maxRecDepth 100000
set_option maxHeartbeats 8000000
theorem sYCh1 {P : Program} {E : Env} {H : List Asn} {ρ : Operand → Value} {o : Oper} {v : Value} (h : Yld P E H ρ o v := by first | (intro _ _; first | (first | (apply V.move; (· exact rfl); (· exact sLk)) | (apply V.assign; (· exact rfl); (· exact sLk)) | (apply V.nilCheck; (· exact rfl); (· exact rfl)) | (apply V.fieldAddr; (· exact rfl); (· exact rfl); (· exact rfl); (· exact rfl); (· exact rfl); (· decide); (· exact sLk); (· exact sAdd)) | (apply V.extract; (· exact rfl); (· exact rfl); (· exact rfl)) | (apply V.not; (· exact rfl); (· exact rfl)) | (apply V.pickT; (· exact rfl); (· exact rfl); (· exact sTst); (· exact sLk)) | (apply V.pickF; (· exact rfl); (· exact rfl); (· exact sTst); (· exact sLk))) | (first | (apply V.add; (· exact rfl); (· exact rfl); (· exact rfl); (· exact sNum)) | (apply V.sub; (· exact rfl); (· exact rfl); (· exact rfl); (· exact sNum)) | (apply V.mul; (· exact rfl); (· exact rfl); (· exact rfl); (· exact sNum)) | (apply V.lss; (· exact rfl); (· exact rfl); (· exact rfl)) | (apply V.leq; (· exact rfl); (· exact rfl); (· exact rfl)) | (apply V.gtr; (· exact rfl); (· exact rfl); (· exact rfl)) | (apply V.geq; (· exact rfl); (· exact rfl); (· exact rfl)) | (apply V.eql; (· exact rfl); (· exact rfl); (· exact rfl))) | (first | (apply V.neq; (· exact rfl); (· exact rfl); (· exact rfl)) | (apply V.neqP; (· exact rfl); (· exact rfl); (· exact rfl); (· exact rfl)) | (apply V.eqlP; (· exact rfl); (· exact rfl); (· exact rfl); (· exact rfl)) | (apply V.eqlN; (· exact rfl); (· exact rfl); (· exact rfl); (· exact rfl)) | (apply V.neqN; (· exact rfl); (· exact rfl); (· exact rfl); (· exact rfl)) | (apply V.len; (· exact rfl); (· exact rfl); (· exact rfl); (· exact sMax)) | (apply V.conv; (· exact rfl); (· exact rfl); (· exact rfl); (· exact rfl); (· exact sNum)) | (apply V.shl8; (· exact rfl); (· exact rfl); (· exact rfl); (· exact sNum))) | (first | (apply V.shl; (· exact rfl); (· exact rfl); (· exact rfl); (· exact sOm); (· exact sNum)) | (apply V.shr; (· exact rfl); (· exact rfl); (· exact rfl); (· exact sOm); (· exact sNum)) | (apply V.quo; (· exact rfl); (· exact rfl); (· exact rfl); (· exact sOm); (· exact sQuo)) | (apply V.rem; (· exact rfl); (· exact rfl); (· exact rfl); (· exact sOm); (· exact sRem)) | (apply V.bits_; (· exact rfl); (· decide); (· exact rfl); (· exact rfl); (· exact sNum)) | (apply V.neg; (· exact rfl); (· exact rfl); (· exact sNum)) | (apply V.eqlS; (· exact rfl); (· exact rfl); (· exact rfl)) | (apply V.neqS; (· exact rfl); (· exact rfl); (· exact rfl))) | (first | (apply V.eqlB; (· exact rfl); (· exact rfl); (· exact rfl); (· exact rfl)) | (apply V.neqB; (· exact rfl); (· exact rfl); (· exact rfl); (· exact rfl)) | (apply V.max; (· exact rfl); (· exact rfl); (· exact rfl)) | (apply V.min; (· exact rfl); (· exact rfl); (· exact rfl)) | (apply V.func1; (· exact rfl); (· exact sLk)) | (apply V.indexA; (· exact rfl); (· exact rfl); (· exact rfl); (· exact rfl); (· exact rfl); (· exact rfl); (· exact rfl); (· exact rfl); (· exact sJ); (· exact sOm); (· exact sOm); (· exact sAsm)) | (apply V.eqlA; (· exact rfl); (· exact sLk); (· exact sLk); (· exact idnT_eqa)) | (apply V.neqA; (· exact rfl); (· exact sLk); (· exact sLk); (· exact idnT_eqa))) | (first | (apply V.eqlA; (· exact rfl); (· exact sLk); (· exact sLk); (· exact effT_eqa)) | (apply V.neqA; (· exact rfl); (· exact sLk); (· exact sLk); (· exact effT_eqa)) | (apply V.eqlA; (· exact rfl); (· exact sLk); (· exact sLk); (· exact entT_eqa)) | (apply V.neqA; (· exact rfl); (· exact sLk); (· exact sLk); (· exact entT_eqa)) | (apply V.eqlA; (· exact rfl); (· exact sLk); (· exact sLk); (· exact enrT_eqa)) | (apply V.neqA; (· exact rfl); (· exact sLk); (· exact sLk); (· exact enrT_eqa)) | (apply V.eqlA; (· exact rfl); (· exact sLk); (· exact sLk); (· exact keyT_eqa)) | (apply V.neqA; (· exact rfl); (· exact sLk); (· exact sLk); (· exact keyT_eqa))) | (first | (apply V.eqlA; (· exact rfl); (· exact sLk); (· exact sLk); (· exact reqT_eqa)) | (apply V.neqA; (· exact rfl); (· exact sLk); (· exact sLk); (· exact reqT_eqa)))) | (first | (first | (apply Y.load; (· exact rfl); (· exact rfl); (· exact rfl); (· exact rfl); (· exact sCell)) | (apply Y.indexAddr; (· exact rfl); (· exact rfl); (· exact rfl); (· exact sRdH); (· exact sJ); (· exact sOm); (· exact sAsm); (· exact sRfl); (· exact sRfl)) | (apply Y.loadElem; (· exact rfl); (· exact rfl); (· exact sRdH); rotate_left; (· exact sRfl); rotate_right; (· exact sAsm); (· exact sRfl)) | (apply Y.sliceArr; (· exact rfl); (· exact rfl); (· exact rfl); (· exact rfl)) | (apply Y.loadBlk; (· exact rfl); (· exact rfl); (· exact rfl); (· exact rfl); (· exact rfl); (· exact rfl); (· exact sHas); (· exact sSeg)) | (apply Y.loadPart; (· exact rfl); (· exact rfl); (· exact sRdH); rotate_left; (· exact sRfl); rotate_right; (· exact sAsm); (· exact rfl); (· exact rfl); (· exact rfl); (· exact rfl); (· exact sSeg)) | (apply Y.fieldL; (· exact rfl); (· exact rfl); (· exact rfl); (· exact rfl); (· exact rfl); (· exact rfl); (· exact rfl)) | (apply Y.fieldS; (· exact rfl); (· exact rfl); (· exact rfl); (· exact rfl); (· exact rfl); (· exact rfl); (· exact rfl); (· exact rfl); (· exact rfl); (· exact sSeg))) | (first | (apply Y.len; (· exact rfl); (· exact rfl); (· exact sRdH); (· exact sRfl)) | (apply Y.str; (· exact rfl); (· exact rfl); (· exact sRdH)) | (apply Y.sliceLo; (· exact rfl); (· exact rfl); (· exact rfl); (· exact sRdH); (· exact sJ); (· exact sOm); (· exact sOm); (· exact sRfl)) | (apply Y.sliceHi; (· exact rfl); (· exact rfl); (· exact rfl); (· exact sRdH); (· exact sJ); (· exact sOm); (· exact sOm); (· exact sRfl)) | (apply Y.sliceHiMax; (· exact rfl); (· exact rfl); (· exact rfl); (· exact rfl); (· exact sRdH); (· exact sJ); (· exact sOm); (· exact sJ); (· exact sOm); (· exact sOm); (· exact sOm); (· exact sRfl)) | (apply Y.sliceLoHi; (· exact rfl); (· exact rfl); (· exact rfl); (· exact rfl); (· exact sRdH); (· exact sJ); (· exact sOm); (· exact sJ); (· exact sOm); (· exact sOm); (· exact sOm); (· exact sRfl)) | (apply Y.strLen; (· exact rfl); (· exact rfl); (· exact rfl); (· exact sMax)) | (apply Y.indexStr; (· exact rfl); (· exact rfl); (· exact rfl); (· exact rfl); (· exact sJ); (· exact sOm); (· exact sAsm))) | (first | (apply Y.build; (· exact rfl); (· exact sPv); (· exact idnT_rec); (· exact sFil)) | (apply Y.build; (· exact rfl); (· exact sPv); (· exact effT_rec); (· exact sFil)) | (apply Y.build; (· exact rfl); (· exact sPv); (· exact cfgT_rec); (· exact sFil)) | (apply Y.build; (· exact rfl); (· exact sPv); (· exact entT_rec); (· exact sFil)) | (apply Y.build; (· exact rfl); (· exact sPv); (· exact enrT_rec); (· exact sFil)) | (apply Y.build; (· exact rfl); (· exact sPv); (· exact keyT_rec); (· exact sFil)) | (apply Y.build; (· exact rfl); (· exact sPv); (· exact reqT_rec); (· exact sFil)) | (apply Y.build; (· exact rfl); (· exact sPv); (· exact chain_rec); (· exact sFil))) | (first | (apply Y.build; (· exact rfl); (· exact sPv); (· exact chref_rec); (· exact sFil))))) : Yld P E H ρ o v := h
theorem sSCh1 {P : Program} {N : Nat} {E : Env} {F : Nat → Value} {H : List Asn} {o : Oper} {K : Value → List Asn → Prop} (h : Stp P N E F H o K := by first | (first | (apply S.boxK; (· exact rfl); (· exact sLk); (· exact sCel)) | (apply S.append1K; (· exact rfl); (· exact rfl); (· exact rfl); (· exact rfl); (· exact sNN); (· exact (fun _ _ => sRepl)); (· exact sNL); (· exact sRfl); (· first | (conv => lhs; simp only [entT, enrT, effT]) | rfl); (· exact sOm); (· exact sOm)) | (apply S.appendK; (· exact rfl); (· exact rfl); (· exact rfl); (· exact sNN); (· exact (fun _ _ => sRepl)); (· exact sRdH); (· exact sNL); (· exact sRfl); (· first | (conv => lhs; simp only [entT, enrT, effT]) | rfl); (· exact sOm); (· exact sOm)) | (apply S.appendNilK; (· exact rfl); (· exact rfl); (· exact rfl); (· exact sRdH); (· exact sRfl); (· first | (conv => lhs; simp only [entT, enrT, effT]) | rfl); (· exact sOm); (· exact sOm)) | (apply (S.buildSliceK (T := entT) (l := [])); (· exact rfl); (· exact rfl); (· exact rfl); (· exact rfl); (· decide)) | (apply (S.buildSlice1K (T := entT)); (· exact rfl); (· exact sLk); (· first | rfl | (with_reducible exact entT_val _ sOm sOm)); (· exact rfl); (· decide)) | (apply (S.buildSlice2K (T := entT)); (· exact rfl); (· exact sLk); (· first | rfl | (with_reducible exact entT_val _ sOm sOm)); (· exact sLk); (· first | rfl | (with_reducible exact entT_val _ sOm sOm)); (· exact rfl); (· decide)) | (apply (S.buildSlice3K (T := entT)); (· exact rfl); (· exact sLk); (· first | rfl | (with_reducible exact entT_val _ sOm sOm)); (· exact sLk); (· first | rfl | (with_reducible exact entT_val _ sOm sOm)); (· exact sLk); (· first | rfl | (with_reducible exact entT_val _ sOm sOm)); (· exact rfl); (· decide))) | (first | (apply (S.buildSliceK (T := enrT) (l := [])); (· exact rfl); (· exact rfl); (· exact rfl); (· exact rfl); (· decide)) | (apply (S.buildSlice1K (T := enrT)); (· exact rfl); (· exact sLk); (· first | rfl | (with_reducible exact enrT_val _ sOm sOm)); (· exact rfl); (· decide)) | (apply (S.buildSlice2K (T := enrT)); (· exact rfl); (· exact sLk); (· first | rfl | (with_reducible exact enrT_val _ sOm sOm)); (· exact sLk); (· first | rfl | (with_reducible exact enrT_val _ sOm sOm)); (· exact rfl); (· decide)) | (apply (S.buildSlice3K (T := enrT)); (· exact rfl); (· exact sLk); (· first | rfl | (with_reducible exact enrT_val _ sOm sOm)); (· exact sLk); (· first | rfl | (with_reducible exact enrT_val _ sOm sOm)); (· exact sLk); (· first | rfl | (with_reducible exact enrT_val _ sOm sOm)); (· exact rfl); (· decide)) | (apply (S.buildSliceK (T := effT) (l := [])); (· exact rfl); (· exact rfl); (· exact rfl); (· exact rfl); (· decide)) | (apply (S.buildSlice1K (T := effT)); (· exact rfl); (· exact sLk); (· first | rfl | (with_reducible exact effT_val _ sOm sOm)); (· exact rfl); (· decide)) | (apply (S.buildSlice2K (T := effT)); (· exact rfl); (· exact sLk); (· first | rfl | (with_reducible exact effT_val _ sOm sOm)); (· exact sLk); (· first | rfl | (with_reducible exact effT_val _ sOm sOm)); (· exact rfl); (· decide)) | (apply (S.buildSlice3K (T := effT)); (· exact rfl); (· exact sLk); (· first | rfl | (with_reducible exact effT_val _ sOm sOm)); (· exact sLk); (· first | rfl | (with_reducible exact effT_val _ sOm sOm)); (· exact sLk); (· first | rfl | (with_reducible exact effT_val _ sOm sOm)); (· exact rfl); (· decide))) | (first | (apply (S.storeFK (T := entT)); (· exact rfl); (· exact rfl); (· exact sLk); (· exact sRepl); (· exact sAsm); (· exact rfl); (· exact sAsm); (· intro x hx; simp [Value.cells] at hx; subst hx; rfl); (· exact rfl); (· exact rfl)) | (apply (S.storeEK (T := entT)); (· exact rfl); (· exact rfl); (· exact sLk); (· exact sRepl); rotate_left; (· exact sRfl); rotate_right; (· exact sAsm); (· first | rfl | (with_reducible exact entT_val _ sOm sOm)); (· exact sRfl)) | (apply (S.storeFK (T := enrT)); (· exact rfl); (· exact rfl); (· exact sLk); (· exact sRepl); (· exact sAsm); (· exact rfl); (· exact sAsm); (· intro x hx; simp [Value.cells] at hx; subst hx; rfl); (· exact rfl); (· exact rfl)) | (apply (S.storeEK (T := enrT)); (· exact rfl); (· exact rfl); (· exact sLk); (· exact sRepl); rotate_left; (· exact sRfl); rotate_right; (· exact sAsm); (· first | rfl | (with_reducible exact enrT_val _ sOm sOm)); (· exact sRfl)) | (apply (S.storeFK (T := effT)); (· exact rfl); (· exact rfl); (· exact sLk); (· exact sRepl); (· exact sAsm); (· exact rfl); (· exact sAsm); (· intro x hx; simp [Value.cells] at hx; subst hx; rfl); (· exact rfl); (· exact rfl)) | (apply (S.storeEK (T := effT)); (· exact rfl); (· exact rfl); (· exact sLk); (· exact sRepl); rotate_left; (· exact sRfl); rotate_right; (· exact sAsm); (· first | rfl | (with_reducible exact effT_val _ sOm sOm)); (· exact sRfl)) | (apply S.allocK; (· exact rfl); (· exact idnT_rec.zero)) | (apply S.allocK; (· exact rfl); (· exact effT_rec.zero))) | (first | (apply S.allocK; (· exact rfl); (· exact cfgT_rec.zero)) | (apply S.allocK; (· exact rfl); (· exact entT_rec.zero)) | (apply S.allocK; (· exact rfl); (· exact enrT_rec.zero)) | (apply S.allocK; (· exact rfl); (· exact keyT_rec.zero)) | (apply S.allocK; (· exact rfl); (· exact reqT_rec.zero)) | (apply S.allocK; (· exact rfl); (· exact chain_rec.zero)) | (apply S.allocK; (· exact rfl); (· exact chref_rec.zero)) | (apply (S.makeSliceK (T := entT) (z := entT_z)); (· exact rfl); (· exact rfl); (· exact rfl); (· exact sJ); (· exact sOm); (· exact rfl); (· exact rfl); (· first | (conv => lhs; simp only [entT, enrT, effT]) | rfl); (· exact sOm); (· exact sOm))) | (first | (apply (S.makeSliceK (T := enrT) (z := enrT_z)); (· exact rfl); (· exact rfl); (· exact rfl); (· exact sJ); (· exact sOm); (· exact rfl); (· exact rfl); (· first | (conv => lhs; simp only [entT, enrT, effT]) | rfl); (· exact sOm); (· exact sOm)) | (apply (S.makeSliceK (T := effT) (z := effT_z)); (· exact rfl); (· exact rfl); (· exact rfl); (· exact sJ); (· exact sOm); (· exact rfl); (· exact rfl); (· first | (conv => lhs; simp only [entT, enrT, effT]) | rfl); (· exact sOm); (· exact sOm)) | (apply S.storeAggK; (· exact rfl); (· exact rfl); (· exact sLk); (· exact rfl); (· exact rfl); (· exact rfl); (· exact sRepl); (· exact sPut)) | (apply S.copyInK; (· exact rfl); (· exact rfl); (· exact rfl); (· exact sAsm); (· exact sRepl); (· exact sRdH); rotate_left; (· exact rfl); rotate_right; (· exact sAsm); (· exact sOm); (· exact sAsm); (· exact rfl); (· exact sMax)) | (apply S.store1K; (· exact rfl); (· exact rfl); (· exact sLk); (· exact sRfl); (· exact rfl); (· exact rfl); (· exact sRepl); (· exact sLn); (· exact sSetL)))) : Stp P N E F H o K := h
theorem wCh1 {p q : Prop} (hq : q) (h : Box q → p := by intro h; (first | (focus (apply L.val; (· decide); (· exact sYCh1))) | refine C.seq ?_ | refine C.region ?_ | refine L.nil ?_ | refine C.block ?_ | refine C.exit ?_ | refine C.skip ?_ | refine C.ret ?_ | (focus (apply L.on; (· exact rfl); (· decide); (· exact rfl); (· exact sTst))) | (focus (apply L.off; (· decide); (· exact rfl); (· decide); (· exact rfl); (· exact sTst))) | (focus (apply L.offU; (· decide); (· exact rfl); (· decide); (· exact rfl))) | (focus (apply C.condT; (· exact rfl); (· exact sTst))) | (focus (apply C.condF; (· exact rfl); (· exact sTst))) | refine Dr.done ?_ | refine DrA.done ?_ | (focus (apply DrA.take; (· exact rfl); (· decide); (· exact sGon); (· exact sYCh1))) | (focus (apply Dr.take; (· exact rfl); (· decide); (· exact sGon); (· exact sYCh1))) | (focus (apply Dr.skip; (· exact rfl); (· decide); (· exact sGoff))) | (focus (apply Dr.goSkip; (· exact rfl); (· decide); (· exact sGoff))) | with_reducible refine T.n ?_ | with_reducible refine T.ret ?_ | with_reducible refine T.exit ?_ | with_reducible refine I.n ?_ | with_reducible refine I.ret ?_ | with_reducible refine I.hit ?_ | with_reducible refine I.miss (by decide) ?_); (repeat (first | (focus (apply L.val; (· decide); (· exact sYCh1))) | refine C.seq ?_ | refine C.region ?_ | refine L.nil ?_ | refine C.block ?_ | refine C.exit ?_ | refine C.skip ?_ | refine C.ret ?_ | (focus (apply L.on; (· exact rfl); (· decide); (· exact rfl); (· exact sTst))) | (focus (apply L.off; (· decide); (· exact rfl); (· decide); (· exact rfl); (· exact sTst))) | (focus (apply L.offU; (· decide); (· exact rfl); (· decide); (· exact rfl))) | (focus (apply C.condT; (· exact rfl); (· exact sTst))) | (focus (apply C.condF; (· exact rfl); (· exact sTst))) | refine Dr.done ?_ | refine DrA.done ?_ | (focus (apply DrA.take; (· exact rfl); (· decide); (· exact sGon); (· exact sYCh1))) | (focus (apply Dr.take; (· exact rfl); (· decide); (· exact sGon); (· exact sYCh1))) | (focus (apply Dr.skip; (· exact rfl); (· decide); (· exact sGoff))) | (focus (apply Dr.goSkip; (· exact rfl); (· decide); (· exact sGoff))) | with_reducible refine T.n ?_ | with_reducible refine T.ret ?_ | with_reducible refine T.exit ?_ | with_reducible refine I.n ?_ | with_reducible refine I.ret ?_ | with_reducible refine I.hit ?_ | with_reducible refine I.miss (by decide) ?_)); exact h.out) : p := h ⟨hq⟩
theorem vCh1 {p q : Prop} (hq : q) (h : Box q → p := by intro h; (first | (focus (apply L.val; (· decide); (· exact sYCh1))) | refine C.seq ?_ | refine C.region ?_ | refine L.nil ?_ | refine C.block ?_ | refine C.exit ?_ | refine C.skip ?_ | refine C.ret ?_ | (focus (apply L.on; (· exact rfl); (· decide); (· exact rfl); (· exact sTst))) | (focus (apply L.off; (· decide); (· exact rfl); (· decide); (· exact rfl); (· exact sTst))) | (focus (apply L.offU; (· decide); (· exact rfl); (· decide); (· exact rfl))) | (focus (apply C.condT; (· exact rfl); (· exact sTst))) | (focus (apply C.condF; (· exact rfl); (· exact sTst))) | refine Dr.done ?_ | refine DrA.done ?_ | (focus (apply DrA.take; (· exact rfl); (· decide); (· exact sGon); (· exact sYCh1))) | (focus (apply Dr.take; (· exact rfl); (· decide); (· exact sGon); (· exact sYCh1))) | (focus (apply Dr.skip; (· exact rfl); (· decide); (· exact sGoff))) | (focus (apply Dr.goSkip; (· exact rfl); (· decide); (· exact sGoff))) | with_reducible refine T.n ?_ | with_reducible refine T.ret ?_ | with_reducible refine T.exit ?_ | with_reducible refine I.n ?_ | with_reducible refine I.ret ?_ | with_reducible refine I.hit ?_ | with_reducible refine I.miss (by decide) ?_); exact h.out) : p := h ⟨hq⟩
theorem kCh1 {p q : Prop} (hq : q) (h : Box q → p := by intro h; first | (apply L.stepK; (· decide); (· exact sSCh1); exact h.out) | (apply L.step0K; (· exact sSCh1); exact h.out) | (apply Dr.goZ; (· exact rfl); (· rintro k ⟨⟩ <;> decide); (· exact sGon); (· exact sSCh1); exact h.out) | (apply Dr.goZs; (· exact rfl); (· rintro k ⟨⟩ <;> decide); (· exact sGon); (· exact sSCh1); exact h.out) | (apply Go1.goK; (· exact rfl); (· rintro k ⟨⟩ <;> decide); (· exact sGon); (· exact sSCh1); exact h.out) | (apply Dr.goK; (· exact rfl); (· rintro k ⟨⟩ <;> decide); (· exact sGon); (· exact sSCh1); exact h.out)) : p := h ⟨hq⟩
abbrev chn (id : Idn) (made : Int) (A : Option Addr) (n c : Nat) : Value := .agg #[.int .i64 id.rep, .int .i64 id.seq, .int .i64 made, .slice A n c]
section
variable (E : Env) (id : Idn) (made : Int) (A : Option Addr) (n c : Nat) (l : List Ent)
theorem sclone (hr : Rd E entT A n c l) (hl : n ≤ 1000000) : Tri Try.prog E 113 #[.slice A n c] [] fun r H' => ∃ A' c', r = .returned (.slice A' n c') ∧ (n ≤ c' ∧ c' ≤ maxLen) ∧ H' = [own entT A' n c' l] := by
  refine tri Try.func113 rfl Try.ntmps113 (by simp) ?_
  cases A with
  | none =>
    obtain ⟨rfl, rfl⟩ := hr.none
    repeat (first | refine wCh1 ?_ | (refine kCh1 ?_; (first | rintro _ _ ⟨rfl, rfl⟩ | rintro _ _ ⟨_, rfl, rfl⟩ | rintro _ _ ⟨_, _, ⟨_, _⟩, rfl, rfl⟩); try refine ⟨sConv, ?_⟩) | refine Dr.two ?_ ?_)
    exact ret1 rfl sRet (Conv.nil0 entT none) ⟨none, 0, rfl, ⟨Nat.le_refl _, Nat.zero_le _⟩, rfl⟩
  | some a =>
    repeat (first | refine wCh1 ?_ | (refine kCh1 ?_; (first | rintro _ _ ⟨rfl, rfl⟩ | rintro _ _ ⟨_, rfl, rfl⟩ | rintro _ _ ⟨_, _, ⟨_, _⟩, rfl, rfl⟩); try refine ⟨sConv, ?_⟩) | refine Dr.two ?_ ?_)
    rename_i A' c' h1 h2
    exact ret1 rfl sRet sConv (⟨_, _, rfl, ⟨h1, h2⟩, rfl⟩)
theorem cclone (hr : Rd E entT A n c l) (hl : n ≤ 1000000) : Tri Try.prog E 70 #[chn id made A n c] [] fun r H' => ∃ A' c', r = .returned (chn id made A' n c') ∧ (n ≤ c' ∧ c' ≤ maxLen) ∧ H' = [own entT A' n c' l] := by
  refine tri Try.func70 rfl Try.ntmps70 (by simp) ?_
  repeat (first | refine wCh1 ?_ | (refine kCh1 ?_; (first | rintro _ _ ⟨rfl, rfl⟩ | rintro _ _ ⟨_, rfl, rfl⟩ | rintro _ _ ⟨_, _, ⟨_, _⟩, rfl, rfl⟩); try refine ⟨sConv, ?_⟩) | refine Dr.two ?_ ?_)
  refine L.step (by decide) (S.call rfl rfl Try.func113 (by kernel_rfl) rfl sPicks (fun E' hE => sclone E' A n c l sRd hl) ?_)
  rintro r H' ⟨A', c', rfl, hc, rfl⟩
  refine ⟨_, rfl, _, sCat, ?_⟩
  repeat (first | refine wCh1 ?_ | (refine kCh1 ?_; (first | rintro _ _ ⟨rfl, rfl⟩ | rintro _ _ ⟨_, rfl, rfl⟩ | rintro _ _ ⟨_, _, ⟨_, _⟩, rfl, rfl⟩); try refine ⟨sConv, ?_⟩) | refine Dr.two ?_ ?_)
  apply retC1; (· exact rfl); (· exact sRet); (· exact rfl); (· exact rfl); (· exact rfl); (· exact sHas); (· exact rfl); rotate_left; (· exact (⟨_, _, rfl, hc, rfl⟩)); (· exact sConv)
/-- IndexFunc, of a predicate that any function tells -/
theorem sidx (hr : Rd E entT A n c l) (f : FuncId) (fn : Func) (hfn : Try.prog.funcs[f]? = some fn) (hname : (fn.name == "runtime.NumGoroutine") = false) (hbody : fn.body.isNone = false) (cs : List Value) (p : Ent → Bool)
    (hcall : ∀ E' R, Sub E R E' → ∀ x : Ent, Tri Try.prog E' f (.agg x.cs.toArray :: cs).toArray [] fun r H' => r = .returned (.bool (p x)) ∧ H' = []) :
    Tri Try.prog E 120 #[.slice A n c, .func (.func f) #[] cs.toArray] [] fun r H' => r = .returned (.int .i64 (idx p l)) ∧ H' = [] := by
  have hn := hr.len
  have hcap := hr.cap
  refine tri Try.func120 rfl Try.ntmps120 (by simp) ?_
  repeat (first | refine wCh1 ?_ | (refine kCh1 ?_; (first | rintro _ _ ⟨rfl, rfl⟩ | rintro _ _ ⟨_, rfl, rfl⟩ | rintro _ _ ⟨_, _, ⟨_, _⟩, rfl, rfl⟩); try refine ⟨sConv, ?_⟩) | refine Dr.two ?_ ?_)
  refine C.loop (X := Nat) (fun i => [(0, .slice A n c), (1, .func (.func f) #[] cs.toArray), (7, .int .i64 n), (8, .int .i64 i)]) (fun _ => []) (fun i => i ≤ n ∧ ∀ j y, j < i → l[j]? = some y → p y = false) (fun i => n - i) 0 sHolds Conv.refl ⟨Nat.zero_le _, fun j y hj => by omega⟩ ?_
  rintro i G ⟨hi, hall⟩
  by_cases hlt : i < n
  · have hx : l[i]? = some l[i] := List.getElem?_eq_getElem (by omega)
    generalize l[i] = x at hx
    have hmax : maxLen = 9223372036854775807 := rfl
    repeat (first | refine wCh1 ?_ | (refine kCh1 ?_; (first | rintro _ _ ⟨rfl, rfl⟩ | rintro _ _ ⟨_, rfl, rfl⟩ | rintro _ _ ⟨_, _, ⟨_, _⟩, rfl, rfl⟩); try refine ⟨sConv, ?_⟩) | refine Dr.two ?_ ?_)
    refine L.step (by decide) (S.callVL rfl rfl rfl rfl hfn hname hbody sPicks (fun E' hE => hcall E' _ hE x) ?_)
    rintro r H' ⟨rfl, rfl⟩
    refine ⟨_, rfl, _, sCat, ?_⟩
    cases hp : p x
    · repeat (first | refine wCh1 ?_ | (refine kCh1 ?_; (first | rintro _ _ ⟨rfl, rfl⟩ | rintro _ _ ⟨_, rfl, rfl⟩ | rintro _ _ ⟨_, _, ⟨_, _⟩, rfl, rfl⟩); try refine ⟨sConv, ?_⟩) | refine Dr.two ?_ ?_)
      refine ⟨i + 1, sHolds, Conv.refl, ⟨by omega, fun j y hj hy => ?_⟩, by omega⟩
      by_cases hji : j = i
      · subst hji; rw [hx] at hy; injection hy with hy; subst hy; exact hp
      · exact hall j y (by omega) hy
    · rw [idx_some hx hp hall]
      repeat (first | refine wCh1 ?_ | (refine kCh1 ?_; (first | rintro _ _ ⟨rfl, rfl⟩ | rintro _ _ ⟨_, rfl, rfl⟩ | rintro _ _ ⟨_, _, ⟨_, _⟩, rfl, rfl⟩); try refine ⟨sConv, ?_⟩) | refine Dr.two ?_ ?_)
      exact ret1 rfl sRet sConv (⟨rfl, rfl⟩)
  · obtain rfl : i = n := by omega
    rw [idx_none (fun x hx => by obtain ⟨j, hj, rfl⟩ := List.getElem_of_mem hx; exact hall j _ (by omega) (List.getElem?_eq_getElem hj))]
    repeat (first | refine wCh1 ?_ | (refine kCh1 ?_; (first | rintro _ _ ⟨rfl, rfl⟩ | rintro _ _ ⟨_, rfl, rfl⟩ | rintro _ _ ⟨_, _, ⟨_, _⟩, rfl, rfl⟩); try refine ⟨sConv, ?_⟩) | refine Dr.two ?_ ?_)
    exact ret1 rfl sRet sConv (⟨rfl, rfl⟩)
theorem scont (hr : Rd E entT A n c l) : Tri Try.prog E 123 #[.slice A n c, .func (.func 108) #[] #[]] [] fun r H' => r = .returned (.bool (l.any (·.opn))) ∧ H' = [] := by
  refine tri Try.func123 rfl Try.ntmps123 (by simp) ?_
  have hany : decide (0 ≤ idx (·.opn) l) = l.any (·.opn) := by
    unfold idx
    cases h : l.findIdx? (·.opn) with
    | none =>
      rw [List.findIdx?_eq_none_iff] at h
      rw [Bool.eq_iff_iff]
      simp
      exact h
    | some i =>
      rw [List.findIdx?_eq_some_iff_getElem] at h
      obtain ⟨hi, h1, _⟩ := h
      rw [List.any_eq_true.2 ⟨_, List.getElem_mem hi, h1⟩]
      exact decide_eq_true (Int.natCast_nonneg i)
  repeat (first | refine wCh1 ?_ | (refine kCh1 ?_; (first | rintro _ _ ⟨rfl, rfl⟩ | rintro _ _ ⟨_, rfl, rfl⟩ | rintro _ _ ⟨_, _, ⟨_, _⟩, rfl, rfl⟩); try refine ⟨sConv, ?_⟩) | refine Dr.two ?_ ?_)
  refine L.step (by decide) (S.call rfl rfl Try.func120 (by kernel_rfl) rfl sPicks (fun E' hE => sidx E' A n c l sRd _ _ Try.func108 (by kernel_rfl) rfl [] (·.opn) (fun E2 _ _ x => eopn E2 x)) ?_)
  rintro r H' ⟨rfl, rfl⟩
  refine ⟨_, rfl, _, sCat, ?_⟩
  repeat (first | refine wCh1 ?_ | (refine kCh1 ?_; (first | rintro _ _ ⟨rfl, rfl⟩ | rintro _ _ ⟨_, rfl, rfl⟩ | rintro _ _ ⟨_, _, ⟨_, _⟩, rfl, rfl⟩); try refine ⟨sConv, ?_⟩) | refine Dr.two ?_ ?_)
  exact ret1 rfl sRet sConv (⟨by rw [hany], rfl⟩)
theorem ctop (hr : Rd E entT A n c l) : Tri Try.prog E 107 #[chn id made A n c] [] fun r H' => r = .returned (.tuple #[.agg ((l[l.length - 1]?).getD entT_z).cs.toArray, .bool (l[l.length - 1]?).isSome]) ∧ H' = [] := by
  have hn := hr.len
  have hcap := hr.cap
  have hmax : maxLen = 9223372036854775807 := rfl
  refine tri Try.func107 rfl Try.ntmps107 (by simp) ?_
  by_cases h0 : n = 0
  · rw [List.getElem?_eq_none (by omega)]
    dsimp only [Option.getD, Option.isSome]
    repeat (first | refine wCh1 ?_ | (refine kCh1 ?_; (first | rintro _ _ ⟨rfl, rfl⟩ | rintro _ _ ⟨_, rfl, rfl⟩ | rintro _ _ ⟨_, _, ⟨_, _⟩, rfl, rfl⟩); try refine ⟨sConv, ?_⟩) | refine Dr.two ?_ ?_)
    apply retC2; (· exact rfl); (· exact sRet); (· exact rfl); (· exact rfl); (· exact rfl); (· exact sHas); (· exact rfl); (· exact sRet); rotate_left; (· exact (⟨rfl, rfl⟩)); (· exact sConv)
  · have hs : IntKind.i64.wrap ((n : Int) - 1) = ((n - 1 : Nat) : Int) := by rw [IntWalk.i64_in _ (by omega)]; omega
    have hx : l[n - 1]? = some l[n - 1] := List.getElem?_eq_getElem (by omega)
    rw [← hn, hx]
    dsimp only [Option.getD, Option.isSome]
    generalize l[n - 1] = e at hx
    repeat (first | refine wCh1 ?_ | (refine kCh1 ?_; (first | rintro _ _ ⟨rfl, rfl⟩ | rintro _ _ ⟨_, rfl, rfl⟩ | rintro _ _ ⟨_, _, ⟨_, _⟩, rfl, rfl⟩); try refine ⟨sConv, ?_⟩) | refine Dr.two ?_ ?_)
    apply retC2; (· exact rfl); (· exact sRet); (· exact rfl); (· exact rfl); (· exact rfl); (· exact sHas); (· exact rfl); (· exact sRet); rotate_left; (· exact (⟨rfl, rfl⟩)); (· exact sConv)
theorem ckey (e : Ent) : Tri Try.prog E 111 #[chn id made A n c, .agg e.cs.toArray] [] fun r H' => r = .returned (.agg (⟨id, e.ord, e.und⟩ : Keyv).cs.toArray) ∧ H' = [] := by
  refine tri Try.func111 rfl Try.ntmps111 (by simp) ?_
  repeat (first | refine wCh1 ?_ | (refine kCh1 ?_; (first | rintro _ _ ⟨rfl, rfl⟩ | rintro _ _ ⟨_, rfl, rfl⟩ | rintro _ _ ⟨_, _, ⟨_, _⟩, rfl, rfl⟩); try refine ⟨sConv, ?_⟩) | refine Dr.two ?_ ?_)
  refine C.regionA 7 (.one 0 false (.one 1 false (.one 2 false (.one 3 false (.one 4 false (.one 5 true (.one 6 false (.one 7 true .nil)))))))) _ (by kernel_rfl) (by kernel_rfl) Conv.refl ?_
  repeat (first | refine wCh1 ?_ | (refine kCh1 ?_; (first | rintro _ _ ⟨rfl, rfl⟩ | rintro _ _ ⟨_, rfl, rfl⟩ | rintro _ _ ⟨_, _, ⟨_, _⟩, rfl, rfl⟩); try refine ⟨sConv, ?_⟩) | refine Dr.two ?_ ?_)
  refine Dr.go rfl (by rintro k ⟨⟩ <;> decide) sGon (S.call rfl rfl Try.func69 (by kernel_rfl) rfl sPicks (fun E' hE => eund E' e) ?_)
  rintro r H' ⟨rfl, rfl⟩
  refine ⟨_, rfl, _, sCat, sConv, ?_⟩
  repeat (first | refine wCh1 ?_ | (refine kCh1 ?_; (first | rintro _ _ ⟨rfl, rfl⟩ | rintro _ _ ⟨_, rfl, rfl⟩ | rintro _ _ ⟨_, _, ⟨_, _⟩, rfl, rfl⟩); try refine ⟨sConv, ?_⟩) | refine Dr.two ?_ ?_)
  apply retC1; (· exact rfl); (· exact sRet); (· exact rfl); (· exact rfl); (· exact rfl); (· exact sHas); (· exact rfl); rotate_left; (· exact (⟨rfl, rfl⟩)); (· exact sConv)
/-- what 'Next' answers -/
abbrev Nxt (q : Option Req) (r : Ending) : Prop := r = .returned (.tuple #[.agg (q.getD reqT_z).cs.toArray, .bool q.isSome])
theorem ent_eta (x y : Ent) : decide ((⟨x.ord, ⟨x.what.kind, x.what.a, x.what.n, ⟨x.what.ref.rep, x.what.ref.seq⟩⟩, x.sent, x.last, x.acked, x.gone, x.back, x.backLast⟩ : Ent) = ⟨y.ord, ⟨y.what.kind, y.what.a, y.what.n, ⟨y.what.ref.rep, y.what.ref.seq⟩⟩, y.sent, y.last, y.acked, y.gone, y.back, y.backLast⟩) = decide (x = y) := rfl
theorem cnext (want : List Eff) (X : Option Addr) (nx cx : Nat) (hr : Rd E entT A n c l) (hw : Rd E effT X nx cx want) (hok : ∀ e ∈ l, e.ok) (hm : I64 made) :
    Tri Try.prog E 67 #[chn id made A n c, .slice X nx cx] [] fun r H' => Nxt (next id made l want) r ∧ H' = [] := by
  have hn := hr.len
  have hcap := hr.cap
  have hnw := hw.len
  have hcw := hw.cap
  have hmax : maxLen = 9223372036854775807 := rfl
  unfold I64 at hm
  unfold Nxt
  refine tri Try.func67 rfl Try.ntmps67 (by simp) ?_
  repeat (first | refine wCh1 ?_ | (refine kCh1 ?_; (first | rintro _ _ ⟨rfl, rfl⟩ | rintro _ _ ⟨_, rfl, rfl⟩ | rintro _ _ ⟨_, _, ⟨_, _⟩, rfl, rfl⟩); try refine ⟨sConv, ?_⟩) | refine Dr.two ?_ ?_)
  refine L.step (by decide) (S.call rfl rfl Try.func107 (by kernel_rfl) rfl sPicks (fun E' hE => ctop E' id made A n c l sRd) ?_)
  rintro r H' ⟨rfl, rfl⟩
  refine ⟨_, rfl, _, sCat, ?_⟩
  repeat ((fail_if_success (refine C.seq (x := Code.region 2 _ _) ?_)); first | refine vCh1 ?_ | (refine kCh1 ?_; (first | rintro _ _ ⟨rfl, rfl⟩ | rintro _ _ ⟨_, rfl, rfl⟩ | rintro _ _ ⟨_, _, ⟨_, _⟩, rfl, rfl⟩); try refine ⟨sConv, ?_⟩) | refine Dr.two ?_ ?_)
  rename_i g2 g4 g6
  have hq : ∃ q, l[l.length - 1]? = q := ⟨_, rfl⟩
  obtain ⟨q, hq⟩ := hq
  rw [hq]
  refine C.cut (X := Unit) (fun _ => [(1, .slice X nx cx), (2, .pointer (some ⟨g2, 0, none⟩)), (4, .pointer (some ⟨g4, 0, none⟩)), (6, .pointer (some ⟨g6, 0, none⟩)), (13, .bool (tip l).isSome)]) (fun _ => [blk g6 73 (q.getD entT_z).cs, blk g4 49 reqT_z.cs, blk g2 61 [.int .i64 id.rep, .int .i64 id.seq, .int .i64 made, .slice A n c]]) (fun _ => True) ?_ ?_
  · cases q with
    | none =>
      have ht : tip l = none := by unfold tip; rw [hq]
      rw [ht]
      dsimp only [Option.getD, Option.isSome]
      repeat (first | refine wCh1 ?_ | (refine kCh1 ?_; (first | rintro _ _ ⟨rfl, rfl⟩ | rintro _ _ ⟨_, rfl, rfl⟩ | rintro _ _ ⟨_, _, ⟨_, _⟩, rfl, rfl⟩); try refine ⟨sConv, ?_⟩) | refine Dr.two ?_ ?_)
      exact ⟨(), sHolds, sConv, trivial⟩
    | some e =>
      dsimp only [Option.getD, Option.isSome]
      repeat (first | refine wCh1 ?_ | (refine kCh1 ?_; (first | rintro _ _ ⟨rfl, rfl⟩ | rintro _ _ ⟨_, rfl, rfl⟩ | rintro _ _ ⟨_, _, ⟨_, _⟩, rfl, rfl⟩); try refine ⟨sConv, ?_⟩) | refine Dr.two ?_ ?_)
      refine L.step (by decide) (S.call rfl rfl Try.func108 (by kernel_rfl) rfl sPicks (fun E' hE => eopn E' e) ?_)
      rintro r H' ⟨rfl, rfl⟩
      refine ⟨_, rfl, _, sCat, ?_⟩
      cases ho : e.opn
      · rw [tip_shut hq ho]
        dsimp only [Option.isSome]
        repeat (first | refine wCh1 ?_ | (refine kCh1 ?_; (first | rintro _ _ ⟨rfl, rfl⟩ | rintro _ _ ⟨_, rfl, rfl⟩ | rintro _ _ ⟨_, _, ⟨_, _⟩, rfl, rfl⟩); try refine ⟨sConv, ?_⟩) | refine Dr.two ?_ ?_)
        exact ⟨(), sHolds, sConv, trivial⟩
      · rw [tip_opn hq ho]
        dsimp only [Option.isSome]
        repeat (first | refine wCh1 ?_ | (refine kCh1 ?_; (first | rintro _ _ ⟨rfl, rfl⟩ | rintro _ _ ⟨_, rfl, rfl⟩ | rintro _ _ ⟨_, _, ⟨_, _⟩, rfl, rfl⟩); try refine ⟨sConv, ?_⟩) | refine Dr.two ?_ ?_)
        exact ⟨(), sHolds, sConv, trivial⟩
  rintro - G -
  unfold next
  cases htip : tip l with
  | some e =>
    obtain ⟨he, ho⟩ := tip_some htip
    rw [hq] at he
    subst he
    have heok : e.ok := hok e (List.mem_of_getElem? hq)
    dsimp only [Option.getD, Option.isSome]
    obtain ⟨w, hw1⟩ : ∃ w, IntKind.i64.wrap (e.last + 1) = w := ⟨_, rfl⟩
    have hd := (ent_eta (e.try_ w) e).trans (try_same ho)
    repeat (first | refine wCh1 ?_ | (refine kCh1 ?_; (first | rintro _ _ ⟨rfl, rfl⟩ | rintro _ _ ⟨_, rfl, rfl⟩ | rintro _ _ ⟨_, _, ⟨_, _⟩, rfl, rfl⟩); try refine ⟨sConv, ?_⟩) | refine Dr.two ?_ ?_)
    refine C.regionA 100000 (.one 0 false (.one 1 false (.one 2 false (.one 3 false (.one 5 false (.one 4 true (.one 6 false .nil))))))) _ (by kernel_rfl) (by kernel_rfl) Conv.refl ?_
    repeat (first | refine wCh1 ?_ | (refine kCh1 ?_; (first | rintro _ _ ⟨rfl, rfl⟩ | rintro _ _ ⟨_, rfl, rfl⟩ | rintro _ _ ⟨_, _, ⟨_, _⟩, rfl, rfl⟩); try refine ⟨sConv, ?_⟩) | refine Dr.two ?_ ?_)
    refine Dr.go rfl (by rintro k ⟨⟩ <;> decide) sGon (S.call rfl rfl Try.func110 (by kernel_rfl) rfl sPicks (fun E' hE => etry E' e w heok) ?_)
    generalize e.try_ w = x at *
    rintro r H' ⟨rfl, rfl⟩
    refine ⟨_, rfl, _, sCat, sConv, ?_⟩
    by_cases h8 : e.nt < 8
    · rw [if_pos h8]
      rw [decide_eq_false (show ¬ 8 ≤ e.nt by omega)] at hd
      dsimp only [Option.getD, Option.isSome]
      repeat (first | refine wCh1 ?_ | (refine kCh1 ?_; (first | rintro _ _ ⟨rfl, rfl⟩ | rintro _ _ ⟨_, rfl, rfl⟩ | rintro _ _ ⟨_, _, ⟨_, _⟩, rfl, rfl⟩); try refine ⟨sConv, ?_⟩) | refine Dr.two ?_ ?_)
      refine C.regionA 100000 (.one 0 false (.one 1 false (.one 3 false (.one 4 false (.one 2 true (.one 5 false (.one 6 true (.one 7 false .nil)))))))) ([blk g6 73 e.cs, blk g2 61 [.int .i64 id.rep, .int .i64 id.seq, .int .i64 made, .slice A n c]]) (by kernel_rfl) (by kernel_rfl) sConv ?_
      repeat (first | refine wCh1 ?_ | (refine kCh1 ?_; (first | rintro _ _ ⟨rfl, rfl⟩ | rintro _ _ ⟨_, rfl, rfl⟩ | rintro _ _ ⟨_, _, ⟨_, _⟩, rfl, rfl⟩); try refine ⟨sConv, ?_⟩) | refine Dr.two ?_ ?_)
      refine Dr.go rfl (by rintro k ⟨⟩ <;> decide) sGon (S.call rfl rfl Try.func111 (by kernel_rfl) rfl sPicks (fun E' hE => ckey E' id made A n c e) ?_)
      rintro r H' ⟨rfl, rfl⟩
      refine ⟨_, rfl, _, sCat, sConv, ?_⟩
      repeat (first | refine wCh1 ?_ | (refine kCh1 ?_; (first | rintro _ _ ⟨rfl, rfl⟩ | rintro _ _ ⟨_, rfl, rfl⟩ | rintro _ _ ⟨_, _, ⟨_, _⟩, rfl, rfl⟩); try refine ⟨sConv, ?_⟩) | refine Dr.two ?_ ?_)
      apply retC2; (· exact rfl); (· exact sRet); (· exact rfl); (· exact rfl); (· exact rfl); (· exact sHas); (· exact rfl); (· exact sRet); rotate_left; (· exact (⟨rfl, rfl⟩)); (· exact sConv)
    · rw [if_neg h8]
      rw [decide_eq_true (show 8 ≤ e.nt by omega)] at hd
      dsimp only [Option.getD, Option.isSome]
      repeat (first | refine wCh1 ?_ | (refine kCh1 ?_; (first | rintro _ _ ⟨rfl, rfl⟩ | rintro _ _ ⟨_, rfl, rfl⟩ | rintro _ _ ⟨_, _, ⟨_, _⟩, rfl, rfl⟩); try refine ⟨sConv, ?_⟩) | refine Dr.two ?_ ?_)
      apply retC2; (· exact rfl); (· exact sRet); (· exact rfl); (· exact rfl); (· exact rfl); (· exact sHas); (· exact rfl); (· exact sRet); rotate_left; (· exact (⟨rfl, rfl⟩)); (· exact sConv)
  | none =>
    dsimp only [Option.getD, Option.isSome]
    by_cases h1 : nx ≤ n
    · rw [fresh_no (.inl (by omega))]
      dsimp only [Option.getD, Option.isSome]
      repeat (first | refine wCh1 ?_ | (refine kCh1 ?_; (first | rintro _ _ ⟨rfl, rfl⟩ | rintro _ _ ⟨_, rfl, rfl⟩ | rintro _ _ ⟨_, _, ⟨_, _⟩, rfl, rfl⟩); try refine ⟨sConv, ?_⟩) | refine Dr.two ?_ ?_)
      apply retC2; (· exact rfl); (· exact sRet); (· exact rfl); (· exact rfl); (· exact rfl); (· exact sHas); (· exact rfl); (· exact sRet); rotate_left; (· exact (⟨rfl, rfl⟩)); (· exact sConv)
    by_cases h2 : 255 ≤ made
    · rw [fresh_no (.inr h2)]
      dsimp only [Option.getD, Option.isSome]
      repeat (first | refine wCh1 ?_ | (refine kCh1 ?_; (first | rintro _ _ ⟨rfl, rfl⟩ | rintro _ _ ⟨_, rfl, rfl⟩ | rintro _ _ ⟨_, _, ⟨_, _⟩, rfl, rfl⟩); try refine ⟨sConv, ?_⟩) | refine Dr.two ?_ ?_)
      apply retC2; (· exact rfl); (· exact sRet); (· exact rfl); (· exact rfl); (· exact rfl); (· exact sHas); (· exact rfl); (· exact sRet); rotate_left; (· exact (⟨rfl, rfl⟩)); (· exact sConv)
    have hx : want[n]? = some want[n] := List.getElem?_eq_getElem (by omega)
    rw [← hn, fresh_yes hx (by omega)]
    dsimp only [Option.getD, Option.isSome]
    generalize want[n] = f at hx
    repeat (first | refine wCh1 ?_ | (refine kCh1 ?_; (first | rintro _ _ ⟨rfl, rfl⟩ | rintro _ _ ⟨_, rfl, rfl⟩ | rintro _ _ ⟨_, _, ⟨_, _⟩, rfl, rfl⟩); try refine ⟨sConv, ?_⟩) | refine Dr.two ?_ ?_)
    refine C.regionA 100000 (.one 0 false (.one 1 false (.one 2 false (.one 3 false (.one 4 false (.one 5 false (.one 6 false (.one 7 false (.one 8 false (.one 9 false (.one 10 false (.one 11 false (.one 12 false (.one 13 true (.one 14 false .nil))))))))))))))) ([blk g2 61 [.int .i64 id.rep, .int .i64 id.seq, .int .i64 made, .slice A n c]]) (by kernel_rfl) (by kernel_rfl) sConv ?_
    repeat (first | refine wCh1 ?_ | (refine kCh1 ?_; (first | rintro _ _ ⟨rfl, rfl⟩ | rintro _ _ ⟨_, rfl, rfl⟩ | rintro _ _ ⟨_, _, ⟨_, _⟩, rfl, rfl⟩); try refine ⟨sConv, ?_⟩) | refine Dr.two ?_ ?_)
    apply retC2; (· exact rfl); (· exact sRet); (· exact rfl); (· exact rfl); (· exact rfl); (· exact sHas); (· exact rfl); (· exact sRet); rotate_left; (· exact (⟨rfl, rfl⟩)); (· exact sConv)
end
end Go.Proofs.Ytkhmplaocfjpjaa.Sep
