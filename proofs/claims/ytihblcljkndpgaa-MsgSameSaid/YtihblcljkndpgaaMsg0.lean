/- Messages: how they are laid; lists that are alike. -/
import Derived.Test.YtihblcljkndpgaaMsgLaw
import Derived.Test.YtihblcljkndpgaaEqArr
import Derived.Test.YtihblcljkndpgaaEnt5
namespace Go.Proofs.Ytihblcljkndpgaa.Sep
open Go.RowKit Go.Proofs.Ytihblcljkndpgaa.Reg
open Go.Proofs.Ytihblcljkndpgaa.Mem hiding Rd Own
set_option maxRecDepth 100000
theorem mgT_rec : Rec Try.prog 34 [.int .i64 0, .int .i64 0, .int .i64 0, .int .i64 0, .int .i64 0, .int .i64 0, .int .i64 0, .int .i64 0, .slice none 0 0, .slice none 0 0, .int .i64 0, .int .i64 0, .int .i64 0, .bool false, .int .i64 0, .int .i64 0, .int .i64 0, .int .i64 0, .int .i64 0] [(0, 1), (1, 1), (2, 1), (3, 4), (7, 1), (8, 1), (9, 1), (10, 4), (14, 5)] := ⟨by kernel_rfl, by kernel_rfl⟩
theorem rgT_rec : Rec Try.prog 38 [.int .i64 0, .int .i64 0, .int .i64 0, .int .i64 0, .int .i64 0, .int .i64 0, .int .i64 0, .int .i64 0, .slice none 0 0, .slice none 0 0, .int .i64 0, .int .i64 0, .int .i64 0, .bool false, .int .i64 0, .int .i64 0, .int .i64 0, .int .i64 0, .int .i64 0] [(0, 1), (1, 1), (2, 1), (3, 4), (7, 1), (8, 1), (9, 1), (10, 4), (14, 5)] := ⟨by kernel_rfl, by kernel_rfl⟩
theorem wrT_rec : Rec Try.prog 71 [.slice none 0 0] [(0, 1)] := ⟨by kernel_rfl, by kernel_rfl⟩
theorem rdT_rec : Rec Try.prog 57 [.pointer none] [(0, 1)] := ⟨by kernel_rfl, by kernel_rfl⟩
theorem k4_eqr {a0 a1 a2 a3 b0 b1 b2 b3 : Int} : EqR Try.prog 24 #[.int .i64 a0, .int .i64 a1, .int .i64 a2, .int .i64 a3] #[.int .i64 b0, .int .i64 b1, .int .i64 b2, .int .i64 b3] (decide (a0 = b0) && (decide (a1 = b1) && (decide (a2 = b2) && decide (a3 = b3)))) := EqR.four (e := 3) (by kernel_rfl) (by kernel_rfl) (by kernel_rfl) (by kernel_rfl)
/-- a message's cells -/
abbrev mcs (m : Mg) (A : Option Addr) (n c : Nat) (B : Option Addr) (k d : Nat) : List Value := [.int .i64 m.kind, .int .i64 m.fr, .int .i64 m.to, .int .i64 m.k0, .int .i64 m.k1, .int .i64 m.k2, .int .i64 m.k3, .int .i64 m.base, .slice A n c, .slice B k d, .int .i64 m.key.id.rep, .int .i64 m.key.id.seq, .int .i64 m.key.ord, .bool m.key.undo, .int .i64 m.what.kind, .int .i64 m.what.a, .int .i64 m.what.n, .int .i64 m.what.ref.rep, .int .i64 m.what.ref.seq]
-- types: octT idnT chgT
-- recs: rec_Reader idnT_rec effT_rec chgT_rec keyT_rec mgT_rec rgT_rec wrT_rec rdT_rec
-- eqs: idnT_eqa effT_eqa chgT_eqa keyT_eqa
-- eqrs: k4_eqr
-- zeros: z_octs z_rdr
-- funcs
set_option maxRecDepth 100000
set_option maxHeartbeats 6000000
theorem sYMg {P : Program} {E : Env} {H : List Asn} {ρ : Operand → Value} {o : Oper} {v : Value} (h : Yld P E H ρ o v := by first | (intro _ _; first | (first | (apply V.move; (· exact rfl); (· exact sLk)) | (apply V.assign; (· exact rfl); (· exact sLk)) | (apply V.nilCheck; (· exact rfl); (· exact rfl)) | (apply V.fieldAddr; (· exact rfl); (· exact rfl); (· exact rfl); (· exact rfl); (· exact rfl); (· decide); (· exact sLk); (· exact sAdd)) | (apply V.extract; (· exact rfl); (· exact rfl); (· exact rfl)) | (apply V.not; (· exact rfl); (· exact rfl)) | (apply V.pickT; (· exact rfl); (· exact rfl); (· exact sTst); (· exact sLk)) | (apply V.pickF; (· exact rfl); (· exact rfl); (· exact sTst); (· exact sLk))) | (first | (apply V.add; (· exact rfl); (· exact rfl); (· exact rfl); (· exact sNum)) | (apply V.sub; (· exact rfl); (· exact rfl); (· exact rfl); (· exact sNum)) | (apply V.mul; (· exact rfl); (· exact rfl); (· exact rfl); (· exact sNum)) | (apply V.lss; (· exact rfl); (· exact rfl); (· exact rfl)) | (apply V.leq; (· exact rfl); (· exact rfl); (· exact rfl)) | (apply V.gtr; (· exact rfl); (· exact rfl); (· exact rfl)) | (apply V.geq; (· exact rfl); (· exact rfl); (· exact rfl)) | (apply V.eql; (· exact rfl); (· exact rfl); (· exact rfl))) | (first | (apply V.neq; (· exact rfl); (· exact rfl); (· exact rfl)) | (apply V.neqP; (· exact rfl); (· exact rfl); (· exact rfl); (· exact rfl)) | (apply V.eqlP; (· exact rfl); (· exact rfl); (· exact rfl); (· exact rfl)) | (apply V.eqlN; (· exact rfl); (· exact rfl); (· exact rfl); (· exact rfl)) | (apply V.neqN; (· exact rfl); (· exact rfl); (· exact rfl); (· exact rfl)) | (apply V.len; (· exact rfl); (· exact rfl); (· exact rfl); (· exact sMax)) | (apply V.conv; (· exact rfl); (· exact rfl); (· exact rfl); (· exact rfl); (· exact sNum)) | (apply V.shl8; (· exact rfl); (· exact rfl); (· exact rfl); (· exact sNum))) | (first | (apply V.shl; (· exact rfl); (· exact rfl); (· exact rfl); (· exact sOm); (· exact sNum)) | (apply V.shr; (· exact rfl); (· exact rfl); (· exact rfl); (· exact sOm); (· exact sNum)) | (apply V.quo; (· exact rfl); (· exact rfl); (· exact rfl); (· exact sOm); (· exact sQuo)) | (apply V.rem; (· exact rfl); (· exact rfl); (· exact rfl); (· exact sOm); (· exact sRem)) | (apply V.bits_; (· exact rfl); (· decide); (· exact rfl); (· exact rfl); (· exact sNum)) | (apply V.neg; (· exact rfl); (· exact rfl); (· exact sNum)) | (apply V.eqlS; (· exact rfl); (· exact rfl); (· exact rfl)) | (apply V.neqS; (· exact rfl); (· exact rfl); (· exact rfl))) | (first | (apply V.eqlB; (· exact rfl); (· exact rfl); (· exact rfl); (· exact rfl)) | (apply V.neqB; (· exact rfl); (· exact rfl); (· exact rfl); (· exact rfl)) | (apply V.max; (· exact rfl); (· exact rfl); (· exact rfl)) | (apply V.min; (· exact rfl); (· exact rfl); (· exact rfl)) | (apply V.func1; (· exact rfl); (· exact sLk)) | (apply V.indexA; (· exact rfl); (· exact rfl); (· exact rfl); (· exact rfl); (· exact rfl); (· exact rfl); (· exact rfl); (· exact rfl); (· exact sJ); (· exact sOm); (· exact sOm); (· exact sAsm)) | (apply V.eqlR; (· exact rfl); (· exact sLk); (· exact sLk); (· exact k4_eqr)) | (apply V.eqlA; (· exact rfl); (· exact sLk); (· exact sLk); (· exact idnT_eqa))) | (first | (apply V.neqA; (· exact rfl); (· exact sLk); (· exact sLk); (· exact idnT_eqa)) | (apply V.eqlA; (· exact rfl); (· exact sLk); (· exact sLk); (· exact effT_eqa)) | (apply V.neqA; (· exact rfl); (· exact sLk); (· exact sLk); (· exact effT_eqa)) | (apply V.eqlA; (· exact rfl); (· exact sLk); (· exact sLk); (· exact chgT_eqa)) | (apply V.neqA; (· exact rfl); (· exact sLk); (· exact sLk); (· exact chgT_eqa)) | (apply V.eqlA; (· exact rfl); (· exact sLk); (· exact sLk); (· exact keyT_eqa)) | (apply V.neqA; (· exact rfl); (· exact sLk); (· exact sLk); (· exact keyT_eqa)))) | (first | (first | (apply Y.load; (· exact rfl); (· exact rfl); (· exact rfl); (· exact rfl); (· exact sCell)) | (apply Y.indexAddr; (· exact rfl); (· exact rfl); (· exact rfl); (· exact sRdH); (· exact sJ); (· exact sOm); (· exact sAsm); (· exact sRfl); (· exact sRfl)) | (apply Y.loadElem; (· exact rfl); (· exact rfl); (· exact sRdH); rotate_left; (· exact sRfl); rotate_right; (· exact sAsm); (· exact sRfl)) | (apply Y.sliceArr; (· exact rfl); (· exact rfl); (· exact rfl); (· exact rfl)) | (apply Y.loadBlk; (· exact rfl); (· exact rfl); (· exact rfl); (· exact rfl); (· exact rfl); (· exact rfl); (· exact sHas); (· exact sSeg)) | (apply Y.loadPart; (· exact rfl); (· exact rfl); (· exact sRdH); rotate_left; (· exact sRfl); rotate_right; (· exact sAsm); (· exact rfl); (· exact rfl); (· exact rfl); (· exact rfl); (· exact sSeg)) | (apply Y.fieldL; (· exact rfl); (· exact rfl); (· exact rfl); (· exact rfl); (· exact rfl); (· exact rfl); (· exact rfl)) | (apply Y.fieldS; (· exact rfl); (· exact rfl); (· exact rfl); (· exact rfl); (· exact rfl); (· exact rfl); (· exact rfl); (· exact rfl); (· exact rfl); (· exact sSeg))) | (first | (apply Y.len; (· exact rfl); (· exact rfl); (· exact sRdH); (· exact sRfl)) | (apply Y.str; (· exact rfl); (· exact rfl); (· exact sRdH)) | (apply Y.sliceLo; (· exact rfl); (· exact rfl); (· exact rfl); (· exact sRdH); (· exact sJ); (· exact sOm); (· exact sOm); (· exact sRfl)) | (apply Y.sliceHi; (· exact rfl); (· exact rfl); (· exact rfl); (· exact sRdH); (· exact sJ); (· exact sOm); (· exact sOm); (· exact sRfl)) | (apply Y.sliceHiMax; (· exact rfl); (· exact rfl); (· exact rfl); (· exact rfl); (· exact sRdH); (· exact sJ); (· exact sOm); (· exact sJ); (· exact sOm); (· exact sOm); (· exact sOm); (· exact sRfl)) | (apply Y.sliceLoHi; (· exact rfl); (· exact rfl); (· exact rfl); (· exact rfl); (· exact sRdH); (· exact sJ); (· exact sOm); (· exact sJ); (· exact sOm); (· exact sOm); (· exact sOm); (· exact sRfl)) | (apply Y.strLen; (· exact rfl); (· exact rfl); (· exact rfl); (· exact sMax)) | (apply Y.indexStr; (· exact rfl); (· exact rfl); (· exact rfl); (· exact rfl); (· exact sJ); (· exact sOm); (· exact sAsm))) | (first | (apply Y.build; (· exact rfl); (· exact sPv); (· exact rec_Reader); (· exact sFil)) | (apply Y.build; (· exact rfl); (· exact sPv); (· exact idnT_rec); (· exact sFil)) | (apply Y.build; (· exact rfl); (· exact sPv); (· exact effT_rec); (· exact sFil)) | (apply Y.build; (· exact rfl); (· exact sPv); (· exact chgT_rec); (· exact sFil)) | (apply Y.build; (· exact rfl); (· exact sPv); (· exact keyT_rec); (· exact sFil)) | (apply Y.build; (· exact rfl); (· exact sPv); (· exact mgT_rec); (· exact sFil)) | (apply Y.build; (· exact rfl); (· exact sPv); (· exact rgT_rec); (· exact sFil)) | (apply Y.build; (· exact rfl); (· exact sPv); (· exact wrT_rec); (· exact sFil))) | (first | (apply Y.build; (· exact rfl); (· exact sPv); (· exact rdT_rec); (· exact sFil))))) : Yld P E H ρ o v := h
theorem sSMg {P : Program} {N : Nat} {E : Env} {F : Nat → Value} {H : List Asn} {o : Oper} {K : Value → List Asn → Prop} (h : Stp P N E F H o K := by first | (first | (apply S.boxK; (· exact rfl); (· exact sLk); (· exact sCel)) | (apply S.append1K; (· exact rfl); (· exact rfl); (· exact rfl); (· exact rfl); (· exact sNN); (· exact (fun _ _ => sRepl)); (· exact sNL); (· exact sRfl); (· first | (conv => lhs; simp only [octT, idnT, chgT]) | rfl); (· exact sOm); (· exact sOm)) | (apply S.appendK; (· exact rfl); (· exact rfl); (· exact rfl); (· exact sNN); (· exact (fun _ _ => sRepl)); (· exact sRdH); (· exact sNL); (· exact sRfl); (· first | (conv => lhs; simp only [octT, idnT, chgT]) | rfl); (· exact sOm); (· exact sOm)) | (apply S.appendNilK; (· exact rfl); (· exact rfl); (· exact rfl); (· exact sRdH); (· exact sRfl); (· first | (conv => lhs; simp only [octT, idnT, chgT]) | rfl); (· exact sOm); (· exact sOm)) | (apply (S.buildSliceK (T := octT) (l := [])); (· exact rfl); (· exact rfl); (· exact rfl); (· exact rfl); (· decide)) | (apply (S.buildSlice1K (T := octT)); (· exact rfl); (· exact sLk); (· first | rfl | (with_reducible exact octT_val _ sOm sOm)); (· exact rfl); (· decide)) | (apply (S.buildSlice2K (T := octT)); (· exact rfl); (· exact sLk); (· first | rfl | (with_reducible exact octT_val _ sOm sOm)); (· exact sLk); (· first | rfl | (with_reducible exact octT_val _ sOm sOm)); (· exact rfl); (· decide)) | (apply (S.buildSlice3K (T := octT)); (· exact rfl); (· exact sLk); (· first | rfl | (with_reducible exact octT_val _ sOm sOm)); (· exact sLk); (· first | rfl | (with_reducible exact octT_val _ sOm sOm)); (· exact sLk); (· first | rfl | (with_reducible exact octT_val _ sOm sOm)); (· exact rfl); (· decide))) | (first | (apply (S.buildSliceK (T := idnT) (l := [])); (· exact rfl); (· exact rfl); (· exact rfl); (· exact rfl); (· decide)) | (apply (S.buildSlice1K (T := idnT)); (· exact rfl); (· exact sLk); (· first | rfl | (with_reducible exact idnT_val _ sOm sOm)); (· exact rfl); (· decide)) | (apply (S.buildSlice2K (T := idnT)); (· exact rfl); (· exact sLk); (· first | rfl | (with_reducible exact idnT_val _ sOm sOm)); (· exact sLk); (· first | rfl | (with_reducible exact idnT_val _ sOm sOm)); (· exact rfl); (· decide)) | (apply (S.buildSlice3K (T := idnT)); (· exact rfl); (· exact sLk); (· first | rfl | (with_reducible exact idnT_val _ sOm sOm)); (· exact sLk); (· first | rfl | (with_reducible exact idnT_val _ sOm sOm)); (· exact sLk); (· first | rfl | (with_reducible exact idnT_val _ sOm sOm)); (· exact rfl); (· decide)) | (apply (S.buildSliceK (T := chgT) (l := [])); (· exact rfl); (· exact rfl); (· exact rfl); (· exact rfl); (· decide)) | (apply (S.buildSlice1K (T := chgT)); (· exact rfl); (· exact sLk); (· first | rfl | (with_reducible exact chgT_val _ sOm sOm)); (· exact rfl); (· decide)) | (apply (S.buildSlice2K (T := chgT)); (· exact rfl); (· exact sLk); (· first | rfl | (with_reducible exact chgT_val _ sOm sOm)); (· exact sLk); (· first | rfl | (with_reducible exact chgT_val _ sOm sOm)); (· exact rfl); (· decide)) | (apply (S.buildSlice3K (T := chgT)); (· exact rfl); (· exact sLk); (· first | rfl | (with_reducible exact chgT_val _ sOm sOm)); (· exact sLk); (· first | rfl | (with_reducible exact chgT_val _ sOm sOm)); (· exact sLk); (· first | rfl | (with_reducible exact chgT_val _ sOm sOm)); (· exact rfl); (· decide))) | (first | (apply (S.storeEK (T := octT)); (· exact rfl); (· exact rfl); (· exact sLk); (· exact sRepl); rotate_left; (· exact sRfl); rotate_right; (· exact sAsm); (· first | rfl | (with_reducible exact octT_val _ sOm sOm)); (· exact sRfl)) | (apply (S.storeEK (T := idnT)); (· exact rfl); (· exact rfl); (· exact sLk); (· exact sRepl); rotate_left; (· exact sRfl); rotate_right; (· exact sAsm); (· first | rfl | (with_reducible exact idnT_val _ sOm sOm)); (· exact sRfl)) | (apply (S.storeEK (T := chgT)); (· exact rfl); (· exact rfl); (· exact sLk); (· exact sRepl); rotate_left; (· exact sRfl); rotate_right; (· exact sAsm); (· first | rfl | (with_reducible exact chgT_val _ sOm sOm)); (· exact sRfl)) | (apply S.allocK; (· exact rfl); (· exact rec_Reader.zero)) | (apply S.allocK; (· exact rfl); (· exact idnT_rec.zero)) | (apply S.allocK; (· exact rfl); (· exact effT_rec.zero)) | (apply S.allocK; (· exact rfl); (· exact chgT_rec.zero)) | (apply S.allocK; (· exact rfl); (· exact keyT_rec.zero))) | (first | (apply S.allocK; (· exact rfl); (· exact mgT_rec.zero)) | (apply S.allocK; (· exact rfl); (· exact rgT_rec.zero)) | (apply S.allocK; (· exact rfl); (· exact wrT_rec.zero)) | (apply S.allocK; (· exact rfl); (· exact rdT_rec.zero)) | (apply S.allocK; (· exact rfl); (· exact z_octs)) | (apply S.allocK; (· exact rfl); (· exact z_rdr)) | (apply (S.makeSliceK (T := octT) (z := octT_z)); (· exact rfl); (· exact rfl); (· exact rfl); (· exact sJ); (· exact sOm); (· exact rfl); (· exact rfl); (· first | (conv => lhs; simp only [octT, idnT, chgT]) | rfl); (· exact sOm); (· exact sOm)) | (apply (S.makeSliceK (T := idnT) (z := idnT_z)); (· exact rfl); (· exact rfl); (· exact rfl); (· exact sJ); (· exact sOm); (· exact rfl); (· exact rfl); (· first | (conv => lhs; simp only [octT, idnT, chgT]) | rfl); (· exact sOm); (· exact sOm))) | (first | (apply (S.makeSliceK (T := chgT) (z := chgT_z)); (· exact rfl); (· exact rfl); (· exact rfl); (· exact sJ); (· exact sOm); (· exact rfl); (· exact rfl); (· first | (conv => lhs; simp only [octT, idnT, chgT]) | rfl); (· exact sOm); (· exact sOm)) | (apply S.storeAggK; (· exact rfl); (· exact rfl); (· exact sLk); (· exact rfl); (· exact rfl); (· exact rfl); (· exact sRepl); (· exact sPut)) | (apply S.copyInK; (· exact rfl); (· exact rfl); (· exact rfl); (· exact sAsm); (· exact sRepl); (· exact sRdH); rotate_left; (· exact rfl); rotate_right; (· exact sAsm); (· exact sOm); (· exact sAsm); (· exact rfl); (· exact sMax)) | (apply S.store1K; (· exact rfl); (· exact rfl); (· exact sLk); (· exact sRfl); (· exact rfl); (· exact rfl); (· exact sRepl); (· exact sLn); (· exact sSetL)))) : Stp P N E F H o K := h
theorem wMg {p q : Prop} (hq : q) (h : Box q → p := by intro h; (first | (focus (apply L.val; (· decide); (· exact sYMg))) | refine C.seq ?_ | refine C.region ?_ | refine L.nil ?_ | refine C.block ?_ | refine C.exit ?_ | refine C.skip ?_ | refine C.ret ?_ | (focus (apply L.on; (· exact rfl); (· decide); (· exact rfl); (· exact sTst))) | (focus (apply L.off; (· decide); (· exact rfl); (· decide); (· exact rfl); (· exact sTst))) | (focus (apply L.offU; (· decide); (· exact rfl); (· decide); (· exact rfl))) | (focus (apply C.condT; (· exact rfl); (· exact sTst))) | (focus (apply C.condF; (· exact rfl); (· exact sTst))) | refine Dr.done ?_ | refine DrA.done ?_ | (focus (apply DrA.take; (· exact rfl); (· decide); (· exact sGon); (· exact sYMg))) | (focus (apply Dr.take; (· exact rfl); (· decide); (· exact sGon); (· exact sYMg))) | (focus (apply Dr.skip; (· exact rfl); (· decide); (· exact sGoff))) | (focus (apply Dr.goSkip; (· exact rfl); (· decide); (· exact sGoff))) | with_reducible refine T.n ?_ | with_reducible refine T.ret ?_ | with_reducible refine T.exit ?_ | with_reducible refine I.n ?_ | with_reducible refine I.ret ?_ | with_reducible refine I.hit ?_ | with_reducible refine I.miss (by decide) ?_); (repeat (first | (focus (apply L.val; (· decide); (· exact sYMg))) | refine C.seq ?_ | refine C.region ?_ | refine L.nil ?_ | refine C.block ?_ | refine C.exit ?_ | refine C.skip ?_ | refine C.ret ?_ | (focus (apply L.on; (· exact rfl); (· decide); (· exact rfl); (· exact sTst))) | (focus (apply L.off; (· decide); (· exact rfl); (· decide); (· exact rfl); (· exact sTst))) | (focus (apply L.offU; (· decide); (· exact rfl); (· decide); (· exact rfl))) | (focus (apply C.condT; (· exact rfl); (· exact sTst))) | (focus (apply C.condF; (· exact rfl); (· exact sTst))) | refine Dr.done ?_ | refine DrA.done ?_ | (focus (apply DrA.take; (· exact rfl); (· decide); (· exact sGon); (· exact sYMg))) | (focus (apply Dr.take; (· exact rfl); (· decide); (· exact sGon); (· exact sYMg))) | (focus (apply Dr.skip; (· exact rfl); (· decide); (· exact sGoff))) | (focus (apply Dr.goSkip; (· exact rfl); (· decide); (· exact sGoff))) | with_reducible refine T.n ?_ | with_reducible refine T.ret ?_ | with_reducible refine T.exit ?_ | with_reducible refine I.n ?_ | with_reducible refine I.ret ?_ | with_reducible refine I.hit ?_ | with_reducible refine I.miss (by decide) ?_)); exact h.out) : p := h ⟨hq⟩
theorem vMg {p q : Prop} (hq : q) (h : Box q → p := by intro h; (first | (focus (apply L.val; (· decide); (· exact sYMg))) | refine C.seq ?_ | refine C.region ?_ | refine L.nil ?_ | refine C.block ?_ | refine C.exit ?_ | refine C.skip ?_ | refine C.ret ?_ | (focus (apply L.on; (· exact rfl); (· decide); (· exact rfl); (· exact sTst))) | (focus (apply L.off; (· decide); (· exact rfl); (· decide); (· exact rfl); (· exact sTst))) | (focus (apply L.offU; (· decide); (· exact rfl); (· decide); (· exact rfl))) | (focus (apply C.condT; (· exact rfl); (· exact sTst))) | (focus (apply C.condF; (· exact rfl); (· exact sTst))) | refine Dr.done ?_ | refine DrA.done ?_ | (focus (apply DrA.take; (· exact rfl); (· decide); (· exact sGon); (· exact sYMg))) | (focus (apply Dr.take; (· exact rfl); (· decide); (· exact sGon); (· exact sYMg))) | (focus (apply Dr.skip; (· exact rfl); (· decide); (· exact sGoff))) | (focus (apply Dr.goSkip; (· exact rfl); (· decide); (· exact sGoff))) | with_reducible refine T.n ?_ | with_reducible refine T.ret ?_ | with_reducible refine T.exit ?_ | with_reducible refine I.n ?_ | with_reducible refine I.ret ?_ | with_reducible refine I.hit ?_ | with_reducible refine I.miss (by decide) ?_); exact h.out) : p := h ⟨hq⟩
theorem kMg {p q : Prop} (hq : q) (h : Box q → p := by intro h; first | (apply L.stepK; (· decide); (· exact sSMg); exact h.out) | (apply L.step0K; (· exact sSMg); exact h.out) | (apply Dr.goZ; (· exact rfl); (· rintro k ⟨⟩ <;> decide); (· exact sGon); (· exact sSMg); exact h.out) | (apply Dr.goZs; (· exact rfl); (· rintro k ⟨⟩ <;> decide); (· exact sGon); (· exact sSMg); exact h.out) | (apply Go1.goK; (· exact rfl); (· rintro k ⟨⟩ <;> decide); (· exact sGon); (· exact sSMg); exact h.out) | (apply Dr.goK; (· exact rfl); (· rintro k ⟨⟩ <;> decide); (· exact sGon); (· exact sSMg); exact h.out)) : p := h ⟨hq⟩
theorem alike_step {α : Type} {l r : List α} {i : Nat} {x : α} (h : l.take i = r.take i) (hx : l[i]? = some x) (hy : r[i]? = some x) : l.take (i + 1) = r.take (i + 1) := by
  obtain ⟨h1, h2⟩ := List.getElem?_eq_some_iff.1 hx
  obtain ⟨h3, h4⟩ := List.getElem?_eq_some_iff.1 hy
  rw [List.take_succ_eq_append_getElem h1, List.take_succ_eq_append_getElem h3, h, h2, h4]
theorem alike_no {α : Type} {l r : List α} {i : Nat} {x y : α} (hx : l[i]? = some x) (hy : r[i]? = some y) (h : x ≠ y) : l ≠ r := by
  intro he
  subst he
  rw [hx] at hy
  injection hy with hy
  exact h hy
theorem alike_all {α : Type} {l r : List α} {i : Nat} (h : l.take i = r.take i) (h1 : i = l.length) (h2 : i = r.length) : l = r := by
  rw [List.take_of_length_le (by omega), List.take_of_length_le (by omega)] at h
  exact h
section
variable (E : Env) (A : Option Addr) (n c : Nat) (B : Option Addr) (k d : Nat)
theorem seqI (l r : List Idn) (hr : Rd E idnT A n c l) (hr2 : Rd E idnT B k d r) : Tri Try.prog E 25 #[.slice A n c, .slice B k d] [] fun e H' => e = .returned (.bool (decide (l = r))) ∧ H' = [] := by
  have hcap := hr.cap
  have hcap2 := hr2.cap
  have hn := hr.len
  have hm := hr2.len
  have hmax : maxLen = 9223372036854775807 := rfl
  refine tri Try.func25 rfl Try.ntmps25 (by simp) ?_
  by_cases hnk : n = k
  case neg =>
    have hne : ¬ l = r := fun h => hnk (by rw [hn, hm, h])
    rw [decide_eq_false hne]
    repeat (first | refine wMg ?_ | (refine kMg ?_; (first | rintro _ _ ⟨rfl, rfl⟩ | rintro _ _ ⟨_, rfl, rfl⟩ | rintro _ _ ⟨_, _, ⟨_, _⟩, rfl, rfl⟩); try refine ⟨sConv, ?_⟩) | refine Dr.two ?_ ?_)
    exact ret1 rfl sRet sConv (⟨rfl, rfl⟩)
  subst hnk
  repeat (first | refine wMg ?_ | (refine kMg ?_; (first | rintro _ _ ⟨rfl, rfl⟩ | rintro _ _ ⟨_, rfl, rfl⟩ | rintro _ _ ⟨_, _, ⟨_, _⟩, rfl, rfl⟩); try refine ⟨sConv, ?_⟩) | refine Dr.two ?_ ?_)
  refine C.loop (X := Nat) (fun i => [(0, .slice A n c), (1, .slice B n d), (12, .int .i64 n), (13, .int .i64 i)]) (fun _ => []) (fun i => i ≤ n ∧ l.take i = r.take i) (fun i => n - i) 0 sHolds sConv ⟨Nat.zero_le _, rfl⟩ ?_
  rintro i G ⟨hi, hall⟩
  by_cases hlt : i < n
  · have hx : l[i]? = some l[i] := List.getElem?_eq_getElem (by omega)
    have hy : r[i]? = some r[i] := List.getElem?_eq_getElem (by omega)
    generalize l[i] = x at hx
    generalize r[i] = y at hy
    by_cases hxy : x = y
    · have hst := alike_step hall hx (by rw [hxy]; exact hy)
      have hd : (!decide ((⟨x.rep, x.seq⟩ : Idn) = ⟨y.rep, y.seq⟩)) = false := by rw [hxy, decide_eq_true rfl]; rfl
      repeat (first | refine wMg ?_ | (refine kMg ?_; (first | rintro _ _ ⟨rfl, rfl⟩ | rintro _ _ ⟨_, rfl, rfl⟩ | rintro _ _ ⟨_, _, ⟨_, _⟩, rfl, rfl⟩); try refine ⟨sConv, ?_⟩) | refine Dr.two ?_ ?_)
      refine C.regionA 100000 (.one 0 false (.one 1 false (.one 2 false (.one 3 false (.one 4 false (.one 5 false (.one 6 false (.one 7 false (.one 8 false .nil))))))))) _ (by kernel_rfl) (by kernel_rfl) Conv.refl ?_
      repeat (first | refine wMg ?_ | (refine kMg ?_; (first | rintro _ _ ⟨rfl, rfl⟩ | rintro _ _ ⟨_, rfl, rfl⟩ | rintro _ _ ⟨_, _, ⟨_, _⟩, rfl, rfl⟩); try refine ⟨sConv, ?_⟩) | refine Dr.two ?_ ?_)
      exact ⟨i + 1, sHolds, sConv, ⟨by omega, hst⟩, by omega⟩
    · have hd : (!decide ((⟨x.rep, x.seq⟩ : Idn) = ⟨y.rep, y.seq⟩)) = true := congrArg Bool.not (decide_eq_false (show ¬ ((⟨x.rep, x.seq⟩ : Idn) = ⟨y.rep, y.seq⟩) from hxy))
      rw [decide_eq_false (alike_no hx hy hxy)]
      repeat (first | refine wMg ?_ | (refine kMg ?_; (first | rintro _ _ ⟨rfl, rfl⟩ | rintro _ _ ⟨_, rfl, rfl⟩ | rintro _ _ ⟨_, _, ⟨_, _⟩, rfl, rfl⟩); try refine ⟨sConv, ?_⟩) | refine Dr.two ?_ ?_)
      refine C.regionA 100000 (.one 0 false (.one 1 false (.one 2 false (.one 3 false (.one 4 false (.one 5 false (.one 6 false (.one 7 false (.one 8 false .nil))))))))) _ (by kernel_rfl) (by kernel_rfl) Conv.refl ?_
      repeat (first | refine wMg ?_ | (refine kMg ?_; (first | rintro _ _ ⟨rfl, rfl⟩ | rintro _ _ ⟨_, rfl, rfl⟩ | rintro _ _ ⟨_, _, ⟨_, _⟩, rfl, rfl⟩); try refine ⟨sConv, ?_⟩) | refine Dr.two ?_ ?_)
      exact ret1 rfl sRet sConv (⟨rfl, rfl⟩)
  · obtain rfl : i = n := by omega
    rw [decide_eq_true (alike_all hall hn hm)]
    repeat (first | refine wMg ?_ | (refine kMg ?_; (first | rintro _ _ ⟨rfl, rfl⟩ | rintro _ _ ⟨_, rfl, rfl⟩ | rintro _ _ ⟨_, _, ⟨_, _⟩, rfl, rfl⟩); try refine ⟨sConv, ?_⟩) | refine Dr.two ?_ ?_)
    exact ret1 rfl sRet sConv (⟨rfl, rfl⟩)
theorem seqC (l r : List Chg) (hr : Rd E chgT A n c l) (hr2 : Rd E chgT B k d r) : Tri Try.prog E 26 #[.slice A n c, .slice B k d] [] fun e H' => e = .returned (.bool (decide (l = r))) ∧ H' = [] := by
  have hcap := hr.cap
  have hcap2 := hr2.cap
  have hn := hr.len
  have hm := hr2.len
  have hmax : maxLen = 9223372036854775807 := rfl
  refine tri Try.func26 rfl Try.ntmps26 (by simp) ?_
  by_cases hnk : n = k
  case neg =>
    have hne : ¬ l = r := fun h => hnk (by rw [hn, hm, h])
    rw [decide_eq_false hne]
    repeat (first | refine wMg ?_ | (refine kMg ?_; (first | rintro _ _ ⟨rfl, rfl⟩ | rintro _ _ ⟨_, rfl, rfl⟩ | rintro _ _ ⟨_, _, ⟨_, _⟩, rfl, rfl⟩); try refine ⟨sConv, ?_⟩) | refine Dr.two ?_ ?_)
    exact ret1 rfl sRet sConv (⟨rfl, rfl⟩)
  subst hnk
  repeat (first | refine wMg ?_ | (refine kMg ?_; (first | rintro _ _ ⟨rfl, rfl⟩ | rintro _ _ ⟨_, rfl, rfl⟩ | rintro _ _ ⟨_, _, ⟨_, _⟩, rfl, rfl⟩); try refine ⟨sConv, ?_⟩) | refine Dr.two ?_ ?_)
  refine C.loop (X := Nat) (fun i => [(0, .slice A n c), (1, .slice B n d), (12, .int .i64 n), (13, .int .i64 i)]) (fun _ => []) (fun i => i ≤ n ∧ l.take i = r.take i) (fun i => n - i) 0 sHolds sConv ⟨Nat.zero_le _, rfl⟩ ?_
  rintro i G ⟨hi, hall⟩
  by_cases hlt : i < n
  · have hx : l[i]? = some l[i] := List.getElem?_eq_getElem (by omega)
    have hy : r[i]? = some r[i] := List.getElem?_eq_getElem (by omega)
    generalize l[i] = x at hx
    generalize r[i] = y at hy
    by_cases hxy : x = y
    · have hst := alike_step hall hx (by rw [hxy]; exact hy)
      have hd : (!decide ((⟨⟨x.id.rep, x.id.seq⟩, x.time, x.kind, x.a, x.b, x.n, ⟨x.ref.rep, x.ref.seq⟩⟩ : Chg) = ⟨⟨y.id.rep, y.id.seq⟩, y.time, y.kind, y.a, y.b, y.n, ⟨y.ref.rep, y.ref.seq⟩⟩)) = false := by rw [hxy, decide_eq_true rfl]; rfl
      repeat (first | refine wMg ?_ | (refine kMg ?_; (first | rintro _ _ ⟨rfl, rfl⟩ | rintro _ _ ⟨_, rfl, rfl⟩ | rintro _ _ ⟨_, _, ⟨_, _⟩, rfl, rfl⟩); try refine ⟨sConv, ?_⟩) | refine Dr.two ?_ ?_)
      refine C.regionA 100000 (.one 0 false (.one 1 false (.one 2 false (.one 3 false (.one 4 false (.one 5 false (.one 6 false (.one 7 false (.one 8 false .nil))))))))) _ (by kernel_rfl) (by kernel_rfl) Conv.refl ?_
      repeat (first | refine wMg ?_ | (refine kMg ?_; (first | rintro _ _ ⟨rfl, rfl⟩ | rintro _ _ ⟨_, rfl, rfl⟩ | rintro _ _ ⟨_, _, ⟨_, _⟩, rfl, rfl⟩); try refine ⟨sConv, ?_⟩) | refine Dr.two ?_ ?_)
      exact ⟨i + 1, sHolds, sConv, ⟨by omega, hst⟩, by omega⟩
    · have hd : (!decide ((⟨⟨x.id.rep, x.id.seq⟩, x.time, x.kind, x.a, x.b, x.n, ⟨x.ref.rep, x.ref.seq⟩⟩ : Chg) = ⟨⟨y.id.rep, y.id.seq⟩, y.time, y.kind, y.a, y.b, y.n, ⟨y.ref.rep, y.ref.seq⟩⟩)) = true := congrArg Bool.not (decide_eq_false (show ¬ ((⟨⟨x.id.rep, x.id.seq⟩, x.time, x.kind, x.a, x.b, x.n, ⟨x.ref.rep, x.ref.seq⟩⟩ : Chg) = ⟨⟨y.id.rep, y.id.seq⟩, y.time, y.kind, y.a, y.b, y.n, ⟨y.ref.rep, y.ref.seq⟩⟩) from hxy))
      rw [decide_eq_false (alike_no hx hy hxy)]
      repeat (first | refine wMg ?_ | (refine kMg ?_; (first | rintro _ _ ⟨rfl, rfl⟩ | rintro _ _ ⟨_, rfl, rfl⟩ | rintro _ _ ⟨_, _, ⟨_, _⟩, rfl, rfl⟩); try refine ⟨sConv, ?_⟩) | refine Dr.two ?_ ?_)
      refine C.regionA 100000 (.one 0 false (.one 1 false (.one 2 false (.one 3 false (.one 4 false (.one 5 false (.one 6 false (.one 7 false (.one 8 false .nil))))))))) _ (by kernel_rfl) (by kernel_rfl) Conv.refl ?_
      repeat (first | refine wMg ?_ | (refine kMg ?_; (first | rintro _ _ ⟨rfl, rfl⟩ | rintro _ _ ⟨_, rfl, rfl⟩ | rintro _ _ ⟨_, _, ⟨_, _⟩, rfl, rfl⟩); try refine ⟨sConv, ?_⟩) | refine Dr.two ?_ ?_)
      exact ret1 rfl sRet sConv (⟨rfl, rfl⟩)
  · obtain rfl : i = n := by omega
    rw [decide_eq_true (alike_all hall hn hm)]
    repeat (first | refine wMg ?_ | (refine kMg ?_; (first | rintro _ _ ⟨rfl, rfl⟩ | rintro _ _ ⟨_, rfl, rfl⟩ | rintro _ _ ⟨_, _, ⟨_, _⟩, rfl, rfl⟩); try refine ⟨sConv, ?_⟩) | refine Dr.two ?_ ?_)
    exact ret1 rfl sRet sConv (⟨rfl, rfl⟩)
theorem plI (l r : List Idn) (hr : Rd E idnT A n c l) (hr2 : Rd E idnT B k d r) : Tri Try.prog E 33 #[.slice A n c, .slice B k d] [] fun e H' => e = .returned (.bool (decide (l = r))) ∧ H' = [] := by
  have hcap := hr.cap
  have hcap2 := hr2.cap
  have hn := hr.len
  have hm := hr2.len
  have hmax : maxLen = 9223372036854775807 := rfl
  refine tri Try.func33 rfl Try.ntmps33 (by simp) ?_
  by_cases hnk : n = k
  case neg =>
    have hne : ¬ l = r := fun h => hnk (by rw [hn, hm, h])
    rw [decide_eq_false hne]
    repeat (first | refine wMg ?_ | (refine kMg ?_; (first | rintro _ _ ⟨rfl, rfl⟩ | rintro _ _ ⟨_, rfl, rfl⟩ | rintro _ _ ⟨_, _, ⟨_, _⟩, rfl, rfl⟩); try refine ⟨sConv, ?_⟩) | refine Dr.two ?_ ?_)
    exact ret1 rfl sRet sConv (⟨rfl, rfl⟩)
  subst hnk
  repeat (first | refine wMg ?_ | (refine kMg ?_; (first | rintro _ _ ⟨rfl, rfl⟩ | rintro _ _ ⟨_, rfl, rfl⟩ | rintro _ _ ⟨_, _, ⟨_, _⟩, rfl, rfl⟩); try refine ⟨sConv, ?_⟩) | refine Dr.two ?_ ?_)
  refine C.loop (X := Nat) (fun i => [(0, .slice A n c), (1, .slice B n d), (5, .int .i64 i)]) (fun _ => []) (fun i => i ≤ n ∧ l.take i = r.take i) (fun i => n - i) 0 sHolds sConv ⟨Nat.zero_le _, rfl⟩ ?_
  rintro i G ⟨hi, hall⟩
  by_cases hlt : i < n
  · have hx : l[i]? = some l[i] := List.getElem?_eq_getElem (by omega)
    have hy : r[i]? = some r[i] := List.getElem?_eq_getElem (by omega)
    generalize l[i] = x at hx
    generalize r[i] = y at hy
    by_cases hxy : x = y
    · have hst := alike_step hall hx (by rw [hxy]; exact hy)
      have hd : (!decide ((⟨x.rep, x.seq⟩ : Idn) = ⟨y.rep, y.seq⟩)) = false := by rw [hxy, decide_eq_true rfl]; rfl
      repeat (first | refine wMg ?_ | (refine kMg ?_; (first | rintro _ _ ⟨rfl, rfl⟩ | rintro _ _ ⟨_, rfl, rfl⟩ | rintro _ _ ⟨_, _, ⟨_, _⟩, rfl, rfl⟩); try refine ⟨sConv, ?_⟩) | refine Dr.two ?_ ?_)
      refine C.regionA 100000 (.one 0 false (.one 1 false (.one 2 false (.one 3 false (.one 4 false (.one 5 false (.one 6 false (.one 7 false (.one 8 false .nil))))))))) _ (by kernel_rfl) (by kernel_rfl) Conv.refl ?_
      repeat (first | refine wMg ?_ | (refine kMg ?_; (first | rintro _ _ ⟨rfl, rfl⟩ | rintro _ _ ⟨_, rfl, rfl⟩ | rintro _ _ ⟨_, _, ⟨_, _⟩, rfl, rfl⟩); try refine ⟨sConv, ?_⟩) | refine Dr.two ?_ ?_)
      exact ⟨i + 1, sHolds, sConv, ⟨by omega, hst⟩, by omega⟩
    · have hd : (!decide ((⟨x.rep, x.seq⟩ : Idn) = ⟨y.rep, y.seq⟩)) = true := congrArg Bool.not (decide_eq_false (show ¬ ((⟨x.rep, x.seq⟩ : Idn) = ⟨y.rep, y.seq⟩) from hxy))
      rw [decide_eq_false (alike_no hx hy hxy)]
      repeat (first | refine wMg ?_ | (refine kMg ?_; (first | rintro _ _ ⟨rfl, rfl⟩ | rintro _ _ ⟨_, rfl, rfl⟩ | rintro _ _ ⟨_, _, ⟨_, _⟩, rfl, rfl⟩); try refine ⟨sConv, ?_⟩) | refine Dr.two ?_ ?_)
      refine C.regionA 100000 (.one 0 false (.one 1 false (.one 2 false (.one 3 false (.one 4 false (.one 5 false (.one 6 false (.one 7 false (.one 8 false .nil))))))))) _ (by kernel_rfl) (by kernel_rfl) Conv.refl ?_
      repeat (first | refine wMg ?_ | (refine kMg ?_; (first | rintro _ _ ⟨rfl, rfl⟩ | rintro _ _ ⟨_, rfl, rfl⟩ | rintro _ _ ⟨_, _, ⟨_, _⟩, rfl, rfl⟩); try refine ⟨sConv, ?_⟩) | refine Dr.two ?_ ?_)
      exact ret1 rfl sRet sConv (⟨rfl, rfl⟩)
  · obtain rfl : i = n := by omega
    rw [decide_eq_true (alike_all hall hn hm)]
    repeat (first | refine wMg ?_ | (refine kMg ?_; (first | rintro _ _ ⟨rfl, rfl⟩ | rintro _ _ ⟨_, rfl, rfl⟩ | rintro _ _ ⟨_, _, ⟨_, _⟩, rfl, rfl⟩); try refine ⟨sConv, ?_⟩) | refine Dr.two ?_ ?_)
    exact ret1 rfl sRet sConv (⟨rfl, rfl⟩)
theorem plC (l r : List Chg) (hr : Rd E chgT A n c l) (hr2 : Rd E chgT B k d r) : Tri Try.prog E 34 #[.slice A n c, .slice B k d] [] fun e H' => e = .returned (.bool (decide (l = r))) ∧ H' = [] := by
  have hcap := hr.cap
  have hcap2 := hr2.cap
  have hn := hr.len
  have hm := hr2.len
  have hmax : maxLen = 9223372036854775807 := rfl
  refine tri Try.func34 rfl Try.ntmps34 (by simp) ?_
  by_cases hnk : n = k
  case neg =>
    have hne : ¬ l = r := fun h => hnk (by rw [hn, hm, h])
    rw [decide_eq_false hne]
    repeat (first | refine wMg ?_ | (refine kMg ?_; (first | rintro _ _ ⟨rfl, rfl⟩ | rintro _ _ ⟨_, rfl, rfl⟩ | rintro _ _ ⟨_, _, ⟨_, _⟩, rfl, rfl⟩); try refine ⟨sConv, ?_⟩) | refine Dr.two ?_ ?_)
    exact ret1 rfl sRet sConv (⟨rfl, rfl⟩)
  subst hnk
  repeat (first | refine wMg ?_ | (refine kMg ?_; (first | rintro _ _ ⟨rfl, rfl⟩ | rintro _ _ ⟨_, rfl, rfl⟩ | rintro _ _ ⟨_, _, ⟨_, _⟩, rfl, rfl⟩); try refine ⟨sConv, ?_⟩) | refine Dr.two ?_ ?_)
  refine C.loop (X := Nat) (fun i => [(0, .slice A n c), (1, .slice B n d), (5, .int .i64 i)]) (fun _ => []) (fun i => i ≤ n ∧ l.take i = r.take i) (fun i => n - i) 0 sHolds sConv ⟨Nat.zero_le _, rfl⟩ ?_
  rintro i G ⟨hi, hall⟩
  by_cases hlt : i < n
  · have hx : l[i]? = some l[i] := List.getElem?_eq_getElem (by omega)
    have hy : r[i]? = some r[i] := List.getElem?_eq_getElem (by omega)
    generalize l[i] = x at hx
    generalize r[i] = y at hy
    by_cases hxy : x = y
    · have hst := alike_step hall hx (by rw [hxy]; exact hy)
      have hd : (!decide ((⟨⟨x.id.rep, x.id.seq⟩, x.time, x.kind, x.a, x.b, x.n, ⟨x.ref.rep, x.ref.seq⟩⟩ : Chg) = ⟨⟨y.id.rep, y.id.seq⟩, y.time, y.kind, y.a, y.b, y.n, ⟨y.ref.rep, y.ref.seq⟩⟩)) = false := by rw [hxy, decide_eq_true rfl]; rfl
      repeat (first | refine wMg ?_ | (refine kMg ?_; (first | rintro _ _ ⟨rfl, rfl⟩ | rintro _ _ ⟨_, rfl, rfl⟩ | rintro _ _ ⟨_, _, ⟨_, _⟩, rfl, rfl⟩); try refine ⟨sConv, ?_⟩) | refine Dr.two ?_ ?_)
      refine C.regionA 100000 (.one 0 false (.one 1 false (.one 2 false (.one 3 false (.one 4 false (.one 5 false (.one 6 false (.one 7 false (.one 8 false .nil))))))))) _ (by kernel_rfl) (by kernel_rfl) Conv.refl ?_
      repeat (first | refine wMg ?_ | (refine kMg ?_; (first | rintro _ _ ⟨rfl, rfl⟩ | rintro _ _ ⟨_, rfl, rfl⟩ | rintro _ _ ⟨_, _, ⟨_, _⟩, rfl, rfl⟩); try refine ⟨sConv, ?_⟩) | refine Dr.two ?_ ?_)
      exact ⟨i + 1, sHolds, sConv, ⟨by omega, hst⟩, by omega⟩
    · have hd : (!decide ((⟨⟨x.id.rep, x.id.seq⟩, x.time, x.kind, x.a, x.b, x.n, ⟨x.ref.rep, x.ref.seq⟩⟩ : Chg) = ⟨⟨y.id.rep, y.id.seq⟩, y.time, y.kind, y.a, y.b, y.n, ⟨y.ref.rep, y.ref.seq⟩⟩)) = true := congrArg Bool.not (decide_eq_false (show ¬ ((⟨⟨x.id.rep, x.id.seq⟩, x.time, x.kind, x.a, x.b, x.n, ⟨x.ref.rep, x.ref.seq⟩⟩ : Chg) = ⟨⟨y.id.rep, y.id.seq⟩, y.time, y.kind, y.a, y.b, y.n, ⟨y.ref.rep, y.ref.seq⟩⟩) from hxy))
      rw [decide_eq_false (alike_no hx hy hxy)]
      repeat (first | refine wMg ?_ | (refine kMg ?_; (first | rintro _ _ ⟨rfl, rfl⟩ | rintro _ _ ⟨_, rfl, rfl⟩ | rintro _ _ ⟨_, _, ⟨_, _⟩, rfl, rfl⟩); try refine ⟨sConv, ?_⟩) | refine Dr.two ?_ ?_)
      refine C.regionA 100000 (.one 0 false (.one 1 false (.one 2 false (.one 3 false (.one 4 false (.one 5 false (.one 6 false (.one 7 false (.one 8 false .nil))))))))) _ (by kernel_rfl) (by kernel_rfl) Conv.refl ?_
      repeat (first | refine wMg ?_ | (refine kMg ?_; (first | rintro _ _ ⟨rfl, rfl⟩ | rintro _ _ ⟨_, rfl, rfl⟩ | rintro _ _ ⟨_, _, ⟨_, _⟩, rfl, rfl⟩); try refine ⟨sConv, ?_⟩) | refine Dr.two ?_ ?_)
      exact ret1 rfl sRet sConv (⟨rfl, rfl⟩)
  · obtain rfl : i = n := by omega
    rw [decide_eq_true (alike_all hall hn hm)]
    repeat (first | refine wMg ?_ | (refine kMg ?_; (first | rintro _ _ ⟨rfl, rfl⟩ | rintro _ _ ⟨_, rfl, rfl⟩ | rintro _ _ ⟨_, _, ⟨_, _⟩, rfl, rfl⟩); try refine ⟨sConv, ?_⟩) | refine Dr.two ?_ ?_)
    exact ret1 rfl sRet sConv (⟨rfl, rfl⟩)
end
end Go.Proofs.Ytihblcljkndpgaa.Sep
