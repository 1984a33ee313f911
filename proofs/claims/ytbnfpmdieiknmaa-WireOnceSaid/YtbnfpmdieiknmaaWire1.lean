/- wire: letters, and what each function does; by parts of memory. -/
import Derived.Test.YtbnfpmdieiknmaaDel
import Derived.Test.YtbnfpmdieiknmaaFld
import Derived.Test.YtbnfpmdieiknmaaOcs
namespace Go.Proofs.Ytbnfpmdieiknmaa.Sep
open Go.RowKit Go.Proofs.Ytbnfpmdieiknmaa.Reg
open Go.Proofs.Ytbnfpmdieiknmaa.Mem hiding Rd Own
set_option maxRecDepth 100000
/-- a letter of the wire: whom it is for, its octets (and what they read as), is it broken? -/
structure Letv where
  to : Int
  A : Option Addr
  n : Nat
  c : Nat
  b : List UInt8
  broken : Bool
abbrev Letv.cs (x : Letv) : List Value := [.int .i64 x.to, .slice x.A x.n x.c, .bool x.broken]
def letT : Ty Letv where
  val x := .agg x.cs.toArray
  size := 3
  bytes := 40
  tid := 113
  zero := .agg #[.int .i64 0, .slice none 0 0, .bool false]
  hlen _ := rfl
  hone a u h := by simp [Value.cells] at h; rcases h with rfl | rfl | rfl <;> rfl
  hpos := by decide
  hzero := rfl
  hinfo := by kernel_rfl
  hagg := .inl ⟨by kernel_rfl, fun _ => ⟨_, rfl⟩⟩
def letT_z : Letv := ⟨0, none, 0, 0, [], false⟩
theorem letT_rec : Rec Try.prog 113 [.int .i64 0, .slice none 0 0, .bool false] [(0, 1), (1, 1), (2, 1)] := ⟨by kernel_rfl, by kernel_rfl⟩
theorem wire_rec : Rec Try.prog 35 [.slice none 0 0] [(0, 1)] := ⟨by kernel_rfl, by kernel_rfl⟩
/-- a letter of the law's list -/
structure Plt where
  to : Int
  b : List UInt8
  broken : Bool
abbrev Plt.cs (x : Plt) : List Value := [.int .i64 x.to, .string (txt x.b), .bool x.broken]
def pltT : Ty Plt where
  val x := .agg x.cs.toArray
  size := 3
  bytes := 32
  tid := 89
  zero := .agg #[.int .i64 0, .string "".toUTF8, .bool false]
  hlen _ := rfl
  hone a u h := by simp [Value.cells] at h; rcases h with rfl | rfl | rfl <;> rfl
  hpos := by decide
  hzero := rfl
  hinfo := by kernel_rfl
  hagg := .inl ⟨by kernel_rfl, fun _ => ⟨_, rfl⟩⟩
theorem pltT_rec : Rec Try.prog 89 [.int .i64 0, .string "".toUTF8, .bool false] [(0, 1), (1, 1), (2, 1)] := ⟨by kernel_rfl, by kernel_rfl⟩
/-- a call of the script -/
structure Op29 where
  kind : Int
  i : Int
  n : Int
  A : Option Addr
  m : Nat
  c : Nat
  b : List UInt8
abbrev Op29.cs (x : Op29) : List Value := [.int .i64 x.kind, .int .i64 x.i, .int .i64 x.n, .slice x.A x.m x.c]
def op29T : Ty Op29 where
  val x := .agg x.cs.toArray
  size := 4
  bytes := 48
  tid := 38
  zero := .agg #[.int .i64 0, .int .i64 0, .int .i64 0, .slice none 0 0]
  hlen _ := rfl
  hone a u h := by simp [Value.cells] at h; rcases h with rfl | rfl | rfl | rfl <;> rfl
  hpos := by decide
  hzero := rfl
  hinfo := by kernel_rfl
  hagg := .inl ⟨by kernel_rfl, fun _ => ⟨_, rfl⟩⟩
theorem op29T_rec : Rec Try.prog 38 [.int .i64 0, .int .i64 0, .int .i64 0, .slice none 0 0] [(0, 1), (1, 1), (2, 1), (3, 1)] := ⟨by kernel_rfl, by kernel_rfl⟩
theorem letT_bytes : letT.bytes = 40 := rfl
theorem pltT_bytes : pltT.bytes = 32 := rfl
theorem op29T_bytes : op29T.bytes = 48 := rfl
-- types: octT letT pltT op29T
-- recs: letT_rec wire_rec pltT_rec op29T_rec
-- funcs
-- flds
set_option maxRecDepth 100000
set_option maxHeartbeats 8000000
theorem sYW29 {P : Program} {E : Env} {H : List Asn} {ρ : Operand → Value} {o : Oper} {v : Value} (h : Yld P E H ρ o v := by first | (intro _ _; first | (first | (apply V.move; (· exact rfl); (· exact sLk)) | (apply V.assign; (· exact rfl); (· exact sLk)) | (apply V.nilCheck; (· exact rfl); (· exact rfl)) | (apply V.fieldAddr; (· exact rfl); (· exact rfl); (· exact rfl); (· exact rfl); (· exact rfl); (· decide); (· exact sLk); (· exact sAdd)) | (apply V.extract; (· exact rfl); (· exact rfl); (· exact rfl)) | (apply V.not; (· exact rfl); (· exact rfl)) | (apply V.pickT; (· exact rfl); (· exact rfl); (· exact sTst); (· exact sLk)) | (apply V.pickF; (· exact rfl); (· exact rfl); (· exact sTst); (· exact sLk))) | (first | (apply V.add; (· exact rfl); (· exact rfl); (· exact rfl); (· exact sNum)) | (apply V.sub; (· exact rfl); (· exact rfl); (· exact rfl); (· exact sNum)) | (apply V.mul; (· exact rfl); (· exact rfl); (· exact rfl); (· exact sNum)) | (apply V.lss; (· exact rfl); (· exact rfl); (· exact rfl)) | (apply V.leq; (· exact rfl); (· exact rfl); (· exact rfl)) | (apply V.gtr; (· exact rfl); (· exact rfl); (· exact rfl)) | (apply V.geq; (· exact rfl); (· exact rfl); (· exact rfl)) | (apply V.eql; (· exact rfl); (· exact rfl); (· exact rfl))) | (first | (apply V.neq; (· exact rfl); (· exact rfl); (· exact rfl)) | (apply V.neqP; (· exact rfl); (· exact rfl); (· exact rfl); (· exact rfl)) | (apply V.eqlP; (· exact rfl); (· exact rfl); (· exact rfl); (· exact rfl)) | (apply V.eqlN; (· exact rfl); (· exact rfl); (· exact rfl); (· exact rfl)) | (apply V.neqN; (· exact rfl); (· exact rfl); (· exact rfl); (· exact rfl)) | (apply V.len; (· exact rfl); (· exact rfl); (· exact rfl); (· exact sMax)) | (apply V.conv; (· exact rfl); (· exact rfl); (· exact rfl); (· exact rfl); (· exact sNum)) | (apply V.shl8; (· exact rfl); (· exact rfl); (· exact rfl); (· exact sNum))) | (first | (apply V.shl; (· exact rfl); (· exact rfl); (· exact rfl); (· exact sOm); (· exact sNum)) | (apply V.shr; (· exact rfl); (· exact rfl); (· exact rfl); (· exact sOm); (· exact sNum)) | (apply V.quo; (· exact rfl); (· exact rfl); (· exact rfl); (· exact sOm); (· exact sQuo)) | (apply V.rem; (· exact rfl); (· exact rfl); (· exact rfl); (· exact sOm); (· exact sRem)) | (apply V.bits_; (· exact rfl); (· decide); (· exact rfl); (· exact rfl); (· exact sNum)) | (apply V.neg; (· exact rfl); (· exact rfl); (· exact sNum)) | (apply V.eqlS; (· exact rfl); (· exact rfl); (· exact rfl)) | (apply V.neqS; (· exact rfl); (· exact rfl); (· exact rfl))) | (first | (apply V.eqlB; (· exact rfl); (· exact rfl); (· exact rfl); (· exact rfl)) | (apply V.neqB; (· exact rfl); (· exact rfl); (· exact rfl); (· exact rfl)) | (apply V.max; (· exact rfl); (· exact rfl); (· exact rfl)) | (apply V.min; (· exact rfl); (· exact rfl); (· exact rfl)) | (apply V.func1; (· exact rfl); (· exact sLk)) | (apply V.indexA; (· exact rfl); (· exact rfl); (· exact rfl); (· exact rfl); (· exact rfl); (· exact rfl); (· exact rfl); (· exact rfl); (· exact sJ); (· exact sOm); (· exact sOm); (· exact sAsm)))) | (first | (first | (apply Y.load; (· exact rfl); (· exact rfl); (· exact rfl); (· exact rfl); (· exact sCell)) | (apply Y.indexAddr; (· exact rfl); (· exact rfl); (· exact rfl); (· exact sRdH); (· exact sJ); (· exact sOm); (· exact sAsm); (· exact sRfl); (· exact sRfl)) | (apply Y.loadElem; (· exact rfl); (· exact rfl); (· exact sRdH); rotate_left; (· exact sRfl); rotate_right; (· exact sAsm); (· exact sRfl)) | (apply Y.sliceArr; (· exact rfl); (· exact rfl); (· exact rfl); (· exact rfl)) | (apply Y.loadBlk; (· exact rfl); (· exact rfl); (· exact rfl); (· exact rfl); (· exact rfl); (· exact rfl); (· exact sHas); (· exact sSeg)) | (apply Y.loadPart; (· exact rfl); (· exact rfl); (· exact sRdH); rotate_left; (· exact sRfl); rotate_right; (· exact sAsm); (· exact rfl); (· exact rfl); (· exact rfl); (· exact rfl); (· exact sSeg)) | (apply Y.fieldL; (· exact rfl); (· exact rfl); (· exact rfl); (· exact rfl); (· exact rfl); (· exact rfl); (· exact rfl)) | (apply Y.fieldS; (· exact rfl); (· exact rfl); (· exact rfl); (· exact rfl); (· exact rfl); (· exact rfl); (· exact rfl); (· exact rfl); (· exact rfl); (· exact sSeg))) | (first | (apply Y.len; (· exact rfl); (· exact rfl); (· exact sRdH); (· exact sRfl)) | (apply Y.str; (· exact rfl); (· exact rfl); (· exact sRdH)) | (apply Y.sliceLo; (· exact rfl); (· exact rfl); (· exact rfl); (· exact sRdH); (· exact sJ); (· exact sOm); (· exact sOm); (· exact sRfl)) | (apply Y.sliceHi; (· exact rfl); (· exact rfl); (· exact rfl); (· exact sRdH); (· exact sJ); (· exact sOm); (· exact sOm); (· exact sRfl)) | (apply Y.sliceHiMax; (· exact rfl); (· exact rfl); (· exact rfl); (· exact rfl); (· exact sRdH); (· exact sJ); (· exact sOm); (· exact sJ); (· exact sOm); (· exact sOm); (· exact sOm); (· exact sRfl)) | (apply Y.sliceLoHi; (· exact rfl); (· exact rfl); (· exact rfl); (· exact rfl); (· exact sRdH); (· exact sJ); (· exact sOm); (· exact sJ); (· exact sOm); (· exact sOm); (· exact sOm); (· exact sRfl)) | (apply Y.strLen; (· exact rfl); (· exact rfl); (· exact rfl); (· exact sMax)) | (apply Y.indexStr; (· exact rfl); (· exact rfl); (· exact rfl); (· exact rfl); (· exact sJ); (· exact sOm); (· exact sAsm))) | (first | (apply Y.build; (· exact rfl); (· exact sPv); (· exact letT_rec); (· exact sFil)) | (apply Y.build; (· exact rfl); (· exact sPv); (· exact wire_rec); (· exact sFil)) | (apply Y.build; (· exact rfl); (· exact sPv); (· exact pltT_rec); (· exact sFil)) | (apply Y.build; (· exact rfl); (· exact sPv); (· exact op29T_rec); (· exact sFil))))) : Yld P E H ρ o v := h
theorem sSW29 {P : Program} {N : Nat} {E : Env} {F : Nat → Value} {H : List Asn} {o : Oper} {K : Value → List Asn → Prop} (h : Stp P N E F H o K := by first | (first | (apply S.boxK; (· exact rfl); (· exact sLk); (· exact sCel)) | (apply S.append1K; (· exact rfl); (· exact rfl); (· exact rfl); (· exact rfl); (· exact sNN); (· exact (fun _ _ => sRepl)); (· exact sNL); (· exact sRfl); (· first | (conv => lhs; simp only [octT, letT, pltT, op29T]) | rfl); (· exact sOm); (· exact sOm)) | (apply S.appendK; (· exact rfl); (· exact rfl); (· exact rfl); (· exact sNN); (· exact (fun _ _ => sRepl)); (· exact sRdH); (· exact sNL); (· exact sRfl); (· first | (conv => lhs; simp only [octT, letT, pltT, op29T]) | rfl); (· exact sOm); (· exact sOm)) | (apply S.appendNilK; (· exact rfl); (· exact rfl); (· exact rfl); (· exact sRdH); (· exact sRfl); (· first | (conv => lhs; simp only [octT, letT, pltT, op29T]) | rfl); (· exact sOm); (· exact sOm)) | (apply (S.buildSliceK (T := octT) (l := [])); (· exact rfl); (· exact rfl); (· exact rfl); (· exact rfl); (· decide)) | (apply (S.buildSlice1K (T := octT)); (· exact rfl); (· exact sLk); (· first | rfl | (with_reducible exact octT_val _ sOm sOm)); (· exact rfl); (· decide)) | (apply (S.buildSlice2K (T := octT)); (· exact rfl); (· exact sLk); (· first | rfl | (with_reducible exact octT_val _ sOm sOm)); (· exact sLk); (· first | rfl | (with_reducible exact octT_val _ sOm sOm)); (· exact rfl); (· decide)) | (apply (S.buildSlice3K (T := octT)); (· exact rfl); (· exact sLk); (· first | rfl | (with_reducible exact octT_val _ sOm sOm)); (· exact sLk); (· first | rfl | (with_reducible exact octT_val _ sOm sOm)); (· exact sLk); (· first | rfl | (with_reducible exact octT_val _ sOm sOm)); (· exact rfl); (· decide))) | (first | (apply (S.buildSliceK (T := letT) (l := [])); (· exact rfl); (· exact rfl); (· exact rfl); (· exact rfl); (· decide)) | (apply (S.buildSlice1K (T := letT)); (· exact rfl); (· exact sLk); (· first | rfl | (with_reducible exact letT_val _ sOm sOm)); (· exact rfl); (· decide)) | (apply (S.buildSlice2K (T := letT)); (· exact rfl); (· exact sLk); (· first | rfl | (with_reducible exact letT_val _ sOm sOm)); (· exact sLk); (· first | rfl | (with_reducible exact letT_val _ sOm sOm)); (· exact rfl); (· decide)) | (apply (S.buildSlice3K (T := letT)); (· exact rfl); (· exact sLk); (· first | rfl | (with_reducible exact letT_val _ sOm sOm)); (· exact sLk); (· first | rfl | (with_reducible exact letT_val _ sOm sOm)); (· exact sLk); (· first | rfl | (with_reducible exact letT_val _ sOm sOm)); (· exact rfl); (· decide)) | (apply (S.buildSliceK (T := pltT) (l := [])); (· exact rfl); (· exact rfl); (· exact rfl); (· exact rfl); (· decide)) | (apply (S.buildSlice1K (T := pltT)); (· exact rfl); (· exact sLk); (· first | rfl | (with_reducible exact pltT_val _ sOm sOm)); (· exact rfl); (· decide)) | (apply (S.buildSlice2K (T := pltT)); (· exact rfl); (· exact sLk); (· first | rfl | (with_reducible exact pltT_val _ sOm sOm)); (· exact sLk); (· first | rfl | (with_reducible exact pltT_val _ sOm sOm)); (· exact rfl); (· decide)) | (apply (S.buildSlice3K (T := pltT)); (· exact rfl); (· exact sLk); (· first | rfl | (with_reducible exact pltT_val _ sOm sOm)); (· exact sLk); (· first | rfl | (with_reducible exact pltT_val _ sOm sOm)); (· exact sLk); (· first | rfl | (with_reducible exact pltT_val _ sOm sOm)); (· exact rfl); (· decide))) | (first | (apply (S.buildSliceK (T := op29T) (l := [])); (· exact rfl); (· exact rfl); (· exact rfl); (· exact rfl); (· decide)) | (apply (S.buildSlice1K (T := op29T)); (· exact rfl); (· exact sLk); (· first | rfl | (with_reducible exact op29T_val _ sOm sOm)); (· exact rfl); (· decide)) | (apply (S.buildSlice2K (T := op29T)); (· exact rfl); (· exact sLk); (· first | rfl | (with_reducible exact op29T_val _ sOm sOm)); (· exact sLk); (· first | rfl | (with_reducible exact op29T_val _ sOm sOm)); (· exact rfl); (· decide)) | (apply (S.buildSlice3K (T := op29T)); (· exact rfl); (· exact sLk); (· first | rfl | (with_reducible exact op29T_val _ sOm sOm)); (· exact sLk); (· first | rfl | (with_reducible exact op29T_val _ sOm sOm)); (· exact sLk); (· first | rfl | (with_reducible exact op29T_val _ sOm sOm)); (· exact rfl); (· decide)) | (apply (S.storeFK (T := octT)); (· exact rfl); (· exact rfl); (· exact sLk); (· exact sRepl); (· exact sAsm); (· exact rfl); (· exact sAsm); (· intro x hx; simp [Value.cells] at hx; subst hx; rfl); (· exact rfl); (· exact rfl)) | (apply (S.storeEK (T := octT)); (· exact rfl); (· exact rfl); (· exact sLk); (· exact sRepl); rotate_left; (· exact sRfl); rotate_right; (· exact sAsm); (· first | rfl | (with_reducible exact octT_val _ sOm sOm)); (· exact sRfl)) | (apply (S.storeFK (T := letT)); (· exact rfl); (· exact rfl); (· exact sLk); (· exact sRepl); (· exact sAsm); (· exact rfl); (· exact sAsm); (· intro x hx; simp [Value.cells] at hx; subst hx; rfl); (· exact rfl); (· exact rfl)) | (apply (S.storeEK (T := letT)); (· exact rfl); (· exact rfl); (· exact sLk); (· exact sRepl); rotate_left; (· exact sRfl); rotate_right; (· exact sAsm); (· first | rfl | (with_reducible exact letT_val _ sOm sOm)); (· exact sRfl))) | (first | (apply (S.storeFK (T := pltT)); (· exact rfl); (· exact rfl); (· exact sLk); (· exact sRepl); (· exact sAsm); (· exact rfl); (· exact sAsm); (· intro x hx; simp [Value.cells] at hx; subst hx; rfl); (· exact rfl); (· exact rfl)) | (apply (S.storeEK (T := pltT)); (· exact rfl); (· exact rfl); (· exact sLk); (· exact sRepl); rotate_left; (· exact sRfl); rotate_right; (· exact sAsm); (· first | rfl | (with_reducible exact pltT_val _ sOm sOm)); (· exact sRfl)) | (apply (S.storeFK (T := op29T)); (· exact rfl); (· exact rfl); (· exact sLk); (· exact sRepl); (· exact sAsm); (· exact rfl); (· exact sAsm); (· intro x hx; simp [Value.cells] at hx; subst hx; rfl); (· exact rfl); (· exact rfl)) | (apply (S.storeEK (T := op29T)); (· exact rfl); (· exact rfl); (· exact sLk); (· exact sRepl); rotate_left; (· exact sRfl); rotate_right; (· exact sAsm); (· first | rfl | (with_reducible exact op29T_val _ sOm sOm)); (· exact sRfl)) | (apply S.allocK; (· exact rfl); (· exact letT_rec.zero)) | (apply S.allocK; (· exact rfl); (· exact wire_rec.zero)) | (apply S.allocK; (· exact rfl); (· exact pltT_rec.zero)) | (apply S.allocK; (· exact rfl); (· exact op29T_rec.zero))) | (first | (apply (S.makeSliceK (T := octT) (z := octT_z)); (· exact rfl); (· exact rfl); (· exact rfl); (· exact sJ); (· exact sOm); (· exact rfl); (· exact rfl); (· first | (conv => lhs; simp only [octT, letT, pltT, op29T]) | rfl); (· exact sOm); (· exact sOm)) | (apply (S.makeSliceK (T := letT) (z := letT_z)); (· exact rfl); (· exact rfl); (· exact rfl); (· exact sJ); (· exact sOm); (· exact rfl); (· exact rfl); (· first | (conv => lhs; simp only [octT, letT, pltT, op29T]) | rfl); (· exact sOm); (· exact sOm)) | (apply (S.makeSliceK (T := pltT) (z := pltT_z)); (· exact rfl); (· exact rfl); (· exact rfl); (· exact sJ); (· exact sOm); (· exact rfl); (· exact rfl); (· first | (conv => lhs; simp only [octT, letT, pltT, op29T]) | rfl); (· exact sOm); (· exact sOm)) | (apply (S.makeSliceK (T := op29T) (z := op29T_z)); (· exact rfl); (· exact rfl); (· exact rfl); (· exact sJ); (· exact sOm); (· exact rfl); (· exact rfl); (· first | (conv => lhs; simp only [octT, letT, pltT, op29T]) | rfl); (· exact sOm); (· exact sOm)) | (apply S.storeAggK; (· exact rfl); (· exact rfl); (· exact sLk); (· exact rfl); (· exact rfl); (· exact rfl); (· exact sRepl); (· exact sPut)) | (apply S.copyInK; (· exact rfl); (· exact rfl); (· exact rfl); (· exact sAsm); (· exact sRepl); (· exact sRdH); rotate_left; (· exact rfl); rotate_right; (· exact sAsm); (· exact sOm); (· exact sAsm); (· exact rfl); (· exact sMax)) | (apply S.store1K; (· exact rfl); (· exact rfl); (· exact sLk); (· exact sRfl); (· exact rfl); (· exact rfl); (· exact sRepl); (· exact sLn); (· exact sSetL)))) : Stp P N E F H o K := h
theorem wW29 {p q : Prop} (hq : q) (h : Box q → p := by intro h; (first | (focus (apply L.val; (· decide); (· exact sYW29))) | refine C.seq ?_ | refine C.region ?_ | refine L.nil ?_ | refine C.block ?_ | refine C.exit ?_ | refine C.skip ?_ | refine C.ret ?_ | (focus (apply L.on; (· exact rfl); (· decide); (· exact rfl); (· exact sTst))) | (focus (apply L.off; (· decide); (· exact rfl); (· decide); (· exact rfl); (· exact sTst))) | (focus (apply L.offU; (· decide); (· exact rfl); (· decide); (· exact rfl))) | (focus (apply C.condT; (· exact rfl); (· exact sTst))) | (focus (apply C.condF; (· exact rfl); (· exact sTst))) | refine Dr.done ?_ | (focus (apply Dr.take; (· exact rfl); (· decide); (· exact sGon); (· exact sYW29))) | (focus (apply Dr.skip; (· exact rfl); (· decide); (· exact sGoff))) | (focus (apply Dr.goSkip; (· exact rfl); (· decide); (· exact sGoff))) | with_reducible refine T.n ?_ | with_reducible refine T.ret ?_ | with_reducible refine T.exit ?_ | with_reducible refine I.n ?_ | with_reducible refine I.ret ?_ | with_reducible refine I.hit ?_ | with_reducible refine I.miss (by decide) ?_); (repeat (first | (focus (apply L.val; (· decide); (· exact sYW29))) | refine C.seq ?_ | refine C.region ?_ | refine L.nil ?_ | refine C.block ?_ | refine C.exit ?_ | refine C.skip ?_ | refine C.ret ?_ | (focus (apply L.on; (· exact rfl); (· decide); (· exact rfl); (· exact sTst))) | (focus (apply L.off; (· decide); (· exact rfl); (· decide); (· exact rfl); (· exact sTst))) | (focus (apply L.offU; (· decide); (· exact rfl); (· decide); (· exact rfl))) | (focus (apply C.condT; (· exact rfl); (· exact sTst))) | (focus (apply C.condF; (· exact rfl); (· exact sTst))) | refine Dr.done ?_ | (focus (apply Dr.take; (· exact rfl); (· decide); (· exact sGon); (· exact sYW29))) | (focus (apply Dr.skip; (· exact rfl); (· decide); (· exact sGoff))) | (focus (apply Dr.goSkip; (· exact rfl); (· decide); (· exact sGoff))) | with_reducible refine T.n ?_ | with_reducible refine T.ret ?_ | with_reducible refine T.exit ?_ | with_reducible refine I.n ?_ | with_reducible refine I.ret ?_ | with_reducible refine I.hit ?_ | with_reducible refine I.miss (by decide) ?_)); exact h.out) : p := h ⟨hq⟩
theorem vW29 {p q : Prop} (hq : q) (h : Box q → p := by intro h; (first | (focus (apply L.val; (· decide); (· exact sYW29))) | refine C.seq ?_ | refine C.region ?_ | refine L.nil ?_ | refine C.block ?_ | refine C.exit ?_ | refine C.skip ?_ | refine C.ret ?_ | (focus (apply L.on; (· exact rfl); (· decide); (· exact rfl); (· exact sTst))) | (focus (apply L.off; (· decide); (· exact rfl); (· decide); (· exact rfl); (· exact sTst))) | (focus (apply L.offU; (· decide); (· exact rfl); (· decide); (· exact rfl))) | (focus (apply C.condT; (· exact rfl); (· exact sTst))) | (focus (apply C.condF; (· exact rfl); (· exact sTst))) | refine Dr.done ?_ | (focus (apply Dr.take; (· exact rfl); (· decide); (· exact sGon); (· exact sYW29))) | (focus (apply Dr.skip; (· exact rfl); (· decide); (· exact sGoff))) | (focus (apply Dr.goSkip; (· exact rfl); (· decide); (· exact sGoff))) | with_reducible refine T.n ?_ | with_reducible refine T.ret ?_ | with_reducible refine T.exit ?_ | with_reducible refine I.n ?_ | with_reducible refine I.ret ?_ | with_reducible refine I.hit ?_ | with_reducible refine I.miss (by decide) ?_); exact h.out) : p := h ⟨hq⟩
theorem kW29 {p q : Prop} (hq : q) (h : Box q → p := by intro h; first | (apply L.stepK; (· decide); (· exact sSW29); exact h.out) | (apply L.step0K; (· exact sSW29); exact h.out) | (apply Dr.goZ; (· exact rfl); (· rintro k ⟨⟩ <;> decide); (· exact sGon); (· exact sSW29); exact h.out) | (apply Go1.goK; (· exact rfl); (· rintro k ⟨⟩ <;> decide); (· exact sGon); (· exact sSW29); exact h.out) | (apply Dr.goK; (· exact rfl); (· rintro k ⟨⟩ <;> decide); (· exact sGon); (· exact sSW29); exact h.out)) : p := h ⟨hq⟩
abbrev lOc (x : Letv) : Asn := own octT x.A x.n x.c x.b
abbrev wr (g : Nat) (A : Option Addr) (n c : Nat) : Asn := blk g 35 [.slice A n c]
abbrev Letv.mark (x : Letv) (b : List UInt8) : Letv := ⟨x.to, x.A, x.n, x.c, b, true⟩
theorem clone_oct (E : Env) (A : Option Addr) (n c : Nat) (l : List UInt8) (hr : Rd E octT A n c l) (hl : n ≤ 140737488355300) : Tri Try.prog E 72 #[.slice A n c] [] fun e H' => ∃ A' c', e = .returned (.slice A' n c') ∧ (n ≤ c' ∧ c' ≤ maxLen) ∧ H' = [own octT A' n c' l] := by
  refine tri Try.func72 rfl Try.ntmps72 (by simp) ?_
  cases A with
  | none =>
    obtain ⟨rfl, rfl⟩ := hr.none
    repeat (first | refine wW29 ?_ | (refine kW29 ?_; (first | rintro _ _ ⟨rfl, rfl⟩ | rintro _ _ ⟨_, rfl, rfl⟩ | rintro _ _ ⟨_, _, ⟨_, _⟩, rfl, rfl⟩); try refine ⟨sConv, ?_⟩) | refine Dr.two ?_ ?_)
    exact ret1 rfl sRet (Conv.nil octT) ⟨_, _, rfl, ⟨Nat.le_refl _, Nat.zero_le _⟩, rfl⟩
  | some a =>
    repeat (first | refine wW29 ?_ | (refine kW29 ?_; (first | rintro _ _ ⟨rfl, rfl⟩ | rintro _ _ ⟨_, rfl, rfl⟩ | rintro _ _ ⟨_, _, ⟨_, _⟩, rfl, rfl⟩); try refine ⟨sConv, ?_⟩) | refine Dr.two ?_ ?_)
    exact ret1 rfl sRet sConv (⟨_, _, rfl, ⟨by assumption, by assumption⟩, rfl⟩)
theorem postF_conv {P : Program} {E : Env} {fn : Func} {R : Ending → List Asn → Prop} {F : Nat → Value} {H H1 : List Asn} {e : Ex} (hc : Conv E H H1) (h : postF P E fn R e F H1) : postF P E fn R e F H := by
  cases e with
  | normal => obtain ⟨v, H', h1, h2, h3⟩ := h; exact ⟨v, H', fun w hw => h1 w (hc w hw), hc.trans h2, h3⟩
  | ret => obtain ⟨v, H', h1, h2, h3⟩ := h; exact ⟨v, H', fun w hw => h1 w (hc w hw), hc.trans h2, h3⟩
  | exit id => exact h
section
variable (E : Env) (g : Nat) (A : Option Addr) (n c : Nat) (ls : List Letv)
theorem wat_nil (i : Int) : Tri Try.prog E 64 #[.pointer none, .int .i64 i] [] fun r H' => r = .returned (.pointer none) ∧ H' = [] := by
  refine tri Try.func64 rfl Try.ntmps64 (by simp) ?_
  repeat (first | refine wW29 ?_ | (refine kW29 ?_; (first | rintro _ _ ⟨rfl, rfl⟩ | rintro _ _ ⟨_, rfl, rfl⟩ | rintro _ _ ⟨_, _, ⟨_, _⟩, rfl, rfl⟩); try refine ⟨sConv, ?_⟩) | refine Dr.two ?_ ?_)
  exact ret1 rfl sRet sConv (⟨rfl, rfl⟩)
theorem wat_no (i : Int) (hn : n ≤ 128) (h : i < 0 ∨ n ≤ i) : Tri Try.prog E 64 #[.pointer (some ⟨g, 0, none⟩), .int .i64 i] [wr g A n c] fun r H' => r = .returned (.pointer none) ∧ H' = [wr g A n c] := by
  have hmax : maxLen = 9223372036854775807 := rfl
  refine tri Try.func64 rfl Try.ntmps64 (by simp) ?_
  by_cases h0 : i < 0
  · repeat (first | refine wW29 ?_ | (refine kW29 ?_; (first | rintro _ _ ⟨rfl, rfl⟩ | rintro _ _ ⟨_, rfl, rfl⟩ | rintro _ _ ⟨_, _, ⟨_, _⟩, rfl, rfl⟩); try refine ⟨sConv, ?_⟩) | refine Dr.two ?_ ?_)
    exact ret1 rfl sRet sConv (⟨rfl, rfl⟩)
  · repeat (first | refine wW29 ?_ | (refine kW29 ?_; (first | rintro _ _ ⟨rfl, rfl⟩ | rintro _ _ ⟨_, rfl, rfl⟩ | rintro _ _ ⟨_, _, ⟨_, _⟩, rfl, rfl⟩); try refine ⟨sConv, ?_⟩) | refine Dr.two ?_ ?_)
    exact ret1 rfl sRet sConv (⟨rfl, rfl⟩)
theorem wat_yes (i : Nat) (hn : n ≤ 128) (hi : i < n) {e : Letv} (he : ls[i]? = some e) (hl : n = ls.length) : Tri Try.prog E 64 #[.pointer (some ⟨g, 0, none⟩), .int .i64 i] [wr g A n c, own letT A n c ls] fun r H' => r = .returned (.pointer (some ((ad A).add (i * letT.size)))) ∧ H' = [wr g A n c, own letT A n c ls] := by
  have hmax : maxLen = 9223372036854775807 := rfl
  refine tri Try.func64 rfl Try.ntmps64 (by simp) ?_
  repeat (first | refine wW29 ?_ | (refine kW29 ?_; (first | rintro _ _ ⟨rfl, rfl⟩ | rintro _ _ ⟨_, rfl, rfl⟩ | rintro _ _ ⟨_, _, ⟨_, _⟩, rfl, rfl⟩); try refine ⟨sConv, ?_⟩) | refine Dr.two ?_ ?_)
  exact ret1 rfl sRet sConv (⟨rfl, rfl⟩)
/-- what may be read while letters lie -/
def Src29 (E : Env) (ls : List Letv) (X : Option Addr) (nx cx : Nat) (b : List UInt8) : Prop := ∀ E' R, Sub E R E' → (∃ R', Has (each lOc ls) R R') → Rd E' octT X nx cx b
theorem Src29.rd {E : Env} {ls : List Letv} {X : Option Addr} {nx cx : Nat} {b : List UInt8} (h : Rd E octT X nx cx b) : Src29 E ls X nx cx b := fun _ _ hE _ => h.sub hE
theorem Src29.at_ {E : Env} {ls : List Letv} {i : Nat} {e : Letv} (he : ls[i]? = some e) : Src29 E ls e.A e.n e.c e.b := fun _ _ hE ⟨_, hh⟩ => Sub.each hE hh he rfl
def Post29 (g : Nat) (n : Nat) (ls : List Letv) (to : Int) (nx : Nat) (b : List UInt8) (br : Bool) : Ending → List Asn → Prop := fun r H' =>
  ∃ A' c' O co, r = .returned (.bool true) ∧ (n + 1 ≤ c' ∧ c' ≤ maxLen) ∧ H' = [wr g A' (n + 1) c', own letT A' (n + 1) c' (ls ++ [⟨to, O, nx, co, b, br⟩]), each lOc (ls ++ [⟨to, O, nx, co, b, br⟩])]
theorem wpost_full (X : Option Addr) (nx cx : Nat) (to : Int) (br : Bool) (hn : 128 ≤ n) (hm : n ≤ maxLen) : Tri Try.prog E 63 #[.pointer (some ⟨g, 0, none⟩), .agg #[.int .i64 to, .slice X nx cx, .bool br]] [wr g A n c] fun r H' => r = .returned (.bool false) ∧ H' = [wr g A n c] := by
  refine tri Try.func63 rfl Try.ntmps63 (by simp) ?_
  repeat (first | refine wW29 ?_ | (refine kW29 ?_; (first | rintro _ _ ⟨rfl, rfl⟩ | rintro _ _ ⟨_, rfl, rfl⟩ | rintro _ _ ⟨_, _, ⟨_, _⟩, rfl, rfl⟩); try refine ⟨sConv, ?_⟩) | refine Dr.two ?_ ?_)
  exact ret1 rfl sRet sConv (⟨rfl, rfl⟩)
theorem wpost_nil (X : Option Addr) (nx cx : Nat) (to : Int) (br : Bool) : Tri Try.prog E 63 #[.pointer none, .agg #[.int .i64 to, .slice X nx cx, .bool br]] [] fun r H' => r = .returned (.bool false) ∧ H' = [] := by
  refine tri Try.func63 rfl Try.ntmps63 (by simp) ?_
  repeat (first | refine wW29 ?_ | (refine kW29 ?_; (first | rintro _ _ ⟨rfl, rfl⟩ | rintro _ _ ⟨_, rfl, rfl⟩ | rintro _ _ ⟨_, _, ⟨_, _⟩, rfl, rfl⟩); try refine ⟨sConv, ?_⟩) | refine Dr.two ?_ ?_)
  exact ret1 rfl sRet sConv (⟨rfl, rfl⟩)
theorem wpost (X : Option Addr) (nx cx : Nat) (to : Int) (br : Bool) (b : List UInt8) (hn : n < 128) (hl : n = ls.length) (hsrc : Src29 E ls X nx cx b) (hnx : nx ≤ 140737488355300) :
    Tri Try.prog E 63 #[.pointer (some ⟨g, 0, none⟩), .agg #[.int .i64 to, .slice X nx cx, .bool br]] [wr g A n c, own letT A n c ls, each lOc ls] (Post29 g n ls to nx b br) := by
  have hmax : maxLen = 9223372036854775807 := rfl
  unfold Post29
  refine tri Try.func63 rfl Try.ntmps63 (by simp) ?_
  repeat (first | refine wW29 ?_ | (refine kW29 ?_; (first | rintro _ _ ⟨rfl, rfl⟩ | rintro _ _ ⟨_, rfl, rfl⟩ | rintro _ _ ⟨_, _, ⟨_, _⟩, rfl, rfl⟩); try refine ⟨sConv, ?_⟩) | refine Dr.two ?_ ?_)
  rename_i g3
  refine L.step (by decide) (S.call rfl rfl Try.func72 (by kernel_rfl) rfl sPicks (fun E' hE => clone_oct E' X nx cx b (hsrc E' _ hE ⟨_, sHas⟩) hnx) ?_)
  rintro r H' ⟨O, co, rfl, ⟨hc1, hc2⟩, rfl⟩
  refine ⟨_, rfl, _, sCat, ?_⟩
  repeat (first | refine wW29 ?_ | (refine kW29 ?_; (first | rintro _ _ ⟨rfl, rfl⟩ | rintro _ _ ⟨_, rfl, rfl⟩ | rintro _ _ ⟨_, _, ⟨_, _⟩, rfl, rfl⟩); try refine ⟨sConv, ?_⟩) | refine Dr.two ?_ ?_)
  refine C.regionA 10 (.one 0 false (.one 1 false (.one 2 false (.one 3 false (.one 4 false (.one 5 false (.one 6 true (.one 7 true (.one 8 false (.one 9 false (.one 10 true .nil))))))))))) ([wr g A n c, blk g3 113 [.int .i64 to, .slice O nx co, .bool br]]) (by kernel_rfl) (by kernel_rfl) sConv ?_
  repeat (first | refine wW29 ?_ | (refine kW29 ?_; (first | rintro _ _ ⟨rfl, rfl⟩ | rintro _ _ ⟨_, rfl, rfl⟩ | rintro _ _ ⟨_, _, ⟨_, _⟩, rfl, rfl⟩); try refine ⟨sConv, ?_⟩) | refine Dr.two ?_ ?_)
  refine Dr.goK rfl (by rintro k ⟨⟩ <;> decide) sGon (S.buildSlice1K (T := letT) (e := ⟨to, O, nx, co, b, br⟩) rfl rfl rfl rfl (by decide)) ?_; rintro _ _ ⟨_, rfl, rfl⟩; refine ⟨sConv, ?_⟩
  repeat (first | refine wW29 ?_ | (refine kW29 ?_; (first | rintro _ _ ⟨rfl, rfl⟩ | rintro _ _ ⟨_, rfl, rfl⟩ | rintro _ _ ⟨_, _, ⟨_, _⟩, rfl, rfl⟩); try refine ⟨sConv, ?_⟩) | refine Dr.two ?_ ?_)
  rename_i A' c' h1 h2
  refine postF_conv (Conv.push (f := lOc) (l := ls) (x := ⟨to, O, nx, co, b, br⟩) sPicks) ?_
  exact ret1 rfl sRet sConv (⟨_, _, _, _, rfl, ⟨h1, h2⟩, rfl⟩)
theorem wput_nil (to : Int) (X : Option Addr) (nx cx : Nat) : Tri Try.prog E 23 #[.pointer none, .int .i64 to, .slice X nx cx] [] fun r H' => r = .returned (.bool false) ∧ H' = [] := by
  refine tri Try.func23 rfl Try.ntmps23 (by simp) ?_
  repeat (first | refine wW29 ?_ | (refine kW29 ?_; (first | rintro _ _ ⟨rfl, rfl⟩ | rintro _ _ ⟨_, rfl, rfl⟩ | rintro _ _ ⟨_, _, ⟨_, _⟩, rfl, rfl⟩); try refine ⟨sConv, ?_⟩) | refine Dr.two ?_ ?_)
  refine L.step (by decide) (S.call rfl rfl Try.func63 (by kernel_rfl) rfl sPicks (fun E' hE => wpost_nil E' X nx cx to false) ?_)
  rintro r H' ⟨rfl, rfl⟩
  refine ⟨_, rfl, _, sCat, ?_⟩
  repeat (first | refine wW29 ?_ | (refine kW29 ?_; (first | rintro _ _ ⟨rfl, rfl⟩ | rintro _ _ ⟨_, rfl, rfl⟩ | rintro _ _ ⟨_, _, ⟨_, _⟩, rfl, rfl⟩); try refine ⟨sConv, ?_⟩) | refine Dr.two ?_ ?_)
  exact ret1 rfl sRet sConv (⟨rfl, rfl⟩)
theorem wput_full (to : Int) (X : Option Addr) (nx cx : Nat) (hn : 128 ≤ n) (hm : n ≤ maxLen) : Tri Try.prog E 23 #[.pointer (some ⟨g, 0, none⟩), .int .i64 to, .slice X nx cx] [wr g A n c] fun r H' => r = .returned (.bool false) ∧ H' = [wr g A n c] := by
  refine tri Try.func23 rfl Try.ntmps23 (by simp) ?_
  repeat (first | refine wW29 ?_ | (refine kW29 ?_; (first | rintro _ _ ⟨rfl, rfl⟩ | rintro _ _ ⟨_, rfl, rfl⟩ | rintro _ _ ⟨_, _, ⟨_, _⟩, rfl, rfl⟩); try refine ⟨sConv, ?_⟩) | refine Dr.two ?_ ?_)
  refine L.step (by decide) (S.call rfl rfl Try.func63 (by kernel_rfl) rfl sPicks (fun E' hE => wpost_full E' g A n c X nx cx to false hn hm) ?_)
  rintro r H' ⟨rfl, rfl⟩
  refine ⟨_, rfl, _, sCat, ?_⟩
  repeat (first | refine wW29 ?_ | (refine kW29 ?_; (first | rintro _ _ ⟨rfl, rfl⟩ | rintro _ _ ⟨_, rfl, rfl⟩ | rintro _ _ ⟨_, _, ⟨_, _⟩, rfl, rfl⟩); try refine ⟨sConv, ?_⟩) | refine Dr.two ?_ ?_)
  exact ret1 rfl sRet sConv (⟨rfl, rfl⟩)
theorem wput (to : Int) (X : Option Addr) (nx cx : Nat) (b : List UInt8) (hn : n < 128) (hl : n = ls.length) (hsrc : Rd E octT X nx cx b) (hnx : nx ≤ 140737488355300) :
    Tri Try.prog E 23 #[.pointer (some ⟨g, 0, none⟩), .int .i64 to, .slice X nx cx] [wr g A n c, own letT A n c ls, each lOc ls] (Post29 g n ls to nx b false) := by
  refine tri Try.func23 rfl Try.ntmps23 (by simp) ?_
  repeat (first | refine wW29 ?_ | (refine kW29 ?_; (first | rintro _ _ ⟨rfl, rfl⟩ | rintro _ _ ⟨_, rfl, rfl⟩ | rintro _ _ ⟨_, _, ⟨_, _⟩, rfl, rfl⟩); try refine ⟨sConv, ?_⟩) | refine Dr.two ?_ ?_)
  refine L.step (by decide) (S.call rfl rfl Try.func63 (by kernel_rfl) rfl sPicks (fun E' hE => wpost E' g A n c ls X nx cx to false b hn hl (Src29.rd (hsrc.sub hE)) hnx) ?_)
  unfold Post29
  rintro r H' ⟨A', c', O, co, rfl, h1, rfl⟩
  refine ⟨_, rfl, _, sCat, ?_⟩
  repeat (first | refine wW29 ?_ | (refine kW29 ?_; (first | rintro _ _ ⟨rfl, rfl⟩ | rintro _ _ ⟨_, rfl, rfl⟩ | rintro _ _ ⟨_, _, ⟨_, _⟩, rfl, rfl⟩); try refine ⟨sConv, ?_⟩) | refine Dr.two ?_ ?_)
  exact ret1 rfl sRet sConv (⟨_, _, _, _, rfl, h1, rfl⟩)
theorem wlen_nil : Tri Try.prog E 27 #[.pointer none] [] fun r H' => r = .returned (.int .i64 0) ∧ H' = [] := by
  refine tri Try.func27 rfl Try.ntmps27 (by simp) ?_
  repeat (first | refine wW29 ?_ | (refine kW29 ?_; (first | rintro _ _ ⟨rfl, rfl⟩ | rintro _ _ ⟨_, rfl, rfl⟩ | rintro _ _ ⟨_, _, ⟨_, _⟩, rfl, rfl⟩); try refine ⟨sConv, ?_⟩) | refine Dr.two ?_ ?_)
  exact ret1 rfl sRet sConv (⟨rfl, rfl⟩)
theorem wlen (hn : n ≤ 128) : Tri Try.prog E 27 #[.pointer (some ⟨g, 0, none⟩)] [wr g A n c] fun r H' => r = .returned (.int .i64 n) ∧ H' = [wr g A n c] := by
  have hmax : maxLen = 9223372036854775807 := rfl
  refine tri Try.func27 rfl Try.ntmps27 (by simp) ?_
  repeat (first | refine wW29 ?_ | (refine kW29 ?_; (first | rintro _ _ ⟨rfl, rfl⟩ | rintro _ _ ⟨_, rfl, rfl⟩ | rintro _ _ ⟨_, _, ⟨_, _⟩, rfl, rfl⟩); try refine ⟨sConv, ?_⟩) | refine Dr.two ?_ ?_)
  exact ret1 rfl sRet sConv (⟨rfl, rfl⟩)
theorem wto_nil (i : Int) : Tri Try.prog E 47 #[.pointer none, .int .i64 i] [] fun r H' => r = .returned (.int .i64 (-1)) ∧ H' = [] := by
  refine tri Try.func47 rfl Try.ntmps47 (by simp) ?_
  repeat (first | refine wW29 ?_ | (refine kW29 ?_; (first | rintro _ _ ⟨rfl, rfl⟩ | rintro _ _ ⟨_, rfl, rfl⟩ | rintro _ _ ⟨_, _, ⟨_, _⟩, rfl, rfl⟩); try refine ⟨sConv, ?_⟩) | refine Dr.two ?_ ?_)
  refine L.step (by decide) (S.call rfl rfl Try.func64 (by kernel_rfl) rfl sPicks (fun E' hE => wat_nil E' i) ?_)
  rintro r H' ⟨rfl, rfl⟩
  refine ⟨_, rfl, _, sCat, ?_⟩
  repeat (first | refine wW29 ?_ | (refine kW29 ?_; (first | rintro _ _ ⟨rfl, rfl⟩ | rintro _ _ ⟨_, rfl, rfl⟩ | rintro _ _ ⟨_, _, ⟨_, _⟩, rfl, rfl⟩); try refine ⟨sConv, ?_⟩) | refine Dr.two ?_ ?_)
  exact ret1 rfl sRet sConv (⟨rfl, rfl⟩)
theorem wto_no (i : Int) (hn : n ≤ 128) (h : i < 0 ∨ n ≤ i) : Tri Try.prog E 47 #[.pointer (some ⟨g, 0, none⟩), .int .i64 i] [wr g A n c] fun r H' => r = .returned (.int .i64 (-1)) ∧ H' = [wr g A n c] := by
  refine tri Try.func47 rfl Try.ntmps47 (by simp) ?_
  repeat (first | refine wW29 ?_ | (refine kW29 ?_; (first | rintro _ _ ⟨rfl, rfl⟩ | rintro _ _ ⟨_, rfl, rfl⟩ | rintro _ _ ⟨_, _, ⟨_, _⟩, rfl, rfl⟩); try refine ⟨sConv, ?_⟩) | refine Dr.two ?_ ?_)
  refine L.step (by decide) (S.call rfl rfl Try.func64 (by kernel_rfl) rfl sPicks (fun E' hE => wat_no E' g A n c i hn h) ?_)
  rintro r H' ⟨rfl, rfl⟩
  refine ⟨_, rfl, _, sCat, ?_⟩
  repeat (first | refine wW29 ?_ | (refine kW29 ?_; (first | rintro _ _ ⟨rfl, rfl⟩ | rintro _ _ ⟨_, rfl, rfl⟩ | rintro _ _ ⟨_, _, ⟨_, _⟩, rfl, rfl⟩); try refine ⟨sConv, ?_⟩) | refine Dr.two ?_ ?_)
  exact ret1 rfl sRet sConv (⟨rfl, rfl⟩)
theorem wto_yes (i : Nat) (hn : n ≤ 128) (hi : i < n) {e : Letv} (he : ls[i]? = some e) (hl : n = ls.length) : Tri Try.prog E 47 #[.pointer (some ⟨g, 0, none⟩), .int .i64 i] [wr g A n c, own letT A n c ls] fun r H' => r = .returned (.int .i64 e.to) ∧ H' = [wr g A n c, own letT A n c ls] := by
  refine tri Try.func47 rfl Try.ntmps47 (by simp) ?_
  repeat (first | refine wW29 ?_ | (refine kW29 ?_; (first | rintro _ _ ⟨rfl, rfl⟩ | rintro _ _ ⟨_, rfl, rfl⟩ | rintro _ _ ⟨_, _, ⟨_, _⟩, rfl, rfl⟩); try refine ⟨sConv, ?_⟩) | refine Dr.two ?_ ?_)
  refine L.step (by decide) (S.call rfl rfl Try.func64 (by kernel_rfl) rfl sPicks (fun E' hE => wat_yes E' g A n c ls i hn hi he hl) ?_)
  rintro r H' ⟨rfl, rfl⟩
  refine ⟨_, rfl, _, sCat, ?_⟩
  repeat (first | refine wW29 ?_ | (refine kW29 ?_; (first | rintro _ _ ⟨rfl, rfl⟩ | rintro _ _ ⟨_, rfl, rfl⟩ | rintro _ _ ⟨_, _, ⟨_, _⟩, rfl, rfl⟩); try refine ⟨sConv, ?_⟩) | refine Dr.two ?_ ?_)
  exact ret1 rfl sRet sConv (⟨rfl, rfl⟩)
theorem wbroken_nil (i : Int) : Tri Try.prog E 28 #[.pointer none, .int .i64 i] [] fun r H' => r = .returned (.bool false) ∧ H' = [] := by
  refine tri Try.func28 rfl Try.ntmps28 (by simp) ?_
  repeat (first | refine wW29 ?_ | (refine kW29 ?_; (first | rintro _ _ ⟨rfl, rfl⟩ | rintro _ _ ⟨_, rfl, rfl⟩ | rintro _ _ ⟨_, _, ⟨_, _⟩, rfl, rfl⟩); try refine ⟨sConv, ?_⟩) | refine Dr.two ?_ ?_)
  refine L.step (by decide) (S.call rfl rfl Try.func64 (by kernel_rfl) rfl sPicks (fun E' hE => wat_nil E' i) ?_)
  rintro r H' ⟨rfl, rfl⟩
  refine ⟨_, rfl, _, sCat, ?_⟩
  repeat (first | refine wW29 ?_ | (refine kW29 ?_; (first | rintro _ _ ⟨rfl, rfl⟩ | rintro _ _ ⟨_, rfl, rfl⟩ | rintro _ _ ⟨_, _, ⟨_, _⟩, rfl, rfl⟩); try refine ⟨sConv, ?_⟩) | refine Dr.two ?_ ?_)
  exact ret1 rfl sRet sConv (⟨rfl, rfl⟩)
theorem wbroken_no (i : Int) (hn : n ≤ 128) (h : i < 0 ∨ n ≤ i) : Tri Try.prog E 28 #[.pointer (some ⟨g, 0, none⟩), .int .i64 i] [wr g A n c] fun r H' => r = .returned (.bool false) ∧ H' = [wr g A n c] := by
  refine tri Try.func28 rfl Try.ntmps28 (by simp) ?_
  repeat (first | refine wW29 ?_ | (refine kW29 ?_; (first | rintro _ _ ⟨rfl, rfl⟩ | rintro _ _ ⟨_, rfl, rfl⟩ | rintro _ _ ⟨_, _, ⟨_, _⟩, rfl, rfl⟩); try refine ⟨sConv, ?_⟩) | refine Dr.two ?_ ?_)
  refine L.step (by decide) (S.call rfl rfl Try.func64 (by kernel_rfl) rfl sPicks (fun E' hE => wat_no E' g A n c i hn h) ?_)
  rintro r H' ⟨rfl, rfl⟩
  refine ⟨_, rfl, _, sCat, ?_⟩
  repeat (first | refine wW29 ?_ | (refine kW29 ?_; (first | rintro _ _ ⟨rfl, rfl⟩ | rintro _ _ ⟨_, rfl, rfl⟩ | rintro _ _ ⟨_, _, ⟨_, _⟩, rfl, rfl⟩); try refine ⟨sConv, ?_⟩) | refine Dr.two ?_ ?_)
  exact ret1 rfl sRet sConv (⟨rfl, rfl⟩)
theorem wbroken_yes (i : Nat) (hn : n ≤ 128) (hi : i < n) {e : Letv} (he : ls[i]? = some e) (hl : n = ls.length) : Tri Try.prog E 28 #[.pointer (some ⟨g, 0, none⟩), .int .i64 i] [wr g A n c, own letT A n c ls] fun r H' => r = .returned (.bool e.broken) ∧ H' = [wr g A n c, own letT A n c ls] := by
  refine tri Try.func28 rfl Try.ntmps28 (by simp) ?_
  repeat (first | refine wW29 ?_ | (refine kW29 ?_; (first | rintro _ _ ⟨rfl, rfl⟩ | rintro _ _ ⟨_, rfl, rfl⟩ | rintro _ _ ⟨_, _, ⟨_, _⟩, rfl, rfl⟩); try refine ⟨sConv, ?_⟩) | refine Dr.two ?_ ?_)
  refine L.step (by decide) (S.call rfl rfl Try.func64 (by kernel_rfl) rfl sPicks (fun E' hE => wat_yes E' g A n c ls i hn hi he hl) ?_)
  rintro r H' ⟨rfl, rfl⟩
  refine ⟨_, rfl, _, sCat, ?_⟩
  repeat (first | refine wW29 ?_ | (refine kW29 ?_; (first | rintro _ _ ⟨rfl, rfl⟩ | rintro _ _ ⟨_, rfl, rfl⟩ | rintro _ _ ⟨_, _, ⟨_, _⟩, rfl, rfl⟩); try refine ⟨sConv, ?_⟩) | refine Dr.two ?_ ?_)
  exact ret1 rfl sRet sConv (⟨rfl, rfl⟩)
theorem wcopy_nil (i : Int) : Tri Try.prog E 25 #[.pointer none, .int .i64 i] [] fun r H' => r = .returned (.bool false) ∧ H' = [] := by
  refine tri Try.func25 rfl Try.ntmps25 (by simp) ?_
  repeat (first | refine wW29 ?_ | (refine kW29 ?_; (first | rintro _ _ ⟨rfl, rfl⟩ | rintro _ _ ⟨_, rfl, rfl⟩ | rintro _ _ ⟨_, _, ⟨_, _⟩, rfl, rfl⟩); try refine ⟨sConv, ?_⟩) | refine Dr.two ?_ ?_)
  refine L.step (by decide) (S.call rfl rfl Try.func64 (by kernel_rfl) rfl sPicks (fun E' hE => wat_nil E' i) ?_)
  rintro r H' ⟨rfl, rfl⟩
  refine ⟨_, rfl, _, sCat, ?_⟩
  repeat (first | refine wW29 ?_ | (refine kW29 ?_; (first | rintro _ _ ⟨rfl, rfl⟩ | rintro _ _ ⟨_, rfl, rfl⟩ | rintro _ _ ⟨_, _, ⟨_, _⟩, rfl, rfl⟩); try refine ⟨sConv, ?_⟩) | refine Dr.two ?_ ?_)
  exact ret1 rfl sRet sConv (⟨rfl, rfl⟩)
theorem wcopy_no (i : Int) (hn : n ≤ 128) (h : i < 0 ∨ n ≤ i) : Tri Try.prog E 25 #[.pointer (some ⟨g, 0, none⟩), .int .i64 i] [wr g A n c] fun r H' => r = .returned (.bool false) ∧ H' = [wr g A n c] := by
  refine tri Try.func25 rfl Try.ntmps25 (by simp) ?_
  repeat (first | refine wW29 ?_ | (refine kW29 ?_; (first | rintro _ _ ⟨rfl, rfl⟩ | rintro _ _ ⟨_, rfl, rfl⟩ | rintro _ _ ⟨_, _, ⟨_, _⟩, rfl, rfl⟩); try refine ⟨sConv, ?_⟩) | refine Dr.two ?_ ?_)
  refine L.step (by decide) (S.call rfl rfl Try.func64 (by kernel_rfl) rfl sPicks (fun E' hE => wat_no E' g A n c i hn h) ?_)
  rintro r H' ⟨rfl, rfl⟩
  refine ⟨_, rfl, _, sCat, ?_⟩
  repeat (first | refine wW29 ?_ | (refine kW29 ?_; (first | rintro _ _ ⟨rfl, rfl⟩ | rintro _ _ ⟨_, rfl, rfl⟩ | rintro _ _ ⟨_, _, ⟨_, _⟩, rfl, rfl⟩); try refine ⟨sConv, ?_⟩) | refine Dr.two ?_ ?_)
  exact ret1 rfl sRet sConv (⟨rfl, rfl⟩)
theorem wcopy_full (i : Nat) (hn : n = 128) (hi : i < n) {e : Letv} (he : ls[i]? = some e) (hl : n = ls.length) : Tri Try.prog E 25 #[.pointer (some ⟨g, 0, none⟩), .int .i64 i] [wr g A n c, own letT A n c ls] fun r H' => r = .returned (.bool false) ∧ H' = [wr g A n c, own letT A n c ls] := by
  have hmax : maxLen = 9223372036854775807 := rfl
  have hn1 : n ≤ 128 := by omega
  have hn2 : 128 ≤ n := by omega
  have hn3 : n ≤ maxLen := by omega
  refine tri Try.func25 rfl Try.ntmps25 (by simp) ?_
  repeat (first | refine wW29 ?_ | (refine kW29 ?_; (first | rintro _ _ ⟨rfl, rfl⟩ | rintro _ _ ⟨_, rfl, rfl⟩ | rintro _ _ ⟨_, _, ⟨_, _⟩, rfl, rfl⟩); try refine ⟨sConv, ?_⟩) | refine Dr.two ?_ ?_)
  refine L.step (by decide) (S.call rfl rfl Try.func64 (by kernel_rfl) rfl sPicks (fun E' hE => wat_yes E' g A n c ls i hn1 hi he hl) ?_)
  rintro r H' ⟨rfl, rfl⟩
  refine ⟨_, rfl, _, sCat, ?_⟩
  repeat (first | refine wW29 ?_ | (refine kW29 ?_; (first | rintro _ _ ⟨rfl, rfl⟩ | rintro _ _ ⟨_, rfl, rfl⟩ | rintro _ _ ⟨_, _, ⟨_, _⟩, rfl, rfl⟩); try refine ⟨sConv, ?_⟩) | refine Dr.two ?_ ?_)
  refine L.step (by decide) (S.call rfl rfl Try.func63 (by kernel_rfl) rfl sPicks (fun E' hE => wpost_full E' g A n c e.A e.n e.c e.to e.broken hn2 hn3) ?_)
  rintro r H' ⟨rfl, rfl⟩
  refine ⟨_, rfl, _, sCat, ?_⟩
  repeat (first | refine wW29 ?_ | (refine kW29 ?_; (first | rintro _ _ ⟨rfl, rfl⟩ | rintro _ _ ⟨_, rfl, rfl⟩ | rintro _ _ ⟨_, _, ⟨_, _⟩, rfl, rfl⟩); try refine ⟨sConv, ?_⟩) | refine Dr.two ?_ ?_)
  exact ret1 rfl sRet sConv (⟨rfl, rfl⟩)
theorem wcopy (i : Nat) (hn : n < 128) (hi : i < n) {e : Letv} (he : ls[i]? = some e) (hl : n = ls.length) (hnx : e.n ≤ 140737488355300) :
    Tri Try.prog E 25 #[.pointer (some ⟨g, 0, none⟩), .int .i64 i] [wr g A n c, own letT A n c ls, each lOc ls] (Post29 g n ls e.to e.n e.b e.broken) := by
  have hn1 : n ≤ 128 := by omega
  refine tri Try.func25 rfl Try.ntmps25 (by simp) ?_
  repeat (first | refine wW29 ?_ | (refine kW29 ?_; (first | rintro _ _ ⟨rfl, rfl⟩ | rintro _ _ ⟨_, rfl, rfl⟩ | rintro _ _ ⟨_, _, ⟨_, _⟩, rfl, rfl⟩); try refine ⟨sConv, ?_⟩) | refine Dr.two ?_ ?_)
  refine L.step (by decide) (S.call rfl rfl Try.func64 (by kernel_rfl) rfl sPicks (fun E' hE => wat_yes E' g A n c ls i hn1 hi he hl) ?_)
  rintro r H' ⟨rfl, rfl⟩
  refine ⟨_, rfl, _, sCat, ?_⟩
  repeat (first | refine wW29 ?_ | (refine kW29 ?_; (first | rintro _ _ ⟨rfl, rfl⟩ | rintro _ _ ⟨_, rfl, rfl⟩ | rintro _ _ ⟨_, _, ⟨_, _⟩, rfl, rfl⟩); try refine ⟨sConv, ?_⟩) | refine Dr.two ?_ ?_)
  refine L.step (by decide) (S.call rfl rfl Try.func63 (by kernel_rfl) rfl sPicks (fun E' hE => wpost E' g A n c ls e.A e.n e.c e.to e.broken e.b hn hl (Src29.at_ he) hnx) ?_)
  unfold Post29
  rintro r H' ⟨A', c', O, co, rfl, h1, rfl⟩
  refine ⟨_, rfl, _, sCat, ?_⟩
  repeat (first | refine wW29 ?_ | (refine kW29 ?_; (first | rintro _ _ ⟨rfl, rfl⟩ | rintro _ _ ⟨_, rfl, rfl⟩ | rintro _ _ ⟨_, _, ⟨_, _⟩, rfl, rfl⟩); try refine ⟨sConv, ?_⟩) | refine Dr.two ?_ ?_)
  exact ret1 rfl sRet sConv (⟨_, _, _, _, rfl, h1, rfl⟩)
end
end Go.Proofs.Ytbnfpmdieiknmaa.Sep
