/- the document's disk: types, a write; by parts of memory. -/
import Derived.Test.YtkhmplaocfjpjaaWalC
namespace Go.Proofs.Ytkhmplaocfjpjaa.Sep
open Go.RowKit Go.Proofs.Ytkhmplaocfjpjaa.Reg
open Go.Proofs.Ytkhmplaocfjpjaa.Mem hiding Rd Own
set_option maxRecDepth 100000
theorem rdisk_rec : Rec Try.prog 157 [.slice none 0 0, .int .i64 0, .bool false, .int .i64 0] [(0, 1), (1, 1), (2, 1), (3, 1)] := ⟨by kernel_rfl, by kernel_rfl⟩
theorem rlog_rec : Rec Try.prog 159 [.pointer none, .int .i64 0, .int .i64 0, .slice none 0 0, .int .i64 0, .slice none 0 0] [(0, 1), (1, 1), (2, 1), (3, 1), (4, 1), (5, 1)] := ⟨by kernel_rfl, by kernel_rfl⟩
theorem op12_rec : Rec Try.prog 118 [.int .i64 0, .int .i64 0, .slice none 0 0] [(0, 1), (1, 1), (2, 1)] := ⟨by kernel_rfl, by kernel_rfl⟩
/-- a call of the script -/
structure Op12 where
  kind : Int
  n : Int
  A : Option Addr
  k : Nat
  c : Nat
  b : List UInt8
abbrev Op12.cs (x : Op12) : List Value := [.int .i64 x.kind, .int .i64 x.n, .slice x.A x.k x.c]
def op12T : Ty Op12 where
  val x := .agg x.cs.toArray
  size := 3
  bytes := 40
  tid := 118
  zero := .agg #[.int .i64 0, .int .i64 0, .slice none 0 0]
  hlen _ := rfl
  hone a u h := by simp [Value.cells] at h; rcases h with rfl | rfl | rfl <;> rfl
  hpos := by decide
  hzero := rfl
  hinfo := by kernel_rfl
  hagg := .inl ⟨by kernel_rfl, fun _ => ⟨_, rfl⟩⟩
-- types: octT slT op12T
-- recs: rec_Disk plate_rec log_rec rdisk_rec rlog_rec op12_rec
set_option maxRecDepth 100000
set_option maxHeartbeats 6000000
theorem sYRf12 {P : Program} {E : Env} {H : List Asn} {ρ : Operand → Value} {o : Oper} {v : Value} (h : Yld P E H ρ o v := by first | (intro _ _; first | (first | (apply V.move; (· exact rfl); (· exact sLk)) | (apply V.assign; (· exact rfl); (· exact sLk)) | (apply V.nilCheck; (· exact rfl); (· exact rfl)) | (apply V.fieldAddr; (· exact rfl); (· exact rfl); (· exact rfl); (· exact rfl); (· exact rfl); (· decide); (· exact sLk); (· exact sAdd)) | (apply V.extract; (· exact rfl); (· exact rfl); (· exact rfl)) | (apply V.not; (· exact rfl); (· exact rfl)) | (apply V.pickT; (· exact rfl); (· exact rfl); (· exact sTst); (· exact sLk)) | (apply V.pickF; (· exact rfl); (· exact rfl); (· exact sTst); (· exact sLk))) | (first | (apply V.add; (· exact rfl); (· exact rfl); (· exact rfl); (· exact sNum)) | (apply V.sub; (· exact rfl); (· exact rfl); (· exact rfl); (· exact sNum)) | (apply V.mul; (· exact rfl); (· exact rfl); (· exact rfl); (· exact sNum)) | (apply V.lss; (· exact rfl); (· exact rfl); (· exact rfl)) | (apply V.leq; (· exact rfl); (· exact rfl); (· exact rfl)) | (apply V.gtr; (· exact rfl); (· exact rfl); (· exact rfl)) | (apply V.geq; (· exact rfl); (· exact rfl); (· exact rfl)) | (apply V.eql; (· exact rfl); (· exact rfl); (· exact rfl))) | (first | (apply V.neq; (· exact rfl); (· exact rfl); (· exact rfl)) | (apply V.neqP; (· exact rfl); (· exact rfl); (· exact rfl); (· exact rfl)) | (apply V.eqlP; (· exact rfl); (· exact rfl); (· exact rfl); (· exact rfl)) | (apply V.eqlN; (· exact rfl); (· exact rfl); (· exact rfl); (· exact rfl)) | (apply V.neqN; (· exact rfl); (· exact rfl); (· exact rfl); (· exact rfl)) | (apply V.len; (· exact rfl); (· exact rfl); (· exact rfl); (· exact sMax)) | (apply V.conv; (· exact rfl); (· exact rfl); (· exact rfl); (· exact rfl); (· exact sNum)) | (apply V.shl8; (· exact rfl); (· exact rfl); (· exact rfl); (· exact sNum))) | (first | (apply V.shl; (· exact rfl); (· exact rfl); (· exact rfl); (· exact sOm); (· exact sNum)) | (apply V.shr; (· exact rfl); (· exact rfl); (· exact rfl); (· exact sOm); (· exact sNum)) | (apply V.quo; (· exact rfl); (· exact rfl); (· exact rfl); (· exact sOm); (· exact sQuo)) | (apply V.rem; (· exact rfl); (· exact rfl); (· exact rfl); (· exact sOm); (· exact sRem)) | (apply V.bits_; (· exact rfl); (· decide); (· exact rfl); (· exact rfl); (· exact sNum)) | (apply V.neg; (· exact rfl); (· exact rfl); (· exact sNum)) | (apply V.eqlS; (· exact rfl); (· exact rfl); (· exact rfl)) | (apply V.neqS; (· exact rfl); (· exact rfl); (· exact rfl))) | (first | (apply V.eqlB; (· exact rfl); (· exact rfl); (· exact rfl); (· exact rfl)) | (apply V.neqB; (· exact rfl); (· exact rfl); (· exact rfl); (· exact rfl)) | (apply V.max; (· exact rfl); (· exact rfl); (· exact rfl)) | (apply V.min; (· exact rfl); (· exact rfl); (· exact rfl)))) | (first | (first | (apply Y.load; (· exact rfl); (· exact rfl); (· exact rfl); (· exact rfl); (· exact sCell)) | (apply Y.indexAddr; (· exact rfl); (· exact rfl); (· exact rfl); (· exact sRdH); (· exact sJ); (· exact sOm); (· exact sAsm); (· exact sRfl); (· exact sRfl)) | (apply Y.loadElem; (· exact rfl); (· exact rfl); (· exact sRdH); rotate_left; (· exact sRfl); rotate_right; (· exact sAsm); (· exact sRfl)) | (apply Y.sliceArr; (· exact rfl); (· exact rfl); (· exact rfl); (· exact rfl)) | (apply Y.loadBlk; (· exact rfl); (· exact rfl); (· exact rfl); (· exact rfl); (· exact rfl); (· exact rfl); (· exact sHas); (· exact sSeg)) | (apply Y.loadPart; (· exact rfl); (· exact rfl); (· exact sRdH); rotate_left; (· exact sRfl); rotate_right; (· exact sAsm); (· exact rfl); (· exact rfl); (· exact rfl); (· exact rfl); (· exact sSeg)) | (apply Y.fieldL; (· exact rfl); (· exact rfl); (· exact rfl); (· exact rfl); (· exact rfl); (· exact rfl); (· exact rfl)) | (apply Y.fieldS; (· exact rfl); (· exact rfl); (· exact rfl); (· exact rfl); (· exact rfl); (· exact rfl); (· exact rfl); (· exact rfl); (· exact rfl); (· exact sSeg))) | (first | (apply Y.len; (· exact rfl); (· exact rfl); (· exact sRdH); (· exact sRfl)) | (apply Y.str; (· exact rfl); (· exact rfl); (· exact sRdH)) | (apply Y.sliceLo; (· exact rfl); (· exact rfl); (· exact rfl); (· exact sRdH); (· exact sJ); (· exact sOm); (· exact sOm); (· exact sRfl)) | (apply Y.sliceHi; (· exact rfl); (· exact rfl); (· exact rfl); (· exact sRdH); (· exact sJ); (· exact sOm); (· exact sOm); (· exact sRfl)) | (apply Y.sliceHiMax; (· exact rfl); (· exact rfl); (· exact rfl); (· exact rfl); (· exact sRdH); (· exact sJ); (· exact sOm); (· exact sJ); (· exact sOm); (· exact sOm); (· exact sOm); (· exact sRfl)) | (apply Y.sliceLoHi; (· exact rfl); (· exact rfl); (· exact rfl); (· exact rfl); (· exact sRdH); (· exact sJ); (· exact sOm); (· exact sJ); (· exact sOm); (· exact sOm); (· exact sOm); (· exact sRfl)) | (apply Y.strLen; (· exact rfl); (· exact rfl); (· exact rfl); (· exact sMax)) | (apply Y.indexStr; (· exact rfl); (· exact rfl); (· exact rfl); (· exact rfl); (· exact sJ); (· exact sOm); (· exact sAsm))) | (first | (apply Y.build; (· exact rfl); (· exact sPv); (· exact rec_Disk); (· exact sFil)) | (apply Y.build; (· exact rfl); (· exact sPv); (· exact plate_rec); (· exact sFil)) | (apply Y.build; (· exact rfl); (· exact sPv); (· exact log_rec); (· exact sFil)) | (apply Y.build; (· exact rfl); (· exact sPv); (· exact rdisk_rec); (· exact sFil)) | (apply Y.build; (· exact rfl); (· exact sPv); (· exact rlog_rec); (· exact sFil)) | (apply Y.build; (· exact rfl); (· exact sPv); (· exact op12_rec); (· exact sFil))))) : Yld P E H ρ o v := h
theorem sSRf12 {P : Program} {N : Nat} {E : Env} {F : Nat → Value} {H : List Asn} {o : Oper} {K : Value → List Asn → Prop} (h : Stp P N E F H o K := by first | (first | (apply S.boxK; (· exact rfl); (· exact sLk); (· exact sCel)) | (apply S.append1K; (· exact rfl); (· exact rfl); (· exact rfl); (· exact rfl); (· exact sNN); (· exact (fun _ _ => sRepl)); (· exact sNL); (· exact sRfl); (· first | (conv => lhs; simp only [octT, slT, op12T]) | rfl); (· exact sOm); (· exact sOm)) | (apply S.appendK; (· exact rfl); (· exact rfl); (· exact rfl); (· exact sNN); (· exact (fun _ _ => sRepl)); (· exact sRdH); (· exact sNL); (· exact sRfl); (· first | (conv => lhs; simp only [octT, slT, op12T]) | rfl); (· exact sOm); (· exact sOm)) | (apply S.appendNilK; (· exact rfl); (· exact rfl); (· exact rfl); (· exact sRdH); (· exact sRfl); (· first | (conv => lhs; simp only [octT, slT, op12T]) | rfl); (· exact sOm); (· exact sOm)) | (apply (S.buildSliceK (T := octT) (l := [])); (· exact rfl); (· exact rfl); (· exact rfl); (· exact rfl); (· decide)) | (apply (S.buildSlice1K (T := octT)); (· exact rfl); (· exact sLk); (· first | rfl | (with_reducible exact octT_val _ sOm sOm)); (· exact rfl); (· decide)) | (apply (S.buildSliceK (T := slT) (l := [])); (· exact rfl); (· exact rfl); (· exact rfl); (· exact rfl); (· decide)) | (apply (S.buildSlice1K (T := slT)); (· exact rfl); (· exact sLk); (· first | rfl | (with_reducible exact slT_val _ sOm sOm)); (· exact rfl); (· decide))) | (first | (apply (S.buildSliceK (T := op12T) (l := [])); (· exact rfl); (· exact rfl); (· exact rfl); (· exact rfl); (· decide)) | (apply (S.buildSlice1K (T := op12T)); (· exact rfl); (· exact sLk); (· first | rfl | (with_reducible exact op12T_val _ sOm sOm)); (· exact rfl); (· decide)) | (apply (S.storeEK (T := octT)); (· exact rfl); (· exact rfl); (· exact sLk); (· exact sRepl); rotate_left; (· exact sRfl); rotate_right; (· exact sAsm); (· first | rfl | (with_reducible exact octT_val _ sOm sOm)); (· exact sRfl)) | (apply (S.storeEK (T := slT)); (· exact rfl); (· exact rfl); (· exact sLk); (· exact sRepl); rotate_left; (· exact sRfl); rotate_right; (· exact sAsm); (· first | rfl | (with_reducible exact slT_val _ sOm sOm)); (· exact sRfl)) | (apply (S.storeEK (T := op12T)); (· exact rfl); (· exact rfl); (· exact sLk); (· exact sRepl); rotate_left; (· exact sRfl); rotate_right; (· exact sAsm); (· first | rfl | (with_reducible exact op12T_val _ sOm sOm)); (· exact sRfl)) | (apply S.allocK; (· exact rfl); (· exact rec_Disk.zero)) | (apply S.allocK; (· exact rfl); (· exact plate_rec.zero)) | (apply S.allocK; (· exact rfl); (· exact log_rec.zero))) | (first | (apply S.allocK; (· exact rfl); (· exact rdisk_rec.zero)) | (apply S.allocK; (· exact rfl); (· exact rlog_rec.zero)) | (apply S.allocK; (· exact rfl); (· exact op12_rec.zero)) | (apply (S.makeSliceK (T := octT) (z := octT_z)); (· exact rfl); (· exact rfl); (· exact rfl); (· exact sJ); (· exact sOm); (· exact rfl); (· exact rfl); (· first | (conv => lhs; simp only [octT, slT, op12T]) | rfl); (· exact sOm); (· exact sOm)) | (apply (S.makeSliceK (T := slT) (z := slT_z)); (· exact rfl); (· exact rfl); (· exact rfl); (· exact sJ); (· exact sOm); (· exact rfl); (· exact rfl); (· first | (conv => lhs; simp only [octT, slT, op12T]) | rfl); (· exact sOm); (· exact sOm)) | (apply (S.makeSliceK (T := op12T) (z := op12T_z)); (· exact rfl); (· exact rfl); (· exact rfl); (· exact sJ); (· exact sOm); (· exact rfl); (· exact rfl); (· first | (conv => lhs; simp only [octT, slT, op12T]) | rfl); (· exact sOm); (· exact sOm)) | (apply S.storeAggK; (· exact rfl); (· exact rfl); (· exact sLk); (· exact rfl); (· exact rfl); (· exact rfl); (· exact sRepl); (· exact sPut)) | (apply S.copyInK; (· exact rfl); (· exact rfl); (· exact rfl); (· exact sAsm); (· exact sRepl); (· exact sRdH); rotate_left; (· exact rfl); rotate_right; (· exact sAsm); (· exact sOm); (· exact sAsm); (· exact rfl); (· exact sMax))) | (first | (apply S.store1K; (· exact rfl); (· exact rfl); (· exact sLk); (· exact sRfl); (· exact rfl); (· exact rfl); (· exact sRepl); (· exact sLn); (· exact sSetL)))) : Stp P N E F H o K := h
theorem wRf12 {p q : Prop} (hq : q) (h : Box q → p := by intro h; (first | (focus (apply L.val; (· decide); (· exact sYRf12))) | refine C.seq ?_ | refine C.region ?_ | refine L.nil ?_ | refine C.block ?_ | refine C.exit ?_ | refine C.skip ?_ | refine C.ret ?_ | (focus (apply L.on; (· exact rfl); (· decide); (· exact rfl); (· exact sTst))) | (focus (apply L.off; (· decide); (· exact rfl); (· decide); (· exact rfl); (· exact sTst))) | (focus (apply L.offU; (· decide); (· exact rfl); (· decide); (· exact rfl))) | (focus (apply C.condT; (· exact rfl); (· exact sTst))) | (focus (apply C.condF; (· exact rfl); (· exact sTst))) | refine Dr.done ?_ | refine DrA.done ?_ | (focus (apply DrA.take; (· exact rfl); (· decide); (· exact sGon); (· exact sYRf12))) | (focus (apply Dr.take; (· exact rfl); (· decide); (· exact sGon); (· exact sYRf12))) | (focus (apply Dr.skip; (· exact rfl); (· decide); (· exact sGoff))) | (focus (apply Dr.goSkip; (· exact rfl); (· decide); (· exact sGoff))) | with_reducible refine T.n ?_ | with_reducible refine T.ret ?_ | with_reducible refine T.exit ?_ | with_reducible refine I.n ?_ | with_reducible refine I.ret ?_ | with_reducible refine I.hit ?_ | with_reducible refine I.miss (by decide) ?_); (repeat (first | (focus (apply L.val; (· decide); (· exact sYRf12))) | refine C.seq ?_ | refine C.region ?_ | refine L.nil ?_ | refine C.block ?_ | refine C.exit ?_ | refine C.skip ?_ | refine C.ret ?_ | (focus (apply L.on; (· exact rfl); (· decide); (· exact rfl); (· exact sTst))) | (focus (apply L.off; (· decide); (· exact rfl); (· decide); (· exact rfl); (· exact sTst))) | (focus (apply L.offU; (· decide); (· exact rfl); (· decide); (· exact rfl))) | (focus (apply C.condT; (· exact rfl); (· exact sTst))) | (focus (apply C.condF; (· exact rfl); (· exact sTst))) | refine Dr.done ?_ | refine DrA.done ?_ | (focus (apply DrA.take; (· exact rfl); (· decide); (· exact sGon); (· exact sYRf12))) | (focus (apply Dr.take; (· exact rfl); (· decide); (· exact sGon); (· exact sYRf12))) | (focus (apply Dr.skip; (· exact rfl); (· decide); (· exact sGoff))) | (focus (apply Dr.goSkip; (· exact rfl); (· decide); (· exact sGoff))) | with_reducible refine T.n ?_ | with_reducible refine T.ret ?_ | with_reducible refine T.exit ?_ | with_reducible refine I.n ?_ | with_reducible refine I.ret ?_ | with_reducible refine I.hit ?_ | with_reducible refine I.miss (by decide) ?_)); exact h.out) : p := h ⟨hq⟩
theorem vRf12 {p q : Prop} (hq : q) (h : Box q → p := by intro h; (first | (focus (apply L.val; (· decide); (· exact sYRf12))) | refine C.seq ?_ | refine C.region ?_ | refine L.nil ?_ | refine C.block ?_ | refine C.exit ?_ | refine C.skip ?_ | refine C.ret ?_ | (focus (apply L.on; (· exact rfl); (· decide); (· exact rfl); (· exact sTst))) | (focus (apply L.off; (· decide); (· exact rfl); (· decide); (· exact rfl); (· exact sTst))) | (focus (apply L.offU; (· decide); (· exact rfl); (· decide); (· exact rfl))) | (focus (apply C.condT; (· exact rfl); (· exact sTst))) | (focus (apply C.condF; (· exact rfl); (· exact sTst))) | refine Dr.done ?_ | refine DrA.done ?_ | (focus (apply DrA.take; (· exact rfl); (· decide); (· exact sGon); (· exact sYRf12))) | (focus (apply Dr.take; (· exact rfl); (· decide); (· exact sGon); (· exact sYRf12))) | (focus (apply Dr.skip; (· exact rfl); (· decide); (· exact sGoff))) | (focus (apply Dr.goSkip; (· exact rfl); (· decide); (· exact sGoff))) | with_reducible refine T.n ?_ | with_reducible refine T.ret ?_ | with_reducible refine T.exit ?_ | with_reducible refine I.n ?_ | with_reducible refine I.ret ?_ | with_reducible refine I.hit ?_ | with_reducible refine I.miss (by decide) ?_); exact h.out) : p := h ⟨hq⟩
theorem kRf12 {p q : Prop} (hq : q) (h : Box q → p := by intro h; first | (apply L.stepK; (· decide); (· exact sSRf12); exact h.out) | (apply L.step0K; (· exact sSRf12); exact h.out) | (apply Dr.goZ; (· exact rfl); (· rintro k ⟨⟩ <;> decide); (· exact sGon); (· exact sSRf12); exact h.out) | (apply Dr.goZs; (· exact rfl); (· rintro k ⟨⟩ <;> decide); (· exact sGon); (· exact sSRf12); exact h.out) | (apply Go1.goK; (· exact rfl); (· rintro k ⟨⟩ <;> decide); (· exact sGon); (· exact sSRf12); exact h.out) | (apply Dr.goK; (· exact rfl); (· rintro k ⟨⟩ <;> decide); (· exact sGon); (· exact sSRf12); exact h.out)) : p := h ⟨hq⟩
theorem sp_step {D b : List UInt8} {o j : Nat} {x : UInt8} (hD : o + b.length ≤ D.length) (hx : b[j]? = some x) : (sp D o (b.take j)).set (o + j) x = sp D o (b.take (j + 1)) := by
  have hj := (List.getElem?_eq_some_iff.1 hx).1
  have l1 : (b.take j).length = j := by rw [List.length_take]; omega
  have l2 : (b.take (j + 1)).length = j + 1 := by rw [List.length_take]; omega
  apply List.ext_getElem?
  intro p
  rw [List.getElem?_set, sp_get (by rw [l1]; omega), sp_get (by rw [l2]; omega), sp_length (by rw [l1]; omega), l1, l2]
  by_cases hp : o + j = p
  · subst hp
    rw [if_pos rfl, if_pos (by omega), if_neg (by omega), if_pos (by omega), take_get, if_pos (by omega), show o + j - o = j by omega, hx]
  · rw [if_neg hp]
    by_cases p1 : p < o
    · rw [if_pos p1, if_pos p1]
    · rw [if_neg p1, if_neg p1]
      by_cases p2 : p < o + j
      · rw [if_pos p2, if_pos (by omega), take_get, take_get, if_pos (by omega), if_pos (by omega)]
      · rw [if_neg p2, if_neg (by omega)]
abbrev rdk (e : Nat) (B : Option Addr) (k bc : Nat) (F : Int) (dead : Bool) (wr : Int) : Asn := blk e 157 [.slice B k bc, .int .i64 F, .bool dead, .int .i64 wr]
section
variable (E : Env) (e : Nat) (B : Option Addr) (k bc : Nat) (F wr : Int) (D : List UInt8)
theorem rwrite (X : Option Addr) (cx : Nat) (b : List UInt8) (i : Nat) (hb : b.length = 32) (hr : Rd E octT X 32 cx b) (hk : k = D.length) (hk2 : k ≤ 10000) (hi : 32 * i + 32 ≤ k) (ha : -1 ≤ F) (ha2 : F ≤ 9223372036854775807) (hw : 0 ≤ wr) (hw2 : wr ≤ 1000000) :
    Tri Try.prog E 127 #[.pointer (some ⟨e, 0, none⟩), .int .i64 (i : Int), .slice X 32 cx] [rdk e B k bc F false wr, own octT B k bc D] fun r H' => r = .returned (.bool (!wdead F)) ∧ H' = [rdk e B k bc (warmed F) (wdead F) (wr + (wk F : Nat)), own octT B k bc (sp D (32 * i) (b.take (wk F)))] := by
  have hmax : maxLen = 9223372036854775807 := rfl
  have hcx := hr.cap
  have hwk := wk_le F
  have e1 : IntKind.i64.wrap (32 * (i : Int)) = ((32 * i : Nat) : Int) := by rw [IntWalk.i64_in _ (by omega)]; omega
  refine tri Try.func127 rfl Try.ntmps127 (by simp) ?_
  repeat ((fail_if_success (refine C.seq (x := Code.region 4 _ _) ?_)); first | refine vRf12 ?_ | (refine kRf12 ?_; (first | rintro _ _ ⟨rfl, rfl⟩ | rintro _ _ ⟨_, rfl, rfl⟩ | rintro _ _ ⟨_, _, ⟨_, _⟩, rfl, rfl⟩); try refine ⟨sConv, ?_⟩) | refine Dr.two ?_ ?_)
  refine C.mid (X := Unit) (fun _ => [(0, .pointer (some ⟨e, 0, none⟩)), (1, .int .i64 (i : Int)), (2, .slice X 32 cx), (7, .int .i64 ((wk F : Nat) : Int))]) (fun _ => [rdk e B k bc F (wdead F) wr, own octT B k bc D]) (fun _ => True) ?_ ?_
  · by_cases h1 : 0 ≤ F ∧ F < 32
    · have hwd : wdead F = true := decide_eq_true h1
      have hwf : ((wk F : Nat) : Int) = F := by unfold wk; rw [if_pos h1]; omega
      rw [hwd, hwf]
      obtain ⟨h1a, h1b⟩ := h1
      repeat (first | refine wRf12 ?_ | (refine kRf12 ?_; (first | rintro _ _ ⟨rfl, rfl⟩ | rintro _ _ ⟨_, rfl, rfl⟩ | rintro _ _ ⟨_, _, ⟨_, _⟩, rfl, rfl⟩); try refine ⟨sConv, ?_⟩) | refine Dr.two ?_ ?_)
      exact ⟨(), sHolds, sConv, trivial⟩
    · have hwd : wdead F = false := decide_eq_false h1
      have hwf : ((wk F : Nat) : Int) = 32 := by unfold wk; rw [if_neg h1]; rfl
      rw [hwd, hwf]
      by_cases h2 : 0 ≤ F
      · have h3 : ¬ F < 32 := fun h => h1 ⟨h2, h⟩
        repeat (first | refine wRf12 ?_ | (refine kRf12 ?_; (first | rintro _ _ ⟨rfl, rfl⟩ | rintro _ _ ⟨_, rfl, rfl⟩ | rintro _ _ ⟨_, _, ⟨_, _⟩, rfl, rfl⟩); try refine ⟨sConv, ?_⟩) | refine Dr.two ?_ ?_)
        exact ⟨(), sHolds, sConv, trivial⟩
      · repeat (first | refine wRf12 ?_ | (refine kRf12 ?_; (first | rintro _ _ ⟨rfl, rfl⟩ | rintro _ _ ⟨_, rfl, rfl⟩ | rintro _ _ ⟨_, _, ⟨_, _⟩, rfl, rfl⟩); try refine ⟨sConv, ?_⟩) | refine Dr.two ?_ ?_)
        exact ⟨(), sHolds, sConv, trivial⟩
  rintro - G0 -
  repeat ((fail_if_success (refine C.seq (x := Code.region 7 _ _) ?_)); first | refine vRf12 ?_ | (refine kRf12 ?_; (first | rintro _ _ ⟨rfl, rfl⟩ | rintro _ _ ⟨_, rfl, rfl⟩ | rintro _ _ ⟨_, _, ⟨_, _⟩, rfl, rfl⟩); try refine ⟨sConv, ?_⟩) | refine Dr.two ?_ ?_)
  refine C.mid (X := Unit) (fun _ => [(0, .pointer (some ⟨e, 0, none⟩)), (7, .int .i64 ((wk F : Nat) : Int))]) (fun _ => [rdk e B k bc F (wdead F) wr, own octT B k bc (sp D (32 * i) (b.take (wk F)))]) (fun _ => True) ?_ ?_
  · repeat (first | refine wRf12 ?_ | (refine kRf12 ?_; (first | rintro _ _ ⟨rfl, rfl⟩ | rintro _ _ ⟨_, rfl, rfl⟩ | rintro _ _ ⟨_, _, ⟨_, _⟩, rfl, rfl⟩); try refine ⟨sConv, ?_⟩) | refine Dr.two ?_ ?_)
    refine C.loop (X := Nat) (fun j => [(0, .pointer (some ⟨e, 0, none⟩)), (1, .int .i64 (i : Int)), (2, .slice X 32 cx), (7, .int .i64 ((wk F : Nat) : Int)), (8, .int .i64 j)]) (fun j => [rdk e B k bc F (wdead F) wr, own octT B k bc (sp D (32 * i) (b.take j))]) (fun j => j ≤ wk F) (fun j => wk F - j) 0 sHolds (by rw [List.take_zero, sp_nil]; exact sConv) (Nat.zero_le _) ?_
    rintro j G hj
    by_cases hlt : j < wk F
    · obtain ⟨x, hx⟩ : ∃ x, b[j]? = some x := ⟨_, List.getElem?_eq_getElem (by omega)⟩
      have hst := sp_step (D := D) (b := b) (o := 32 * i) (j := j) (x := x) (by omega) hx
      have e2 : IntKind.i64.wrap (((32 * i : Nat) : Int) + (j : Int)) = ((32 * i + j : Nat) : Int) := by rw [IntWalk.i64_in _ (by omega)]; omega
      have hspl : (sp D (32 * i) (b.take j)).length = k := by rw [sp_length (by rw [List.length_take]; omega)]; exact hk.symm
      obtain ⟨y, hy⟩ : ∃ y, (sp D (32 * i) (b.take j))[32 * i + j]? = some y := ⟨_, List.getElem?_eq_getElem (by omega)⟩
      repeat (first | refine wRf12 ?_ | (refine kRf12 ?_; (first | rintro _ _ ⟨rfl, rfl⟩ | rintro _ _ ⟨_, rfl, rfl⟩ | rintro _ _ ⟨_, _, ⟨_, _⟩, rfl, rfl⟩); try refine ⟨sConv, ?_⟩) | refine Dr.two ?_ ?_)
      refine C.regionA 13 (.one 0 false (.one 1 false (.one 2 false (.one 3 false (.one 4 false (.one 5 false (.one 6 false (.one 7 false (.one 8 false (.one 9 false (.one 10 false (.one 11 false (.one 12 false (.one 13 true .nil)))))))))))))) _ (by kernel_rfl) (by kernel_rfl) Conv.refl ?_
      repeat (first | refine wRf12 ?_ | (refine kRf12 ?_; (first | rintro _ _ ⟨rfl, rfl⟩ | rintro _ _ ⟨_, rfl, rfl⟩ | rintro _ _ ⟨_, _, ⟨_, _⟩, rfl, rfl⟩); try refine ⟨sConv, ?_⟩) | refine Dr.two ?_ ?_)
      exact ⟨j + 1, sHolds, by rw [← hst]; exact sConv, by omega, by omega⟩
    · obtain rfl : j = wk F := by omega
      repeat (first | refine wRf12 ?_ | (refine kRf12 ?_; (first | rintro _ _ ⟨rfl, rfl⟩ | rintro _ _ ⟨_, rfl, rfl⟩ | rintro _ _ ⟨_, _, ⟨_, _⟩, rfl, rfl⟩); try refine ⟨sConv, ?_⟩) | refine Dr.two ?_ ?_)
      exact ⟨(), sHolds, sConv, trivial⟩
  rintro - G -
  have e4 : IntKind.i64.wrap (wr + ((wk F : Nat) : Int)) = wr + ((wk F : Nat) : Int) := IntWalk.i64_in _ (by omega)
  cases hwd : wdead F
  · unfold wdead at hwd
    have hwd := of_decide_eq_false hwd
    by_cases h2 : 0 ≤ F
    · have hwm : warmed F = F - ((wk F : Nat) : Int) := by unfold warmed wk; rw [if_neg hwd, if_neg hwd, if_neg (by omega)]; rfl
      have e5 : IntKind.i64.wrap (F - ((wk F : Nat) : Int)) = F - ((wk F : Nat) : Int) := IntWalk.i64_in _ (by omega)
      rw [hwm]
      repeat (first | refine wRf12 ?_ | (refine kRf12 ?_; (first | rintro _ _ ⟨rfl, rfl⟩ | rintro _ _ ⟨_, rfl, rfl⟩ | rintro _ _ ⟨_, _, ⟨_, _⟩, rfl, rfl⟩); try refine ⟨sConv, ?_⟩) | refine Dr.two ?_ ?_)
      exact ret1 rfl sRet sConv (⟨rfl, rfl⟩)
    · have hwm : warmed F = F := by unfold warmed; rw [if_neg hwd, if_pos (by omega)]; omega
      rw [hwm]
      repeat (first | refine wRf12 ?_ | (refine kRf12 ?_; (first | rintro _ _ ⟨rfl, rfl⟩ | rintro _ _ ⟨_, rfl, rfl⟩ | rintro _ _ ⟨_, _, ⟨_, _⟩, rfl, rfl⟩); try refine ⟨sConv, ?_⟩) | refine Dr.two ?_ ?_)
      exact ret1 rfl sRet sConv (⟨rfl, rfl⟩)
  · unfold wdead at hwd
    have hwd := of_decide_eq_true hwd
    have hwm : warmed F = -1 := by unfold warmed; rw [if_pos hwd]
    rw [hwm]
    repeat (first | refine wRf12 ?_ | (refine kRf12 ?_; (first | rintro _ _ ⟨rfl, rfl⟩ | rintro _ _ ⟨_, rfl, rfl⟩ | rintro _ _ ⟨_, _, ⟨_, _⟩, rfl, rfl⟩); try refine ⟨sConv, ?_⟩) | refine Dr.two ?_ ?_)
    exact ret1 rfl sRet sConv (⟨rfl, rfl⟩)
end
end Go.Proofs.Ytkhmplaocfjpjaa.Sep
