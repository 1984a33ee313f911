/- disk, by parts of memory: each function's law. -/
import Derived.Test.YtkhmplaocfjpjaaTyp
namespace Go.Proofs.Ytkhmplaocfjpjaa.Sep
open Go.RowKit Go.Proofs.Ytkhmplaocfjpjaa.Reg
open Go.Proofs.Ytkhmplaocfjpjaa.Mem hiding Rd Own
set_option maxRecDepth 100000

/-- a sector -/
abbrev Sec := { l : List UInt8 // l.length = 32 }
def secT : Ty Sec where
  val s := .agg (s.1.map fun b => Value.int .u8 (b.toNat : Int)).toArray
  size := 32
  bytes := 32
  tid := 153
  zero := .agg (List.replicate 32 (Value.int .u8 0)).toArray
  hlen s := by simp [Value.cells, s.2]
  hone s u h := by
    simp only [Value.cells, List.mem_map] at h
    obtain ⟨b, _, rfl⟩ := h
    rfl
  hpos := by decide
  hzero := by simp [Value.cells]
  hinfo := by kernel_rfl
  hagg := .inl ⟨by kernel_rfl, fun _ => ⟨_, rfl⟩⟩
def secT_z : Sec := ⟨List.replicate 32 0, by simp⟩
theorem sec_arr : Arr secT octT 32 (·.1) := fun s => ⟨by
  show (s.1.map fun b => Value.int .u8 (b.toNat : Int)) = s.1.flatMap fun b => [Value.int .u8 (b.toNat : Int)]
  induction s.1 with
  | nil => rfl
  | cons b l ih => simp [ih], s.2⟩
theorem rec_Disk : Rec Try.prog 143 [.bool false, .bool false, .int .i64 0, .int .i64 0, .slice none 0 0] [(0, 1), (1, 1), (2, 1), (3, 1), (4, 1)] := ⟨by kernel_rfl, by kernel_rfl⟩
-- types: octT secT
-- recs: rec_Disk
set_option maxRecDepth 100000
set_option maxHeartbeats 8000000
theorem sYDsk {P : Program} {E : Env} {H : List Asn} {ρ : Operand → Value} {o : Oper} {v : Value} (h : Yld P E H ρ o v := by first | (intro _ _; first | (first | (apply V.move; (· exact rfl); (· exact sLk)) | (apply V.assign; (· exact rfl); (· exact sLk)) | (apply V.nilCheck; (· exact rfl); (· exact rfl)) | (apply V.fieldAddr; (· exact rfl); (· exact rfl); (· exact rfl); (· exact rfl); (· exact rfl); (· decide); (· exact sLk); (· exact sAdd)) | (apply V.extract; (· exact rfl); (· exact rfl); (· exact rfl)) | (apply V.not; (· exact rfl); (· exact rfl)) | (apply V.pickT; (· exact rfl); (· exact rfl); (· exact sTst); (· exact sLk)) | (apply V.pickF; (· exact rfl); (· exact rfl); (· exact sTst); (· exact sLk))) | (first | (apply V.add; (· exact rfl); (· exact rfl); (· exact rfl); (· exact sNum)) | (apply V.sub; (· exact rfl); (· exact rfl); (· exact rfl); (· exact sNum)) | (apply V.mul; (· exact rfl); (· exact rfl); (· exact rfl); (· exact sNum)) | (apply V.lss; (· exact rfl); (· exact rfl); (· exact rfl)) | (apply V.leq; (· exact rfl); (· exact rfl); (· exact rfl)) | (apply V.gtr; (· exact rfl); (· exact rfl); (· exact rfl)) | (apply V.geq; (· exact rfl); (· exact rfl); (· exact rfl)) | (apply V.eql; (· exact rfl); (· exact rfl); (· exact rfl))) | (first | (apply V.neq; (· exact rfl); (· exact rfl); (· exact rfl)) | (apply V.neqP; (· exact rfl); (· exact rfl); (· exact rfl); (· exact rfl)) | (apply V.eqlP; (· exact rfl); (· exact rfl); (· exact rfl); (· exact rfl)) | (apply V.eqlN; (· exact rfl); (· exact rfl); (· exact rfl); (· exact rfl)) | (apply V.neqN; (· exact rfl); (· exact rfl); (· exact rfl); (· exact rfl)) | (apply V.len; (· exact rfl); (· exact rfl); (· exact rfl); (· exact sMax)) | (apply V.conv; (· exact rfl); (· exact rfl); (· exact rfl); (· exact rfl); (· exact sNum)) | (apply V.shl8; (· exact rfl); (· exact rfl); (· exact rfl); (· exact sNum))) | (first | (apply V.shl; (· exact rfl); (· exact rfl); (· exact rfl); (· exact sOm); (· exact sNum)) | (apply V.shr; (· exact rfl); (· exact rfl); (· exact rfl); (· exact sOm); (· exact sNum)) | (apply V.quo; (· exact rfl); (· exact rfl); (· exact rfl); (· exact sOm); (· exact sQuo)) | (apply V.rem; (· exact rfl); (· exact rfl); (· exact rfl); (· exact sOm); (· exact sRem)) | (apply V.bits_; (· exact rfl); (· decide); (· exact rfl); (· exact rfl); (· exact sNum)) | (apply V.neg; (· exact rfl); (· exact rfl); (· exact sNum)) | (apply V.eqlS; (· exact rfl); (· exact rfl); (· exact rfl)) | (apply V.neqS; (· exact rfl); (· exact rfl); (· exact rfl))) | (first | (apply V.eqlB; (· exact rfl); (· exact rfl); (· exact rfl); (· exact rfl)) | (apply V.neqB; (· exact rfl); (· exact rfl); (· exact rfl); (· exact rfl)) | (apply V.max; (· exact rfl); (· exact rfl); (· exact rfl)) | (apply V.min; (· exact rfl); (· exact rfl); (· exact rfl)))) | (first | (first | (apply Y.load; (· exact rfl); (· exact rfl); (· exact rfl); (· exact rfl); (· exact sCell)) | (apply Y.indexAddr; (· exact rfl); (· exact rfl); (· exact rfl); (· exact sRdH); (· exact sJ); (· exact sOm); (· exact sAsm); (· exact sRfl); (· exact sRfl)) | (apply Y.loadElem; (· exact rfl); (· exact rfl); (· exact sRdH); rotate_left; (· exact sRfl); rotate_right; (· exact sAsm); (· exact sRfl)) | (apply Y.sliceArr; (· exact rfl); (· exact rfl); (· exact rfl); (· exact rfl)) | (apply Y.loadBlk; (· exact rfl); (· exact rfl); (· exact rfl); (· exact rfl); (· exact rfl); (· exact rfl); (· exact sHas); (· exact sSeg)) | (apply Y.loadPart; (· exact rfl); (· exact rfl); (· exact sRdH); rotate_left; (· exact sRfl); rotate_right; (· exact sAsm); (· exact rfl); (· exact rfl); (· exact rfl); (· exact rfl); (· exact sSeg)) | (apply Y.fieldL; (· exact rfl); (· exact rfl); (· exact rfl); (· exact rfl); (· exact rfl); (· exact rfl); (· exact rfl)) | (apply Y.fieldS; (· exact rfl); (· exact rfl); (· exact rfl); (· exact rfl); (· exact rfl); (· exact rfl); (· exact rfl); (· exact rfl); (· exact rfl); (· exact sSeg))) | (first | (apply Y.len; (· exact rfl); (· exact rfl); (· exact sRdH); (· exact sRfl)) | (apply Y.str; (· exact rfl); (· exact rfl); (· exact sRdH)) | (apply Y.sliceLo; (· exact rfl); (· exact rfl); (· exact rfl); (· exact sRdH); (· exact sJ); (· exact sOm); (· exact sOm); (· exact sRfl)) | (apply Y.sliceHi; (· exact rfl); (· exact rfl); (· exact rfl); (· exact sRdH); (· exact sJ); (· exact sOm); (· exact sOm); (· exact sRfl)) | (apply Y.sliceHiMax; (· exact rfl); (· exact rfl); (· exact rfl); (· exact rfl); (· exact sRdH); (· exact sJ); (· exact sOm); (· exact sJ); (· exact sOm); (· exact sOm); (· exact sOm); (· exact sRfl)) | (apply Y.sliceLoHi; (· exact rfl); (· exact rfl); (· exact rfl); (· exact rfl); (· exact sRdH); (· exact sJ); (· exact sOm); (· exact sJ); (· exact sOm); (· exact sOm); (· exact sOm); (· exact sRfl)) | (apply Y.strLen; (· exact rfl); (· exact rfl); (· exact rfl); (· exact sMax)) | (apply Y.indexStr; (· exact rfl); (· exact rfl); (· exact rfl); (· exact rfl); (· exact sJ); (· exact sOm); (· exact sAsm))) | (first | (apply Y.build; (· exact rfl); (· exact sPv); (· exact rec_Disk); (· exact sFil))))) : Yld P E H ρ o v := h
theorem sSDsk {P : Program} {N : Nat} {E : Env} {F : Nat → Value} {H : List Asn} {o : Oper} {K : Value → List Asn → Prop} (h : Stp P N E F H o K := by first | (first | (apply S.boxK; (· exact rfl); (· exact sLk); (· exact sCel)) | (apply S.append1K; (· exact rfl); (· exact rfl); (· exact rfl); (· exact rfl); (· exact sNN); (· exact (fun _ _ => sRepl)); (· exact sNL); (· exact sRfl); (· first | (conv => lhs; simp only [octT, secT]) | rfl); (· exact sOm); (· exact sOm)) | (apply S.appendK; (· exact rfl); (· exact rfl); (· exact rfl); (· exact sNN); (· exact (fun _ _ => sRepl)); (· exact sRdH); (· exact sNL); (· exact sRfl); (· first | (conv => lhs; simp only [octT, secT]) | rfl); (· exact sOm); (· exact sOm)) | (apply S.appendNilK; (· exact rfl); (· exact rfl); (· exact rfl); (· exact sRdH); (· exact sRfl); (· first | (conv => lhs; simp only [octT, secT]) | rfl); (· exact sOm); (· exact sOm)) | (apply (S.buildSliceK (T := octT) (l := [])); (· exact rfl); (· exact rfl); (· exact rfl); (· exact rfl); (· decide)) | (apply (S.buildSlice1K (T := octT)); (· exact rfl); (· exact sLk); (· first | rfl | (with_reducible exact octT_val _ sOm sOm)); (· exact rfl); (· decide)) | (apply (S.buildSliceK (T := secT) (l := [])); (· exact rfl); (· exact rfl); (· exact rfl); (· exact rfl); (· decide)) | (apply (S.buildSlice1K (T := secT)); (· exact rfl); (· exact sLk); (· first | rfl | (with_reducible exact secT_val _ sOm sOm)); (· exact rfl); (· decide))) | (first | (apply (S.storeEK (T := octT)); (· exact rfl); (· exact rfl); (· exact sLk); (· exact sRepl); rotate_left; (· exact sRfl); rotate_right; (· exact sAsm); (· first | rfl | (with_reducible exact octT_val _ sOm sOm)); (· exact sRfl)) | (apply (S.storeEK (T := secT)); (· exact rfl); (· exact rfl); (· exact sLk); (· exact sRepl); rotate_left; (· exact sRfl); rotate_right; (· exact sAsm); (· first | rfl | (with_reducible exact secT_val _ sOm sOm)); (· exact sRfl)) | (apply S.allocK; (· exact rfl); (· exact rec_Disk.zero)) | (apply (S.makeSliceK (T := octT) (z := octT_z)); (· exact rfl); (· exact rfl); (· exact rfl); (· exact sJ); (· exact sOm); (· exact rfl); (· exact rfl); (· first | (conv => lhs; simp only [octT, secT]) | rfl); (· exact sOm); (· exact sOm)) | (apply (S.makeSliceK (T := secT) (z := secT_z)); (· exact rfl); (· exact rfl); (· exact rfl); (· exact sJ); (· exact sOm); (· exact rfl); (· exact rfl); (· first | (conv => lhs; simp only [octT, secT]) | rfl); (· exact sOm); (· exact sOm)) | (apply S.storeAggK; (· exact rfl); (· exact rfl); (· exact sLk); (· exact rfl); (· exact rfl); (· exact rfl); (· exact sRepl); (· exact sPut)) | (apply S.copyInK; (· exact rfl); (· exact rfl); (· exact rfl); (· exact sAsm); (· exact sRepl); (· exact sRdH); rotate_left; (· exact rfl); rotate_right; (· exact sAsm); (· exact sOm); (· exact sAsm); (· exact rfl); (· exact sMax)) | (apply S.store1K; (· exact rfl); (· exact rfl); (· exact sLk); (· exact sRfl); (· exact rfl); (· exact rfl); (· exact sRepl); (· exact sLn); (· exact sSetL)))) : Stp P N E F H o K := h
theorem wDsk {p q : Prop} (hq : q) (h : Box q → p := by intro h; (first | (focus (apply L.val; (· decide); (· exact sYDsk))) | refine C.seq ?_ | refine C.region ?_ | refine L.nil ?_ | refine C.block ?_ | refine C.exit ?_ | refine C.skip ?_ | refine C.ret ?_ | (focus (apply L.on; (· exact rfl); (· decide); (· exact rfl); (· exact sTst))) | (focus (apply L.off; (· decide); (· exact rfl); (· decide); (· exact rfl); (· exact sTst))) | (focus (apply L.offU; (· decide); (· exact rfl); (· decide); (· exact rfl))) | (focus (apply C.condT; (· exact rfl); (· exact sTst))) | (focus (apply C.condF; (· exact rfl); (· exact sTst))) | refine Dr.done ?_ | refine DrA.done ?_ | (focus (apply DrA.take; (· exact rfl); (· decide); (· exact sGon); (· exact sYDsk))) | (focus (apply Dr.take; (· exact rfl); (· decide); (· exact sGon); (· exact sYDsk))) | (focus (apply Dr.skip; (· exact rfl); (· decide); (· exact sGoff))) | (focus (apply Dr.goSkip; (· exact rfl); (· decide); (· exact sGoff))) | with_reducible refine T.n ?_ | with_reducible refine T.ret ?_ | with_reducible refine T.exit ?_ | with_reducible refine I.n ?_ | with_reducible refine I.ret ?_ | with_reducible refine I.hit ?_ | with_reducible refine I.miss (by decide) ?_); (repeat (first | (focus (apply L.val; (· decide); (· exact sYDsk))) | refine C.seq ?_ | refine C.region ?_ | refine L.nil ?_ | refine C.block ?_ | refine C.exit ?_ | refine C.skip ?_ | refine C.ret ?_ | (focus (apply L.on; (· exact rfl); (· decide); (· exact rfl); (· exact sTst))) | (focus (apply L.off; (· decide); (· exact rfl); (· decide); (· exact rfl); (· exact sTst))) | (focus (apply L.offU; (· decide); (· exact rfl); (· decide); (· exact rfl))) | (focus (apply C.condT; (· exact rfl); (· exact sTst))) | (focus (apply C.condF; (· exact rfl); (· exact sTst))) | refine Dr.done ?_ | refine DrA.done ?_ | (focus (apply DrA.take; (· exact rfl); (· decide); (· exact sGon); (· exact sYDsk))) | (focus (apply Dr.take; (· exact rfl); (· decide); (· exact sGon); (· exact sYDsk))) | (focus (apply Dr.skip; (· exact rfl); (· decide); (· exact sGoff))) | (focus (apply Dr.goSkip; (· exact rfl); (· decide); (· exact sGoff))) | with_reducible refine T.n ?_ | with_reducible refine T.ret ?_ | with_reducible refine T.exit ?_ | with_reducible refine I.n ?_ | with_reducible refine I.ret ?_ | with_reducible refine I.hit ?_ | with_reducible refine I.miss (by decide) ?_)); exact h.out) : p := h ⟨hq⟩
theorem vDsk {p q : Prop} (hq : q) (h : Box q → p := by intro h; (first | (focus (apply L.val; (· decide); (· exact sYDsk))) | refine C.seq ?_ | refine C.region ?_ | refine L.nil ?_ | refine C.block ?_ | refine C.exit ?_ | refine C.skip ?_ | refine C.ret ?_ | (focus (apply L.on; (· exact rfl); (· decide); (· exact rfl); (· exact sTst))) | (focus (apply L.off; (· decide); (· exact rfl); (· decide); (· exact rfl); (· exact sTst))) | (focus (apply L.offU; (· decide); (· exact rfl); (· decide); (· exact rfl))) | (focus (apply C.condT; (· exact rfl); (· exact sTst))) | (focus (apply C.condF; (· exact rfl); (· exact sTst))) | refine Dr.done ?_ | refine DrA.done ?_ | (focus (apply DrA.take; (· exact rfl); (· decide); (· exact sGon); (· exact sYDsk))) | (focus (apply Dr.take; (· exact rfl); (· decide); (· exact sGon); (· exact sYDsk))) | (focus (apply Dr.skip; (· exact rfl); (· decide); (· exact sGoff))) | (focus (apply Dr.goSkip; (· exact rfl); (· decide); (· exact sGoff))) | with_reducible refine T.n ?_ | with_reducible refine T.ret ?_ | with_reducible refine T.exit ?_ | with_reducible refine I.n ?_ | with_reducible refine I.ret ?_ | with_reducible refine I.hit ?_ | with_reducible refine I.miss (by decide) ?_); exact h.out) : p := h ⟨hq⟩
theorem kDsk {p q : Prop} (hq : q) (h : Box q → p := by intro h; first | (apply L.stepK; (· decide); (· exact sSDsk); exact h.out) | (apply L.step0K; (· exact sSDsk); exact h.out) | (apply Dr.goZ; (· exact rfl); (· rintro k ⟨⟩ <;> decide); (· exact sGon); (· exact sSDsk); exact h.out) | (apply Dr.goZs; (· exact rfl); (· rintro k ⟨⟩ <;> decide); (· exact sGon); (· exact sSDsk); exact h.out) | (apply Go1.goK; (· exact rfl); (· rintro k ⟨⟩ <;> decide); (· exact sGon); (· exact sSDsk); exact h.out) | (apply Dr.goK; (· exact rfl); (· rintro k ⟨⟩ <;> decide); (· exact sGon); (· exact sSDsk); exact h.out)) : p := h ⟨hq⟩
abbrev dsk (g : Nat) (made dead : Bool) (armed wr : Int) (A : Option Addr) (n c : Nat) : Asn := blk g 143 [.bool made, .bool dead, .int .i64 armed, .int .i64 wr, .slice A n c]
/-- all octets -/
def flat (l : List Sec) : List UInt8 := l.flatMap (·.1)
theorem flat_length (l : List Sec) : (flat l).length = 32 * l.length := by
  induction l with
  | nil => rfl
  | cons s l ih => simp only [flat, List.flatMap_cons, List.length_append, s.2, List.length_cons] at ih ⊢; omega
theorem flat_append (a b : List Sec) : flat (a ++ b) = flat a ++ flat b := List.flatMap_append
theorem flat_take_succ {l : List Sec} {i : Nat} (h : i < l.length) : flat (l.take (i + 1)) = flat (l.take i) ++ l[i].1 := by
  rw [List.take_succ_eq_append_getElem h, flat_append]; simp [flat]

theorem clamp_any (E : Env) (n lo hi : Int) : Tri Try.prog E 80 #[.int .i64 n, .int .i64 lo, .int .i64 hi] [] fun e H' => e = .returned (.int .i64 (if n < lo then lo else if hi < n then hi else n)) ∧ H' = [] := by
  refine tri Try.func80 rfl Try.ntmps80 (by simp) ?_
  by_cases h1 : n < lo
  · rw [if_pos h1]
    repeat (first | refine wDsk ?_ | (refine kDsk ?_; (first | rintro _ _ ⟨rfl, rfl⟩ | rintro _ _ ⟨_, rfl, rfl⟩ | rintro _ _ ⟨_, _, ⟨_, _⟩, rfl, rfl⟩); try refine ⟨sConv, ?_⟩) | refine Dr.two ?_ ?_)
    exact ret1 rfl sRet sConv (⟨rfl, rfl⟩)
  · rw [if_neg h1]
    by_cases h2 : hi < n
    · rw [if_pos h2]
      repeat (first | refine wDsk ?_ | (refine kDsk ?_; (first | rintro _ _ ⟨rfl, rfl⟩ | rintro _ _ ⟨_, rfl, rfl⟩ | rintro _ _ ⟨_, _, ⟨_, _⟩, rfl, rfl⟩); try refine ⟨sConv, ?_⟩) | refine Dr.two ?_ ?_)
      exact ret1 rfl sRet sConv (⟨rfl, rfl⟩)
    · rw [if_neg h2]
      repeat (first | refine wDsk ?_ | (refine kDsk ?_; (first | rintro _ _ ⟨rfl, rfl⟩ | rintro _ _ ⟨_, rfl, rfl⟩ | rintro _ _ ⟨_, _, ⟨_, _⟩, rfl, rfl⟩); try refine ⟨sConv, ?_⟩) | refine Dr.two ?_ ?_)
      exact ret1 rfl sRet sConv (⟨rfl, rfl⟩)
theorem new_disk (E : Env) (n : Int) (k : Nat) (hk : (k : Int) = if n < 0 then 0 else if 256 < n then 256 else n) :
    Tri Try.prog E 52 #[.int .i64 n] [] fun e H' => ∃ g g2, e = .returned (.pointer (some ⟨g, 0, none⟩)) ∧ H' = [dsk g true false (-1) 0 (some ⟨g2, 0, none⟩) k k, own secT (some ⟨g2, 0, none⟩) k k (List.replicate k secT_z)] := by
  have hk2 : k ≤ 256 := by split at hk <;> (try split at hk) <;> omega
  refine tri Try.func52 rfl Try.ntmps52 (by simp) ?_
  repeat (first | refine wDsk ?_ | (refine kDsk ?_; (first | rintro _ _ ⟨rfl, rfl⟩ | rintro _ _ ⟨_, rfl, rfl⟩ | rintro _ _ ⟨_, _, ⟨_, _⟩, rfl, rfl⟩); try refine ⟨sConv, ?_⟩) | refine Dr.two ?_ ?_)
  refine L.step (by decide) (S.call rfl rfl Try.func80 (by kernel_rfl) rfl sPicks (fun E' hE => clamp_any E' n 0 256) ?_)
  rintro e H' ⟨rfl, rfl⟩
  rw [← hk]
  refine ⟨_, rfl, _, sCat, ?_⟩
  repeat (first | refine wDsk ?_ | (refine kDsk ?_; (first | rintro _ _ ⟨rfl, rfl⟩ | rintro _ _ ⟨_, rfl, rfl⟩ | rintro _ _ ⟨_, _, ⟨_, _⟩, rfl, rfl⟩); try refine ⟨sConv, ?_⟩) | refine Dr.two ?_ ?_)
  exact ret1 rfl sRet sConv (⟨_, _, rfl, rfl⟩)
section
variable (E : Env) (g : Nat) (made dead : Bool) (armed wr : Int) (A : Option Addr) (n c : Nat) (l : List Sec)
/-- the disk's parts -/
abbrev dks : List Asn := [dsk g made dead armed wr A n c, own secT A n c l]
theorem has_nil (i : Int) : Tri Try.prog E 95 #[.pointer none, .int .i64 i] [] fun e H' => e = .returned (.bool false) ∧ H' = [] := by
  refine tri Try.func95 rfl Try.ntmps95 (by simp) ?_
  repeat (first | refine wDsk ?_ | (refine kDsk ?_; (first | rintro _ _ ⟨rfl, rfl⟩ | rintro _ _ ⟨_, rfl, rfl⟩ | rintro _ _ ⟨_, _, ⟨_, _⟩, rfl, rfl⟩); try refine ⟨sConv, ?_⟩) | refine Dr.two ?_ ?_)
  exact ret1 rfl sRet sConv (⟨rfl, rfl⟩)
theorem has_any (i : Int) (b : Bool) (hb : b = (!dead && decide (0 ≤ i) && decide (i < n))) (hn : n ≤ 256) : Tri Try.prog E 95 #[.pointer (some ⟨g, 0, none⟩), .int .i64 i] [dsk g made dead armed wr A n c] fun e H' => e = .returned (.bool b) ∧ H' = [dsk g made dead armed wr A n c] := by
  subst hb
  have hm : n ≤ maxLen := by unfold maxLen; omega
  refine tri Try.func95 rfl Try.ntmps95 (by simp) ?_
  cases dead
  · by_cases h1 : 0 ≤ i
    · repeat (first | refine wDsk ?_ | (refine kDsk ?_; (first | rintro _ _ ⟨rfl, rfl⟩ | rintro _ _ ⟨_, rfl, rfl⟩ | rintro _ _ ⟨_, _, ⟨_, _⟩, rfl, rfl⟩); try refine ⟨sConv, ?_⟩) | refine Dr.two ?_ ?_)
      exact ret1 rfl sRet sConv (⟨by simp [h1], rfl⟩)
    · repeat (first | refine wDsk ?_ | (refine kDsk ?_; (first | rintro _ _ ⟨rfl, rfl⟩ | rintro _ _ ⟨_, rfl, rfl⟩ | rintro _ _ ⟨_, _, ⟨_, _⟩, rfl, rfl⟩); try refine ⟨sConv, ?_⟩) | refine Dr.two ?_ ?_)
      exact ret1 rfl sRet sConv (⟨by simp [h1], rfl⟩)
  · repeat (first | refine wDsk ?_ | (refine kDsk ?_; (first | rintro _ _ ⟨rfl, rfl⟩ | rintro _ _ ⟨_, rfl, rfl⟩ | rintro _ _ ⟨_, _, ⟨_, _⟩, rfl, rfl⟩); try refine ⟨sConv, ?_⟩) | refine Dr.two ?_ ?_)
    exact ret1 rfl sRet sConv (⟨rfl, rfl⟩)
/-- a write: how many octets, what stands then -/
def wk (armed : Int) : Nat := if 0 ≤ armed ∧ armed < 32 then armed.toNat else 32
def wdead (armed : Int) : Bool := decide (0 ≤ armed ∧ armed < 32)
def warmed (armed : Int) : Int := if 0 ≤ armed ∧ armed < 32 then -1 else if armed = -1 then -1 else armed - 32
theorem wk_le (armed : Int) : wk armed ≤ 32 := by unfold wk; split <;> omega
def front (k : Nat) (b : List UInt8) (hb : b.length = 32) (hk : k ≤ 32) (s : Sec) : Sec := ⟨b.take k ++ s.1.drop k, by simp [s.2, hb]; omega⟩
theorem write_nil (B : Option Addr) (m d : Nat) (i : Int) : Tri Try.prog E 53 #[.pointer none, .int .i64 i, .slice B m d] [] fun e H' => e = .returned (.bool false) ∧ H' = [] := by
  refine tri Try.func53 rfl Try.ntmps53 (by simp) ?_
  repeat (first | refine wDsk ?_ | (refine kDsk ?_; (first | rintro _ _ ⟨rfl, rfl⟩ | rintro _ _ ⟨_, rfl, rfl⟩ | rintro _ _ ⟨_, _, ⟨_, _⟩, rfl, rfl⟩); try refine ⟨sConv, ?_⟩) | refine Dr.two ?_ ?_)
  refine L.step (by decide) (S.call rfl rfl Try.func95 (by kernel_rfl) rfl sPicks (fun E' hE => has_nil E' i) ?_)
  rintro e H' ⟨rfl, rfl⟩
  refine ⟨_, rfl, _, sCat, ?_⟩
  repeat (first | refine wDsk ?_ | (refine kDsk ?_; (first | rintro _ _ ⟨rfl, rfl⟩ | rintro _ _ ⟨_, rfl, rfl⟩ | rintro _ _ ⟨_, _, ⟨_, _⟩, rfl, rfl⟩); try refine ⟨sConv, ?_⟩) | refine Dr.two ?_ ?_)
  exact ret1 rfl sRet sConv (⟨rfl, rfl⟩)
theorem write_no (B : Option Addr) (m d : Nat) (b : List UInt8) (i : Int) (hr : Rd E octT B m d b) (hn : n ≤ 256) (hno : dead = true ∨ i < 0 ∨ n ≤ i ∨ b.length ≠ 32) :
    Tri Try.prog E 53 #[.pointer (some ⟨g, 0, none⟩), .int .i64 i, .slice B m d] [dsk g made dead armed wr A n c] fun e H' => e = .returned (.bool false) ∧ H' = [dsk g made dead armed wr A n c] := by
  have hm := hr.len
  have hcap := hr.cap
  refine tri Try.func53 rfl Try.ntmps53 (by simp) ?_
  by_cases hh : dead = true ∨ i < 0 ∨ n ≤ i
  · repeat (first | refine wDsk ?_ | (refine kDsk ?_; (first | rintro _ _ ⟨rfl, rfl⟩ | rintro _ _ ⟨_, rfl, rfl⟩ | rintro _ _ ⟨_, _, ⟨_, _⟩, rfl, rfl⟩); try refine ⟨sConv, ?_⟩) | refine Dr.two ?_ ?_)
    refine L.step (by decide) (S.call rfl rfl Try.func95 (by kernel_rfl) rfl sPicks (fun E' hE => has_any E' g made dead armed wr A n c i false (by rcases hh with rfl | h | h; rfl; simp; omega; simp; omega) hn) ?_)
    rintro e H' ⟨rfl, rfl⟩
    refine ⟨_, rfl, _, sCat, ?_⟩
    repeat (first | refine wDsk ?_ | (refine kDsk ?_; (first | rintro _ _ ⟨rfl, rfl⟩ | rintro _ _ ⟨_, rfl, rfl⟩ | rintro _ _ ⟨_, _, ⟨_, _⟩, rfl, rfl⟩); try refine ⟨sConv, ?_⟩) | refine Dr.two ?_ ?_)
    exact ret1 rfl sRet sConv (⟨rfl, rfl⟩)
  · have hb : b.length ≠ 32 := by
      rcases hno with h | h | h | h
      · exact absurd (.inl h) hh
      · exact absurd (.inr (.inl h)) hh
      · exact absurd (.inr (.inr h)) hh
      · exact h
    have hd : dead = false := by cases dead; rfl; exact absurd (.inl rfl) hh
    repeat (first | refine wDsk ?_ | (refine kDsk ?_; (first | rintro _ _ ⟨rfl, rfl⟩ | rintro _ _ ⟨_, rfl, rfl⟩ | rintro _ _ ⟨_, _, ⟨_, _⟩, rfl, rfl⟩); try refine ⟨sConv, ?_⟩) | refine Dr.two ?_ ?_)
    refine L.step (by decide) (S.call rfl rfl Try.func95 (by kernel_rfl) rfl sPicks (fun E' hE => has_any E' g made dead armed wr A n c i true (by subst hd; simp; omega) hn) ?_)
    rintro e H' ⟨rfl, rfl⟩
    refine ⟨_, rfl, _, sCat, ?_⟩
    repeat (first | refine wDsk ?_ | (refine kDsk ?_; (first | rintro _ _ ⟨rfl, rfl⟩ | rintro _ _ ⟨_, rfl, rfl⟩ | rintro _ _ ⟨_, _, ⟨_, _⟩, rfl, rfl⟩); try refine ⟨sConv, ?_⟩) | refine Dr.two ?_ ?_)
    exact ret1 rfl sRet sConv (⟨rfl, rfl⟩)
theorem write_yes (B : Option Addr) (d : Nat) (b : List UInt8) (i : Nat) (hb : b.length = 32) (hr : Rd E octT B 32 d b) (hn : n ≤ 256) (hi : i < l.length) (ha : -1 ≤ armed) (ha2 : armed ≤ 9223372036854775807) (hw : 0 ≤ wr) (hw2 : wr ≤ 1000000) :
    Tri Try.prog E 53 #[.pointer (some ⟨g, 0, none⟩), .int .i64 i, .slice B 32 d] (dks g made false armed wr A n c l) fun e H' => e = .returned (.bool (!wdead armed)) ∧
      H' = dks g made (wdead armed) (warmed armed) (wr + wk armed) A n c (l.set i (front (wk armed) b hb (wk_le _) l[i])) := by
  refine Tri.fact (p := n = l.length) (fun w hw => (RdH.own (H := dks g made false armed wr A n c l) sHas w hw).1) fun hnl => ?_
  have hm := hr.len
  have hcap := hr.cap
  have hli : l[i]? = some l[i] := List.getElem?_eq_getElem hi
  have hfr : (front (wk armed) b hb (wk_le _) l[i]).1 = b.take (wk armed) ++ l[i].1.drop (wk armed) := rfl
  have hcut := hr.upto (k := wk armed) (m := d) (wk_le _) (Nat.le_trans (wk_le _) hcap.1) (Nat.le_refl _)
  have harr := sec_arr
  have hwle := wk_le armed
  generalize front (wk armed) b hb (wk_le _) l[i] = s at *
  refine tri Try.func53 rfl Try.ntmps53 (by simp) ?_
  repeat (first | refine wDsk ?_ | (refine kDsk ?_; (first | rintro _ _ ⟨rfl, rfl⟩ | rintro _ _ ⟨_, rfl, rfl⟩ | rintro _ _ ⟨_, _, ⟨_, _⟩, rfl, rfl⟩); try refine ⟨sConv, ?_⟩) | refine Dr.two ?_ ?_)
  refine L.step (by decide) (S.call rfl rfl Try.func95 (by kernel_rfl) rfl sPicks (fun E' hE => has_any E' g made false armed wr A n c i true (by simp; omega) hn) ?_)
  rintro e H' ⟨rfl, rfl⟩
  refine ⟨_, rfl, _, sCat, ?_⟩
  repeat ((fail_if_success (refine C.seq (x := Code.region 4 _ _) ?_)); first | refine vDsk ?_ | (refine kDsk ?_; (first | rintro _ _ ⟨rfl, rfl⟩ | rintro _ _ ⟨_, rfl, rfl⟩ | rintro _ _ ⟨_, _, ⟨_, _⟩, rfl, rfl⟩); try refine ⟨sConv, ?_⟩) | refine Dr.two ?_ ?_)
  refine C.mid (X := Unit) (fun _ => [(0, .pointer (some ⟨g, 0, none⟩)), (1, .int .i64 i), (2, .slice B 32 d), (7, .int .i64 (wk armed : Nat))]) (fun _ => dks g made (wdead armed) (warmed armed) wr A n c l) (fun _ => True) ?_ ?_
  · unfold wk wdead warmed
    by_cases h1 : armed = -1
    · rw [if_neg (by omega), if_neg (by omega), if_pos h1, decide_eq_false (by omega)]
      subst h1
      repeat (first | refine wDsk ?_ | (refine kDsk ?_; (first | rintro _ _ ⟨rfl, rfl⟩ | rintro _ _ ⟨_, rfl, rfl⟩ | rintro _ _ ⟨_, _, ⟨_, _⟩, rfl, rfl⟩); try refine ⟨sConv, ?_⟩) | refine Dr.two ?_ ?_)
      exact ⟨(), sHolds, Conv.refl, trivial⟩
    · by_cases h2 : armed < 32
      · rw [if_pos ⟨by omega, h2⟩, if_pos ⟨by omega, h2⟩, decide_eq_true ⟨by omega, h2⟩]
        obtain ⟨k, rfl⟩ := Int.eq_ofNat_of_zero_le (show 0 ≤ armed by omega)
        repeat (first | refine wDsk ?_ | (refine kDsk ?_; (first | rintro _ _ ⟨rfl, rfl⟩ | rintro _ _ ⟨_, rfl, rfl⟩ | rintro _ _ ⟨_, _, ⟨_, _⟩, rfl, rfl⟩); try refine ⟨sConv, ?_⟩) | refine Dr.two ?_ ?_)
        exact ⟨(), sHolds, Conv.refl, trivial⟩
      · rw [if_neg (by omega), if_neg (by omega), if_neg h1, decide_eq_false (by omega)]
        repeat (first | refine wDsk ?_ | (refine kDsk ?_; (first | rintro _ _ ⟨rfl, rfl⟩ | rintro _ _ ⟨_, rfl, rfl⟩ | rintro _ _ ⟨_, _, ⟨_, _⟩, rfl, rfl⟩); try refine ⟨sConv, ?_⟩) | refine Dr.two ?_ ?_)
        exact ⟨(), sHolds, Conv.refl, trivial⟩
  rintro - G -
  generalize wk armed = k at *
  repeat (first | refine wDsk ?_ | (refine kDsk ?_; (first | rintro _ _ ⟨rfl, rfl⟩ | rintro _ _ ⟨_, rfl, rfl⟩ | rintro _ _ ⟨_, _, ⟨_, _⟩, rfl, rfl⟩); try refine ⟨sConv, ?_⟩) | refine Dr.two ?_ ?_)
  refine C.regionA 10 (.one 0 false (.one 1 false (.one 2 false (.one 3 false (.one 4 false (.one 5 false (.one 6 false (.one 7 false (.one 8 false (.one 9 false (.one 10 true .nil))))))))))) _ (by kernel_rfl) (by kernel_rfl) Conv.refl ?_
  repeat (first | refine wDsk ?_ | (refine kDsk ?_; (first | rintro _ _ ⟨rfl, rfl⟩ | rintro _ _ ⟨_, rfl, rfl⟩ | rintro _ _ ⟨_, _, ⟨_, _⟩, rfl, rfl⟩); try refine ⟨sConv, ?_⟩) | refine Dr.two ?_ ?_)
  exact ret1 rfl sRet sConv (⟨rfl, rfl⟩)
end
/-! ### clones of slices -/
theorem clone_oct (E : Env) (A : Option Addr) (n c : Nat) (l : List _) (hr : Rd E octT A n c l) (hl : n ≤ 140737488355300) : Tri Try.prog E 137 #[.slice A n c] [] fun e H' => ∃ A' c', e = .returned (.slice A' n c') ∧ n ≤ c' ∧ c' ≤ maxLen ∧ H' = [own octT A' n c' l] := by
  refine tri Try.func137 rfl Try.ntmps137 (by simp) ?_
  cases A with
  | none =>
    obtain ⟨rfl, rfl⟩ := hr.none
    repeat (first | refine wDsk ?_ | (refine kDsk ?_; (first | rintro _ _ ⟨rfl, rfl⟩ | rintro _ _ ⟨_, rfl, rfl⟩ | rintro _ _ ⟨_, _, ⟨_, _⟩, rfl, rfl⟩); try refine ⟨sConv, ?_⟩) | refine Dr.two ?_ ?_)
    exact ret1 rfl sRet (Conv.nil octT) ⟨_, _, rfl, Nat.le_refl _, Nat.zero_le _, rfl⟩
  | some a =>
    repeat (first | refine wDsk ?_ | (refine kDsk ?_; (first | rintro _ _ ⟨rfl, rfl⟩ | rintro _ _ ⟨_, rfl, rfl⟩ | rintro _ _ ⟨_, _, ⟨_, _⟩, rfl, rfl⟩); try refine ⟨sConv, ?_⟩) | refine Dr.two ?_ ?_)
    exact ret1 rfl sRet sConv (⟨_, _, rfl, by assumption, by assumption, rfl⟩)
theorem clone_sec (E : Env) (A : Option Addr) (n c : Nat) (l : List _) (hr : Rd E secT A n c l) (hl : n ≤ 1000000) : Tri Try.prog E 118 #[.slice A n c] [] fun e H' => ∃ A' c', e = .returned (.slice A' n c') ∧ n ≤ c' ∧ c' ≤ maxLen ∧ H' = [own secT A' n c' l] := by
  refine tri Try.func118 rfl Try.ntmps118 (by simp) ?_
  cases A with
  | none =>
    obtain ⟨rfl, rfl⟩ := hr.none
    repeat (first | refine wDsk ?_ | (refine kDsk ?_; (first | rintro _ _ ⟨rfl, rfl⟩ | rintro _ _ ⟨_, rfl, rfl⟩ | rintro _ _ ⟨_, _, ⟨_, _⟩, rfl, rfl⟩); try refine ⟨sConv, ?_⟩) | refine Dr.two ?_ ?_)
    exact ret1 rfl sRet (Conv.nil secT) ⟨_, _, rfl, Nat.le_refl _, Nat.zero_le _, rfl⟩
  | some a =>
    repeat (first | refine wDsk ?_ | (refine kDsk ?_; (first | rintro _ _ ⟨rfl, rfl⟩ | rintro _ _ ⟨_, rfl, rfl⟩ | rintro _ _ ⟨_, _, ⟨_, _⟩, rfl, rfl⟩); try refine ⟨sConv, ?_⟩) | refine Dr.two ?_ ?_)
    exact ret1 rfl sRet sConv (⟨_, _, rfl, by assumption, by assumption, rfl⟩)

section
variable (E : Env) (g : Nat) (made dead : Bool) (armed wr : Int) (A : Option Addr) (n c : Nat) (l : List Sec)
theorem read_nil (i : Int) : Tri Try.prog E 117 #[.pointer none, .int .i64 i] [] fun e H' => e = .returned (.tuple #[.slice none 0 0, .bool false]) ∧ H' = [] := by
  refine tri Try.func117 rfl Try.ntmps117 (by simp) ?_
  repeat (first | refine wDsk ?_ | (refine kDsk ?_; (first | rintro _ _ ⟨rfl, rfl⟩ | rintro _ _ ⟨_, rfl, rfl⟩ | rintro _ _ ⟨_, _, ⟨_, _⟩, rfl, rfl⟩); try refine ⟨sConv, ?_⟩) | refine Dr.two ?_ ?_)
  refine L.step (by decide) (S.call rfl rfl Try.func95 (by kernel_rfl) rfl sPicks (fun E' hE => has_nil E' i) ?_)
  rintro e H' ⟨rfl, rfl⟩
  refine ⟨_, rfl, _, sCat, ?_⟩
  repeat (first | refine wDsk ?_ | (refine kDsk ?_; (first | rintro _ _ ⟨rfl, rfl⟩ | rintro _ _ ⟨_, rfl, rfl⟩ | rintro _ _ ⟨_, _, ⟨_, _⟩, rfl, rfl⟩); try refine ⟨sConv, ?_⟩) | refine Dr.two ?_ ?_)
  exact ret2 rfl sRet sRet sConv (⟨rfl, rfl⟩)
theorem read_no (i : Int) (hn : n ≤ 256) (hno : dead = true ∨ i < 0 ∨ n ≤ i) :
    Tri Try.prog E 117 #[.pointer (some ⟨g, 0, none⟩), .int .i64 i] [dsk g made dead armed wr A n c] fun e H' => e = .returned (.tuple #[.slice none 0 0, .bool false]) ∧ H' = [dsk g made dead armed wr A n c] := by
  refine tri Try.func117 rfl Try.ntmps117 (by simp) ?_
  repeat (first | refine wDsk ?_ | (refine kDsk ?_; (first | rintro _ _ ⟨rfl, rfl⟩ | rintro _ _ ⟨_, rfl, rfl⟩ | rintro _ _ ⟨_, _, ⟨_, _⟩, rfl, rfl⟩); try refine ⟨sConv, ?_⟩) | refine Dr.two ?_ ?_)
  refine L.step (by decide) (S.call rfl rfl Try.func95 (by kernel_rfl) rfl sPicks (fun E' hE => has_any E' g made dead armed wr A n c i false (by rcases hno with rfl | h | h; rfl; simp; omega; simp; omega) hn) ?_)
  rintro e H' ⟨rfl, rfl⟩
  refine ⟨_, rfl, _, sCat, ?_⟩
  repeat (first | refine wDsk ?_ | (refine kDsk ?_; (first | rintro _ _ ⟨rfl, rfl⟩ | rintro _ _ ⟨_, rfl, rfl⟩ | rintro _ _ ⟨_, _, ⟨_, _⟩, rfl, rfl⟩); try refine ⟨sConv, ?_⟩) | refine Dr.two ?_ ?_)
  exact ret2 rfl sRet sRet sConv (⟨rfl, rfl⟩)
theorem read_yes (i : Nat) (hn : n ≤ 256) (hi : i < l.length) (hnl : n = l.length) :
    Tri Try.prog E 117 #[.pointer (some ⟨g, 0, none⟩), .int .i64 i] (dks g made false armed wr A n c l) fun e H' => ∃ B d, e = .returned (.tuple #[.slice B 32 d, .bool true]) ∧ 32 ≤ d ∧ d ≤ maxLen ∧ H' = own octT B 32 d l[i].1 :: dks g made false armed wr A n c l := by
  have hli : l[i]? = some l[i] := List.getElem?_eq_getElem hi
  have harr := sec_arr
  have hm : 32 ≤ maxLen := by unfold maxLen; omega
  generalize l[i] = s at *
  refine tri Try.func117 rfl Try.ntmps117 (by simp) ?_
  repeat (first | refine wDsk ?_ | (refine kDsk ?_; (first | rintro _ _ ⟨rfl, rfl⟩ | rintro _ _ ⟨_, rfl, rfl⟩ | rintro _ _ ⟨_, _, ⟨_, _⟩, rfl, rfl⟩); try refine ⟨sConv, ?_⟩) | refine Dr.two ?_ ?_)
  refine L.step (by decide) (S.call rfl rfl Try.func95 (by kernel_rfl) rfl sPicks (fun E' hE => has_any E' g made false armed wr A n c i true (by simp; omega) hn) ?_)
  rintro e H' ⟨rfl, rfl⟩
  refine ⟨_, rfl, _, sCat, ?_⟩
  repeat (first | refine wDsk ?_ | (refine kDsk ?_; (first | rintro _ _ ⟨rfl, rfl⟩ | rintro _ _ ⟨_, rfl, rfl⟩ | rintro _ _ ⟨_, _, ⟨_, _⟩, rfl, rfl⟩); try refine ⟨sConv, ?_⟩) | refine Dr.two ?_ ?_)
  refine L.step (by decide) (S.call rfl rfl Try.func137 (by kernel_rfl) rfl sPicks (fun E' hE => clone_oct E' _ 32 32 s.1 (Rd.inner harr hm (Sub.own hE sHas) hli rfl) (by omega)) ?_)
  rintro e H' ⟨B, d, rfl, h1, h2, rfl⟩
  refine ⟨_, rfl, _, sCat, ?_⟩
  repeat (first | refine wDsk ?_ | (refine kDsk ?_; (first | rintro _ _ ⟨rfl, rfl⟩ | rintro _ _ ⟨_, rfl, rfl⟩ | rintro _ _ ⟨_, _, ⟨_, _⟩, rfl, rfl⟩); try refine ⟨sConv, ?_⟩) | refine Dr.two ?_ ?_)
  exact ret2 rfl sRet sRet sConv (⟨_, _, rfl, h1, h2, rfl⟩)
theorem arm_nil (k : Int) : Tri Try.prog E 38 #[.pointer none, .int .i64 k] [] fun e H' => e = .returned (.tuple #[]) ∧ H' = [] := by
  refine tri Try.func38 rfl Try.ntmps38 (by simp) ?_
  repeat (first | refine wDsk ?_ | (refine kDsk ?_; (first | rintro _ _ ⟨rfl, rfl⟩ | rintro _ _ ⟨_, rfl, rfl⟩ | rintro _ _ ⟨_, _, ⟨_, _⟩, rfl, rfl⟩); try refine ⟨sConv, ?_⟩) | refine Dr.two ?_ ?_)
  exact end0 rfl sConv (⟨rfl, rfl⟩)
theorem arm_any (k : Int) : Tri Try.prog E 38 #[.pointer (some ⟨g, 0, none⟩), .int .i64 k] [dsk g true dead armed wr A n c] fun e H' => e = .returned (.tuple #[]) ∧ H' = [dsk g true dead (if dead then armed else max k (-1)) wr A n c] := by
  refine tri Try.func38 rfl Try.ntmps38 (by simp) ?_
  cases dead
  · rw [if_neg (by simp)]
    repeat (first | refine wDsk ?_ | (refine kDsk ?_; (first | rintro _ _ ⟨rfl, rfl⟩ | rintro _ _ ⟨_, rfl, rfl⟩ | rintro _ _ ⟨_, _, ⟨_, _⟩, rfl, rfl⟩); try refine ⟨sConv, ?_⟩) | refine Dr.two ?_ ?_)
    exact end0 rfl sConv (⟨rfl, rfl⟩)
  · rw [if_pos rfl]
    repeat (first | refine wDsk ?_ | (refine kDsk ?_; (first | rintro _ _ ⟨rfl, rfl⟩ | rintro _ _ ⟨_, rfl, rfl⟩ | rintro _ _ ⟨_, _, ⟨_, _⟩, rfl, rfl⟩); try refine ⟨sConv, ?_⟩) | refine Dr.two ?_ ?_)
    exact end0 rfl sConv (⟨rfl, rfl⟩)
theorem revive_any : Tri Try.prog E 41 #[.pointer (some ⟨g, 0, none⟩)] [dsk g true dead armed wr A n c] fun e H' => e = .returned (.tuple #[]) ∧ H' = [dsk g true false (-1) wr A n c] := by
  refine tri Try.func41 rfl Try.ntmps41 (by simp) ?_
  repeat (first | refine wDsk ?_ | (refine kDsk ?_; (first | rintro _ _ ⟨rfl, rfl⟩ | rintro _ _ ⟨_, rfl, rfl⟩ | rintro _ _ ⟨_, _, ⟨_, _⟩, rfl, rfl⟩); try refine ⟨sConv, ?_⟩) | refine Dr.two ?_ ?_)
  exact end0 rfl sConv (⟨rfl, rfl⟩)
theorem revive_odd : Tri Try.prog E 41 #[.pointer (some ⟨g, 0, none⟩)] [dsk g false dead armed wr A n c] fun e H' => e = .returned (.tuple #[]) ∧ H' = [dsk g false dead armed wr A n c] := by
  refine tri Try.func41 rfl Try.ntmps41 (by simp) ?_
  repeat (first | refine wDsk ?_ | (refine kDsk ?_; (first | rintro _ _ ⟨rfl, rfl⟩ | rintro _ _ ⟨_, rfl, rfl⟩ | rintro _ _ ⟨_, _, ⟨_, _⟩, rfl, rfl⟩); try refine ⟨sConv, ?_⟩) | refine Dr.two ?_ ?_)
  exact end0 rfl sConv (⟨rfl, rfl⟩)
theorem len_nil : Tri Try.prog E 87 #[.pointer none] [] fun e H' => e = .returned (.int .i64 0) ∧ H' = [] := by
  refine tri Try.func87 rfl Try.ntmps87 (by simp) ?_
  repeat (first | refine wDsk ?_ | (refine kDsk ?_; (first | rintro _ _ ⟨rfl, rfl⟩ | rintro _ _ ⟨_, rfl, rfl⟩ | rintro _ _ ⟨_, _, ⟨_, _⟩, rfl, rfl⟩); try refine ⟨sConv, ?_⟩) | refine Dr.two ?_ ?_)
  exact ret1 rfl sRet sConv (⟨rfl, rfl⟩)
theorem len_any (hn : n ≤ 256) : Tri Try.prog E 87 #[.pointer (some ⟨g, 0, none⟩)] [dsk g made dead armed wr A n c] fun e H' => e = .returned (.int .i64 n) ∧ H' = [dsk g made dead armed wr A n c] := by
  have hm : n ≤ maxLen := by unfold maxLen; omega
  refine tri Try.func87 rfl Try.ntmps87 (by simp) ?_
  repeat (first | refine wDsk ?_ | (refine kDsk ?_; (first | rintro _ _ ⟨rfl, rfl⟩ | rintro _ _ ⟨_, rfl, rfl⟩ | rintro _ _ ⟨_, _, ⟨_, _⟩, rfl, rfl⟩); try refine ⟨sConv, ?_⟩) | refine Dr.two ?_ ?_)
  exact ret1 rfl sRet sConv (⟨rfl, rfl⟩)
theorem dead_nil : Tri Try.prog E 83 #[.pointer none] [] fun e H' => e = .returned (.bool false) ∧ H' = [] := by
  refine tri Try.func83 rfl Try.ntmps83 (by simp) ?_
  repeat (first | refine wDsk ?_ | (refine kDsk ?_; (first | rintro _ _ ⟨rfl, rfl⟩ | rintro _ _ ⟨_, rfl, rfl⟩ | rintro _ _ ⟨_, _, ⟨_, _⟩, rfl, rfl⟩); try refine ⟨sConv, ?_⟩) | refine Dr.two ?_ ?_)
  exact ret1 rfl sRet sConv (⟨rfl, rfl⟩)
theorem dead_any : Tri Try.prog E 83 #[.pointer (some ⟨g, 0, none⟩)] [dsk g made dead armed wr A n c] fun e H' => e = .returned (.bool dead) ∧ H' = [dsk g made dead armed wr A n c] := by
  refine tri Try.func83 rfl Try.ntmps83 (by simp) ?_
  repeat (first | refine wDsk ?_ | (refine kDsk ?_; (first | rintro _ _ ⟨rfl, rfl⟩ | rintro _ _ ⟨_, rfl, rfl⟩ | rintro _ _ ⟨_, _, ⟨_, _⟩, rfl, rfl⟩); try refine ⟨sConv, ?_⟩) | refine Dr.two ?_ ?_)
  exact ret1 rfl sRet sConv (⟨rfl, rfl⟩)
theorem all_nil : Tri Try.prog E 50 #[.pointer none] [] fun e H' => e = .returned (.slice none 0 0) ∧ H' = [] := by
  refine tri Try.func50 rfl Try.ntmps50 (by simp) ?_
  repeat (first | refine wDsk ?_ | (refine kDsk ?_; (first | rintro _ _ ⟨rfl, rfl⟩ | rintro _ _ ⟨_, rfl, rfl⟩ | rintro _ _ ⟨_, _, ⟨_, _⟩, rfl, rfl⟩); try refine ⟨sConv, ?_⟩) | refine Dr.two ?_ ?_)
  exact ret1 rfl sRet sConv (⟨rfl, rfl⟩)
theorem all_any (hn : n ≤ 256) (hnl : n = l.length) :
    Tri Try.prog E 50 #[.pointer (some ⟨g, 0, none⟩)] (dks g made dead armed wr A n c l) fun e H' => ∃ O d, e = .returned (.slice O (32 * n) d) ∧ H' = own octT O (32 * n) d (flat l) :: dks g made dead armed wr A n c l := by
  have harr := sec_arr
  have hm : 32 ≤ maxLen := by unfold maxLen; omega
  refine tri Try.func50 rfl Try.ntmps50 (by simp) ?_
  repeat (first | refine wDsk ?_ | (refine kDsk ?_; (first | rintro _ _ ⟨rfl, rfl⟩ | rintro _ _ ⟨_, rfl, rfl⟩ | rintro _ _ ⟨_, _, ⟨_, _⟩, rfl, rfl⟩); try refine ⟨sConv, ?_⟩) | refine Dr.two ?_ ?_)
  refine C.loop (X := Nat × Option Addr × Nat) (fun x => [(0, .pointer (some ⟨g, 0, none⟩)), (3, .slice x.2.1 (32 * x.1) x.2.2), (11, .int .i64 n), (12, .int .i64 x.1)])
    (fun x => own octT x.2.1 (32 * x.1) x.2.2 (flat (l.take x.1)) :: dks g made dead armed wr A n c l) (fun x => x.1 ≤ n) (fun x => n - x.1) (0, none, 0) sHolds (Conv.nil octT) (Nat.zero_le _) ?_
  rintro ⟨i, O, d⟩ G hi
  dsimp only at hi ⊢
  by_cases hlt : i < n
  · have hli : l[i]? = some l[i] := List.getElem?_eq_getElem (by omega)
    repeat (first | refine wDsk ?_ | (refine kDsk ?_; (first | rintro _ _ ⟨rfl, rfl⟩ | rintro _ _ ⟨_, rfl, rfl⟩ | rintro _ _ ⟨_, _, ⟨_, _⟩, rfl, rfl⟩); try refine ⟨sConv, ?_⟩) | refine Dr.two ?_ ?_)
    exact ⟨(i + 1, _, _), sHolds, by rw [flat_take_succ (by omega), show 32 * (i + 1) = 32 * i + 32 by omega]; exact sConv, by dsimp only; omega, by dsimp only; omega⟩
  · obtain rfl : i = n := by omega
    rw [hnl, List.take_length, ← hnl]
    repeat (first | refine wDsk ?_ | (refine kDsk ?_; (first | rintro _ _ ⟨rfl, rfl⟩ | rintro _ _ ⟨_, rfl, rfl⟩ | rintro _ _ ⟨_, _, ⟨_, _⟩, rfl, rfl⟩); try refine ⟨sConv, ?_⟩) | refine Dr.two ?_ ?_)
    exact ret1 rfl sRet sConv (⟨_, _, rfl, rfl⟩)
theorem clone_nil : Tri Try.prog E 86 #[.pointer none] [] fun e H' => e = .returned (.pointer none) ∧ H' = [] := by
  refine tri Try.func86 rfl Try.ntmps86 (by simp) ?_
  repeat (first | refine wDsk ?_ | (refine kDsk ?_; (first | rintro _ _ ⟨rfl, rfl⟩ | rintro _ _ ⟨_, rfl, rfl⟩ | rintro _ _ ⟨_, _, ⟨_, _⟩, rfl, rfl⟩); try refine ⟨sConv, ?_⟩) | refine Dr.two ?_ ?_)
  exact ret1 rfl sRet sConv (⟨rfl, rfl⟩)
theorem clone_odd : Tri Try.prog E 86 #[.pointer (some ⟨g, 0, none⟩)] [dsk g false dead armed wr A n c] fun e H' => e = .returned (.pointer none) ∧ H' = [dsk g false dead armed wr A n c] := by
  refine tri Try.func86 rfl Try.ntmps86 (by simp) ?_
  repeat (first | refine wDsk ?_ | (refine kDsk ?_; (first | rintro _ _ ⟨rfl, rfl⟩ | rintro _ _ ⟨_, rfl, rfl⟩ | rintro _ _ ⟨_, _, ⟨_, _⟩, rfl, rfl⟩); try refine ⟨sConv, ?_⟩) | refine Dr.two ?_ ?_)
  exact ret1 rfl sRet sConv (⟨rfl, rfl⟩)
theorem clone_disk (hn : n ≤ 256) : Tri Try.prog E 86 #[.pointer (some ⟨g, 0, none⟩)] (dks g true dead armed wr A n c l) fun e H' => ∃ g' A' c', e = .returned (.pointer (some ⟨g', 0, none⟩)) ∧ H' = dks g' true dead armed wr A' n c' l ++ dks g true dead armed wr A n c l := by
  refine tri Try.func86 rfl Try.ntmps86 (by simp) ?_
  repeat (first | refine wDsk ?_ | (refine kDsk ?_; (first | rintro _ _ ⟨rfl, rfl⟩ | rintro _ _ ⟨_, rfl, rfl⟩ | rintro _ _ ⟨_, _, ⟨_, _⟩, rfl, rfl⟩); try refine ⟨sConv, ?_⟩) | refine Dr.two ?_ ?_)
  refine L.step (by decide) (S.call rfl rfl Try.func118 (by kernel_rfl) rfl sPicks (fun E' hE => clone_sec E' A n c l sRd (by omega)) ?_)
  rintro e H' ⟨A', c', rfl, h1, h2, rfl⟩
  refine ⟨_, rfl, _, sCat, ?_⟩
  repeat (first | refine wDsk ?_ | (refine kDsk ?_; (first | rintro _ _ ⟨rfl, rfl⟩ | rintro _ _ ⟨_, rfl, rfl⟩ | rintro _ _ ⟨_, _, ⟨_, _⟩, rfl, rfl⟩); try refine ⟨sConv, ?_⟩) | refine Dr.two ?_ ?_)
  exact ret1 rfl sRet sConv (⟨_, _, _, rfl, rfl⟩)
end
end Go.Proofs.Ytkhmplaocfjpjaa.Sep
