/- octet, by parts of memory: each function's law. -/
import Derived.Test.YtihblcljkndpgaaTyp
import Derived.Test.YtihblcljkndpgaaOctetPlain
namespace Go.Proofs.Ytihblcljkndpgaa.Sep
open Go.RowKit Go.Proofs.Ytihblcljkndpgaa.Reg Go.Proofs.Ytihblcljkndpgaa.Oct
open Go.Proofs.Ytihblcljkndpgaa.Mem hiding Rd Own

theorem rec_Reader : Rec Try.prog 90 [.bool false, .bool false, .slice none 0 0] [(0, 1), (1, 1), (2, 1)] := ⟨by kernel_rfl, by kernel_rfl⟩
-- types: octT
-- recs: rec_Reader
set_option maxRecDepth 100000
set_option maxHeartbeats 6000000
theorem sYOct {P : Program} {E : Env} {H : List Asn} {ρ : Operand → Value} {o : Oper} {v : Value} (h : Yld P E H ρ o v := by first | (intro _ _; first | (first | (apply V.move; (· exact rfl); (· exact sLk)) | (apply V.assign; (· exact rfl); (· exact sLk)) | (apply V.nilCheck; (· exact rfl); (· exact rfl)) | (apply V.fieldAddr; (· exact rfl); (· exact rfl); (· exact rfl); (· exact rfl); (· exact rfl); (· decide); (· exact sLk); (· exact sAdd)) | (apply V.extract; (· exact rfl); (· exact rfl); (· exact rfl)) | (apply V.not; (· exact rfl); (· exact rfl)) | (apply V.pickT; (· exact rfl); (· exact rfl); (· exact sTst); (· exact sLk)) | (apply V.pickF; (· exact rfl); (· exact rfl); (· exact sTst); (· exact sLk))) | (first | (apply V.add; (· exact rfl); (· exact rfl); (· exact rfl); (· exact sNum)) | (apply V.sub; (· exact rfl); (· exact rfl); (· exact rfl); (· exact sNum)) | (apply V.mul; (· exact rfl); (· exact rfl); (· exact rfl); (· exact sNum)) | (apply V.lss; (· exact rfl); (· exact rfl); (· exact rfl)) | (apply V.leq; (· exact rfl); (· exact rfl); (· exact rfl)) | (apply V.gtr; (· exact rfl); (· exact rfl); (· exact rfl)) | (apply V.geq; (· exact rfl); (· exact rfl); (· exact rfl)) | (apply V.eql; (· exact rfl); (· exact rfl); (· exact rfl))) | (first | (apply V.neq; (· exact rfl); (· exact rfl); (· exact rfl)) | (apply V.neqP; (· exact rfl); (· exact rfl); (· exact rfl); (· exact rfl)) | (apply V.eqlP; (· exact rfl); (· exact rfl); (· exact rfl); (· exact rfl)) | (apply V.eqlN; (· exact rfl); (· exact rfl); (· exact rfl); (· exact rfl)) | (apply V.neqN; (· exact rfl); (· exact rfl); (· exact rfl); (· exact rfl)) | (apply V.len; (· exact rfl); (· exact rfl); (· exact rfl); (· exact sMax)) | (apply V.conv; (· exact rfl); (· exact rfl); (· exact rfl); (· exact rfl); (· exact sNum)) | (apply V.shl8; (· exact rfl); (· exact rfl); (· exact rfl); (· exact sNum))) | (first | (apply V.shl; (· exact rfl); (· exact rfl); (· exact rfl); (· exact sOm); (· exact sNum)) | (apply V.shr; (· exact rfl); (· exact rfl); (· exact rfl); (· exact sOm); (· exact sNum)) | (apply V.quo; (· exact rfl); (· exact rfl); (· exact rfl); (· exact sOm); (· exact sQuo)) | (apply V.rem; (· exact rfl); (· exact rfl); (· exact rfl); (· exact sOm); (· exact sRem)) | (apply V.bits_; (· exact rfl); (· decide); (· exact rfl); (· exact rfl); (· exact sNum)) | (apply V.neg; (· exact rfl); (· exact rfl); (· exact sNum)) | (apply V.eqlS; (· exact rfl); (· exact rfl); (· exact rfl)) | (apply V.neqS; (· exact rfl); (· exact rfl); (· exact rfl))) | (first | (apply V.eqlB; (· exact rfl); (· exact rfl); (· exact rfl); (· exact rfl)) | (apply V.neqB; (· exact rfl); (· exact rfl); (· exact rfl); (· exact rfl)) | (apply V.max; (· exact rfl); (· exact rfl); (· exact rfl)) | (apply V.min; (· exact rfl); (· exact rfl); (· exact rfl)))) | (first | (first | (apply Y.load; (· exact rfl); (· exact rfl); (· exact rfl); (· exact rfl); (· exact sCell)) | (apply Y.indexAddr; (· exact rfl); (· exact rfl); (· exact rfl); (· exact sRdH); (· exact sJ); (· exact sOm); (· exact sAsm); (· exact sRfl); (· exact sRfl)) | (apply Y.loadElem; (· exact rfl); (· exact rfl); (· exact sRdH); rotate_left; (· exact sRfl); rotate_right; (· exact sAsm); (· exact sRfl)) | (apply Y.sliceArr; (· exact rfl); (· exact rfl); (· exact rfl); (· exact rfl)) | (apply Y.loadBlk; (· exact rfl); (· exact rfl); (· exact rfl); (· exact rfl); (· exact rfl); (· exact rfl); (· exact sHas); (· exact sSeg)) | (apply Y.loadPart; (· exact rfl); (· exact rfl); (· exact sRdH); rotate_left; (· exact sRfl); rotate_right; (· exact sAsm); (· exact rfl); (· exact rfl); (· exact rfl); (· exact rfl); (· exact sSeg)) | (apply Y.fieldL; (· exact rfl); (· exact rfl); (· exact rfl); (· exact rfl); (· exact rfl); (· exact rfl); (· exact rfl)) | (apply Y.fieldS; (· exact rfl); (· exact rfl); (· exact rfl); (· exact rfl); (· exact rfl); (· exact rfl); (· exact rfl); (· exact rfl); (· exact rfl); (· exact sSeg))) | (first | (apply Y.len; (· exact rfl); (· exact rfl); (· exact sRdH); (· exact sRfl)) | (apply Y.str; (· exact rfl); (· exact rfl); (· exact sRdH)) | (apply Y.sliceLo; (· exact rfl); (· exact rfl); (· exact rfl); (· exact sRdH); (· exact sJ); (· exact sOm); (· exact sOm); (· exact sRfl)) | (apply Y.sliceHi; (· exact rfl); (· exact rfl); (· exact rfl); (· exact sRdH); (· exact sJ); (· exact sOm); (· exact sOm); (· exact sRfl)) | (apply Y.sliceHiMax; (· exact rfl); (· exact rfl); (· exact rfl); (· exact rfl); (· exact sRdH); (· exact sJ); (· exact sOm); (· exact sJ); (· exact sOm); (· exact sOm); (· exact sOm); (· exact sRfl)) | (apply Y.sliceLoHi; (· exact rfl); (· exact rfl); (· exact rfl); (· exact rfl); (· exact sRdH); (· exact sJ); (· exact sOm); (· exact sJ); (· exact sOm); (· exact sOm); (· exact sOm); (· exact sRfl)) | (apply Y.strLen; (· exact rfl); (· exact rfl); (· exact rfl); (· exact sMax)) | (apply Y.indexStr; (· exact rfl); (· exact rfl); (· exact rfl); (· exact rfl); (· exact sJ); (· exact sOm); (· exact sAsm))) | (first | (apply Y.build; (· exact rfl); (· exact sPv); (· exact rec_Reader); (· exact sFil))))) : Yld P E H ρ o v := h
theorem sSOct {P : Program} {N : Nat} {E : Env} {F : Nat → Value} {H : List Asn} {o : Oper} {K : Value → List Asn → Prop} (h : Stp P N E F H o K := by first | (first | (apply S.boxK; (· exact rfl); (· exact sLk); (· exact sCel)) | (apply S.append1K; (· exact rfl); (· exact rfl); (· exact rfl); (· exact rfl); (· exact sNN); (· exact (fun _ _ => sRepl)); (· exact sNL); (· exact sRfl); (· first | (conv => lhs; simp only [octT]) | rfl); (· exact sOm); (· exact sOm)) | (apply S.appendK; (· exact rfl); (· exact rfl); (· exact rfl); (· exact sNN); (· exact (fun _ _ => sRepl)); (· exact sRdH); (· exact sNL); (· exact sRfl); (· first | (conv => lhs; simp only [octT]) | rfl); (· exact sOm); (· exact sOm)) | (apply S.appendNilK; (· exact rfl); (· exact rfl); (· exact rfl); (· exact sRdH); (· exact sRfl); (· first | (conv => lhs; simp only [octT]) | rfl); (· exact sOm); (· exact sOm)) | (apply (S.buildSliceK (T := octT) (l := [])); (· exact rfl); (· exact rfl); (· exact rfl); (· exact rfl); (· decide)) | (apply (S.buildSlice1K (T := octT)); (· exact rfl); (· exact sLk); (· first | rfl | (with_reducible exact octT_val _ sOm sOm)); (· exact rfl); (· decide)) | (apply (S.storeEK (T := octT)); (· exact rfl); (· exact rfl); (· exact sLk); (· exact sRepl); rotate_left; (· exact sRfl); rotate_right; (· exact sAsm); (· first | rfl | (with_reducible exact octT_val _ sOm sOm)); (· exact sRfl)) | (apply S.allocK; (· exact rfl); (· exact rec_Reader.zero))) | (first | (apply (S.makeSliceK (T := octT) (z := octT_z)); (· exact rfl); (· exact rfl); (· exact rfl); (· exact sJ); (· exact sOm); (· exact rfl); (· exact rfl); (· first | (conv => lhs; simp only [octT]) | rfl); (· exact sOm); (· exact sOm)) | (apply S.storeAggK; (· exact rfl); (· exact rfl); (· exact sLk); (· exact rfl); (· exact rfl); (· exact rfl); (· exact sRepl); (· exact sPut)) | (apply S.copyInK; (· exact rfl); (· exact rfl); (· exact rfl); (· exact sAsm); (· exact sRepl); (· exact sRdH); rotate_left; (· exact rfl); rotate_right; (· exact sAsm); (· exact sOm); (· exact sAsm); (· exact rfl); (· exact sMax)) | (apply S.store1K; (· exact rfl); (· exact rfl); (· exact sLk); (· exact sRfl); (· exact rfl); (· exact rfl); (· exact sRepl); (· exact sLn); (· exact sSetL)))) : Stp P N E F H o K := h
theorem wOct {p q : Prop} (hq : q) (h : Box q → p := by intro h; (first | (focus (apply L.val; (· decide); (· exact sYOct))) | refine C.seq ?_ | refine C.region ?_ | refine L.nil ?_ | refine C.block ?_ | refine C.exit ?_ | refine C.skip ?_ | refine C.ret ?_ | (focus (apply L.on; (· exact rfl); (· decide); (· exact rfl); (· exact sTst))) | (focus (apply L.off; (· decide); (· exact rfl); (· decide); (· exact rfl); (· exact sTst))) | (focus (apply L.offU; (· decide); (· exact rfl); (· decide); (· exact rfl))) | (focus (apply C.condT; (· exact rfl); (· exact sTst))) | (focus (apply C.condF; (· exact rfl); (· exact sTst))) | refine Dr.done ?_ | refine DrA.done ?_ | (focus (apply DrA.take; (· exact rfl); (· decide); (· exact sGon); (· exact sYOct))) | (focus (apply Dr.take; (· exact rfl); (· decide); (· exact sGon); (· exact sYOct))) | (focus (apply Dr.skip; (· exact rfl); (· decide); (· exact sGoff))) | (focus (apply Dr.goSkip; (· exact rfl); (· decide); (· exact sGoff))) | with_reducible refine T.n ?_ | with_reducible refine T.ret ?_ | with_reducible refine T.exit ?_ | with_reducible refine I.n ?_ | with_reducible refine I.ret ?_ | with_reducible refine I.hit ?_ | with_reducible refine I.miss (by decide) ?_); (repeat (first | (focus (apply L.val; (· decide); (· exact sYOct))) | refine C.seq ?_ | refine C.region ?_ | refine L.nil ?_ | refine C.block ?_ | refine C.exit ?_ | refine C.skip ?_ | refine C.ret ?_ | (focus (apply L.on; (· exact rfl); (· decide); (· exact rfl); (· exact sTst))) | (focus (apply L.off; (· decide); (· exact rfl); (· decide); (· exact rfl); (· exact sTst))) | (focus (apply L.offU; (· decide); (· exact rfl); (· decide); (· exact rfl))) | (focus (apply C.condT; (· exact rfl); (· exact sTst))) | (focus (apply C.condF; (· exact rfl); (· exact sTst))) | refine Dr.done ?_ | refine DrA.done ?_ | (focus (apply DrA.take; (· exact rfl); (· decide); (· exact sGon); (· exact sYOct))) | (focus (apply Dr.take; (· exact rfl); (· decide); (· exact sGon); (· exact sYOct))) | (focus (apply Dr.skip; (· exact rfl); (· decide); (· exact sGoff))) | (focus (apply Dr.goSkip; (· exact rfl); (· decide); (· exact sGoff))) | with_reducible refine T.n ?_ | with_reducible refine T.ret ?_ | with_reducible refine T.exit ?_ | with_reducible refine I.n ?_ | with_reducible refine I.ret ?_ | with_reducible refine I.hit ?_ | with_reducible refine I.miss (by decide) ?_)); exact h.out) : p := h ⟨hq⟩
theorem vOct {p q : Prop} (hq : q) (h : Box q → p := by intro h; (first | (focus (apply L.val; (· decide); (· exact sYOct))) | refine C.seq ?_ | refine C.region ?_ | refine L.nil ?_ | refine C.block ?_ | refine C.exit ?_ | refine C.skip ?_ | refine C.ret ?_ | (focus (apply L.on; (· exact rfl); (· decide); (· exact rfl); (· exact sTst))) | (focus (apply L.off; (· decide); (· exact rfl); (· decide); (· exact rfl); (· exact sTst))) | (focus (apply L.offU; (· decide); (· exact rfl); (· decide); (· exact rfl))) | (focus (apply C.condT; (· exact rfl); (· exact sTst))) | (focus (apply C.condF; (· exact rfl); (· exact sTst))) | refine Dr.done ?_ | refine DrA.done ?_ | (focus (apply DrA.take; (· exact rfl); (· decide); (· exact sGon); (· exact sYOct))) | (focus (apply Dr.take; (· exact rfl); (· decide); (· exact sGon); (· exact sYOct))) | (focus (apply Dr.skip; (· exact rfl); (· decide); (· exact sGoff))) | (focus (apply Dr.goSkip; (· exact rfl); (· decide); (· exact sGoff))) | with_reducible refine T.n ?_ | with_reducible refine T.ret ?_ | with_reducible refine T.exit ?_ | with_reducible refine I.n ?_ | with_reducible refine I.ret ?_ | with_reducible refine I.hit ?_ | with_reducible refine I.miss (by decide) ?_); exact h.out) : p := h ⟨hq⟩
theorem kOct {p q : Prop} (hq : q) (h : Box q → p := by intro h; first | (apply L.stepK; (· decide); (· exact sSOct); exact h.out) | (apply L.step0K; (· exact sSOct); exact h.out) | (apply Dr.goZ; (· exact rfl); (· rintro k ⟨⟩ <;> decide); (· exact sGon); (· exact sSOct); exact h.out) | (apply Dr.goZs; (· exact rfl); (· rintro k ⟨⟩ <;> decide); (· exact sGon); (· exact sSOct); exact h.out) | (apply Go1.goK; (· exact rfl); (· rintro k ⟨⟩ <;> decide); (· exact sGon); (· exact sSOct); exact h.out) | (apply Dr.goK; (· exact rfl); (· rintro k ⟨⟩ <;> decide); (· exact sGon); (· exact sSOct); exact h.out)) : p := h ⟨hq⟩
def adr (g : Nat) : Value := .pointer (some ⟨g, 0, none⟩)
/-- what is read next: the octets, if there are so many; is it bad then; what is left -/
def nx (bad : Bool) (l : List UInt8) (n : Int) : Option (List UInt8) × Bool × List UInt8 :=
  if bad then (none, true, l) else if n < 0 ∨ (l.length : Int) < n then (none, true, l) else (some (l.take n.toNat), false, l.drop n.toNat)
def wid (k : Int) : Int := if k < 1 ∨ 8 < k then -1 else k
abbrev rdr (g : Nat) (made bad : Bool) (A : Option Addr) (n c : Nat) : Asn := blk g 90 [.bool made, .bool bad, .slice A n c]
/-- whoever reads l there reads l' here -/
def Also (A : Option Addr) (n c : Nat) (l : List UInt8) (A' : Option Addr) (n' c' : Nat) (l' : List UInt8) : Prop := ∀ E, Rd E octT A n c l → Rd E octT A' n' c' l'
theorem Also.refl {A : Option Addr} {n c : Nat} {l : List UInt8} : Also A n c l A n c l := fun _ h => h
theorem Also.trans {A B C : Option Addr} {n c m d p q : Nat} {l l' l'' : List UInt8} (h : Also A n c l B m d l') (k : Also B m d l' C p q l'') : Also A n c l C p q l'' := fun E x => k E (h E x)

theorem new_any (E : Env) (A : Option Addr) (n c : Nat) (l : List UInt8) (hr : Rd E octT A n c l) (hl : n ≤ 140737488355300) :
    Tri Try.prog E 17 #[.slice A n c] [] fun e H' => ∃ g A' c', e = .returned (adr g) ∧ n ≤ c' ∧ c' ≤ maxLen ∧ H' = [rdr g true false A' n c', own octT A' n c' l] := by
  refine tri Try.func17 rfl Try.ntmps17 (by simp) ?_
  repeat (first | refine wOct ?_ | (refine kOct ?_; (first | rintro _ _ ⟨rfl, rfl⟩ | rintro _ _ ⟨_, rfl, rfl⟩ | rintro _ _ ⟨_, _, ⟨_, _⟩, rfl, rfl⟩); try refine ⟨sConv, ?_⟩) | refine Dr.two ?_ ?_)
  exact ret1 rfl sRet sConv (⟨_, _, _, rfl, by assumption, by assumption, rfl⟩)

theorem fine_any (E : Env) (g : Nat) (made bad : Bool) (A : Option Addr) (n c : Nat) :
    Tri Try.prog E 71 #[adr g] [rdr g made bad A n c] fun e H' => e = .returned (.bool (made && !bad)) ∧ H' = [rdr g made bad A n c] := by
  unfold adr
  refine tri Try.func71 rfl Try.ntmps71 (by simp) ?_
  cases made
  all_goals
    repeat (first | refine wOct ?_ | (refine kOct ?_; (first | rintro _ _ ⟨rfl, rfl⟩ | rintro _ _ ⟨_, rfl, rfl⟩ | rintro _ _ ⟨_, _, ⟨_, _⟩, rfl, rfl⟩); try refine ⟨sConv, ?_⟩) | refine Dr.two ?_ ?_)
    exact ret1 rfl sRet sConv (⟨rfl, rfl⟩)
theorem fine_nil (E : Env) : Tri Try.prog E 71 #[.pointer none] [] fun e H' => e = .returned (.bool false) ∧ H' = [] := by
  refine tri Try.func71 rfl Try.ntmps71 (by simp) ?_
  repeat (first | refine wOct ?_ | (refine kOct ?_; (first | rintro _ _ ⟨rfl, rfl⟩ | rintro _ _ ⟨_, rfl, rfl⟩ | rintro _ _ ⟨_, _, ⟨_, _⟩, rfl, rfl⟩); try refine ⟨sConv, ?_⟩) | refine Dr.two ?_ ?_)
  exact ret1 rfl sRet sConv (⟨rfl, rfl⟩)

/-- what next answers -/
def NextPost (g : Nat) (A : Option Addr) (n c : Nat) (l : List UInt8) (r : Option (List UInt8) × Bool × List UInt8) (e : Ending) (H' : List Asn) : Prop :=
  ∃ A' n' c', H' = [rdr g true r.2.1 A' n' c'] ∧ Also A n c l A' n' c' r.2.2 ∧
    match r.1 with
    | none => e = .returned (.tuple #[.slice none 0 0, .bool false])
    | some x => ∃ B m d, e = .returned (.tuple #[.slice B m d, .bool true]) ∧ Also A n c l B m d x
theorem next_any (E : Env) (g : Nat) (bad : Bool) (A : Option Addr) (n c : Nat) (l : List UInt8) (k : Int) (hr : Rd E octT A n c l) :
    Tri Try.prog E 69 #[adr g, .int .i64 k] [rdr g true bad A n c] (NextPost g A n c l (nx bad l k)) := by
  have hlen := hr.len
  have hcap := hr.cap
  unfold adr
  refine tri Try.func69 rfl Try.ntmps69 (by simp) ?_
  repeat (first | refine wOct ?_ | (refine kOct ?_; (first | rintro _ _ ⟨rfl, rfl⟩ | rintro _ _ ⟨_, rfl, rfl⟩ | rintro _ _ ⟨_, _, ⟨_, _⟩, rfl, rfl⟩); try refine ⟨sConv, ?_⟩) | refine Dr.two ?_ ?_)
  refine L.step (by decide) (S.call rfl rfl Try.func71 (by kernel_rfl) rfl sPicks (fun E' hE => fine_any E' g true bad A n c) ?_)
  rintro e H' ⟨rfl, rfl⟩
  refine ⟨_, rfl, _, sCat, ?_⟩
  cases bad
  · by_cases hk : k < 0 ∨ (n : Int) < k
    · have hx : nx false l k = (none, true, l) := by simp [nx, ← hlen, hk]
      rw [hx]
      rcases hk with hk | hk
      · repeat (first | refine wOct ?_ | (refine kOct ?_; (first | rintro _ _ ⟨rfl, rfl⟩ | rintro _ _ ⟨_, rfl, rfl⟩ | rintro _ _ ⟨_, _, ⟨_, _⟩, rfl, rfl⟩); try refine ⟨sConv, ?_⟩) | refine Dr.two ?_ ?_)
        exact ret2 rfl sRet sRet sConv (⟨_, _, _, rfl, .refl, rfl⟩)
      · by_cases hk0 : k < 0
        all_goals
          repeat (first | refine wOct ?_ | (refine kOct ?_; (first | rintro _ _ ⟨rfl, rfl⟩ | rintro _ _ ⟨_, rfl, rfl⟩ | rintro _ _ ⟨_, _, ⟨_, _⟩, rfl, rfl⟩); try refine ⟨sConv, ?_⟩) | refine Dr.two ?_ ?_)
          exact ret2 rfl sRet sRet sConv (⟨_, _, _, rfl, .refl, rfl⟩)
    · have hx : nx false l k = (some (l.take k.toNat), false, l.drop k.toNat) := by simp [nx, ← hlen, hk]
      rw [hx]
      obtain ⟨k, rfl⟩ := Int.eq_ofNat_of_zero_le (show 0 ≤ k by omega)
      rw [Int.toNat_natCast]
      repeat (first | refine wOct ?_ | (refine kOct ?_; (first | rintro _ _ ⟨rfl, rfl⟩ | rintro _ _ ⟨_, rfl, rfl⟩ | rintro _ _ ⟨_, _, ⟨_, _⟩, rfl, rfl⟩); try refine ⟨sConv, ?_⟩) | refine Dr.two ?_ ?_)
      exact ret2 rfl sRet sRet sConv (⟨_, _, _, rfl, fun E h => h.from_ (by omega), _, _, _, rfl, fun E h => h.upto (by omega) (by omega) (by omega)⟩)
  · have hx : nx true l k = (none, true, l) := rfl
    rw [hx]
    repeat (first | refine wOct ?_ | (refine kOct ?_; (first | rintro _ _ ⟨rfl, rfl⟩ | rintro _ _ ⟨_, rfl, rfl⟩ | rintro _ _ ⟨_, _, ⟨_, _⟩, rfl, rfl⟩); try refine ⟨sConv, ?_⟩) | refine Dr.two ?_ ?_)
    exact ret2 rfl sRet sRet sConv (⟨_, _, _, rfl, .refl, rfl⟩)

/-! ### Take, Bytes -/
/-- what Take answers -/
def tk : Option (List UInt8) → Value
  | none => .tuple #[.int .u64 0, .bool false]
  | some x => .tuple #[.int .u64 (get x : Nat), .bool true]
def TakePost (g : Nat) (A : Option Addr) (n c : Nat) (l : List UInt8) (r : Option (List UInt8) × Bool × List UInt8) (e : Ending) (H' : List Asn) : Prop :=
  ∃ A' n' c', H' = [rdr g true r.2.1 A' n' c'] ∧ Also A n c l A' n' c' r.2.2 ∧ e = .returned (tk r.1)
theorem shl_or (s x : Nat) (hs : s < 256 ^ 7) (hx : x < 256) : Go.bits .or .u64 ((s : Int) * 256) (x : Int) = ((s * 256 + x : Nat) : Int) := by
  have e : (s : Int) * 256 = ((s * 256 : Nat) : Int) := by omega
  rw [e, u64_or_nat _ _ (by omega) (by omega), nat_join 8 _ _ (by omega) (by omega)]
theorem nx_width {bad : Bool} {l x : List UInt8} {k : Int} (h : (nx bad l k).1 = some x) : 0 ≤ k ∧ (x.length : Int) = k := by
  unfold nx at h
  split at h
  · cases h
  · split at h
    · cases h
    · injection h with h
      subst h
      rw [List.length_take]
      omega
theorem wid_le (k : Int) : wid k ≤ 8 := by unfold wid; split <;> omega
theorem get_take_lt {x : List UInt8} {k : Nat} (hk : k < x.length) (h8 : x.length ≤ 8) : get (x.take k) < 256 ^ 7 := by
  have h1 := get_lt (x.take k)
  refine Nat.lt_of_lt_of_le h1 (Nat.pow_le_pow_right (by omega) ?_)
  rw [List.length_take]; omega
theorem get_take_succ {x : List UInt8} {k : Nat} (hk : k < x.length) : get (x.take (k + 1)) = get (x.take k) * 256 + x[k].toNat := by
  rw [List.take_succ_eq_append_getElem hk, get_snoc]
theorem take_any (E : Env) (g : Nat) (bad : Bool) (A : Option Addr) (n c : Nat) (l : List UInt8) (k : Int) (hr : Rd E octT A n c l) :
    Tri Try.prog E 41 #[adr g, .int .i64 k] [rdr g true bad A n c] (TakePost g A n c l (nx bad l (wid k))) := by
  have hw : wid k = if k < 1 ∨ 8 < k then -1 else k := rfl
  have hw8 := wid_le k
  refine tri Try.func41 rfl Try.ntmps41 (by simp) ?_
  iterate 5 (first | refine vOct ?_ | (refine kOct ?_; (first | rintro _ _ ⟨rfl, rfl⟩ | rintro _ _ ⟨_, rfl, rfl⟩ | rintro _ _ ⟨_, _, ⟨_, _⟩, rfl, rfl⟩); try refine ⟨sConv, ?_⟩) | refine Dr.two ?_ ?_)
  refine C.cut (X := Unit) (fun _ => [(0, adr g), (1, .int .i64 (wid k))]) (fun _ => [rdr g true bad A n c]) (fun _ => True) ?_ ?_
  · by_cases h1 : k < 1
    · rw [if_pos (.inl h1)] at hw
      rw [hw]
      repeat (first | refine wOct ?_ | (refine kOct ?_; (first | rintro _ _ ⟨rfl, rfl⟩ | rintro _ _ ⟨_, rfl, rfl⟩ | rintro _ _ ⟨_, _, ⟨_, _⟩, rfl, rfl⟩); try refine ⟨sConv, ?_⟩) | refine Dr.two ?_ ?_)
      exact ⟨(), sHolds, Conv.refl, trivial⟩
    · by_cases h8 : 8 < k
      · rw [if_pos (.inr h8)] at hw
        rw [hw]
        repeat (first | refine wOct ?_ | (refine kOct ?_; (first | rintro _ _ ⟨rfl, rfl⟩ | rintro _ _ ⟨_, rfl, rfl⟩ | rintro _ _ ⟨_, _, ⟨_, _⟩, rfl, rfl⟩); try refine ⟨sConv, ?_⟩) | refine Dr.two ?_ ?_)
        exact ⟨(), sHolds, Conv.refl, trivial⟩
      · rw [if_neg (by omega)] at hw
        rw [hw]
        repeat (first | refine wOct ?_ | (refine kOct ?_; (first | rintro _ _ ⟨rfl, rfl⟩ | rintro _ _ ⟨_, rfl, rfl⟩ | rintro _ _ ⟨_, _, ⟨_, _⟩, rfl, rfl⟩); try refine ⟨sConv, ?_⟩) | refine Dr.two ?_ ?_)
        exact ⟨(), sHolds, Conv.refl, trivial⟩
  · rintro - G -
    clear hw
    repeat (first | refine wOct ?_ | (refine kOct ?_; (first | rintro _ _ ⟨rfl, rfl⟩ | rintro _ _ ⟨_, rfl, rfl⟩ | rintro _ _ ⟨_, _, ⟨_, _⟩, rfl, rfl⟩); try refine ⟨sConv, ?_⟩) | refine Dr.two ?_ ?_)
    refine L.step (by decide) (S.call rfl rfl Try.func69 (by kernel_rfl) rfl sPicks (fun E' hE => next_any E' g bad A n c l (wid k) sRd) ?_)
    rintro e H' ⟨A', n', c', rfl, hal, he⟩
    obtain ⟨B, m, d, x, ok, rfl, hB, hx, htk⟩ : ∃ B m d x ok, e = .returned (.tuple #[.slice B m d, .bool ok]) ∧ Rd E octT B m d x ∧ x.length ≤ 8 ∧ tk (nx bad l (wid k)).1 = .tuple #[.int .u64 (get x : Nat), .bool ok] := by
      cases hq : (nx bad l (wid k)).1 with
      | none => rw [hq] at he; exact ⟨none, 0, 0, [], false, he, Rd.nil _ _, by simp, rfl⟩
      | some x =>
        rw [hq] at he
        obtain ⟨B, m, d, he, hB⟩ := he
        have := nx_width hq
        exact ⟨B, m, d, x, true, he, hB _ hr, by omega, rfl⟩
    have hm := hB.len
    refine ⟨_, rfl, _, sCat, ?_⟩
    repeat (first | refine wOct ?_ | (refine kOct ?_; (first | rintro _ _ ⟨rfl, rfl⟩ | rintro _ _ ⟨_, rfl, rfl⟩ | rintro _ _ ⟨_, _, ⟨_, _⟩, rfl, rfl⟩); try refine ⟨sConv, ?_⟩) | refine Dr.two ?_ ?_)
    refine C.loop (X := Nat) (fun i => [(7, .bool ok), (8, .int .u64 (get (x.take i) : Nat)), (23, .slice B m d), (24, .int .i64 m), (25, .int .i64 i)]) (fun _ => [rdr g true (nx bad l (wid k)).2.1 A' n' c']) (fun i => i ≤ m) (fun i => m - i) 0 sHolds Conv.refl (Nat.zero_le _) ?_
    rintro i G hi
    by_cases hlt : i < m
    · have hxi : x[i]? = some x[i] := List.getElem?_eq_getElem (by omega)
      have hb := UInt8.toNat_lt x[i]
      have hg := get_take_lt (k := i) (by omega) hx
      have e3 : Go.bits .or .u64 ((Oct.get (x.take i) : Nat) * 256) (x[i].toNat : Int) = ((Oct.get (x.take (i + 1)) : Nat) : Int) := by rw [shl_or _ _ hg (by omega), get_take_succ (by omega)]
      repeat (first | refine wOct ?_ | (refine kOct ?_; (first | rintro _ _ ⟨rfl, rfl⟩ | rintro _ _ ⟨_, rfl, rfl⟩ | rintro _ _ ⟨_, _, ⟨_, _⟩, rfl, rfl⟩); try refine ⟨sConv, ?_⟩) | refine Dr.two ?_ ?_)
      exact ⟨i + 1, sHolds, Conv.refl, by omega, by omega⟩
    · repeat (first | refine wOct ?_ | (refine kOct ?_; (first | rintro _ _ ⟨rfl, rfl⟩ | rintro _ _ ⟨_, rfl, rfl⟩ | rintro _ _ ⟨_, _, ⟨_, _⟩, rfl, rfl⟩); try refine ⟨sConv, ?_⟩) | refine Dr.two ?_ ?_)
      obtain rfl : i = m := by omega
      have ex : x.take i = x := List.take_of_length_le (by omega)
      rw [ex]
      exact ret2 rfl sRet sRet sConv (⟨_, _, _, rfl, hal, by rw [htk]⟩)
end Go.Proofs.Ytihblcljkndpgaa.Sep
