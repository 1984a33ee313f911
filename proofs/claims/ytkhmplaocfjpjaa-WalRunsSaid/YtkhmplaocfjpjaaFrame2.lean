/- frames that follow one another, and the document's, by parts of memory. -/
import Derived.Test.YtkhmplaocfjpjaaFrame
namespace Go.Proofs.Ytkhmplaocfjpjaa.Sep
open Go.RowKit Go.Proofs.Ytkhmplaocfjpjaa.Reg Go.Proofs.Ytkhmplaocfjpjaa.Oct Go.Proofs.Ytkhmplaocfjpjaa.Frm
open Go.Proofs.Ytkhmplaocfjpjaa.Mem hiding Rd Own
-- types: octT slT
-- recs: rec_Reader
set_option maxRecDepth 100000
set_option maxHeartbeats 8000000
theorem sYFr2 {P : Program} {E : Env} {H : List Asn} {ρ : Operand → Value} {o : Oper} {v : Value} (h : Yld P E H ρ o v := by first | (intro _ _; first | (first | (apply V.move; (· exact rfl); (· exact sLk)) | (apply V.assign; (· exact rfl); (· exact sLk)) | (apply V.nilCheck; (· exact rfl); (· exact rfl)) | (apply V.fieldAddr; (· exact rfl); (· exact rfl); (· exact rfl); (· exact rfl); (· exact rfl); (· decide); (· exact sLk); (· exact sAdd)) | (apply V.extract; (· exact rfl); (· exact rfl); (· exact rfl)) | (apply V.not; (· exact rfl); (· exact rfl)) | (apply V.pickT; (· exact rfl); (· exact rfl); (· exact sTst); (· exact sLk)) | (apply V.pickF; (· exact rfl); (· exact rfl); (· exact sTst); (· exact sLk))) | (first | (apply V.add; (· exact rfl); (· exact rfl); (· exact rfl); (· exact sNum)) | (apply V.sub; (· exact rfl); (· exact rfl); (· exact rfl); (· exact sNum)) | (apply V.mul; (· exact rfl); (· exact rfl); (· exact rfl); (· exact sNum)) | (apply V.lss; (· exact rfl); (· exact rfl); (· exact rfl)) | (apply V.leq; (· exact rfl); (· exact rfl); (· exact rfl)) | (apply V.gtr; (· exact rfl); (· exact rfl); (· exact rfl)) | (apply V.geq; (· exact rfl); (· exact rfl); (· exact rfl)) | (apply V.eql; (· exact rfl); (· exact rfl); (· exact rfl))) | (first | (apply V.neq; (· exact rfl); (· exact rfl); (· exact rfl)) | (apply V.neqP; (· exact rfl); (· exact rfl); (· exact rfl); (· exact rfl)) | (apply V.eqlP; (· exact rfl); (· exact rfl); (· exact rfl); (· exact rfl)) | (apply V.eqlN; (· exact rfl); (· exact rfl); (· exact rfl); (· exact rfl)) | (apply V.neqN; (· exact rfl); (· exact rfl); (· exact rfl); (· exact rfl)) | (apply V.len; (· exact rfl); (· exact rfl); (· exact rfl); (· exact sMax)) | (apply V.conv; (· exact rfl); (· exact rfl); (· exact rfl); (· exact rfl); (· exact sNum)) | (apply V.shl8; (· exact rfl); (· exact rfl); (· exact rfl); (· exact sNum))) | (first | (apply V.shl; (· exact rfl); (· exact rfl); (· exact rfl); (· exact sOm); (· exact sNum)) | (apply V.shr; (· exact rfl); (· exact rfl); (· exact rfl); (· exact sOm); (· exact sNum)) | (apply V.quo; (· exact rfl); (· exact rfl); (· exact rfl); (· exact sOm); (· exact sQuo)) | (apply V.rem; (· exact rfl); (· exact rfl); (· exact rfl); (· exact sOm); (· exact sRem)) | (apply V.bits_; (· exact rfl); (· decide); (· exact rfl); (· exact rfl); (· exact sNum)) | (apply V.neg; (· exact rfl); (· exact rfl); (· exact sNum)) | (apply V.eqlS; (· exact rfl); (· exact rfl); (· exact rfl)) | (apply V.neqS; (· exact rfl); (· exact rfl); (· exact rfl))) | (first | (apply V.eqlB; (· exact rfl); (· exact rfl); (· exact rfl); (· exact rfl)) | (apply V.neqB; (· exact rfl); (· exact rfl); (· exact rfl); (· exact rfl)) | (apply V.max; (· exact rfl); (· exact rfl); (· exact rfl)) | (apply V.min; (· exact rfl); (· exact rfl); (· exact rfl)))) | (first | (first | (apply Y.load; (· exact rfl); (· exact rfl); (· exact rfl); (· exact rfl); (· exact sCell)) | (apply Y.indexAddr; (· exact rfl); (· exact rfl); (· exact rfl); (· exact sRdH); (· exact sJ); (· exact sOm); (· exact sAsm); (· exact sRfl); (· exact sRfl)) | (apply Y.loadElem; (· exact rfl); (· exact rfl); (· exact sRdH); rotate_left; (· exact sRfl); rotate_right; (· exact sAsm); (· exact sRfl)) | (apply Y.sliceArr; (· exact rfl); (· exact rfl); (· exact rfl); (· exact rfl)) | (apply Y.loadBlk; (· exact rfl); (· exact rfl); (· exact rfl); (· exact rfl); (· exact rfl); (· exact rfl); (· exact sHas); (· exact sSeg)) | (apply Y.loadPart; (· exact rfl); (· exact rfl); (· exact sRdH); rotate_left; (· exact sRfl); rotate_right; (· exact sAsm); (· exact rfl); (· exact rfl); (· exact rfl); (· exact rfl); (· exact sSeg)) | (apply Y.fieldL; (· exact rfl); (· exact rfl); (· exact rfl); (· exact rfl); (· exact rfl); (· exact rfl); (· exact rfl)) | (apply Y.fieldS; (· exact rfl); (· exact rfl); (· exact rfl); (· exact rfl); (· exact rfl); (· exact rfl); (· exact rfl); (· exact rfl); (· exact rfl); (· exact sSeg))) | (first | (apply Y.len; (· exact rfl); (· exact rfl); (· exact sRdH); (· exact sRfl)) | (apply Y.str; (· exact rfl); (· exact rfl); (· exact sRdH)) | (apply Y.sliceLo; (· exact rfl); (· exact rfl); (· exact rfl); (· exact sRdH); (· exact sJ); (· exact sOm); (· exact sOm); (· exact sRfl)) | (apply Y.sliceHi; (· exact rfl); (· exact rfl); (· exact rfl); (· exact sRdH); (· exact sJ); (· exact sOm); (· exact sOm); (· exact sRfl)) | (apply Y.sliceHiMax; (· exact rfl); (· exact rfl); (· exact rfl); (· exact rfl); (· exact sRdH); (· exact sJ); (· exact sOm); (· exact sJ); (· exact sOm); (· exact sOm); (· exact sOm); (· exact sRfl)) | (apply Y.sliceLoHi; (· exact rfl); (· exact rfl); (· exact rfl); (· exact rfl); (· exact sRdH); (· exact sJ); (· exact sOm); (· exact sJ); (· exact sOm); (· exact sOm); (· exact sOm); (· exact sRfl)) | (apply Y.strLen; (· exact rfl); (· exact rfl); (· exact rfl); (· exact sMax)) | (apply Y.indexStr; (· exact rfl); (· exact rfl); (· exact rfl); (· exact rfl); (· exact sJ); (· exact sOm); (· exact sAsm))) | (first | (apply Y.build; (· exact rfl); (· exact sPv); (· exact rec_Reader); (· exact sFil))))) : Yld P E H ρ o v := h
theorem sSFr2 {P : Program} {N : Nat} {E : Env} {F : Nat → Value} {H : List Asn} {o : Oper} {K : Value → List Asn → Prop} (h : Stp P N E F H o K := by first | (first | (apply S.boxK; (· exact rfl); (· exact sLk); (· exact sCel)) | (apply S.append1K; (· exact rfl); (· exact rfl); (· exact rfl); (· exact rfl); (· exact sNN); (· exact (fun _ _ => sRepl)); (· exact sNL); (· exact sRfl); (· first | (conv => lhs; simp only [octT, slT]) | rfl); (· exact sOm); (· exact sOm)) | (apply S.appendK; (· exact rfl); (· exact rfl); (· exact rfl); (· exact sNN); (· exact (fun _ _ => sRepl)); (· exact sRdH); (· exact sNL); (· exact sRfl); (· first | (conv => lhs; simp only [octT, slT]) | rfl); (· exact sOm); (· exact sOm)) | (apply S.appendNilK; (· exact rfl); (· exact rfl); (· exact rfl); (· exact sRdH); (· exact sRfl); (· first | (conv => lhs; simp only [octT, slT]) | rfl); (· exact sOm); (· exact sOm)) | (apply (S.buildSliceK (T := octT) (l := [])); (· exact rfl); (· exact rfl); (· exact rfl); (· exact rfl); (· decide)) | (apply (S.buildSlice1K (T := octT)); (· exact rfl); (· exact sLk); (· first | rfl | (with_reducible exact octT_val _ sOm sOm)); (· exact rfl); (· decide)) | (apply (S.buildSliceK (T := slT) (l := [])); (· exact rfl); (· exact rfl); (· exact rfl); (· exact rfl); (· decide)) | (apply (S.buildSlice1K (T := slT)); (· exact rfl); (· exact sLk); (· first | rfl | (with_reducible exact slT_val _ sOm sOm)); (· exact rfl); (· decide))) | (first | (apply (S.storeEK (T := octT)); (· exact rfl); (· exact rfl); (· exact sLk); (· exact sRepl); rotate_left; (· exact sRfl); rotate_right; (· exact sAsm); (· first | rfl | (with_reducible exact octT_val _ sOm sOm)); (· exact sRfl)) | (apply (S.storeEK (T := slT)); (· exact rfl); (· exact rfl); (· exact sLk); (· exact sRepl); rotate_left; (· exact sRfl); rotate_right; (· exact sAsm); (· first | rfl | (with_reducible exact slT_val _ sOm sOm)); (· exact sRfl)) | (apply S.allocK; (· exact rfl); (· exact rec_Reader.zero)) | (apply (S.makeSliceK (T := octT) (z := octT_z)); (· exact rfl); (· exact rfl); (· exact rfl); (· exact sJ); (· exact sOm); (· exact rfl); (· exact rfl); (· first | (conv => lhs; simp only [octT, slT]) | rfl); (· exact sOm); (· exact sOm)) | (apply (S.makeSliceK (T := slT) (z := slT_z)); (· exact rfl); (· exact rfl); (· exact rfl); (· exact sJ); (· exact sOm); (· exact rfl); (· exact rfl); (· first | (conv => lhs; simp only [octT, slT]) | rfl); (· exact sOm); (· exact sOm)) | (apply S.storeAggK; (· exact rfl); (· exact rfl); (· exact sLk); (· exact rfl); (· exact rfl); (· exact rfl); (· exact sRepl); (· exact sPut)) | (apply S.copyInK; (· exact rfl); (· exact rfl); (· exact rfl); (· exact sAsm); (· exact sRepl); (· exact sRdH); rotate_left; (· exact rfl); rotate_right; (· exact sAsm); (· exact sOm); (· exact sAsm); (· exact rfl); (· exact sMax)) | (apply S.store1K; (· exact rfl); (· exact rfl); (· exact sLk); (· exact sRfl); (· exact rfl); (· exact rfl); (· exact sRepl); (· exact sLn); (· exact sSetL)))) : Stp P N E F H o K := h
theorem wFr2 {p q : Prop} (hq : q) (h : Box q → p := by intro h; (first | (focus (apply L.val; (· decide); (· exact sYFr2))) | refine C.seq ?_ | refine C.region ?_ | refine L.nil ?_ | refine C.block ?_ | refine C.exit ?_ | refine C.skip ?_ | refine C.ret ?_ | (focus (apply L.on; (· exact rfl); (· decide); (· exact rfl); (· exact sTst))) | (focus (apply L.off; (· decide); (· exact rfl); (· decide); (· exact rfl); (· exact sTst))) | (focus (apply L.offU; (· decide); (· exact rfl); (· decide); (· exact rfl))) | (focus (apply C.condT; (· exact rfl); (· exact sTst))) | (focus (apply C.condF; (· exact rfl); (· exact sTst))) | refine Dr.done ?_ | refine DrA.done ?_ | (focus (apply DrA.take; (· exact rfl); (· decide); (· exact sGon); (· exact sYFr2))) | (focus (apply Dr.take; (· exact rfl); (· decide); (· exact sGon); (· exact sYFr2))) | (focus (apply Dr.skip; (· exact rfl); (· decide); (· exact sGoff))) | (focus (apply Dr.goSkip; (· exact rfl); (· decide); (· exact sGoff))) | with_reducible refine T.n ?_ | with_reducible refine T.ret ?_ | with_reducible refine T.exit ?_ | with_reducible refine I.n ?_ | with_reducible refine I.ret ?_ | with_reducible refine I.hit ?_ | with_reducible refine I.miss (by decide) ?_); (repeat (first | (focus (apply L.val; (· decide); (· exact sYFr2))) | refine C.seq ?_ | refine C.region ?_ | refine L.nil ?_ | refine C.block ?_ | refine C.exit ?_ | refine C.skip ?_ | refine C.ret ?_ | (focus (apply L.on; (· exact rfl); (· decide); (· exact rfl); (· exact sTst))) | (focus (apply L.off; (· decide); (· exact rfl); (· decide); (· exact rfl); (· exact sTst))) | (focus (apply L.offU; (· decide); (· exact rfl); (· decide); (· exact rfl))) | (focus (apply C.condT; (· exact rfl); (· exact sTst))) | (focus (apply C.condF; (· exact rfl); (· exact sTst))) | refine Dr.done ?_ | refine DrA.done ?_ | (focus (apply DrA.take; (· exact rfl); (· decide); (· exact sGon); (· exact sYFr2))) | (focus (apply Dr.take; (· exact rfl); (· decide); (· exact sGon); (· exact sYFr2))) | (focus (apply Dr.skip; (· exact rfl); (· decide); (· exact sGoff))) | (focus (apply Dr.goSkip; (· exact rfl); (· decide); (· exact sGoff))) | with_reducible refine T.n ?_ | with_reducible refine T.ret ?_ | with_reducible refine T.exit ?_ | with_reducible refine I.n ?_ | with_reducible refine I.ret ?_ | with_reducible refine I.hit ?_ | with_reducible refine I.miss (by decide) ?_)); exact h.out) : p := h ⟨hq⟩
theorem vFr2 {p q : Prop} (hq : q) (h : Box q → p := by intro h; (first | (focus (apply L.val; (· decide); (· exact sYFr2))) | refine C.seq ?_ | refine C.region ?_ | refine L.nil ?_ | refine C.block ?_ | refine C.exit ?_ | refine C.skip ?_ | refine C.ret ?_ | (focus (apply L.on; (· exact rfl); (· decide); (· exact rfl); (· exact sTst))) | (focus (apply L.off; (· decide); (· exact rfl); (· decide); (· exact rfl); (· exact sTst))) | (focus (apply L.offU; (· decide); (· exact rfl); (· decide); (· exact rfl))) | (focus (apply C.condT; (· exact rfl); (· exact sTst))) | (focus (apply C.condF; (· exact rfl); (· exact sTst))) | refine Dr.done ?_ | refine DrA.done ?_ | (focus (apply DrA.take; (· exact rfl); (· decide); (· exact sGon); (· exact sYFr2))) | (focus (apply Dr.take; (· exact rfl); (· decide); (· exact sGon); (· exact sYFr2))) | (focus (apply Dr.skip; (· exact rfl); (· decide); (· exact sGoff))) | (focus (apply Dr.goSkip; (· exact rfl); (· decide); (· exact sGoff))) | with_reducible refine T.n ?_ | with_reducible refine T.ret ?_ | with_reducible refine T.exit ?_ | with_reducible refine I.n ?_ | with_reducible refine I.ret ?_ | with_reducible refine I.hit ?_ | with_reducible refine I.miss (by decide) ?_); exact h.out) : p := h ⟨hq⟩
theorem kFr2 {p q : Prop} (hq : q) (h : Box q → p := by intro h; first | (apply L.stepK; (· decide); (· exact sSFr2); exact h.out) | (apply L.step0K; (· exact sSFr2); exact h.out) | (apply Dr.goZ; (· exact rfl); (· rintro k ⟨⟩ <;> decide); (· exact sGon); (· exact sSFr2); exact h.out) | (apply Dr.goZs; (· exact rfl); (· rintro k ⟨⟩ <;> decide); (· exact sGon); (· exact sSFr2); exact h.out) | (apply Go1.goK; (· exact rfl); (· rintro k ⟨⟩ <;> decide); (· exact sGon); (· exact sSFr2); exact h.out) | (apply Dr.goK; (· exact rfl); (· rintro k ⟨⟩ <;> decide); (· exact sGon); (· exact sSFr2); exact h.out)) : p := h ⟨hq⟩
theorem size_two {l : List UInt8} (h : 2 ≤ l.length) : ∃ u v, l[0]? = some u ∧ l[1]? = some v ∧ size l = u.toNat * 256 + v.toNat := by
  match l, h with
  | x :: y :: t, _ => exact ⟨x, y, rfl, rfl, by simp [size, Oct.get]⟩
section
variable (E : Env) (A : Option Addr) (n c : Nat) (l : List UInt8)
theorem rgetf_yes (hr : Rd E octT A n c l) (hl : n ≤ 140737488355200) (x : List UInt8) (k : Nat) (hx : fget l = some (x, k)) :
    Tri Try.prog E 148 #[.slice A n c] [] fun e H' => (∃ B d, e = .returned (.tuple #[.slice B x.length d, .int .i64 k]) ∧ ∀ E, Rd E octT A n c l → Rd E octT B x.length d x) ∧ H' = [] := by
  have hn := hr.len
  have hcap := hr.cap
  unfold fget at hx
  split at hx
  case isFalse => cases hx
  rename_i hok
  injection hx with hx; injection hx with hx hk
  subst hk
  obtain ⟨h2, h1, h3, h4, h90⟩ := hok
  have hfr := (ok_iff h2 h1 h4).1 h90
  obtain ⟨u, v, hx0, hx1, hst⟩ := size_two h2
  have hb0 := UInt8.toNat_lt u
  have hb1 := UInt8.toNat_lt v
  have hsum : IntKind.i64.wrap ((u.toNat : Int) * 256 + (v.toNat : Int)) = ((size l : Nat) : Int) := by rw [IntWalk.i64_in _ (by omega)]; omega
  have hxl : x.length = size l := by rw [← hx]; simp; omega
  have hcut := hr.cut (j := 2) (m := size l + 2) (by omega) (by omega)
  have hcx : (l.take (size l + 2)).drop 2 = x := by rw [List.drop_take, Nat.add_sub_cancel, hx]
  rw [hcx] at hcut
  rw [hx] at hfr
  have hs2 : IntKind.i64.wrap (2 + (size l : Int)) = ((size l + 2 : Nat) : Int) := by rw [IntWalk.i64_in _ (by omega)]; omega
  have hs7 : IntKind.i64.wrap ((size l : Int) + 7) = ((size l + 7 : Nat) : Int) := by rw [IntWalk.i64_in _ (by omega)]; omega
  have hne : decide (fr x ≠ l.take (size l + 7)) = false := by rw [hfr]; simp
  have hal : ∀ E, Rd E octT A n c l → Rd E octT (if c = 2 then A else A.map (·.add (2 * octT.size))) (size l + 2 - 2) (c - 2) x := fun E h => by
    have := h.cut (j := 2) (m := size l + 2) (by omega) (by omega)
    rwa [hcx] at this
  generalize size l = s at *
  rw [hxl]
  refine tri Try.func148 rfl Try.ntmps148 (by simp) ?_
  repeat (first | refine wFr2 ?_ | (refine kFr2 ?_; (first | rintro _ _ ⟨rfl, rfl⟩ | rintro _ _ ⟨_, rfl, rfl⟩ | rintro _ _ ⟨_, _, ⟨_, _⟩, rfl, rfl⟩); try refine ⟨sConv, ?_⟩) | refine Dr.two ?_ ?_)
  refine C.regionA 100000 (.one 0 false (.one 1 false (.one 2 false (.one 3 false (.one 4 false (.one 5 false (.one 6 false (.one 7 false (.one 8 false (.one 9 false (.one 10 false .nil))))))))))) _ (by kernel_rfl) (by kernel_rfl) Conv.refl ?_
  repeat (first | refine wFr2 ?_ | (refine kFr2 ?_; (first | rintro _ _ ⟨rfl, rfl⟩ | rintro _ _ ⟨_, rfl, rfl⟩ | rintro _ _ ⟨_, _, ⟨_, _⟩, rfl, rfl⟩); try refine ⟨sConv, ?_⟩) | refine Dr.two ?_ ?_)
  refine L.step (by decide) (S.call rfl rfl Try.func124 (by kernel_rfl) rfl sPicks (fun E' hE => rputf E' _ (s + 2 - 2) (c - 2) x sRd (by omega)) ?_)
  rintro e H' ⟨A1, c1, rfl, rfl⟩
  refine ⟨_, rfl, _, sCat, ?_⟩
  repeat (first | refine wFr2 ?_ | (refine kFr2 ?_; (first | rintro _ _ ⟨rfl, rfl⟩ | rintro _ _ ⟨_, rfl, rfl⟩ | rintro _ _ ⟨_, _, ⟨_, _⟩, rfl, rfl⟩); try refine ⟨sConv, ?_⟩) | refine Dr.two ?_ ?_)
  refine C.regionA 100000 (.one 0 false (.one 1 false (.one 2 false (.one 3 false (.one 4 false (.one 5 false (.one 6 false (.one 7 false .nil)))))))) _ (by kernel_rfl) (by kernel_rfl) Conv.refl ?_
  repeat (first | refine wFr2 ?_ | (refine kFr2 ?_; (first | rintro _ _ ⟨rfl, rfl⟩ | rintro _ _ ⟨_, rfl, rfl⟩ | rintro _ _ ⟨_, _, ⟨_, _⟩, rfl, rfl⟩); try refine ⟨sConv, ?_⟩) | refine Dr.two ?_ ?_)
  exact ret2 rfl sRet sRet sConv (⟨⟨_, _, rfl, hal⟩, rfl⟩)
theorem rgetf_no (hr : Rd E octT A n c l) (hl : n ≤ 140737488355200) (hx : fget l = none) :
    Tri Try.prog E 148 #[.slice A n c] [] fun e H' => e = .returned (.tuple #[.slice none 0 0, .int .i64 0]) ∧ H' = [] := by
  have hn := hr.len
  have hcap := hr.cap
  have hno : ¬ ok l := by
    intro h
    unfold fget at hx
    rw [if_pos h] at hx
    cases hx
  refine tri Try.func148 rfl Try.ntmps148 (by simp) ?_
  by_cases h8 : n < 8
  · repeat (first | refine wFr2 ?_ | (refine kFr2 ?_; (first | rintro _ _ ⟨rfl, rfl⟩ | rintro _ _ ⟨_, rfl, rfl⟩ | rintro _ _ ⟨_, _, ⟨_, _⟩, rfl, rfl⟩); try refine ⟨sConv, ?_⟩) | refine Dr.two ?_ ?_)
    exact ret2 rfl sRet sRet sConv (⟨rfl, rfl⟩)
  have h2 : 2 ≤ l.length := by omega
  obtain ⟨u, v, hx0, hx1, hst⟩ := size_two h2
  have hb0 := UInt8.toNat_lt u
  have hb1 := UInt8.toNat_lt v
  have hsum : IntKind.i64.wrap ((u.toNat : Int) * 256 + (v.toNat : Int)) = ((size l : Nat) : Int) := by rw [IntWalk.i64_in _ (by omega)]; omega
  have hs7 : IntKind.i64.wrap ((size l : Int) + 7) = ((size l + 7 : Nat) : Int) := by rw [IntWalk.i64_in _ (by omega)]; omega
  by_cases h1 : size l < 1
  · repeat (first | refine wFr2 ?_ | (refine kFr2 ?_; (first | rintro _ _ ⟨rfl, rfl⟩ | rintro _ _ ⟨_, rfl, rfl⟩ | rintro _ _ ⟨_, _, ⟨_, _⟩, rfl, rfl⟩); try refine ⟨sConv, ?_⟩) | refine Dr.two ?_ ?_)
    refine C.regionA 100000 (.one 0 false (.one 1 false (.one 2 false (.one 3 false (.one 4 false (.one 5 false (.one 6 false (.one 7 false (.one 8 false (.one 9 false (.one 10 false .nil))))))))))) _ (by kernel_rfl) (by kernel_rfl) Conv.refl ?_
    repeat (first | refine wFr2 ?_ | (refine kFr2 ?_; (first | rintro _ _ ⟨rfl, rfl⟩ | rintro _ _ ⟨_, rfl, rfl⟩ | rintro _ _ ⟨_, _, ⟨_, _⟩, rfl, rfl⟩); try refine ⟨sConv, ?_⟩) | refine Dr.two ?_ ?_)
    exact ret2 rfl sRet sRet sConv (⟨rfl, rfl⟩)
  by_cases h3 : 4096 < size l
  · repeat (first | refine wFr2 ?_ | (refine kFr2 ?_; (first | rintro _ _ ⟨rfl, rfl⟩ | rintro _ _ ⟨_, rfl, rfl⟩ | rintro _ _ ⟨_, _, ⟨_, _⟩, rfl, rfl⟩); try refine ⟨sConv, ?_⟩) | refine Dr.two ?_ ?_)
    refine C.regionA 100000 (.one 0 false (.one 1 false (.one 2 false (.one 3 false (.one 4 false (.one 5 false (.one 6 false (.one 7 false (.one 8 false (.one 9 false (.one 10 false .nil))))))))))) _ (by kernel_rfl) (by kernel_rfl) Conv.refl ?_
    repeat (first | refine wFr2 ?_ | (refine kFr2 ?_; (first | rintro _ _ ⟨rfl, rfl⟩ | rintro _ _ ⟨_, rfl, rfl⟩ | rintro _ _ ⟨_, _, ⟨_, _⟩, rfl, rfl⟩); try refine ⟨sConv, ?_⟩) | refine Dr.two ?_ ?_)
    exact ret2 rfl sRet sRet sConv (⟨rfl, rfl⟩)
  by_cases h4 : n < size l + 7
  · repeat (first | refine wFr2 ?_ | (refine kFr2 ?_; (first | rintro _ _ ⟨rfl, rfl⟩ | rintro _ _ ⟨_, rfl, rfl⟩ | rintro _ _ ⟨_, _, ⟨_, _⟩, rfl, rfl⟩); try refine ⟨sConv, ?_⟩) | refine Dr.two ?_ ?_)
    refine C.regionA 100000 (.one 0 false (.one 1 false (.one 2 false (.one 3 false (.one 4 false (.one 5 false (.one 6 false (.one 7 false (.one 8 false (.one 9 false (.one 10 false .nil))))))))))) _ (by kernel_rfl) (by kernel_rfl) Conv.refl ?_
    repeat (first | refine wFr2 ?_ | (refine kFr2 ?_; (first | rintro _ _ ⟨rfl, rfl⟩ | rintro _ _ ⟨_, rfl, rfl⟩ | rintro _ _ ⟨_, _, ⟨_, _⟩, rfl, rfl⟩); try refine ⟨sConv, ?_⟩) | refine Dr.two ?_ ?_)
    exact ret2 rfl sRet sRet sConv (⟨rfl, rfl⟩)
  have hcut := hr.cut (j := 2) (m := size l + 2) (by omega) (by omega)
  have hcx : (l.take (size l + 2)).drop 2 = (l.drop 2).take (size l) := by rw [List.drop_take, Nat.add_sub_cancel]
  rw [hcx] at hcut
  have hs2 : IntKind.i64.wrap (2 + (size l : Int)) = ((size l + 2 : Nat) : Int) := by rw [IntWalk.i64_in _ (by omega)]; omega
  have hfr : fr ((l.drop 2).take (size l)) ≠ l.take (size l + 7) := fun h => by
    have := (ok_iff h2 (by omega) (by omega)).2 h
    exact hno ⟨h2, by omega, by omega, by omega, this.1, this.2⟩
  have hne : decide (fr ((l.drop 2).take (size l)) ≠ l.take (size l + 7)) = true := by simpa using hfr
  clear hfr hno hx hcx
  generalize (l.drop 2).take (size l) = x at *
  generalize size l = s at *
  repeat (first | refine wFr2 ?_ | (refine kFr2 ?_; (first | rintro _ _ ⟨rfl, rfl⟩ | rintro _ _ ⟨_, rfl, rfl⟩ | rintro _ _ ⟨_, _, ⟨_, _⟩, rfl, rfl⟩); try refine ⟨sConv, ?_⟩) | refine Dr.two ?_ ?_)
  refine C.regionA 100000 (.one 0 false (.one 1 false (.one 2 false (.one 3 false (.one 4 false (.one 5 false (.one 6 false (.one 7 false (.one 8 false (.one 9 false (.one 10 false .nil))))))))))) _ (by kernel_rfl) (by kernel_rfl) Conv.refl ?_
  repeat (first | refine wFr2 ?_ | (refine kFr2 ?_; (first | rintro _ _ ⟨rfl, rfl⟩ | rintro _ _ ⟨_, rfl, rfl⟩ | rintro _ _ ⟨_, _, ⟨_, _⟩, rfl, rfl⟩); try refine ⟨sConv, ?_⟩) | refine Dr.two ?_ ?_)
  refine L.step (by decide) (S.call rfl rfl Try.func124 (by kernel_rfl) rfl sPicks (fun E' hE => rputf E' _ (s + 2 - 2) (c - 2) x sRd (by omega)) ?_)
  rintro e H' ⟨A1, c1, rfl, rfl⟩
  refine ⟨_, rfl, _, sCat, ?_⟩
  repeat (first | refine wFr2 ?_ | (refine kFr2 ?_; (first | rintro _ _ ⟨rfl, rfl⟩ | rintro _ _ ⟨_, rfl, rfl⟩ | rintro _ _ ⟨_, _, ⟨_, _⟩, rfl, rfl⟩); try refine ⟨sConv, ?_⟩) | refine Dr.two ?_ ?_)
  refine C.regionA 100000 (.one 0 false (.one 1 false (.one 2 false (.one 3 false (.one 4 false (.one 5 false (.one 6 false (.one 7 false .nil)))))))) _ (by kernel_rfl) (by kernel_rfl) Conv.refl ?_
  repeat (first | refine wFr2 ?_ | (refine kFr2 ?_; (first | rintro _ _ ⟨rfl, rfl⟩ | rintro _ _ ⟨_, rfl, rfl⟩ | rintro _ _ ⟨_, _, ⟨_, _⟩, rfl, rfl⟩); try refine ⟨sConv, ?_⟩) | refine Dr.two ?_ ?_)
  exact ret2 rfl sRet sRet sConv (⟨rfl, rfl⟩)
/-! ### all -/
theorem all_start {H : List Asn} : Conv E H (own slT none 0 0 [] :: each oOc [] :: H) := fun w hw => Conv.nil slT w (Conv.each0 oOc w hw)
theorem allf (hr : Rd E octT A n c l) (hl : n ≤ 2000000) :
    Tri Try.prog E 89 #[.slice A n c] [] fun e H' => ∃ O co xs, e = .returned (.tuple #[.slice O xs.length co, .int .i64 (upto l)]) ∧ H' = [own slT O xs.length co xs, each oOc xs] ∧ xs.map (·.b) = frames l := by
  have hn := hr.len
  have hcap := hr.cap
  have hfc := frames_count l
  refine tri Try.func89 rfl Try.ntmps89 (by simp) ?_
  repeat (first | refine wFr2 ?_ | (refine kFr2 ?_; (first | rintro _ _ ⟨rfl, rfl⟩ | rintro _ _ ⟨_, rfl, rfl⟩ | rintro _ _ ⟨_, _, ⟨_, _⟩, rfl, rfl⟩); try refine ⟨sConv, ?_⟩) | refine Dr.two ?_ ?_)
  refine C.loop (X := Nat × Option Addr × Nat × List Oc) (fun x => [(0, .slice A n c), (4, .slice x.2.1 x.2.2.2.length x.2.2.1), (5, .int .i64 x.1)]) (fun x => [own slT x.2.1 x.2.2.2.length x.2.2.1 x.2.2.2, each oOc x.2.2.2])
    (fun x => x.1 ≤ n ∧ x.2.2.2.map (·.b) ++ frames (l.drop x.1) = frames l ∧ x.1 + upto (l.drop x.1) = upto l) (fun x => n - x.1) (0, none, 0, []) sHolds (all_start E) ⟨Nat.zero_le _, rfl, by simp⟩ ?_
  rintro ⟨i, O, co, xs⟩ G ⟨hi, hfs, hup⟩
  dsimp only at hi hfs hup ⊢
  have hfrom := hr.from_ (k := i) hi
  have hxm : xs.length ≤ (frames l).length := by rw [← hfs]; simp
  repeat (first | refine wFr2 ?_ | (refine kFr2 ?_; (first | rintro _ _ ⟨rfl, rfl⟩ | rintro _ _ ⟨_, rfl, rfl⟩ | rintro _ _ ⟨_, _, ⟨_, _⟩, rfl, rfl⟩); try refine ⟨sConv, ?_⟩) | refine Dr.two ?_ ?_)
  cases hq : fget (l.drop i) with
  | none =>
    have hz := frames_none hq
    rw [hz.1, List.append_nil] at hfs
    rw [hz.2, Nat.add_zero] at hup
    refine L.step (by decide) (S.call rfl rfl Try.func119 (by kernel_rfl) rfl sPicks (fun E' hE => getf_no E' _ (n - i) (c - i) (l.drop i) sRd (by omega) hq) ?_)
    rintro e H' ⟨rfl, rfl⟩
    refine ⟨_, rfl, _, sCat, ?_⟩
    repeat (first | refine wFr2 ?_ | (refine kFr2 ?_; (first | rintro _ _ ⟨rfl, rfl⟩ | rintro _ _ ⟨_, rfl, rfl⟩ | rintro _ _ ⟨_, _, ⟨_, _⟩, rfl, rfl⟩); try refine ⟨sConv, ?_⟩) | refine Dr.two ?_ ?_)
    exact ret2 rfl sRet sRet sConv (⟨_, _, _, by rw [← hup], rfl, hfs⟩)
  | some r =>
    obtain ⟨x, k⟩ := r
    have hb := fget_bound hq
    have hz := frames_some hq
    rw [List.length_drop] at hb
    refine L.step (by decide) (S.call rfl rfl Try.func119 (by kernel_rfl) rfl sPicks (fun E' hE => getf_yes E' _ (n - i) (c - i) (l.drop i) sRd (by omega) x k hq) ?_)
    rintro e H' ⟨B, d, rfl, rfl⟩
    refine ⟨_, rfl, _, sCat, ?_⟩
    repeat (first | refine wFr2 ?_ | (refine kFr2 ?_; (first | rintro _ _ ⟨rfl, rfl⟩ | rintro _ _ ⟨_, rfl, rfl⟩ | rintro _ _ ⟨_, _, ⟨_, _⟩, rfl, rfl⟩); try refine ⟨sConv, ?_⟩) | refine Dr.two ?_ ?_)
    refine L.stepK (by decide) (S.buildSlice1K (T := slT) (e := (⟨B, x.length, d, x⟩ : Oc)) rfl rfl rfl rfl (by decide)) ?_; rintro _ _ ⟨_, rfl, rfl⟩
    repeat (first | refine wFr2 ?_ | (refine kFr2 ?_; (first | rintro _ _ ⟨rfl, rfl⟩ | rintro _ _ ⟨_, rfl, rfl⟩ | rintro _ _ ⟨_, _, ⟨_, _⟩, rfl, rfl⟩); try refine ⟨sConv, ?_⟩) | refine Dr.two ?_ ?_)
    rename_i A' c' _ _
    have hlen : (xs ++ [(⟨B, x.length, d, x⟩ : Oc)]).length = xs.length + 1 := by simp
    rw [hz.1] at hfs
    rw [hz.2] at hup
    refine ⟨(i + k, A', c', xs ++ [(⟨B, x.length, d, x⟩ : Oc)]), ?_, ?_, ⟨by dsimp only; omega, ?_, ?_⟩, by dsimp only; omega⟩
    · dsimp only; rw [hlen]; exact sHolds
    · dsimp only; rw [hlen]; exact (Conv.push (f := oOc) (x := ⟨B, x.length, d, x⟩) sPicks).trans sConv
    · dsimp only; rw [← hfs, List.map_append, List.append_assoc, ← List.drop_drop]; rfl
    · dsimp only; rw [← hup, ← List.drop_drop]; omega
theorem rallf (hr : Rd E octT A n c l) (hl : n ≤ 2000000) :
    Tri Try.prog E 143 #[.slice A n c] [] fun e H' => ∃ O co xs, e = .returned (.tuple #[.slice O xs.length co, .int .i64 (upto l)]) ∧ H' = [own slT O xs.length co xs] ∧ xs.map (·.b) = frames l ∧ ∀ E, Rd E octT A n c l → Ins E xs := by
  have hn := hr.len
  have hcap := hr.cap
  have hfc := frames_count l
  refine tri Try.func143 rfl Try.ntmps143 (by simp) ?_
  repeat (first | refine wFr2 ?_ | (refine kFr2 ?_; (first | rintro _ _ ⟨rfl, rfl⟩ | rintro _ _ ⟨_, rfl, rfl⟩ | rintro _ _ ⟨_, _, ⟨_, _⟩, rfl, rfl⟩); try refine ⟨sConv, ?_⟩) | refine Dr.two ?_ ?_)
  refine C.loop (X := Nat × Option Addr × Nat × List Oc) (fun x => [(0, .slice A n c), (4, .slice x.2.1 x.2.2.2.length x.2.2.1), (5, .int .i64 x.1)]) (fun x => [own slT x.2.1 x.2.2.2.length x.2.2.1 x.2.2.2])
    (fun x => x.1 ≤ n ∧ x.2.2.2.map (·.b) ++ frames (l.drop x.1) = frames l ∧ x.1 + upto (l.drop x.1) = upto l ∧ ∀ E, Rd E octT A n c l → Ins E x.2.2.2) (fun x => n - x.1) (0, none, 0, []) sHolds (Conv.nil slT) ⟨Nat.zero_le _, rfl, by simp, fun _ _ _ h => by cases h⟩ ?_
  rintro ⟨i, O, co, xs⟩ G ⟨hi, hfs, hup, hin⟩
  dsimp only at hi hfs hup hin ⊢
  have hfrom := hr.from_ (k := i) hi
  have hxm : xs.length ≤ (frames l).length := by rw [← hfs]; simp
  repeat (first | refine wFr2 ?_ | (refine kFr2 ?_; (first | rintro _ _ ⟨rfl, rfl⟩ | rintro _ _ ⟨_, rfl, rfl⟩ | rintro _ _ ⟨_, _, ⟨_, _⟩, rfl, rfl⟩); try refine ⟨sConv, ?_⟩) | refine Dr.two ?_ ?_)
  cases hq : fget (l.drop i) with
  | none =>
    have hz := frames_none hq
    rw [hz.1, List.append_nil] at hfs
    rw [hz.2, Nat.add_zero] at hup
    refine L.step (by decide) (S.call rfl rfl Try.func148 (by kernel_rfl) rfl sPicks (fun E' hE => rgetf_no E' _ (n - i) (c - i) (l.drop i) sRd (by omega) hq) ?_)
    rintro e H' ⟨rfl, rfl⟩
    refine ⟨_, rfl, _, sCat, ?_⟩
    repeat (first | refine wFr2 ?_ | (refine kFr2 ?_; (first | rintro _ _ ⟨rfl, rfl⟩ | rintro _ _ ⟨_, rfl, rfl⟩ | rintro _ _ ⟨_, _, ⟨_, _⟩, rfl, rfl⟩); try refine ⟨sConv, ?_⟩) | refine Dr.two ?_ ?_)
    exact ret2 rfl sRet sRet sConv (⟨_, _, _, by rw [← hup], rfl, hfs, hin⟩)
  | some r =>
    obtain ⟨x, k⟩ := r
    have hb := fget_bound hq
    have hz := frames_some hq
    rw [List.length_drop] at hb
    refine L.step (by decide) (S.call rfl rfl Try.func148 (by kernel_rfl) rfl sPicks (fun E' hE => rgetf_yes E' _ (n - i) (c - i) (l.drop i) sRd (by omega) x k hq) ?_)
    rintro e H' ⟨⟨B, d, rfl, hal⟩, rfl⟩
    have hxr := hal _ hfrom
    refine ⟨_, rfl, _, sCat, ?_⟩
    repeat (first | refine wFr2 ?_ | (refine kFr2 ?_; (first | rintro _ _ ⟨rfl, rfl⟩ | rintro _ _ ⟨_, rfl, rfl⟩ | rintro _ _ ⟨_, _, ⟨_, _⟩, rfl, rfl⟩); try refine ⟨sConv, ?_⟩) | refine Dr.two ?_ ?_)
    refine L.stepK (by decide) (S.buildSlice1K (T := slT) (e := (⟨B, x.length, d, x⟩ : Oc)) rfl rfl rfl rfl (by decide)) ?_; rintro _ _ ⟨_, rfl, rfl⟩
    repeat (first | refine wFr2 ?_ | (refine kFr2 ?_; (first | rintro _ _ ⟨rfl, rfl⟩ | rintro _ _ ⟨_, rfl, rfl⟩ | rintro _ _ ⟨_, _, ⟨_, _⟩, rfl, rfl⟩); try refine ⟨sConv, ?_⟩) | refine Dr.two ?_ ?_)
    rename_i A' c' _ _
    have hlen : (xs ++ [(⟨B, x.length, d, x⟩ : Oc)]).length = xs.length + 1 := by simp
    rw [hz.1] at hfs
    rw [hz.2] at hup
    refine ⟨(i + k, A', c', xs ++ [(⟨B, x.length, d, x⟩ : Oc)]), ?_, ?_, ⟨by dsimp only; omega, ?_, ?_, fun E h y hy => ?_⟩, by dsimp only; omega⟩
    · dsimp only; rw [hlen]; exact sHolds
    · dsimp only; rw [hlen]; exact sConv
    · dsimp only; rw [← hfs, List.map_append, List.append_assoc, ← List.drop_drop]; rfl
    · dsimp only; rw [← hup, ← List.drop_drop]; omega
    · rcases List.mem_append.1 hy with hy | hy
      · exact hin E h y hy
      · obtain rfl : y = ⟨B, x.length, d, x⟩ := by simpa using hy
        exact hal E (h.from_ hi)
end
/-! ### are lists alike? -/
theorem octets_any (E : Env) (A : Option Addr) (n c : Nat) (l : List Oc) (B : Option Addr) (m d : Nat) (r : List Oc) (hl : Rd E slT A n c l) (hli : Ins E l) (hr : Rd E slT B m d r) (hri : Ins E r) :
    Tri Try.prog E 51 #[.slice A n c, .slice B m d] [] fun e H' => e = .returned (.bool (decide (l.map (·.b) = r.map (·.b)))) ∧ H' = [] := by
  have hn := hl.len
  have hm := hr.len
  have hcap := hl.cap
  have hbig : n ≤ 9223372036854775807 := by unfold maxLen at hcap; omega
  refine tri Try.func51 rfl Try.ntmps51 (by simp) ?_
  by_cases hnm : n = m
  · subst hnm
    repeat (first | refine wFr2 ?_ | (refine kFr2 ?_; (first | rintro _ _ ⟨rfl, rfl⟩ | rintro _ _ ⟨_, rfl, rfl⟩ | rintro _ _ ⟨_, _, ⟨_, _⟩, rfl, rfl⟩); try refine ⟨sConv, ?_⟩) | refine Dr.two ?_ ?_)
    refine C.loop (X := Nat) (fun i => [(0, .slice A n c), (1, .slice B n d), (5, .int .i64 i)]) (fun _ => []) (fun i => i ≤ n ∧ (l.take i).map (·.b) = (r.take i).map (·.b)) (fun i => n - i) 0 sHolds Conv.refl ⟨Nat.zero_le _, rfl⟩ ?_
    rintro i G ⟨hi, he⟩
    by_cases hlt : i < n
    · have hx : l[i]? = some l[i] := List.getElem?_eq_getElem (by omega)
      have hy : r[i]? = some r[i] := List.getElem?_eq_getElem (by omega)
      have h1 := hli.at_ hx
      have h2 := hri.at_ hy
      have e1 : (l.take (i + 1)).map (·.b) = (l.take i).map (·.b) ++ [l[i].b] := by rw [List.take_succ_eq_append_getElem (by omega), List.map_append]; rfl
      have e2 : (r.take (i + 1)).map (·.b) = (r.take i).map (·.b) ++ [r[i].b] := by rw [List.take_succ_eq_append_getElem (by omega), List.map_append]; rfl
      by_cases hb : l[i].b = r[i].b
      · have hd : decide (l[i].b ≠ r[i].b) = false := by simpa using hb
        have e3 : (l.take (i + 1)).map (·.b) = (r.take (i + 1)).map (·.b) := by rw [e1, e2, he, hb]
        generalize l[i] = x at *
        generalize r[i] = y at *
        repeat (first | refine wFr2 ?_ | (refine kFr2 ?_; (first | rintro _ _ ⟨rfl, rfl⟩ | rintro _ _ ⟨_, rfl, rfl⟩ | rintro _ _ ⟨_, _, ⟨_, _⟩, rfl, rfl⟩); try refine ⟨sConv, ?_⟩) | refine Dr.two ?_ ?_)
        refine C.regionA 100000 (.one 0 false (.one 1 false (.one 2 false (.one 3 false (.one 4 false (.one 5 false (.one 6 false (.one 7 false (.one 8 false (.one 9 false (.one 10 false .nil))))))))))) _ (by kernel_rfl) (by kernel_rfl) Conv.refl ?_
        repeat (first | refine wFr2 ?_ | (refine kFr2 ?_; (first | rintro _ _ ⟨rfl, rfl⟩ | rintro _ _ ⟨_, rfl, rfl⟩ | rintro _ _ ⟨_, _, ⟨_, _⟩, rfl, rfl⟩); try refine ⟨sConv, ?_⟩) | refine Dr.two ?_ ?_)
        exact ⟨i + 1, sHolds, Conv.refl, ⟨by omega, e3⟩, by omega⟩
      · have hd : decide (l[i].b ≠ r[i].b) = true := by simpa using hb
        have e3 : ¬ l.map (·.b) = r.map (·.b) := fun h => by
          have h3 := congrArg (fun z => z[i]?) h
          simp only [List.getElem?_map, hx, hy, Option.map_some] at h3
          injection h3 with h3
          exact hb h3
        generalize l[i] = x at *
        generalize r[i] = y at *
        repeat (first | refine wFr2 ?_ | (refine kFr2 ?_; (first | rintro _ _ ⟨rfl, rfl⟩ | rintro _ _ ⟨_, rfl, rfl⟩ | rintro _ _ ⟨_, _, ⟨_, _⟩, rfl, rfl⟩); try refine ⟨sConv, ?_⟩) | refine Dr.two ?_ ?_)
        refine C.regionA 100000 (.one 0 false (.one 1 false (.one 2 false (.one 3 false (.one 4 false (.one 5 false (.one 6 false (.one 7 false (.one 8 false (.one 9 false (.one 10 false .nil))))))))))) _ (by kernel_rfl) (by kernel_rfl) Conv.refl ?_
        repeat (first | refine wFr2 ?_ | (refine kFr2 ?_; (first | rintro _ _ ⟨rfl, rfl⟩ | rintro _ _ ⟨_, rfl, rfl⟩ | rintro _ _ ⟨_, _, ⟨_, _⟩, rfl, rfl⟩); try refine ⟨sConv, ?_⟩) | refine Dr.two ?_ ?_)
        exact ret1 rfl sRet sConv (⟨by rw [decide_eq_false e3], rfl⟩)
    · obtain rfl : i = n := by omega
      rw [hn, List.take_length] at he
      rw [show l.length = r.length by omega, List.take_length] at he
      repeat (first | refine wFr2 ?_ | (refine kFr2 ?_; (first | rintro _ _ ⟨rfl, rfl⟩ | rintro _ _ ⟨_, rfl, rfl⟩ | rintro _ _ ⟨_, _, ⟨_, _⟩, rfl, rfl⟩); try refine ⟨sConv, ?_⟩) | refine Dr.two ?_ ?_)
      exact ret1 rfl sRet sConv (⟨by rw [decide_eq_true he], rfl⟩)
  · have e3 : ¬ l.map (·.b) = r.map (·.b) := fun h => by
      have h3 := congrArg List.length h
      simp at h3
      omega
    repeat (first | refine wFr2 ?_ | (refine kFr2 ?_; (first | rintro _ _ ⟨rfl, rfl⟩ | rintro _ _ ⟨_, rfl, rfl⟩ | rintro _ _ ⟨_, _, ⟨_, _⟩, rfl, rfl⟩); try refine ⟨sConv, ?_⟩) | refine Dr.two ?_ ?_)
    exact ret1 rfl sRet sConv (⟨by rw [decide_eq_false e3], rfl⟩)
end Go.Proofs.Ytkhmplaocfjpjaa.Sep
