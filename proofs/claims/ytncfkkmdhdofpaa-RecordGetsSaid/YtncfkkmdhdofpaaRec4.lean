/- record.Get, by parts of memory. -/
import Derived.Test.YtncfkkmdhdofpaaRecPlain
namespace Go.Proofs.Ytncfkkmdhdofpaa.Sep
open Go.RowKit Go.Proofs.Ytncfkkmdhdofpaa.Reg Go.Proofs.Ytncfkkmdhdofpaa.Oct
open Go.Proofs.Ytncfkkmdhdofpaa.Mem hiding Rd Own
-- types: octT idnT chgT
-- recs: rec_Reader idnT_rec chgT_rec keyT_rec rcdT_rec rcrT_rec
-- eqs: idnT_eqa chgT_eqa keyT_eqa rcdT_eqa rcrT_eqa
-- zeros: z_octs z_rdr
-- funcs
set_option maxRecDepth 100000
set_option maxHeartbeats 8000000
theorem sYRc4 {P : Program} {E : Env} {H : List Asn} {ρ : Operand → Value} {o : Oper} {v : Value} (h : Yld P E H ρ o v := by first | (intro _ _; first | (first | (apply V.move; (· exact rfl); (· exact sLk)) | (apply V.assign; (· exact rfl); (· exact sLk)) | (apply V.nilCheck; (· exact rfl); (· exact rfl)) | (apply V.fieldAddr; (· exact rfl); (· exact rfl); (· exact rfl); (· exact rfl); (· exact rfl); (· decide); (· exact sLk); (· exact sAdd)) | (apply V.extract; (· exact rfl); (· exact rfl); (· exact rfl)) | (apply V.not; (· exact rfl); (· exact rfl)) | (apply V.pickT; (· exact rfl); (· exact rfl); (· exact sTst); (· exact sLk)) | (apply V.pickF; (· exact rfl); (· exact rfl); (· exact sTst); (· exact sLk))) | (first | (apply V.add; (· exact rfl); (· exact rfl); (· exact rfl); (· exact sNum)) | (apply V.sub; (· exact rfl); (· exact rfl); (· exact rfl); (· exact sNum)) | (apply V.mul; (· exact rfl); (· exact rfl); (· exact rfl); (· exact sNum)) | (apply V.lss; (· exact rfl); (· exact rfl); (· exact rfl)) | (apply V.leq; (· exact rfl); (· exact rfl); (· exact rfl)) | (apply V.gtr; (· exact rfl); (· exact rfl); (· exact rfl)) | (apply V.geq; (· exact rfl); (· exact rfl); (· exact rfl)) | (apply V.eql; (· exact rfl); (· exact rfl); (· exact rfl))) | (first | (apply V.neq; (· exact rfl); (· exact rfl); (· exact rfl)) | (apply V.neqP; (· exact rfl); (· exact rfl); (· exact rfl); (· exact rfl)) | (apply V.eqlP; (· exact rfl); (· exact rfl); (· exact rfl); (· exact rfl)) | (apply V.eqlN; (· exact rfl); (· exact rfl); (· exact rfl); (· exact rfl)) | (apply V.neqN; (· exact rfl); (· exact rfl); (· exact rfl); (· exact rfl)) | (apply V.len; (· exact rfl); (· exact rfl); (· exact rfl); (· exact sMax)) | (apply V.conv; (· exact rfl); (· exact rfl); (· exact rfl); (· exact rfl); (· exact sNum)) | (apply V.shl8; (· exact rfl); (· exact rfl); (· exact rfl); (· exact sNum))) | (first | (apply V.shl; (· exact rfl); (· exact rfl); (· exact rfl); (· exact sOm); (· exact sNum)) | (apply V.shr; (· exact rfl); (· exact rfl); (· exact rfl); (· exact sOm); (· exact sNum)) | (apply V.quo; (· exact rfl); (· exact rfl); (· exact rfl); (· exact sOm); (· exact sQuo)) | (apply V.rem; (· exact rfl); (· exact rfl); (· exact rfl); (· exact sOm); (· exact sRem)) | (apply V.bits_; (· exact rfl); (· decide); (· exact rfl); (· exact rfl); (· exact sNum)) | (apply V.neg; (· exact rfl); (· exact rfl); (· exact sNum)) | (apply V.eqlS; (· exact rfl); (· exact rfl); (· exact rfl)) | (apply V.neqS; (· exact rfl); (· exact rfl); (· exact rfl))) | (first | (apply V.eqlB; (· exact rfl); (· exact rfl); (· exact rfl); (· exact rfl)) | (apply V.neqB; (· exact rfl); (· exact rfl); (· exact rfl); (· exact rfl)) | (apply V.max; (· exact rfl); (· exact rfl); (· exact rfl)) | (apply V.min; (· exact rfl); (· exact rfl); (· exact rfl)) | (apply V.func1; (· exact rfl); (· exact sLk)) | (apply V.indexA; (· exact rfl); (· exact rfl); (· exact rfl); (· exact rfl); (· exact rfl); (· exact rfl); (· exact rfl); (· exact rfl); (· exact sJ); (· exact sOm); (· exact sOm); (· exact sAsm)) | (apply V.eqlA; (· exact rfl); (· exact sLk); (· exact sLk); (· exact idnT_eqa)) | (apply V.neqA; (· exact rfl); (· exact sLk); (· exact sLk); (· exact idnT_eqa))) | (first | (apply V.eqlA; (· exact rfl); (· exact sLk); (· exact sLk); (· exact chgT_eqa)) | (apply V.neqA; (· exact rfl); (· exact sLk); (· exact sLk); (· exact chgT_eqa)) | (apply V.eqlA; (· exact rfl); (· exact sLk); (· exact sLk); (· exact keyT_eqa)) | (apply V.neqA; (· exact rfl); (· exact sLk); (· exact sLk); (· exact keyT_eqa)) | (apply V.eqlA; (· exact rfl); (· exact sLk); (· exact sLk); (· exact rcdT_eqa)) | (apply V.neqA; (· exact rfl); (· exact sLk); (· exact sLk); (· exact rcdT_eqa)) | (apply V.eqlA; (· exact rfl); (· exact sLk); (· exact sLk); (· exact rcrT_eqa)) | (apply V.neqA; (· exact rfl); (· exact sLk); (· exact sLk); (· exact rcrT_eqa)))) | (first | (first | (apply Y.load; (· exact rfl); (· exact rfl); (· exact rfl); (· exact rfl); (· exact sCell)) | (apply Y.indexAddr; (· exact rfl); (· exact rfl); (· exact rfl); (· exact sRdH); (· exact sJ); (· exact sOm); (· exact sAsm); (· exact sRfl); (· exact sRfl)) | (apply Y.loadElem; (· exact rfl); (· exact rfl); (· exact sRdH); rotate_left; (· exact sRfl); rotate_right; (· exact sAsm); (· exact sRfl)) | (apply Y.sliceArr; (· exact rfl); (· exact rfl); (· exact rfl); (· exact rfl)) | (apply Y.loadBlk; (· exact rfl); (· exact rfl); (· exact rfl); (· exact rfl); (· exact rfl); (· exact rfl); (· exact sHas); (· exact sSeg)) | (apply Y.loadPart; (· exact rfl); (· exact rfl); (· exact sRdH); rotate_left; (· exact sRfl); rotate_right; (· exact sAsm); (· exact rfl); (· exact rfl); (· exact rfl); (· exact rfl); (· exact sSeg)) | (apply Y.fieldL; (· exact rfl); (· exact rfl); (· exact rfl); (· exact rfl); (· exact rfl); (· exact rfl); (· exact rfl)) | (apply Y.fieldS; (· exact rfl); (· exact rfl); (· exact rfl); (· exact rfl); (· exact rfl); (· exact rfl); (· exact rfl); (· exact rfl); (· exact rfl); (· exact sSeg))) | (first | (apply Y.len; (· exact rfl); (· exact rfl); (· exact sRdH); (· exact sRfl)) | (apply Y.str; (· exact rfl); (· exact rfl); (· exact sRdH)) | (apply Y.sliceLo; (· exact rfl); (· exact rfl); (· exact rfl); (· exact sRdH); (· exact sJ); (· exact sOm); (· exact sOm); (· exact sRfl)) | (apply Y.sliceHi; (· exact rfl); (· exact rfl); (· exact rfl); (· exact sRdH); (· exact sJ); (· exact sOm); (· exact sOm); (· exact sRfl)) | (apply Y.sliceHiMax; (· exact rfl); (· exact rfl); (· exact rfl); (· exact rfl); (· exact sRdH); (· exact sJ); (· exact sOm); (· exact sJ); (· exact sOm); (· exact sOm); (· exact sOm); (· exact sRfl)) | (apply Y.sliceLoHi; (· exact rfl); (· exact rfl); (· exact rfl); (· exact rfl); (· exact sRdH); (· exact sJ); (· exact sOm); (· exact sJ); (· exact sOm); (· exact sOm); (· exact sOm); (· exact sRfl)) | (apply Y.strLen; (· exact rfl); (· exact rfl); (· exact rfl); (· exact sMax)) | (apply Y.indexStr; (· exact rfl); (· exact rfl); (· exact rfl); (· exact rfl); (· exact sJ); (· exact sOm); (· exact sAsm))) | (first | (apply Y.build; (· exact rfl); (· exact sPv); (· exact rec_Reader); (· exact sFil)) | (apply Y.build; (· exact rfl); (· exact sPv); (· exact idnT_rec); (· exact sFil)) | (apply Y.build; (· exact rfl); (· exact sPv); (· exact chgT_rec); (· exact sFil)) | (apply Y.build; (· exact rfl); (· exact sPv); (· exact keyT_rec); (· exact sFil)) | (apply Y.build; (· exact rfl); (· exact sPv); (· exact rcdT_rec); (· exact sFil)) | (apply Y.build; (· exact rfl); (· exact sPv); (· exact rcrT_rec); (· exact sFil))))) : Yld P E H ρ o v := h
theorem sSRc4 {P : Program} {N : Nat} {E : Env} {F : Nat → Value} {H : List Asn} {o : Oper} {K : Value → List Asn → Prop} (h : Stp P N E F H o K := by first | (first | (apply S.boxK; (· exact rfl); (· exact sLk); (· exact sCel)) | (apply S.append1K; (· exact rfl); (· exact rfl); (· exact rfl); (· exact rfl); (· exact sNN); (· exact (fun _ _ => sRepl)); (· exact sNL); (· exact sRfl); (· first | (conv => lhs; simp only [octT, idnT, chgT]) | rfl); (· exact sOm); (· exact sOm)) | (apply S.appendK; (· exact rfl); (· exact rfl); (· exact rfl); (· exact sNN); (· exact (fun _ _ => sRepl)); (· exact sRdH); (· exact sNL); (· exact sRfl); (· first | (conv => lhs; simp only [octT, idnT, chgT]) | rfl); (· exact sOm); (· exact sOm)) | (apply S.appendNilK; (· exact rfl); (· exact rfl); (· exact rfl); (· exact sRdH); (· exact sRfl); (· first | (conv => lhs; simp only [octT, idnT, chgT]) | rfl); (· exact sOm); (· exact sOm)) | (apply (S.buildSliceK (T := octT) (l := [])); (· exact rfl); (· exact rfl); (· exact rfl); (· exact rfl); (· decide)) | (apply (S.buildSlice1K (T := octT)); (· exact rfl); (· exact sLk); (· first | rfl | (with_reducible exact octT_val _ sOm sOm)); (· exact rfl); (· decide)) | (apply (S.buildSlice2K (T := octT)); (· exact rfl); (· exact sLk); (· first | rfl | (with_reducible exact octT_val _ sOm sOm)); (· exact sLk); (· first | rfl | (with_reducible exact octT_val _ sOm sOm)); (· exact rfl); (· decide)) | (apply (S.buildSlice3K (T := octT)); (· exact rfl); (· exact sLk); (· first | rfl | (with_reducible exact octT_val _ sOm sOm)); (· exact sLk); (· first | rfl | (with_reducible exact octT_val _ sOm sOm)); (· exact sLk); (· first | rfl | (with_reducible exact octT_val _ sOm sOm)); (· exact rfl); (· decide))) | (first | (apply (S.buildSliceK (T := idnT) (l := [])); (· exact rfl); (· exact rfl); (· exact rfl); (· exact rfl); (· decide)) | (apply (S.buildSlice1K (T := idnT)); (· exact rfl); (· exact sLk); (· first | rfl | (with_reducible exact idnT_val _ sOm sOm)); (· exact rfl); (· decide)) | (apply (S.buildSlice2K (T := idnT)); (· exact rfl); (· exact sLk); (· first | rfl | (with_reducible exact idnT_val _ sOm sOm)); (· exact sLk); (· first | rfl | (with_reducible exact idnT_val _ sOm sOm)); (· exact rfl); (· decide)) | (apply (S.buildSlice3K (T := idnT)); (· exact rfl); (· exact sLk); (· first | rfl | (with_reducible exact idnT_val _ sOm sOm)); (· exact sLk); (· first | rfl | (with_reducible exact idnT_val _ sOm sOm)); (· exact sLk); (· first | rfl | (with_reducible exact idnT_val _ sOm sOm)); (· exact rfl); (· decide)) | (apply (S.buildSliceK (T := chgT) (l := [])); (· exact rfl); (· exact rfl); (· exact rfl); (· exact rfl); (· decide)) | (apply (S.buildSlice1K (T := chgT)); (· exact rfl); (· exact sLk); (· first | rfl | (with_reducible exact chgT_val _ sOm sOm)); (· exact rfl); (· decide)) | (apply (S.buildSlice2K (T := chgT)); (· exact rfl); (· exact sLk); (· first | rfl | (with_reducible exact chgT_val _ sOm sOm)); (· exact sLk); (· first | rfl | (with_reducible exact chgT_val _ sOm sOm)); (· exact rfl); (· decide)) | (apply (S.buildSlice3K (T := chgT)); (· exact rfl); (· exact sLk); (· first | rfl | (with_reducible exact chgT_val _ sOm sOm)); (· exact sLk); (· first | rfl | (with_reducible exact chgT_val _ sOm sOm)); (· exact sLk); (· first | rfl | (with_reducible exact chgT_val _ sOm sOm)); (· exact rfl); (· decide))) | (first | (apply (S.storeEK (T := octT)); (· exact rfl); (· exact rfl); (· exact sLk); (· exact sRepl); rotate_left; (· exact sRfl); rotate_right; (· exact sAsm); (· first | rfl | (with_reducible exact octT_val _ sOm sOm)); (· exact sRfl)) | (apply (S.storeEK (T := idnT)); (· exact rfl); (· exact rfl); (· exact sLk); (· exact sRepl); rotate_left; (· exact sRfl); rotate_right; (· exact sAsm); (· first | rfl | (with_reducible exact idnT_val _ sOm sOm)); (· exact sRfl)) | (apply (S.storeEK (T := chgT)); (· exact rfl); (· exact rfl); (· exact sLk); (· exact sRepl); rotate_left; (· exact sRfl); rotate_right; (· exact sAsm); (· first | rfl | (with_reducible exact chgT_val _ sOm sOm)); (· exact sRfl)) | (apply S.allocK; (· exact rfl); (· exact rec_Reader.zero)) | (apply S.allocK; (· exact rfl); (· exact idnT_rec.zero)) | (apply S.allocK; (· exact rfl); (· exact chgT_rec.zero)) | (apply S.allocK; (· exact rfl); (· exact keyT_rec.zero)) | (apply S.allocK; (· exact rfl); (· exact rcdT_rec.zero))) | (first | (apply S.allocK; (· exact rfl); (· exact rcrT_rec.zero)) | (apply S.allocK; (· exact rfl); (· exact z_octs)) | (apply S.allocK; (· exact rfl); (· exact z_rdr)) | (apply (S.makeSliceK (T := octT) (z := octT_z)); (· exact rfl); (· exact rfl); (· exact rfl); (· exact sJ); (· exact sOm); (· exact rfl); (· exact rfl); (· first | (conv => lhs; simp only [octT, idnT, chgT]) | rfl); (· exact sOm); (· exact sOm)) | (apply (S.makeSliceK (T := idnT) (z := idnT_z)); (· exact rfl); (· exact rfl); (· exact rfl); (· exact sJ); (· exact sOm); (· exact rfl); (· exact rfl); (· first | (conv => lhs; simp only [octT, idnT, chgT]) | rfl); (· exact sOm); (· exact sOm)) | (apply (S.makeSliceK (T := chgT) (z := chgT_z)); (· exact rfl); (· exact rfl); (· exact rfl); (· exact sJ); (· exact sOm); (· exact rfl); (· exact rfl); (· first | (conv => lhs; simp only [octT, idnT, chgT]) | rfl); (· exact sOm); (· exact sOm)) | (apply S.storeAggK; (· exact rfl); (· exact rfl); (· exact sLk); (· exact rfl); (· exact rfl); (· exact rfl); (· exact sRepl); (· exact sPut)) | (apply S.copyInK; (· exact rfl); (· exact rfl); (· exact rfl); (· exact sAsm); (· exact sRepl); (· exact sRdH); rotate_left; (· exact rfl); rotate_right; (· exact sAsm); (· exact sOm); (· exact sAsm); (· exact rfl); (· exact sMax))) | (first | (apply S.store1K; (· exact rfl); (· exact rfl); (· exact sLk); (· exact sRfl); (· exact rfl); (· exact rfl); (· exact sRepl); (· exact sLn); (· exact sSetL)))) : Stp P N E F H o K := h
theorem rdK_1 {b : List UInt8} (h : va recW b 0 = 1) : rdK b = R1 ((cget (part1 b)).getD chgT_z) := if_pos h
theorem rdK_2 {b : List UInt8} (h : va recW b 0 = 2) : rdK b = R2 (idnRun b) := by
  unfold rdK
  rw [if_neg (by omega), if_pos h]
theorem rdK_3 {b : List UInt8} (h : va recW b 0 = 3) : rdK b = R3 (keyRun b) (va recW b 5) := by
  unfold rdK
  rw [if_neg (by omega), if_neg (by omega), if_pos h]
theorem rdK_4 {b : List UInt8} (h : va recW b 0 = 4) : rdK b = R4 (keyRun b) := by
  unfold rdK
  rw [if_neg (by omega), if_neg (by omega), if_neg (by omega), if_pos h]
theorem rdK_0 {b : List UInt8} (h : ¬ (1 ≤ va recW b 0 ∧ va recW b 0 ≤ 4)) : rdK b = ⟨va recW b 0, chg0, ⟨0, 0⟩, key0, 0⟩ := by
  unfold rdK
  rw [if_neg (by omega), if_neg (by omega), if_neg (by omega), if_neg (by omega)]
/-- what Put answers of what was read -/
def PutK (x : Rcd) : Prop :=
  (fitK x = true → ∀ E, Tri Try.prog E 43 #[.agg x.cs.toArray] [] fun e H' => ∃ A' c', e = .returned (.tuple #[.slice A' (putK x).length c', .int .i64 0]) ∧ H' = [own octT A' (putK x).length c' (putK x)]) ∧
  (fitK x = false → ∃ k : Int, k ≠ 0 ∧ ∀ E, Tri Try.prog E 43 #[.agg x.cs.toArray] [] fun e H' => e = .returned (.tuple #[.slice none 0 0, .int .i64 k]) ∧ H' = [])
theorem no4 (x : Rcd) (h14 : 1 ≤ x.kind ∧ x.kind ≤ 4) (hb : ∀ E, Tri Try.prog E 107 #[.agg x.cs.toArray] [] (BarePost x false)) : ∃ k : Int, k ≠ 0 ∧ ∀ E, Tri Try.prog E 43 #[.agg x.cs.toArray] [] fun e H' => e = .returned (.tuple #[.slice none 0 0, .int .i64 k]) ∧ H' = [] :=
  ⟨4, by decide, rput_no x 4 (by decide) (fun E => by have := rchk x false h14 hb E; rwa [if_neg Bool.false_ne_true] at this)⟩
theorem putK_any (b : List UInt8) : PutK (rdK b) := by
  by_cases h1 : va recW b 0 = 1
  · rw [rdK_1 h1]
    generalize (cget (part1 b)).getD chgT_z = y
    refine ⟨fun hf E => ?_, fun hf => no4 _ ⟨show (1 : Int) ≤ 1 by decide, show (1 : Int) ≤ 4 by decide⟩ fun E => ?_⟩
    · have hm : y.may = true := hf
      have h := rputK1 E y hm
      have e : putK (R1 y) = [1] ++ y.put := rfl
      rw [e, show ([1] ++ y.put : List UInt8).length = 23 by simp [Chg.put_length]]
      exact h
    · have hm : y.may = false := hf
      have h := bareK1 E y
      rw [hm] at h
      exact h
  by_cases h2 : va recW b 0 = 2
  · rw [rdK_2 h2]
    generalize idnRun b = y
    refine ⟨fun hf E => ?_, fun hf => no4 _ ⟨show (1 : Int) ≤ 2 by decide, show (2 : Int) ≤ 4 by decide⟩ fun E => ?_⟩
    · have hm : y.may = true := hf
      have h := rputK2 E y hm
      have e : putK (R2 y) = [2] ++ idnB y := rfl
      rw [e, show ([2] ++ idnB y : List UInt8).length = 4 by simp [idnB_length]]
      exact h
    · have hm : y.may = false := hf
      have h := bareK2 E y
      rw [hm] at h
      exact h
  by_cases h3 : va recW b 0 = 3
  · rw [rdK_3 h3]
    generalize keyRun b = y
    generalize va recW b 5 = w
    refine ⟨fun hf E => ?_, fun hf => no4 _ ⟨show (1 : Int) ≤ 3 by decide, show (3 : Int) ≤ 4 by decide⟩ fun E => ?_⟩
    · have hm : (y.may && now_ok w) = true := hf
      rw [Bool.and_eq_true] at hm
      have h := rputK3 E y w hm.1 hm.2
      have e : putK (R3 y w) = [3] ++ keyB y ++ be (w : Int).toNat 4 := rfl
      rw [e, show ([3] ++ keyB y ++ be (w : Int).toNat 4 : List UInt8).length = 10 by simp [keyB_length, be_length]]
      exact h
    · have hm : (y.may && now_ok w) = false := hf
      have h := bareK3 E y w
      rw [hm] at h
      exact h
  by_cases h4 : va recW b 0 = 4
  · rw [rdK_4 h4]
    generalize keyRun b = y
    refine ⟨fun hf E => ?_, fun hf => no4 _ ⟨show (1 : Int) ≤ 4 by decide, show (4 : Int) ≤ 4 by decide⟩ fun E => ?_⟩
    · have hm : y.may = true := hf
      have h := rputK4 E y hm
      have e : putK (R4 y) = [4] ++ keyB y := rfl
      rw [e, show ([4] ++ keyB y : List UInt8).length = 6 by simp [keyB_length]]
      exact h
    · have hm : y.may = false := hf
      have h := bareK4 E y
      rw [hm] at h
      exact h
  have hno : ¬ (1 ≤ va recW b 0 ∧ va recW b 0 ≤ 4) := by omega
  rw [rdK_0 hno]
  generalize va recW b 0 = w at *
  refine ⟨fun hf => ?_, fun _ => ⟨12, by decide, rput_no _ 12 (by decide) (rchk_kind _ ?_)⟩⟩
  · exfalso
    unfold fitK at hf
    dsimp only at hf
    rw [if_neg (by omega), if_neg (by omega), if_neg (by omega), if_neg (by omega)] at hf
    cases hf
  · show ¬ ((1 : Int) ≤ w ∧ (w : Int) ≤ 4)
    omega
end Go.Proofs.Ytncfkkmdhdofpaa.Sep
