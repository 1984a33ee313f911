/- msg.Check, by parts of memory. -/
import Derived.Test.YtihblcljkndpgaaMsg1
import Derived.Test.YtihblcljkndpgaaFld
import Derived.Test.YtihblcljkndpgaaArr
namespace Go.Proofs.Ytihblcljkndpgaa.Sep
open Go.RowKit Go.Proofs.Ytihblcljkndpgaa.Reg
open Go.Proofs.Ytihblcljkndpgaa.Mem hiding Rd Own
set_option maxRecDepth 100000
def intT : Ty Int where
  val x := .int .i64 x
  size := 1
  bytes := 8
  tid := 3
  zero := .int .i64 0
  hlen _ := rfl
  hone a u h := by simp only [Value.cells, List.mem_singleton] at h; subst h; rfl
  hpos := by decide
  hzero := rfl
  hinfo := by kernel_rfl
  hagg := .inr ⟨by kernel_rfl, fun _ => rfl⟩
theorem intT_val (x : Int) : intT.val x = .int .i64 x := rfl
/-- an array in a block, as a slice -/
theorem Sub.arr {α : Type} {T : Ty α} {E E' : Env} {R R' : List Asn} {g : Nat} {t : TypeId} {cs : List Value} (hE : Sub E R E') (h : Has (Sep.blk g t cs) R R') {i m : Nat} {l : List α} (hm : m = l.length) (hmax : m ≤ maxLen) (hv : ∀ j u, (T.encs l)[j]? = some u → cs[i + j]? = some u) : Rd E' T (some ⟨g, i, none⟩) m m l := by
  refine ⟨hm, Nat.le_refl _, hmax, .inr ⟨_, rfl, ?_, fun j u hu => ?_⟩⟩
  · obtain ⟨F, h1, h2⟩ := hE.fr
    obtain ⟨F1, F2, h3, _, h5, _⟩ := h.stars h1
    exact h2 _ ((h3 _).2 (.inl ((h5.1 _).2 rfl)))
  · rw [add_none]
    exact (KCell.blk hE h (hv j u hu)).2
def idq {α : Type} (p : α → Bool) (l : List α) : Int := match l.findIdx? p with | some i => i | none => -1
theorem idq_none {α : Type} {p : α → Bool} {l : List α} (h : ∀ x ∈ l, p x = false) : idq p l = -1 := by
  unfold idq
  rw [List.findIdx?_eq_none_iff.2 h]
theorem idq_some {α : Type} {p : α → Bool} {l : List α} {i : Nat} {x : α} (hx : l[i]? = some x) (hp : p x = true) (h : ∀ j y, j < i → l[j]? = some y → p y = false) : idq p l = i := by
  unfold idq
  obtain ⟨hi, he⟩ := List.getElem?_eq_some_iff.1 hx
  rw [List.findIdx?_eq_some_iff_getElem.2 ⟨hi, by rw [he]; exact hp, fun j hj => by rw [h j l[j] hj (List.getElem?_eq_getElem (by omega))]; exact Bool.false_ne_true⟩]
theorem idq_any {α : Type} (p : α → Bool) (l : List α) : decide (0 ≤ idq p l) = l.any p := by
  unfold idq
  cases h : l.findIdx? p with
  | none =>
    rw [List.findIdx?_eq_none_iff] at h
    rw [Bool.eq_iff_iff]
    simp
    exact h
  | some i =>
    rw [List.findIdx?_eq_some_iff_getElem] at h
    obtain ⟨hi, h1, _⟩ := h
    rw [List.any_eq_true.2 ⟨_, List.getElem_mem hi, h1⟩]
    exact decide_eq_true (Int.natCast_nonneg i)
theorem any_not {α : Type} (p : α → Bool) (l : List α) : (!(l.any fun x => !p x)) = l.all p := by
  induction l with
  | nil => rfl
  | cons a l ih => simp [List.any_cons, List.all_cons, ← ih]
-- types: octT idnT chgT intT
-- recs: rec_Reader idnT_rec effT_rec chgT_rec keyT_rec mgT_rec rgT_rec wrT_rec rdT_rec
-- eqs: idnT_eqa effT_eqa chgT_eqa keyT_eqa
-- eqrs: k4_eqr
-- zeros: z_octs z_rdr
-- funcs
-- flds
-- arrp
set_option maxRecDepth 100000
set_option maxHeartbeats 6000000
theorem sYMh {P : Program} {E : Env} {H : List Asn} {ρ : Operand → Value} {o : Oper} {v : Value} (h : Yld P E H ρ o v := by first | (intro _ _; first | (first | (apply V.move; (· exact rfl); (· exact sLk)) | (apply V.assign; (· exact rfl); (· exact sLk)) | (apply V.nilCheck; (· exact rfl); (· exact rfl)) | (apply V.fieldAddr; (· exact rfl); (· exact rfl); (· exact rfl); (· exact rfl); (· exact rfl); (· decide); (· exact sLk); (· exact sAdd)) | (apply V.extract; (· exact rfl); (· exact rfl); (· exact rfl)) | (apply V.not; (· exact rfl); (· exact rfl)) | (apply V.pickT; (· exact rfl); (· exact rfl); (· exact sTst); (· exact sLk)) | (apply V.pickF; (· exact rfl); (· exact rfl); (· exact sTst); (· exact sLk))) | (first | (apply V.add; (· exact rfl); (· exact rfl); (· exact rfl); (· exact sNum)) | (apply V.sub; (· exact rfl); (· exact rfl); (· exact rfl); (· exact sNum)) | (apply V.mul; (· exact rfl); (· exact rfl); (· exact rfl); (· exact sNum)) | (apply V.lss; (· exact rfl); (· exact rfl); (· exact rfl)) | (apply V.leq; (· exact rfl); (· exact rfl); (· exact rfl)) | (apply V.gtr; (· exact rfl); (· exact rfl); (· exact rfl)) | (apply V.geq; (· exact rfl); (· exact rfl); (· exact rfl)) | (apply V.eql; (· exact rfl); (· exact rfl); (· exact rfl))) | (first | (apply V.neq; (· exact rfl); (· exact rfl); (· exact rfl)) | (apply V.neqP; (· exact rfl); (· exact rfl); (· exact rfl); (· exact rfl)) | (apply V.eqlP; (· exact rfl); (· exact rfl); (· exact rfl); (· exact rfl)) | (apply V.eqlN; (· exact rfl); (· exact rfl); (· exact rfl); (· exact rfl)) | (apply V.neqN; (· exact rfl); (· exact rfl); (· exact rfl); (· exact rfl)) | (apply V.len; (· exact rfl); (· exact rfl); (· exact rfl); (· exact sMax)) | (apply V.conv; (· exact rfl); (· exact rfl); (· exact rfl); (· exact rfl); (· exact sNum)) | (apply V.shl8; (· exact rfl); (· exact rfl); (· exact rfl); (· exact sNum))) | (first | (apply V.shl; (· exact rfl); (· exact rfl); (· exact rfl); (· exact sOm); (· exact sNum)) | (apply V.shr; (· exact rfl); (· exact rfl); (· exact rfl); (· exact sOm); (· exact sNum)) | (apply V.quo; (· exact rfl); (· exact rfl); (· exact rfl); (· exact sOm); (· exact sQuo)) | (apply V.rem; (· exact rfl); (· exact rfl); (· exact rfl); (· exact sOm); (· exact sRem)) | (apply V.bits_; (· exact rfl); (· decide); (· exact rfl); (· exact rfl); (· exact sNum)) | (apply V.neg; (· exact rfl); (· exact rfl); (· exact sNum)) | (apply V.eqlS; (· exact rfl); (· exact rfl); (· exact rfl)) | (apply V.neqS; (· exact rfl); (· exact rfl); (· exact rfl))) | (first | (apply V.eqlB; (· exact rfl); (· exact rfl); (· exact rfl); (· exact rfl)) | (apply V.neqB; (· exact rfl); (· exact rfl); (· exact rfl); (· exact rfl)) | (apply V.max; (· exact rfl); (· exact rfl); (· exact rfl)) | (apply V.min; (· exact rfl); (· exact rfl); (· exact rfl)) | (apply V.func1; (· exact rfl); (· exact sLk)) | (apply V.indexA; (· exact rfl); (· exact rfl); (· exact rfl); (· exact rfl); (· exact rfl); (· exact rfl); (· exact rfl); (· exact rfl); (· exact sJ); (· exact sOm); (· exact sOm); (· exact sAsm)) | (apply V.eqlR; (· exact rfl); (· exact sLk); (· exact sLk); (· exact k4_eqr)) | (apply V.eqlA; (· exact rfl); (· exact sLk); (· exact sLk); (· exact idnT_eqa))) | (first | (apply V.neqA; (· exact rfl); (· exact sLk); (· exact sLk); (· exact idnT_eqa)) | (apply V.eqlA; (· exact rfl); (· exact sLk); (· exact sLk); (· exact effT_eqa)) | (apply V.neqA; (· exact rfl); (· exact sLk); (· exact sLk); (· exact effT_eqa)) | (apply V.eqlA; (· exact rfl); (· exact sLk); (· exact sLk); (· exact chgT_eqa)) | (apply V.neqA; (· exact rfl); (· exact sLk); (· exact sLk); (· exact chgT_eqa)) | (apply V.eqlA; (· exact rfl); (· exact sLk); (· exact sLk); (· exact keyT_eqa)) | (apply V.neqA; (· exact rfl); (· exact sLk); (· exact sLk); (· exact keyT_eqa)) | (apply V.indexAddrA; (· exact rfl); (· exact rfl); (· exact rfl); (· exact rfl); (· exact rfl); (· exact rfl); (· exact sJ); (· exact sOm); (· exact sOm); (· exact sAdd)))) | (first | (first | (apply Y.load; (· exact rfl); (· exact rfl); (· exact rfl); (· exact rfl); (· exact sCell)) | (apply Y.indexAddr; (· exact rfl); (· exact rfl); (· exact rfl); (· exact sRdH); (· exact sJ); (· exact sOm); (· exact sAsm); (· exact sRfl); (· exact sRfl)) | (apply Y.loadElem; (· exact rfl); (· exact rfl); (· exact sRdH); rotate_left; (· exact sRfl); rotate_right; (· exact sAsm); (· exact sRfl)) | (apply Y.sliceArr; (· exact rfl); (· exact rfl); (· exact rfl); (· exact rfl)) | (apply Y.loadBlk; (· exact rfl); (· exact rfl); (· exact rfl); (· exact rfl); (· exact rfl); (· exact rfl); (· exact sHas); (· exact sSeg)) | (apply Y.loadPart; (· exact rfl); (· exact rfl); (· exact sRdH); rotate_left; (· exact sRfl); rotate_right; (· exact sAsm); (· exact rfl); (· exact rfl); (· exact rfl); (· exact rfl); (· exact sSeg)) | (apply Y.fieldL; (· exact rfl); (· exact rfl); (· exact rfl); (· exact rfl); (· exact rfl); (· exact rfl); (· exact rfl)) | (apply Y.fieldS; (· exact rfl); (· exact rfl); (· exact rfl); (· exact rfl); (· exact rfl); (· exact rfl); (· exact rfl); (· exact rfl); (· exact rfl); (· exact sSeg))) | (first | (apply Y.len; (· exact rfl); (· exact rfl); (· exact sRdH); (· exact sRfl)) | (apply Y.str; (· exact rfl); (· exact rfl); (· exact sRdH)) | (apply Y.sliceLo; (· exact rfl); (· exact rfl); (· exact rfl); (· exact sRdH); (· exact sJ); (· exact sOm); (· exact sOm); (· exact sRfl)) | (apply Y.sliceHi; (· exact rfl); (· exact rfl); (· exact rfl); (· exact sRdH); (· exact sJ); (· exact sOm); (· exact sOm); (· exact sRfl)) | (apply Y.sliceHiMax; (· exact rfl); (· exact rfl); (· exact rfl); (· exact rfl); (· exact sRdH); (· exact sJ); (· exact sOm); (· exact sJ); (· exact sOm); (· exact sOm); (· exact sOm); (· exact sRfl)) | (apply Y.sliceLoHi; (· exact rfl); (· exact rfl); (· exact rfl); (· exact rfl); (· exact sRdH); (· exact sJ); (· exact sOm); (· exact sJ); (· exact sOm); (· exact sOm); (· exact sOm); (· exact sRfl)) | (apply Y.strLen; (· exact rfl); (· exact rfl); (· exact rfl); (· exact sMax)) | (apply Y.indexStr; (· exact rfl); (· exact rfl); (· exact rfl); (· exact rfl); (· exact sJ); (· exact sOm); (· exact sAsm))) | (first | (apply Y.load; (· exact rfl); (· exact rfl); (· exact rfl); (· exact rfl); (· exact (Cell.blk sHas sAsm))) | (apply Y.sliceFull; (· exact rfl); (· exact rfl); (· exact rfl); (· exact rfl); (· exact rfl); (· exact sRdH); (· exact sJ); (· exact sOm); (· exact sJ); (· exact sOm); (· exact sOm); (· exact sOm); (· exact sRfl)) | (apply Y.build; (· exact rfl); (· exact sPv); (· exact rec_Reader); (· exact sFil)) | (apply Y.build; (· exact rfl); (· exact sPv); (· exact idnT_rec); (· exact sFil)) | (apply Y.build; (· exact rfl); (· exact sPv); (· exact effT_rec); (· exact sFil)) | (apply Y.build; (· exact rfl); (· exact sPv); (· exact chgT_rec); (· exact sFil)) | (apply Y.build; (· exact rfl); (· exact sPv); (· exact keyT_rec); (· exact sFil)) | (apply Y.build; (· exact rfl); (· exact sPv); (· exact mgT_rec); (· exact sFil))) | (first | (apply Y.build; (· exact rfl); (· exact sPv); (· exact rgT_rec); (· exact sFil)) | (apply Y.build; (· exact rfl); (· exact sPv); (· exact wrT_rec); (· exact sFil)) | (apply Y.build; (· exact rfl); (· exact sPv); (· exact rdT_rec); (· exact sFil))))) : Yld P E H ρ o v := h
theorem sSMh {P : Program} {N : Nat} {E : Env} {F : Nat → Value} {H : List Asn} {o : Oper} {K : Value → List Asn → Prop} (h : Stp P N E F H o K := by first | (first | (apply S.boxK; (· exact rfl); (· exact sLk); (· exact sCel)) | (apply S.append1K; (· exact rfl); (· exact rfl); (· exact rfl); (· exact rfl); (· exact sNN); (· exact (fun _ _ => sRepl)); (· exact sNL); (· exact sRfl); (· first | (conv => lhs; simp only [octT, idnT, chgT, intT]) | rfl); (· exact sOm); (· exact sOm)) | (apply S.appendK; (· exact rfl); (· exact rfl); (· exact rfl); (· exact sNN); (· exact (fun _ _ => sRepl)); (· exact sRdH); (· exact sNL); (· exact sRfl); (· first | (conv => lhs; simp only [octT, idnT, chgT, intT]) | rfl); (· exact sOm); (· exact sOm)) | (apply S.appendNilK; (· exact rfl); (· exact rfl); (· exact rfl); (· exact sRdH); (· exact sRfl); (· first | (conv => lhs; simp only [octT, idnT, chgT, intT]) | rfl); (· exact sOm); (· exact sOm)) | (apply (S.buildSliceK (T := octT) (l := [])); (· exact rfl); (· exact rfl); (· exact rfl); (· exact rfl); (· decide)) | (apply (S.buildSlice1K (T := octT)); (· exact rfl); (· exact sLk); (· first | rfl | (with_reducible exact octT_val _ sOm sOm)); (· exact rfl); (· decide)) | (apply (S.buildSlice2K (T := octT)); (· exact rfl); (· exact sLk); (· first | rfl | (with_reducible exact octT_val _ sOm sOm)); (· exact sLk); (· first | rfl | (with_reducible exact octT_val _ sOm sOm)); (· exact rfl); (· decide)) | (apply (S.buildSlice3K (T := octT)); (· exact rfl); (· exact sLk); (· first | rfl | (with_reducible exact octT_val _ sOm sOm)); (· exact sLk); (· first | rfl | (with_reducible exact octT_val _ sOm sOm)); (· exact sLk); (· first | rfl | (with_reducible exact octT_val _ sOm sOm)); (· exact rfl); (· decide))) | (first | (apply (S.buildSliceK (T := idnT) (l := [])); (· exact rfl); (· exact rfl); (· exact rfl); (· exact rfl); (· decide)) | (apply (S.buildSlice1K (T := idnT)); (· exact rfl); (· exact sLk); (· first | rfl | (with_reducible exact idnT_val _ sOm sOm)); (· exact rfl); (· decide)) | (apply (S.buildSlice2K (T := idnT)); (· exact rfl); (· exact sLk); (· first | rfl | (with_reducible exact idnT_val _ sOm sOm)); (· exact sLk); (· first | rfl | (with_reducible exact idnT_val _ sOm sOm)); (· exact rfl); (· decide)) | (apply (S.buildSlice3K (T := idnT)); (· exact rfl); (· exact sLk); (· first | rfl | (with_reducible exact idnT_val _ sOm sOm)); (· exact sLk); (· first | rfl | (with_reducible exact idnT_val _ sOm sOm)); (· exact sLk); (· first | rfl | (with_reducible exact idnT_val _ sOm sOm)); (· exact rfl); (· decide)) | (apply (S.buildSliceK (T := chgT) (l := [])); (· exact rfl); (· exact rfl); (· exact rfl); (· exact rfl); (· decide)) | (apply (S.buildSlice1K (T := chgT)); (· exact rfl); (· exact sLk); (· first | rfl | (with_reducible exact chgT_val _ sOm sOm)); (· exact rfl); (· decide)) | (apply (S.buildSlice2K (T := chgT)); (· exact rfl); (· exact sLk); (· first | rfl | (with_reducible exact chgT_val _ sOm sOm)); (· exact sLk); (· first | rfl | (with_reducible exact chgT_val _ sOm sOm)); (· exact rfl); (· decide)) | (apply (S.buildSlice3K (T := chgT)); (· exact rfl); (· exact sLk); (· first | rfl | (with_reducible exact chgT_val _ sOm sOm)); (· exact sLk); (· first | rfl | (with_reducible exact chgT_val _ sOm sOm)); (· exact sLk); (· first | rfl | (with_reducible exact chgT_val _ sOm sOm)); (· exact rfl); (· decide))) | (first | (apply (S.buildSliceK (T := intT) (l := [])); (· exact rfl); (· exact rfl); (· exact rfl); (· exact rfl); (· decide)) | (apply (S.buildSlice1K (T := intT)); (· exact rfl); (· exact sLk); (· first | rfl | (with_reducible exact intT_val _ sOm sOm)); (· exact rfl); (· decide)) | (apply (S.buildSlice2K (T := intT)); (· exact rfl); (· exact sLk); (· first | rfl | (with_reducible exact intT_val _ sOm sOm)); (· exact sLk); (· first | rfl | (with_reducible exact intT_val _ sOm sOm)); (· exact rfl); (· decide)) | (apply (S.buildSlice3K (T := intT)); (· exact rfl); (· exact sLk); (· first | rfl | (with_reducible exact intT_val _ sOm sOm)); (· exact sLk); (· first | rfl | (with_reducible exact intT_val _ sOm sOm)); (· exact sLk); (· first | rfl | (with_reducible exact intT_val _ sOm sOm)); (· exact rfl); (· decide)) | (apply (S.storeFK (T := octT)); (· exact rfl); (· exact rfl); (· exact sLk); (· exact sRepl); (· exact sAsm); (· exact rfl); (· exact sAsm); (· intro x hx; simp [Value.cells] at hx; subst hx; rfl); (· exact rfl); (· exact rfl)) | (apply (S.storeEK (T := octT)); (· exact rfl); (· exact rfl); (· exact sLk); (· exact sRepl); rotate_left; (· exact sRfl); rotate_right; (· exact sAsm); (· first | rfl | (with_reducible exact octT_val _ sOm sOm)); (· exact sRfl)) | (apply (S.storeFK (T := idnT)); (· exact rfl); (· exact rfl); (· exact sLk); (· exact sRepl); (· exact sAsm); (· exact rfl); (· exact sAsm); (· intro x hx; simp [Value.cells] at hx; subst hx; rfl); (· exact rfl); (· exact rfl)) | (apply (S.storeEK (T := idnT)); (· exact rfl); (· exact rfl); (· exact sLk); (· exact sRepl); rotate_left; (· exact sRfl); rotate_right; (· exact sAsm); (· first | rfl | (with_reducible exact idnT_val _ sOm sOm)); (· exact sRfl))) | (first | (apply (S.storeFK (T := chgT)); (· exact rfl); (· exact rfl); (· exact sLk); (· exact sRepl); (· exact sAsm); (· exact rfl); (· exact sAsm); (· intro x hx; simp [Value.cells] at hx; subst hx; rfl); (· exact rfl); (· exact rfl)) | (apply (S.storeEK (T := chgT)); (· exact rfl); (· exact rfl); (· exact sLk); (· exact sRepl); rotate_left; (· exact sRfl); rotate_right; (· exact sAsm); (· first | rfl | (with_reducible exact chgT_val _ sOm sOm)); (· exact sRfl)) | (apply (S.storeFK (T := intT)); (· exact rfl); (· exact rfl); (· exact sLk); (· exact sRepl); (· exact sAsm); (· exact rfl); (· exact sAsm); (· intro x hx; simp [Value.cells] at hx; subst hx; rfl); (· exact rfl); (· exact rfl)) | (apply (S.storeEK (T := intT)); (· exact rfl); (· exact rfl); (· exact sLk); (· exact sRepl); rotate_left; (· exact sRfl); rotate_right; (· exact sAsm); (· first | rfl | (with_reducible exact intT_val _ sOm sOm)); (· exact sRfl)) | (apply S.allocK; (· exact rfl); (· exact rec_Reader.zero)) | (apply S.allocK; (· exact rfl); (· exact idnT_rec.zero)) | (apply S.allocK; (· exact rfl); (· exact effT_rec.zero)) | (apply S.allocK; (· exact rfl); (· exact chgT_rec.zero))) | (first | (apply S.allocK; (· exact rfl); (· exact keyT_rec.zero)) | (apply S.allocK; (· exact rfl); (· exact mgT_rec.zero)) | (apply S.allocK; (· exact rfl); (· exact rgT_rec.zero)) | (apply S.allocK; (· exact rfl); (· exact wrT_rec.zero)) | (apply S.allocK; (· exact rfl); (· exact rdT_rec.zero)) | (apply S.allocK; (· exact rfl); (· exact z_octs)) | (apply S.allocK; (· exact rfl); (· exact z_rdr)) | (apply (S.makeSliceK (T := octT) (z := octT_z)); (· exact rfl); (· exact rfl); (· exact rfl); (· exact sJ); (· exact sOm); (· exact rfl); (· exact rfl); (· first | (conv => lhs; simp only [octT, idnT, chgT, intT]) | rfl); (· exact sOm); (· exact sOm))) | (first | (apply (S.makeSliceK (T := idnT) (z := idnT_z)); (· exact rfl); (· exact rfl); (· exact rfl); (· exact sJ); (· exact sOm); (· exact rfl); (· exact rfl); (· first | (conv => lhs; simp only [octT, idnT, chgT, intT]) | rfl); (· exact sOm); (· exact sOm)) | (apply (S.makeSliceK (T := chgT) (z := chgT_z)); (· exact rfl); (· exact rfl); (· exact rfl); (· exact sJ); (· exact sOm); (· exact rfl); (· exact rfl); (· first | (conv => lhs; simp only [octT, idnT, chgT, intT]) | rfl); (· exact sOm); (· exact sOm)) | (apply (S.makeSliceK (T := intT) (z := intT_z)); (· exact rfl); (· exact rfl); (· exact rfl); (· exact sJ); (· exact sOm); (· exact rfl); (· exact rfl); (· first | (conv => lhs; simp only [octT, idnT, chgT, intT]) | rfl); (· exact sOm); (· exact sOm)) | (apply S.storeAggK; (· exact rfl); (· exact rfl); (· exact sLk); (· exact rfl); (· exact rfl); (· exact rfl); (· exact sRepl); (· exact sPut)) | (apply S.copyInK; (· exact rfl); (· exact rfl); (· exact rfl); (· exact sAsm); (· exact sRepl); (· exact sRdH); rotate_left; (· exact rfl); rotate_right; (· exact sAsm); (· exact sOm); (· exact sAsm); (· exact rfl); (· exact sMax)) | (apply S.store1K; (· exact rfl); (· exact rfl); (· exact sLk); (· exact sRfl); (· exact rfl); (· exact rfl); (· exact sRepl); (· exact sLn); (· exact sSetL)))) : Stp P N E F H o K := h
theorem wMh {p q : Prop} (hq : q) (h : Box q → p := by intro h; (first | (focus (apply L.val; (· decide); (· exact sYMh))) | refine C.seq ?_ | refine C.region ?_ | refine L.nil ?_ | refine C.block ?_ | refine C.exit ?_ | refine C.skip ?_ | refine C.ret ?_ | (focus (apply L.on; (· exact rfl); (· decide); (· exact rfl); (· exact sTst))) | (focus (apply L.off; (· decide); (· exact rfl); (· decide); (· exact rfl); (· exact sTst))) | (focus (apply L.offU; (· decide); (· exact rfl); (· decide); (· exact rfl))) | (focus (apply C.condT; (· exact rfl); (· exact sTst))) | (focus (apply C.condF; (· exact rfl); (· exact sTst))) | refine Dr.done ?_ | refine DrA.done ?_ | (focus (apply DrA.take; (· exact rfl); (· decide); (· exact sGon); (· exact sYMh))) | (focus (apply Dr.take; (· exact rfl); (· decide); (· exact sGon); (· exact sYMh))) | (focus (apply Dr.skip; (· exact rfl); (· decide); (· exact sGoff))) | (focus (apply Dr.goSkip; (· exact rfl); (· decide); (· exact sGoff))) | with_reducible refine T.n ?_ | with_reducible refine T.ret ?_ | with_reducible refine T.exit ?_ | with_reducible refine I.n ?_ | with_reducible refine I.ret ?_ | with_reducible refine I.hit ?_ | with_reducible refine I.miss (by decide) ?_); (repeat (first | (focus (apply L.val; (· decide); (· exact sYMh))) | refine C.seq ?_ | refine C.region ?_ | refine L.nil ?_ | refine C.block ?_ | refine C.exit ?_ | refine C.skip ?_ | refine C.ret ?_ | (focus (apply L.on; (· exact rfl); (· decide); (· exact rfl); (· exact sTst))) | (focus (apply L.off; (· decide); (· exact rfl); (· decide); (· exact rfl); (· exact sTst))) | (focus (apply L.offU; (· decide); (· exact rfl); (· decide); (· exact rfl))) | (focus (apply C.condT; (· exact rfl); (· exact sTst))) | (focus (apply C.condF; (· exact rfl); (· exact sTst))) | refine Dr.done ?_ | refine DrA.done ?_ | (focus (apply DrA.take; (· exact rfl); (· decide); (· exact sGon); (· exact sYMh))) | (focus (apply Dr.take; (· exact rfl); (· decide); (· exact sGon); (· exact sYMh))) | (focus (apply Dr.skip; (· exact rfl); (· decide); (· exact sGoff))) | (focus (apply Dr.goSkip; (· exact rfl); (· decide); (· exact sGoff))) | with_reducible refine T.n ?_ | with_reducible refine T.ret ?_ | with_reducible refine T.exit ?_ | with_reducible refine I.n ?_ | with_reducible refine I.ret ?_ | with_reducible refine I.hit ?_ | with_reducible refine I.miss (by decide) ?_)); exact h.out) : p := h ⟨hq⟩
theorem vMh {p q : Prop} (hq : q) (h : Box q → p := by intro h; (first | (focus (apply L.val; (· decide); (· exact sYMh))) | refine C.seq ?_ | refine C.region ?_ | refine L.nil ?_ | refine C.block ?_ | refine C.exit ?_ | refine C.skip ?_ | refine C.ret ?_ | (focus (apply L.on; (· exact rfl); (· decide); (· exact rfl); (· exact sTst))) | (focus (apply L.off; (· decide); (· exact rfl); (· decide); (· exact rfl); (· exact sTst))) | (focus (apply L.offU; (· decide); (· exact rfl); (· decide); (· exact rfl))) | (focus (apply C.condT; (· exact rfl); (· exact sTst))) | (focus (apply C.condF; (· exact rfl); (· exact sTst))) | refine Dr.done ?_ | refine DrA.done ?_ | (focus (apply DrA.take; (· exact rfl); (· decide); (· exact sGon); (· exact sYMh))) | (focus (apply Dr.take; (· exact rfl); (· decide); (· exact sGon); (· exact sYMh))) | (focus (apply Dr.skip; (· exact rfl); (· decide); (· exact sGoff))) | (focus (apply Dr.goSkip; (· exact rfl); (· decide); (· exact sGoff))) | with_reducible refine T.n ?_ | with_reducible refine T.ret ?_ | with_reducible refine T.exit ?_ | with_reducible refine I.n ?_ | with_reducible refine I.ret ?_ | with_reducible refine I.hit ?_ | with_reducible refine I.miss (by decide) ?_); exact h.out) : p := h ⟨hq⟩
theorem kMh {p q : Prop} (hq : q) (h : Box q → p := by intro h; first | (apply L.stepK; (· decide); (· exact sSMh); exact h.out) | (apply L.step0K; (· exact sSMh); exact h.out) | (apply Dr.goZ; (· exact rfl); (· rintro k ⟨⟩ <;> decide); (· exact sGon); (· exact sSMh); exact h.out) | (apply Dr.goZs; (· exact rfl); (· rintro k ⟨⟩ <;> decide); (· exact sGon); (· exact sSMh); exact h.out) | (apply Go1.goK; (· exact rfl); (· rintro k ⟨⟩ <;> decide); (· exact sGon); (· exact sSMh); exact h.out) | (apply Dr.goK; (· exact rfl); (· rintro k ⟨⟩ <;> decide); (· exact sGon); (· exact sSMh); exact h.out)) : p := h ⟨hq⟩
section
variable (E : Env)
theorem rp4 (n : Int) : Tri Try.prog E 59 #[.int .i64 n] [] fun e H' => e = .returned (.bool (rep4 n)) ∧ H' = [] := by
  refine tri Try.func59 rfl Try.ntmps59 (by simp) ?_
  repeat (first | refine wMh ?_ | (refine kMh ?_; (first | rintro _ _ ⟨rfl, rfl⟩ | rintro _ _ ⟨_, rfl, rfl⟩ | rintro _ _ ⟨_, _, ⟨_, _⟩, rfl, rfl⟩); try refine ⟨sConv, ?_⟩) | refine Dr.two ?_ ?_)
  refine L.step (by decide) (S.call rfl rfl Try.func37 (by kernel_rfl) rfl sPicks (fun E' hE => in_any E' n 0 3) ?_)
  rintro e H' ⟨rfl, rfl⟩
  refine ⟨_, rfl, _, sCat, ?_⟩
  repeat (first | refine wMh ?_ | (refine kMh ?_; (first | rintro _ _ ⟨rfl, rfl⟩ | rintro _ _ ⟨_, rfl, rfl⟩ | rintro _ _ ⟨_, _, ⟨_, _⟩, rfl, rfl⟩); try refine ⟨sConv, ?_⟩) | refine Dr.two ?_ ?_)
  exact ret1 rfl sRet sConv (⟨rfl, rfl⟩)
theorem imaykey_any (k : Keyv) : Tri Try.prog E 68 #[.agg k.cs.toArray] [] fun e H' => e = .returned (.bool k.may) ∧ H' = [] := by
  refine tri Try.func68 rfl Try.ntmps68 (by simp) ?_
  unfold Keyv.may
  repeat (first | refine wMh ?_ | (refine kMh ?_; (first | rintro _ _ ⟨rfl, rfl⟩ | rintro _ _ ⟨_, rfl, rfl⟩ | rintro _ _ ⟨_, _, ⟨_, _⟩, rfl, rfl⟩); try refine ⟨sConv, ?_⟩) | refine Dr.two ?_ ?_)
  refine L.step (by decide) (S.call rfl rfl Try.func64 (by kernel_rfl) rfl sPicks (fun E' hE => imay_any E' k.id) ?_)
  rintro e H' ⟨rfl, rfl⟩
  refine ⟨_, rfl, _, sCat, ?_⟩
  cases h1 : k.id.may
  · repeat (first | refine wMh ?_ | (refine kMh ?_; (first | rintro _ _ ⟨rfl, rfl⟩ | rintro _ _ ⟨_, rfl, rfl⟩ | rintro _ _ ⟨_, _, ⟨_, _⟩, rfl, rfl⟩); try refine ⟨sConv, ?_⟩) | refine Dr.two ?_ ?_)
    exact ret1 rfl sRet sConv (⟨rfl, rfl⟩)
  · repeat (first | refine wMh ?_ | (refine kMh ?_; (first | rintro _ _ ⟨rfl, rfl⟩ | rintro _ _ ⟨_, rfl, rfl⟩ | rintro _ _ ⟨_, _, ⟨_, _⟩, rfl, rfl⟩); try refine ⟨sConv, ?_⟩) | refine Dr.two ?_ ?_)
    refine L.step (by decide) (S.call rfl rfl Try.func37 (by kernel_rfl) rfl sPicks (fun E' hE => in_any E' k.ord 1 255) ?_)
    rintro e H' ⟨rfl, rfl⟩
    refine ⟨_, rfl, _, sCat, ?_⟩
    repeat (first | refine wMh ?_ | (refine kMh ?_; (first | rintro _ _ ⟨rfl, rfl⟩ | rintro _ _ ⟨_, rfl, rfl⟩ | rintro _ _ ⟨_, _, ⟨_, _⟩, rfl, rfl⟩); try refine ⟨sConv, ?_⟩) | refine Dr.two ?_ ?_)
    exact ret1 rfl sRet sConv (⟨rfl, rfl⟩)
theorem may1 (n : Int) : Tri Try.prog E 61 #[.int .i64 n] [] fun e H' => e = .returned (.bool (!sq n)) ∧ H' = [] := by
  refine tri Try.func61 rfl Try.ntmps61 (by simp) ?_
  repeat (first | refine wMh ?_ | (refine kMh ?_; (first | rintro _ _ ⟨rfl, rfl⟩ | rintro _ _ ⟨_, rfl, rfl⟩ | rintro _ _ ⟨_, _, ⟨_, _⟩, rfl, rfl⟩); try refine ⟨sConv, ?_⟩) | refine Dr.two ?_ ?_)
  refine L.step (by decide) (S.call rfl rfl Try.func37 (by kernel_rfl) rfl sPicks (fun E' hE => in_any E' n 0 65535) ?_)
  rintro e H' ⟨rfl, rfl⟩
  refine ⟨_, rfl, _, sCat, ?_⟩
  repeat (first | refine wMh ?_ | (refine kMh ?_; (first | rintro _ _ ⟨rfl, rfl⟩ | rintro _ _ ⟨_, rfl, rfl⟩ | rintro _ _ ⟨_, _, ⟨_, _⟩, rfl, rfl⟩); try refine ⟨sConv, ?_⟩) | refine Dr.two ?_ ?_)
  exact ret1 rfl sRet sConv (⟨rfl, rfl⟩)
theorem may2 (x : Idn) : Tri Try.prog E 63 #[.agg x.cs.toArray] [] fun e H' => e = .returned (.bool (!x.may)) ∧ H' = [] := by
  refine tri Try.func63 rfl Try.ntmps63 (by simp) ?_
  repeat (first | refine wMh ?_ | (refine kMh ?_; (first | rintro _ _ ⟨rfl, rfl⟩ | rintro _ _ ⟨_, rfl, rfl⟩ | rintro _ _ ⟨_, _, ⟨_, _⟩, rfl, rfl⟩); try refine ⟨sConv, ?_⟩) | refine Dr.two ?_ ?_)
  refine L.step (by decide) (S.call rfl rfl Try.func64 (by kernel_rfl) rfl sPicks (fun E' hE => imay_any E' x) ?_)
  rintro e H' ⟨rfl, rfl⟩
  refine ⟨_, rfl, _, sCat, ?_⟩
  repeat (first | refine wMh ?_ | (refine kMh ?_; (first | rintro _ _ ⟨rfl, rfl⟩ | rintro _ _ ⟨_, rfl, rfl⟩ | rintro _ _ ⟨_, _, ⟨_, _⟩, rfl, rfl⟩); try refine ⟨sConv, ?_⟩) | refine Dr.two ?_ ?_)
  exact ret1 rfl sRet sConv (⟨rfl, rfl⟩)
theorem may3 (x : Chg) : Tri Try.prog E 66 #[.agg x.cs.toArray] [] fun e H' => e = .returned (.bool (!x.may)) ∧ H' = [] := by
  refine tri Try.func66 rfl Try.ntmps66 (by simp) ?_
  repeat (first | refine wMh ?_ | (refine kMh ?_; (first | rintro _ _ ⟨rfl, rfl⟩ | rintro _ _ ⟨_, rfl, rfl⟩ | rintro _ _ ⟨_, _, ⟨_, _⟩, rfl, rfl⟩); try refine ⟨sConv, ?_⟩) | refine Dr.two ?_ ?_)
  refine L.step (by decide) (S.call rfl rfl Try.func67 (by kernel_rfl) rfl sPicks (fun E' hE => ccheck_any E' x) ?_)
  cases hx : x.may
  · rintro e H' ⟨rfl, rfl⟩
    refine ⟨_, rfl, _, sCat, ?_⟩
    repeat (first | refine wMh ?_ | (refine kMh ?_; (first | rintro _ _ ⟨rfl, rfl⟩ | rintro _ _ ⟨_, rfl, rfl⟩ | rintro _ _ ⟨_, _, ⟨_, _⟩, rfl, rfl⟩); try refine ⟨sConv, ?_⟩) | refine Dr.two ?_ ?_)
    exact ret1 rfl sRet sConv (⟨rfl, rfl⟩)
  · rintro e H' ⟨rfl, rfl⟩
    refine ⟨_, rfl, _, sCat, ?_⟩
    repeat (first | refine wMh ?_ | (refine kMh ?_; (first | rintro _ _ ⟨rfl, rfl⟩ | rintro _ _ ⟨_, rfl, rfl⟩ | rintro _ _ ⟨_, _, ⟨_, _⟩, rfl, rfl⟩); try refine ⟨sConv, ?_⟩) | refine Dr.two ?_ ?_)
    exact ret1 rfl sRet sConv (⟨rfl, rfl⟩)
variable (A : Option Addr) (n c : Nat)
theorem ixN (l : List Int) (hr : Rd E intT A n c l) : Tri Try.prog E 84 #[.slice A n c, .func (.func 61) #[] #[]] [] fun r H' => r = .returned (.int .i64 (idq (fun x => !sq x) l)) ∧ H' = [] := by
  have hn := hr.len
  have hcap := hr.cap
  refine tri Try.func84 rfl Try.ntmps84 (by simp) ?_
  repeat (first | refine wMh ?_ | (refine kMh ?_; (first | rintro _ _ ⟨rfl, rfl⟩ | rintro _ _ ⟨_, rfl, rfl⟩ | rintro _ _ ⟨_, _, ⟨_, _⟩, rfl, rfl⟩); try refine ⟨sConv, ?_⟩) | refine Dr.two ?_ ?_)
  refine C.loop (X := Nat) (fun i => [(0, .slice A n c), (1, .func (.func 61) #[] #[]), (7, .int .i64 n), (8, .int .i64 i)]) (fun _ => []) (fun i => i ≤ n ∧ ∀ j y, j < i → l[j]? = some y → (fun x => !sq x) y = false) (fun i => n - i) 0 sHolds Conv.refl ⟨Nat.zero_le _, fun j y hj => by omega⟩ ?_
  rintro i G ⟨hi, hall⟩
  by_cases hlt : i < n
  · have hx : l[i]? = some l[i] := List.getElem?_eq_getElem (by omega)
    generalize l[i] = x at hx
    have hmax : maxLen = 9223372036854775807 := rfl
    repeat (first | refine wMh ?_ | (refine kMh ?_; (first | rintro _ _ ⟨rfl, rfl⟩ | rintro _ _ ⟨_, rfl, rfl⟩ | rintro _ _ ⟨_, _, ⟨_, _⟩, rfl, rfl⟩); try refine ⟨sConv, ?_⟩) | refine Dr.two ?_ ?_)
    refine L.step (by decide) (S.callVL rfl rfl rfl rfl Try.func61 (by kernel_rfl) rfl sPicks (fun E' hE => may1 E' x) ?_)
    rintro r H' ⟨rfl, rfl⟩
    refine ⟨_, rfl, _, sCat, ?_⟩
    cases hp : sq x
    · rw [idq_some (p := fun x => !sq x) hx (by rw [hp]; rfl) hall]
      repeat (first | refine wMh ?_ | (refine kMh ?_; (first | rintro _ _ ⟨rfl, rfl⟩ | rintro _ _ ⟨_, rfl, rfl⟩ | rintro _ _ ⟨_, _, ⟨_, _⟩, rfl, rfl⟩); try refine ⟨sConv, ?_⟩) | refine Dr.two ?_ ?_)
      exact ret1 rfl sRet sConv (⟨rfl, rfl⟩)
    · repeat (first | refine wMh ?_ | (refine kMh ?_; (first | rintro _ _ ⟨rfl, rfl⟩ | rintro _ _ ⟨_, rfl, rfl⟩ | rintro _ _ ⟨_, _, ⟨_, _⟩, rfl, rfl⟩); try refine ⟨sConv, ?_⟩) | refine Dr.two ?_ ?_)
      refine ⟨i + 1, sHolds, Conv.refl, ⟨by omega, fun j y hj hy => ?_⟩, by omega⟩
      by_cases hji : j = i
      · subst hji; rw [hx] at hy; injection hy with hy; subst hy; dsimp only; rw [hp]; rfl
      · exact hall j y (by omega) hy
  · obtain rfl : i = n := by omega
    rw [idq_none (fun x hx => by obtain ⟨j, hj, rfl⟩ := List.getElem_of_mem hx; exact hall j _ (by omega) (List.getElem?_eq_getElem hj))]
    repeat (first | refine wMh ?_ | (refine kMh ?_; (first | rintro _ _ ⟨rfl, rfl⟩ | rintro _ _ ⟨_, rfl, rfl⟩ | rintro _ _ ⟨_, _, ⟨_, _⟩, rfl, rfl⟩); try refine ⟨sConv, ?_⟩) | refine Dr.two ?_ ?_)
    exact ret1 rfl sRet sConv (⟨rfl, rfl⟩)
theorem cfN (l : List Int) (hr : Rd E intT A n c l) : Tri Try.prog E 60 #[.slice A n c, .func (.func 61) #[] #[]] [] fun r H' => r = .returned (.bool (l.any fun x => !sq x)) ∧ H' = [] := by
  refine tri Try.func60 rfl Try.ntmps60 (by simp) ?_
  repeat (first | refine wMh ?_ | (refine kMh ?_; (first | rintro _ _ ⟨rfl, rfl⟩ | rintro _ _ ⟨_, rfl, rfl⟩ | rintro _ _ ⟨_, _, ⟨_, _⟩, rfl, rfl⟩); try refine ⟨sConv, ?_⟩) | refine Dr.two ?_ ?_)
  refine L.step (by decide) (S.call rfl rfl Try.func84 (by kernel_rfl) rfl sPicks (fun E' hE => ixN E' A n c l sRd) ?_)
  rintro r H' ⟨rfl, rfl⟩
  refine ⟨_, rfl, _, sCat, ?_⟩
  repeat (first | refine wMh ?_ | (refine kMh ?_; (first | rintro _ _ ⟨rfl, rfl⟩ | rintro _ _ ⟨_, rfl, rfl⟩ | rintro _ _ ⟨_, _, ⟨_, _⟩, rfl, rfl⟩); try refine ⟨sConv, ?_⟩) | refine Dr.two ?_ ?_)
  exact ret1 rfl sRet sConv (⟨by rw [← idq_any], rfl⟩)
theorem ixI (l : List Idn) (hr : Rd E idnT A n c l) : Tri Try.prog E 85 #[.slice A n c, .func (.func 63) #[] #[]] [] fun r H' => r = .returned (.int .i64 (idq (fun x => !x.may) l)) ∧ H' = [] := by
  have hn := hr.len
  have hcap := hr.cap
  refine tri Try.func85 rfl Try.ntmps85 (by simp) ?_
  repeat (first | refine wMh ?_ | (refine kMh ?_; (first | rintro _ _ ⟨rfl, rfl⟩ | rintro _ _ ⟨_, rfl, rfl⟩ | rintro _ _ ⟨_, _, ⟨_, _⟩, rfl, rfl⟩); try refine ⟨sConv, ?_⟩) | refine Dr.two ?_ ?_)
  refine C.loop (X := Nat) (fun i => [(0, .slice A n c), (1, .func (.func 63) #[] #[]), (7, .int .i64 n), (8, .int .i64 i)]) (fun _ => []) (fun i => i ≤ n ∧ ∀ j y, j < i → l[j]? = some y → (fun x => !x.may) y = false) (fun i => n - i) 0 sHolds Conv.refl ⟨Nat.zero_le _, fun j y hj => by omega⟩ ?_
  rintro i G ⟨hi, hall⟩
  by_cases hlt : i < n
  · have hx : l[i]? = some l[i] := List.getElem?_eq_getElem (by omega)
    generalize l[i] = x at hx
    have hmax : maxLen = 9223372036854775807 := rfl
    repeat (first | refine wMh ?_ | (refine kMh ?_; (first | rintro _ _ ⟨rfl, rfl⟩ | rintro _ _ ⟨_, rfl, rfl⟩ | rintro _ _ ⟨_, _, ⟨_, _⟩, rfl, rfl⟩); try refine ⟨sConv, ?_⟩) | refine Dr.two ?_ ?_)
    refine L.step (by decide) (S.callVL rfl rfl rfl rfl Try.func63 (by kernel_rfl) rfl sPicks (fun E' hE => may2 E' x) ?_)
    rintro r H' ⟨rfl, rfl⟩
    refine ⟨_, rfl, _, sCat, ?_⟩
    cases hp : x.may
    · rw [idq_some (p := fun x => !x.may) hx (by rw [hp]; rfl) hall]
      repeat (first | refine wMh ?_ | (refine kMh ?_; (first | rintro _ _ ⟨rfl, rfl⟩ | rintro _ _ ⟨_, rfl, rfl⟩ | rintro _ _ ⟨_, _, ⟨_, _⟩, rfl, rfl⟩); try refine ⟨sConv, ?_⟩) | refine Dr.two ?_ ?_)
      exact ret1 rfl sRet sConv (⟨rfl, rfl⟩)
    · repeat (first | refine wMh ?_ | (refine kMh ?_; (first | rintro _ _ ⟨rfl, rfl⟩ | rintro _ _ ⟨_, rfl, rfl⟩ | rintro _ _ ⟨_, _, ⟨_, _⟩, rfl, rfl⟩); try refine ⟨sConv, ?_⟩) | refine Dr.two ?_ ?_)
      refine ⟨i + 1, sHolds, Conv.refl, ⟨by omega, fun j y hj hy => ?_⟩, by omega⟩
      by_cases hji : j = i
      · subst hji; rw [hx] at hy; injection hy with hy; subst hy; dsimp only; rw [hp]; rfl
      · exact hall j y (by omega) hy
  · obtain rfl : i = n := by omega
    rw [idq_none (fun x hx => by obtain ⟨j, hj, rfl⟩ := List.getElem_of_mem hx; exact hall j _ (by omega) (List.getElem?_eq_getElem hj))]
    repeat (first | refine wMh ?_ | (refine kMh ?_; (first | rintro _ _ ⟨rfl, rfl⟩ | rintro _ _ ⟨_, rfl, rfl⟩ | rintro _ _ ⟨_, _, ⟨_, _⟩, rfl, rfl⟩); try refine ⟨sConv, ?_⟩) | refine Dr.two ?_ ?_)
    exact ret1 rfl sRet sConv (⟨rfl, rfl⟩)
theorem cfI (l : List Idn) (hr : Rd E idnT A n c l) : Tri Try.prog E 62 #[.slice A n c, .func (.func 63) #[] #[]] [] fun r H' => r = .returned (.bool (l.any fun x => !x.may)) ∧ H' = [] := by
  refine tri Try.func62 rfl Try.ntmps62 (by simp) ?_
  repeat (first | refine wMh ?_ | (refine kMh ?_; (first | rintro _ _ ⟨rfl, rfl⟩ | rintro _ _ ⟨_, rfl, rfl⟩ | rintro _ _ ⟨_, _, ⟨_, _⟩, rfl, rfl⟩); try refine ⟨sConv, ?_⟩) | refine Dr.two ?_ ?_)
  refine L.step (by decide) (S.call rfl rfl Try.func85 (by kernel_rfl) rfl sPicks (fun E' hE => ixI E' A n c l sRd) ?_)
  rintro r H' ⟨rfl, rfl⟩
  refine ⟨_, rfl, _, sCat, ?_⟩
  repeat (first | refine wMh ?_ | (refine kMh ?_; (first | rintro _ _ ⟨rfl, rfl⟩ | rintro _ _ ⟨_, rfl, rfl⟩ | rintro _ _ ⟨_, _, ⟨_, _⟩, rfl, rfl⟩); try refine ⟨sConv, ?_⟩) | refine Dr.two ?_ ?_)
  exact ret1 rfl sRet sConv (⟨by rw [← idq_any], rfl⟩)
theorem ixC (l : List Chg) (hr : Rd E chgT A n c l) : Tri Try.prog E 86 #[.slice A n c, .func (.func 66) #[] #[]] [] fun r H' => r = .returned (.int .i64 (idq (fun x => !x.may) l)) ∧ H' = [] := by
  have hn := hr.len
  have hcap := hr.cap
  refine tri Try.func86 rfl Try.ntmps86 (by simp) ?_
  repeat (first | refine wMh ?_ | (refine kMh ?_; (first | rintro _ _ ⟨rfl, rfl⟩ | rintro _ _ ⟨_, rfl, rfl⟩ | rintro _ _ ⟨_, _, ⟨_, _⟩, rfl, rfl⟩); try refine ⟨sConv, ?_⟩) | refine Dr.two ?_ ?_)
  refine C.loop (X := Nat) (fun i => [(0, .slice A n c), (1, .func (.func 66) #[] #[]), (7, .int .i64 n), (8, .int .i64 i)]) (fun _ => []) (fun i => i ≤ n ∧ ∀ j y, j < i → l[j]? = some y → (fun x => !x.may) y = false) (fun i => n - i) 0 sHolds Conv.refl ⟨Nat.zero_le _, fun j y hj => by omega⟩ ?_
  rintro i G ⟨hi, hall⟩
  by_cases hlt : i < n
  · have hx : l[i]? = some l[i] := List.getElem?_eq_getElem (by omega)
    generalize l[i] = x at hx
    have hmax : maxLen = 9223372036854775807 := rfl
    repeat (first | refine wMh ?_ | (refine kMh ?_; (first | rintro _ _ ⟨rfl, rfl⟩ | rintro _ _ ⟨_, rfl, rfl⟩ | rintro _ _ ⟨_, _, ⟨_, _⟩, rfl, rfl⟩); try refine ⟨sConv, ?_⟩) | refine Dr.two ?_ ?_)
    refine L.step (by decide) (S.callVL rfl rfl rfl rfl Try.func66 (by kernel_rfl) rfl sPicks (fun E' hE => may3 E' x) ?_)
    rintro r H' ⟨rfl, rfl⟩
    refine ⟨_, rfl, _, sCat, ?_⟩
    cases hp : x.may
    · rw [idq_some (p := fun x => !x.may) hx (by rw [hp]; rfl) hall]
      repeat (first | refine wMh ?_ | (refine kMh ?_; (first | rintro _ _ ⟨rfl, rfl⟩ | rintro _ _ ⟨_, rfl, rfl⟩ | rintro _ _ ⟨_, _, ⟨_, _⟩, rfl, rfl⟩); try refine ⟨sConv, ?_⟩) | refine Dr.two ?_ ?_)
      exact ret1 rfl sRet sConv (⟨rfl, rfl⟩)
    · repeat (first | refine wMh ?_ | (refine kMh ?_; (first | rintro _ _ ⟨rfl, rfl⟩ | rintro _ _ ⟨_, rfl, rfl⟩ | rintro _ _ ⟨_, _, ⟨_, _⟩, rfl, rfl⟩); try refine ⟨sConv, ?_⟩) | refine Dr.two ?_ ?_)
      refine ⟨i + 1, sHolds, Conv.refl, ⟨by omega, fun j y hj hy => ?_⟩, by omega⟩
      by_cases hji : j = i
      · subst hji; rw [hx] at hy; injection hy with hy; subst hy; dsimp only; rw [hp]; rfl
      · exact hall j y (by omega) hy
  · obtain rfl : i = n := by omega
    rw [idq_none (fun x hx => by obtain ⟨j, hj, rfl⟩ := List.getElem_of_mem hx; exact hall j _ (by omega) (List.getElem?_eq_getElem hj))]
    repeat (first | refine wMh ?_ | (refine kMh ?_; (first | rintro _ _ ⟨rfl, rfl⟩ | rintro _ _ ⟨_, rfl, rfl⟩ | rintro _ _ ⟨_, _, ⟨_, _⟩, rfl, rfl⟩); try refine ⟨sConv, ?_⟩) | refine Dr.two ?_ ?_)
    exact ret1 rfl sRet sConv (⟨rfl, rfl⟩)
theorem cfC (l : List Chg) (hr : Rd E chgT A n c l) : Tri Try.prog E 65 #[.slice A n c, .func (.func 66) #[] #[]] [] fun r H' => r = .returned (.bool (l.any fun x => !x.may)) ∧ H' = [] := by
  refine tri Try.func65 rfl Try.ntmps65 (by simp) ?_
  repeat (first | refine wMh ?_ | (refine kMh ?_; (first | rintro _ _ ⟨rfl, rfl⟩ | rintro _ _ ⟨_, rfl, rfl⟩ | rintro _ _ ⟨_, _, ⟨_, _⟩, rfl, rfl⟩); try refine ⟨sConv, ?_⟩) | refine Dr.two ?_ ?_)
  refine L.step (by decide) (S.call rfl rfl Try.func86 (by kernel_rfl) rfl sPicks (fun E' hE => ixC E' A n c l sRd) ?_)
  rintro r H' ⟨rfl, rfl⟩
  refine ⟨_, rfl, _, sCat, ?_⟩
  repeat (first | refine wMh ?_ | (refine kMh ?_; (first | rintro _ _ ⟨rfl, rfl⟩ | rintro _ _ ⟨_, rfl, rfl⟩ | rintro _ _ ⟨_, _, ⟨_, _⟩, rfl, rfl⟩); try refine ⟨sConv, ?_⟩) | refine Dr.two ?_ ?_)
  exact ret1 rfl sRet sConv (⟨by rw [← idq_any], rfl⟩)
end
end Go.Proofs.Ytihblcljkndpgaa.Sep
