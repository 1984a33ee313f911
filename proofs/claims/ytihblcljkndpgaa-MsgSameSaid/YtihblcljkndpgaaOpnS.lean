/- Structs among the arguments, opened. -/
import Derived.Test.YtihblcljkndpgaaOpn
import Derived.Test.YtihblcljkndpgaaApi
namespace Go.Proofs.Ytihblcljkndpgaa.Sep
open Go.RowKit Go.Proofs.Ytihblcljkndpgaa.Reg Go.ChangeShapes Go.WideShapes Go.ChangeAt Go.Deep Go.Proofs.Ytihblcljkndpgaa.Open
open Go.Proofs.Ytihblcljkndpgaa.Mem hiding Rd Own
set_option maxRecDepth 100000
section
variable {H : Type} {enc : TypeId × Value → H} {W : World} {α : Type}
/-- the fields of a struct -/
theorem trod_flds {n : Nat} {t : TypeId} {fs : Array Field} {cs : List Value} {y : DataW H × List MemPlace} (ht : Try.prog.underlying t = some (.struct fs)) (h : DataW.trod enc Try.prog W 0 (fun _ => true) true n t cs = some y) :
    ∃ n', ∀ (j : Nat) (f : Field) (seg : List Value) (k : Nat), fs[j]? = some f → Try.prog.cellsOf f.type = k → (cs.drop f.offset).take k = seg → ∃ z : DataW H × List MemPlace, DataW.trod enc Try.prog W 0 (fun _ => true) true n' f.type seg = some z := by
  obtain ⟨ys, n', hn', hy, hlen, hyl, hf⟩ := DataW.trod_struct ht h
  refine ⟨n', fun j f seg k hj hk hs => ?_⟩
  have hjl : j < fs.size := (Array.getElem?_eq_some_iff.1 hj).1
  have h1 := hf j f hj
  rw [hk, hs] at h1
  have hys : ys[j]? = some (ys[j]'(by omega)) := List.getElem?_eq_getElem (by omega)
  exact ⟨_, h1.trans hys⟩
/-- a field that is true or not -/
theorem fld_bool {n : Nat} {t : TypeId} {v : Value} {z : DataW H × List MemPlace} (ht : Try.prog.underlying t = some .bool) (h : DataW.trod enc Try.prog W 0 (fun _ => true) true n t [v] = some z) : ∃ b : Bool, v = .bool b := by
  obtain ⟨b, h1, _⟩ := DataW.trod_bool ht h
  injection h1 with h1 _
  exact ⟨b, h1⟩
/-- a struct -/
theorem open_one (T : Ty α) (R : DataW H → α → Prop) (hce : Try.prog.cellsOf T.tid = T.size)
    (dec : ∀ n cs y, cs.length = T.size → DataW.trod enc Try.prog W 0 (fun _ => true) true n T.tid cs = some y → ∃ a, cs = T.enc a ∧ R y.1 a)
    {fs : Array Field} {v : Value} {d : DataW H} {p : List MemPlace} {base : Nat} (ht : Try.prog.underlying T.tid = some (.struct fs)) (hv : Value.okWide Try.prog W .any base T.tid v) (h : DataW.Trod enc Try.prog W 0 (fun _ => true) true T.tid v d p) :
    ∃ a, v = T.val a ∧ R d a := by
  unfold Value.okWide at hv
  rw [ht] at hv
  obtain ⟨cs, rfl, hs, _⟩ := hv
  obtain ⟨fuel, hf⟩ := h
  have hc : (Value.agg cs).cells.toList = cs.toList := rfl
  rw [hc] at hf
  obtain ⟨a, ha, hR⟩ := dec _ _ _ (by rw [Array.length_toList, hs, hce]) hf
  refine ⟨a, ?_, hR⟩
  rcases T.hagg with ⟨_, hg⟩ | ⟨hg, _⟩
  · obtain ⟨cs', e⟩ := hg a
    have h2 : T.enc a = cs'.toList := by unfold Ty.enc; rw [e]; rfl
    rw [e, show cs = cs' from Array.ext' (ha.trans h2)]
  · rw [ht] at hg
    simp [aggD] at hg
end
end Go.Proofs.Ytihblcljkndpgaa.Sep
