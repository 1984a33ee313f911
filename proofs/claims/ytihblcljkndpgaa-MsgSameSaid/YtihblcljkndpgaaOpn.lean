/- Arguments, opened, by parts of memory. -/
import Derived.Test.YtihblcljkndpgaaOct
import Derived.Test.YtihblcljkndpgaaOpen
import Derived.Deep.Fields
namespace Go.Proofs.Ytihblcljkndpgaa.Sep
open Go.RowKit Go.Proofs.Ytihblcljkndpgaa.Reg Go.ChangeShapes Go.WideShapes Go.ChangeAt Go.Deep Go.Proofs.Ytihblcljkndpgaa.Open
open Go.Proofs.Ytihblcljkndpgaa.Mem hiding Rd Own
set_option maxRecDepth 100000

/-- what a call is given: all that lies there -/
def top (W : World) : Env := ⟨W, fun b => b < W.heap.size⟩
theorem tri_top {P : Program} {f : FuncId} {args : Array Value} {W : World} (h : Tri P (top W) f args [] fun e _ => e = .returned (.bool true)) :
    Calls P f args W fun e W' => e = .returned (.bool true) ∧ Below W.heap.size W W' :=
  (h W ⟨rfl, rfl, rfl, Nat.le_refl _, fun _ h => h, fun _ _ => rfl, fun _ => False, fun _ h => h, fun _ _ h => h⟩).mono fun _ _ ⟨_, hs, he⟩ => ⟨he, hs.os, hs.tape, hs.output, hs.size, hs.keep⟩
section
variable {H : Type} {enc : TypeId × Value → H} {W : World} {α : Type}
/-- THE SLICE, OPENED -/
theorem open_ty (T : Ty α) (R : DataW H → α → Prop) (hce : Try.prog.cellsOf T.tid = T.size)
    (dec : ∀ n cs y, cs.length = T.size → DataW.trod enc Try.prog W 0 (fun _ => true) true n T.tid cs = some y → ∃ a, cs = T.enc a ∧ R y.1 a)
    {t fuel : Nat} {cs : List Value} {x : DataW H × List MemPlace} (ht : Try.prog.underlying t = some (.slice T.tid)) (h : DataW.trod enc Try.prog W 0 (fun _ => true) true fuel t cs = some x) :
    ∃ A n c l, cs = [.slice A n c] ∧ Rd (top W) T A n c l ∧ Sh R x.1 l c := by
  rcases open_slice ht h with ⟨rfl, rfl⟩ | ⟨a, len, cap, m, k, D, Pl, rfl, _, hl, hm, hmm, rfl, hx⟩
  · exact ⟨none, 0, 0, [], rfl, Rd.nil _ _, .inl ⟨rfl, rfl, rfl⟩⟩
  · simp only [if_true] at hmm
    subst hmm
    have each : ∀ i, i < m → ∃ b, R (D i) b ∧ ∀ j u, (T.enc b)[j]? = some u → W.cell? (a.add (i * T.size + j)) = some u := by
      intro i hi
      obtain ⟨cs', h1, h2⟩ := hx i hi
      rw [hce] at h1
      obtain ⟨h3, h4⟩ := cells?_len h1
      obtain ⟨b, rfl, hR⟩ := dec _ _ _ h3 h2
      refine ⟨b, hR, fun j u hj => ?_⟩
      rw [← add_of_add]
      exact h4 j u hj
    obtain ⟨l, hll, hf⟩ := choose_list len (fun i hi => each i (by omega))
    subst hll
    refine ⟨some a, l.length, m, l, rfl, ⟨rfl, hl, hm, ?_⟩, .inr ⟨_, _, rfl, by simp, by simp; omega, ?_⟩⟩
    · by_cases hn : l.length = 0
      · exact .inl hn
      have hcell : ∀ j u, (T.encs l)[j]? = some u → W.cell? (a.add j) = some u := by
        intro j u hu
        have hj : j < l.length * T.size := by
          have := (List.getElem?_eq_some_iff.1 hu).1
          rwa [T.encs_length] at this
        have hq : j / T.size < l.length := Nat.div_lt_of_lt_mul (by rw [Nat.mul_comm]; exact hj)
        have hdm := Nat.div_add_mod j T.size
        have hlt : j % T.size < (T.enc l[j / T.size]).length := by rw [T.enc_length]; exact Nat.mod_lt _ T.hpos
        have h5 := T.encs_at (List.getElem?_eq_getElem hq) (List.getElem?_eq_getElem hlt)
        have e : j / T.size * T.size + j % T.size = j := by rw [Nat.mul_comm]; exact hdm
        rw [e, hu] at h5
        have h6 := (hf (j / T.size) hq).2 (j % T.size) _ (List.getElem?_eq_getElem hlt)
        rw [e] at h6
        rw [h6, ← h5]
      refine .inr ⟨a, rfl, ?_, hcell⟩
      have h0 : 0 < (T.encs l).length := by
        rw [T.encs_length]; exact Nat.mul_pos (by omega) T.hpos
      have := World.block_lt_of_cell? _ _ (hcell 0 _ (List.getElem?_eq_getElem h0))
      rwa [block_of_add] at this
    · intro i h1 h2
      simp at h1 ⊢
      exact (hf i h2).1
theorem open_val (T : Ty α) (R : DataW H → α → Prop) (hce : Try.prog.cellsOf T.tid = T.size)
    (dec : ∀ n cs y, cs.length = T.size → DataW.trod enc Try.prog W 0 (fun _ => true) true n T.tid cs = some y → ∃ a, cs = T.enc a ∧ R y.1 a)
    {t : TypeId} {v : Value} {d : DataW H} {p : List MemPlace} {base : Nat} (ht : Try.prog.underlying t = some (.slice T.tid)) (hv : Value.okWide Try.prog W .any base t v) (h : DataW.Trod enc Try.prog W 0 (fun _ => true) true t v d p) :
    ∃ A n c l, v = .slice A n c ∧ Rd (top W) T A n c l ∧ Sh R d l c := by
  obtain ⟨a, len, cap, rfl⟩ := okWide_slice ht hv
  obtain ⟨fuel, hf⟩ := h
  obtain ⟨A, n, c, l, hcs, hr, hs⟩ := open_ty T R hce dec ht hf
  simp [Value.cells] at hcs
  obtain ⟨rfl, rfl, rfl⟩ := hcs
  exact ⟨_, _, _, l, rfl, hr, hs⟩
theorem dec_octT : ∀ n cs y, cs.length = octT.size → DataW.trod enc Try.prog W 0 (fun _ => true) true n octT.tid cs = some y → ∃ b, cs = octT.enc b ∧ isOct y.1 b := by
  intro n cs y _ h
  obtain ⟨k, rfl, rfl, hw⟩ := DataW.trod_int Try.underlying5 h
  have hk := bounds_u8 hw
  have e : ((UInt8.ofNat k.toNat).toNat : Int) = k := by simp; omega
  refine ⟨UInt8.ofNat k.toNat, ?_, by unfold isOct; rw [e]⟩
  show _ = [Value.int .u8 _]
  rw [e]
theorem open_octT {v : Value} {d : DataW H} {p : List MemPlace} {base : Nat} (hv : Value.okWide Try.prog W .any base 22 v) (h : DataW.Trod enc Try.prog W 0 (fun _ => true) true 22 v d p) :
    ∃ A n c l, v = .slice A n c ∧ Rd (top W) octT A n c l ∧ Sh isOct d l c := open_val octT isOct (by kernel_rfl) dec_octT Try.underlying22 hv h
/-- a slice of octets that was read is no longer than the form's reach -/
theorem reach_octT {d : DataW H} {l : List UInt8} {c n : Nat} {A : Option Addr} {E : Env} (hr : Rd E octT A n c l) (h : Sh isOct d l c) (hw : ∀ x ∈ d.weights Try.prog 22, x ≤ reachBytes) : n ≤ 140737488351232 := by
  have h1 := reach_slice h Try.underlying22 hw
  rw [bytes_oct] at h1
  have := hr.cap
  omega
/-- the one-cell fields of a struct -/
theorem trod_fields {n : Nat} {t : TypeId} {fs : Array Field} {cs : List Value} {y : DataW H × List MemPlace} (ht : Try.prog.underlying t = some (.struct fs)) (hone : oneCellFields Try.prog fs = true) (hl : cs.length = fs.size) (h : DataW.trod enc Try.prog W 0 (fun _ => true) true n t cs = some y) :
    ∃ n', ∀ (j : Nat) (f : Field), fs[j]? = some f → ∃ (v : Value) (z : DataW H × List MemPlace), cs[j]? = some v ∧ DataW.trod enc Try.prog W 0 (fun _ => true) true n' f.type [v] = some z := by
  obtain ⟨ys, n', hn', hy, hlen, hyl, hf⟩ := DataW.trod_struct ht h
  refine ⟨n', fun j f hj => ?_⟩
  obtain ⟨ho, hk⟩ := hone_of hone j f hj
  have hjl : j < fs.size := (Array.getElem?_eq_some_iff.1 hj).1
  have h1 := hf j f hj
  rw [ho, hk] at h1
  have hv : cs[j]? = some (cs[j]'(by omega)) := List.getElem?_eq_getElem (by omega)
  have hone' : (cs.drop j).take 1 = [cs[j]'(by omega)] := by
    rw [List.drop_eq_getElem_cons (by omega)]
    rfl
  rw [hone'] at h1
  have hys : ys[j]? = some (ys[j]'(by omega)) := List.getElem?_eq_getElem (by omega)
  exact ⟨_, _, hv, h1.trans hys⟩
/-- a field that is an integer -/
theorem fld_int {n : Nat} {t : TypeId} {k : IntKind} {v : Value} {z : DataW H × List MemPlace} (ht : Try.prog.underlying t = some (.int k)) (h : DataW.trod enc Try.prog W 0 (fun _ => true) true n t [v] = some z) : ∃ i : Int, v = .int k i ∧ (Lit.int k i).wf = true := by
  obtain ⟨i, h1, _, h3⟩ := DataW.trod_int ht h
  injection h1 with h1 _
  exact ⟨i, h1, h3⟩
/-- a field that is a slice of octets -/
theorem fld_octs {n : Nat} {v : Value} {z : DataW H × List MemPlace} (h : DataW.trod enc Try.prog W 0 (fun _ => true) true n 22 [v] = some z) : ∃ A k c l, v = .slice A k c ∧ Rd (top W) octT A k c l := by
  obtain ⟨A, k, c, l, hcs, hr, _⟩ := open_ty octT isOct (by kernel_rfl) dec_octT Try.underlying22 h
  injection hcs with hcs _
  exact ⟨A, k, c, l, hcs, hr⟩
/-- what each element is -/
theorem sh_all {α : Type} {q : α → Prop} {d : DataW H} {l : List α} {c : Nat} (h : Sh (fun _ a => q a) d l c) : ∀ x ∈ l, q x := by
  rcases h with ⟨_, rfl, _⟩ | ⟨elems, spare, _, h1, _, h3⟩
  · intro x hx; cases hx
  · intro x hx
    obtain ⟨i, hi, rfl⟩ := List.getElem_of_mem hx
    exact h3 i (by omega) hi
end
end Go.Proofs.Ytihblcljkndpgaa.Sep
