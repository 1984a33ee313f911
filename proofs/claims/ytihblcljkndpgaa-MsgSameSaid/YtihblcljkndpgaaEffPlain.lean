/- Effects as octets, plainly: no function in sight. -/
import Derived.Test.YtihblcljkndpgaaEnt7
namespace Go.Proofs.Ytihblcljkndpgaa.Sep
open Go.RowKit Go.Proofs.Ytihblcljkndpgaa.Oct Go.Proofs.Ytihblcljkndpgaa.Dly
set_option maxRecDepth 100000
theorem effOf_ok (l : List UInt8) : (effOf l).ok := by
  have a0 := fld_lt l 0 1
  have a1 := fld_lt l 1 1
  have a2 := sgn_ok (k := fld l 2 8) (fld_lt l 2 8)
  have a3 := fld_lt l 10 1
  have a4 := fld_lt l 11 2
  refine ⟨?_, ?_, a2, ?_, ?_⟩
  all_goals (simp only [effOf]; unfold I64; omega)
theorem put_effOf {l : List UInt8} (h : l.length = 13) : (effOf l).put = l := by
  have u8 : uns (sgn (fld l 2 8)) = fld l 2 8 := uns_sgn (fld_lt l 2 8)
  have e1 : l = (l.drop 0).take 1 ++ ((l.drop 1).take 1 ++ ((l.drop 2).take 8 ++ ((l.drop 10).take 1 ++ l.drop 11))) := by
    have step : ∀ i w, l.drop i = (l.drop i).take w ++ l.drop (i + w) := fun i w => by rw [← List.drop_drop, List.take_append_drop]
    have h0 := step 0 1; have h1 := step 1 1; have h2 := step 2 8; have h3 := step 10 1
    rw [← h3, ← h2, ← h1, ← h0, List.drop_zero]
  have e2 : l.drop 11 = (l.drop 11).take 2 := (List.take_of_length_le (by simp; omega)).symm
  rw [e2] at e1
  unfold Eff.put effOf
  dsimp only
  rw [u8]
  simp only [Int.toNat_natCast]
  rw [be_fld (by omega), be_fld (by omega), be_fld (by omega), be_fld (by omega), be_fld (by omega)]
  exact e1.symm
theorem effOf_put {f : Eff} (hc : f.check = 0) (hn : I64 f.n) : effOf f.put = f := by
  obtain ⟨⟨k0, k1⟩, ⟨a0, a1⟩, ⟨p0, p1⟩, s0, s1⟩ := Eff.check_zero hc
  have hu := uns_lt f.n
  have f0 : fld f.put 0 1 = f.kind.toNat := fld_at (a := []) rfl (by omega)
  have f1 : fld f.put 1 1 = f.a.toNat := by
    unfold Eff.put
    exact fld_at (by simp [be_length]) (by omega)
  have f2 : fld f.put 2 8 = uns f.n := by
    unfold Eff.put
    rw [← List.append_assoc]
    exact fld_at (by simp [be_length]) (by omega)
  have f3 : fld f.put 10 1 = f.ref.rep.toNat := by
    unfold Eff.put
    rw [← List.append_assoc, ← List.append_assoc]
    exact fld_at (by simp [be_length]) (by omega)
  have f4 : fld f.put 11 2 = f.ref.seq.toNat := by
    unfold Eff.put
    rw [← List.append_assoc, ← List.append_assoc, ← List.append_assoc]
    rw [← List.append_nil (be f.ref.seq.toNat 2)]
    exact fld_at (by simp [be_length]) (by omega)
  unfold effOf
  rw [f0, f1, f2, f3, f4, sgn_uns hn]
  rw [Int.toNat_of_nonneg (by omega), Int.toNat_of_nonneg a0, Int.toNat_of_nonneg p0, Int.toNat_of_nonneg s0]
theorem fget13_put {f : Eff} (hc : f.check = 0) (hn : I64 f.n) : fget13 f.put = some f := by
  unfold fget13
  rw [effOf_put hc hn, if_pos hc]
theorem fget13_some {l : List UInt8} {f : Eff} (h : fget13 l = some f) : f = effOf l ∧ f.check = 0 := by
  unfold fget13 at h
  split at h
  · injection h with h; subst h; exact ⟨rfl, by assumption⟩
  · cases h
end Go.Proofs.Ytihblcljkndpgaa.Sep
