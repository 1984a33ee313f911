/- the law's model of an entry, and one entry's facts, by parts of memory. -/
import Derived.Test.YtncfkkmdhdofpaaEnt8
import Derived.Test.YtncfkkmdhdofpaaEnt4
import Derived.Test.YtncfkkmdhdofpaaEnt7
import Derived.Test.YtncfkkmdhdofpaaChange2
import Derived.Test.YtncfkkmdhdofpaaChangePlain
import Derived.Test.YtncfkkmdhdofpaaPutw
import Derived.Test.YtncfkkmdhdofpaaRet
import Derived.Test.YtncfkkmdhdofpaaOctDone
namespace Go.Proofs.Ytncfkkmdhdofpaa.Sep
open Go.RowKit Go.Proofs.Ytncfkkmdhdofpaa.Reg Go.Proofs.Ytncfkkmdhdofpaa.Oct
open Go.Proofs.Ytncfkkmdhdofpaa.Mem hiding Rd Own
-- types: octT idnT
-- recs: rec_Reader idnT_rec effT_rec cfgT_rec entT_rec enrT_rec
-- eqs: idnT_eqa effT_eqa entT_eqa enrT_eqa
-- zeros: z_octs z_rdr
-- funcs
set_option maxRecDepth 100000
set_option maxHeartbeats 8000000
theorem model20 (E : Env) (x : Ent) : Tri Try.prog E 50 #[.agg x.cs.toArray] [] fun e H' => e = .returned (.agg x.cs.toArray) ∧ H' = [] := by
  refine tri Try.func50 rfl Try.ntmps50 (by simp) ?_
  repeat (first | refine wEn5 ?_ | (refine kEn5 ?_; (first | rintro _ _ ⟨rfl, rfl⟩ | rintro _ _ ⟨_, rfl, rfl⟩ | rintro _ _ ⟨_, _, ⟨_, _⟩, rfl, rfl⟩); try refine ⟨sConv, ?_⟩) | refine Dr.two ?_ ?_)
  apply retC1; (· exact rfl); (· exact sRet); (· exact rfl); (· exact rfl); (· exact rfl); (· exact sHas); (· exact rfl); rotate_left; (· exact (⟨rfl, rfl⟩)); (· exact sConv)
/-- the entry that 'alive' looks at -/
abbrev ent0 : Ent := ⟨1, ⟨1, 0, 0, ⟨0, 0⟩⟩, 1, 5, false, false, 0, 0⟩
abbrev cfg0 : Cfg := ⟨0, 0, 2, 3, 9⟩
theorem ent0_may : ent0.may = true := by decide
theorem ent0_put : ent0.put = [1, 1, 0, 0, 0, 0, 0, 0, 0, 0, 0, 0, 0, 0, 1, 0, 0, 0, 5, 0, 0, 0, 0, 0, 0, 69, 69] := by decide
theorem ent0_r7 : ent0.ready cfg0 7 = false := by decide
theorem ent0_r8 : ent0.ready cfg0 8 = true := by decide
theorem ent0_try : ent0.try_ 8 = ⟨1, ⟨1, 0, 0, ⟨0, 0⟩⟩, 2, 8, false, false, 0, 0⟩ := by decide
theorem ent0_dead : (ent0.try_ 8).dead cfg0 14 = true := by decide
theorem ent0_dead9 : ent0.dead cfg0 9 = false := by decide
theorem ent0_R : entR ent0.put = ent0 := by rw [ent0_put]; decide
theorem ent0_get : eget ent0.put = some ent0 := by
  unfold eget
  rw [ent0_R, if_pos ⟨ent0.put_length, ent0_may, rfl⟩]
end Go.Proofs.Ytncfkkmdhdofpaa.Sep
