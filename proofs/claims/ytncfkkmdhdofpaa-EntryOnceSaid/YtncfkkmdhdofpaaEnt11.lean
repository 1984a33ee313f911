/- the law's model of an entry, and one entry's facts, by parts of memory. -/
import Derived.Test.YtncfkkmdhdofpaaEnt8
import Derived.Test.YtncfkkmdhdofpaaEnt4
import Derived.Test.YtncfkkmdhdofpaaEnt7
import Derived.Test.YtncfkkmdhdofpaaChange2
import Derived.Test.YtncfkkmdhdofpaaChangePlain
import Derived.Test.YtncfkkmdhdofpaaPutw
import Derived.Test.YtncfkkmdhdofpaaRet
import Derived.Test.YtncfkkmdhdofpaaOctDone
namespace Go.Proofs.Ytncfkkmdhdofpaa.Sep
open Go.RowKit Go.Proofs.Ytncfkkmdhdofpaa.Reg Go.Proofs.Ytncfkkmdhdofpaa.Oct
open Go.Proofs.Ytncfkkmdhdofpaa.Mem hiding Rd Own
-- types: octT idnT
-- recs: rec_Reader idnT_rec effT_rec cfgT_rec entT_rec enrT_rec
-- eqs: idnT_eqa effT_eqa entT_eqa enrT_eqa
-- zeros: z_octs z_rdr
-- funcs
set_option maxRecDepth 100000
set_option maxHeartbeats 8000000
theorem model20 (E : Env) (x : Ent) : Tri Try.prog E 50 #[.agg x.cs.toArray] [] fun e H' => e = .returned (.agg x.cs.toArray) ∧ H' = [] := by
  refine tri Try.func50 rfl Try.ntmps50 (by simp) ?_
  repeat (first | (focus (apply L.val; (· decide); (· exact sYEn5))) | refine C.seq ?_ | refine C.region ?_ | refine L.nil ?_ | refine C.block ?_ | refine C.exit ?_ | refine C.skip ?_ | refine C.ret ?_ | (focus (apply L.on; (· exact rfl); (· decide); (· exact rfl); (· exact sTst))) | (focus (apply L.off; (· decide); (· exact rfl); (· decide); (· exact rfl); (· exact sTst))) | (focus (apply L.offU; (· decide); (· exact rfl); (· decide); (· exact rfl))) | (focus (apply C.condT; (· exact rfl); (· exact sTst))) | (focus (apply C.condF; (· exact rfl); (· exact sTst))) | (focus (apply L.stepK; (· decide); (· exact sSEn5); (first | rintro _ _ ⟨rfl, rfl⟩ | rintro _ _ ⟨_, rfl, rfl⟩ | rintro _ _ ⟨_, _, ⟨_, _⟩, rfl, rfl⟩))) | (focus (apply L.step0K; (· exact sSEn5); (first | rintro _ _ ⟨rfl, rfl⟩ | rintro _ _ ⟨_, rfl, rfl⟩ | rintro _ _ ⟨_, _, ⟨_, _⟩, rfl, rfl⟩))) | refine Dr.done ?_ | (focus (apply Dr.goZ; (· exact rfl); (· rintro k ⟨⟩ <;> decide); (· exact sGon); (· exact sSEn5); (first | rintro _ _ ⟨rfl, rfl⟩ | rintro _ _ ⟨_, rfl, rfl⟩ | rintro _ _ ⟨_, _, ⟨_, _⟩, rfl, rfl⟩))) | (focus (apply Dr.take; (· exact rfl); (· decide); (· exact sGon); (· exact sYEn5))) | (focus (apply Dr.skip; (· exact rfl); (· decide); (· exact sGoff))) | (focus (apply Dr.goSkip; (· exact rfl); (· decide); (· exact sGoff))) | refine Dr.two ?_ ?_ | (focus (apply Go1.goK; (· exact rfl); (· rintro k ⟨⟩ <;> decide); (· exact sGon); (· exact sSEn5); (first | rintro _ _ ⟨rfl, rfl⟩ | rintro _ _ ⟨_, rfl, rfl⟩ | rintro _ _ ⟨_, _, ⟨_, _⟩, rfl, rfl⟩); refine ⟨sConv, ?_⟩)) | (focus (apply Dr.goK; (· exact rfl); (· rintro k ⟨⟩ <;> decide); (· exact sGon); (· exact sSEn5); (first | rintro _ _ ⟨rfl, rfl⟩ | rintro _ _ ⟨_, rfl, rfl⟩ | rintro _ _ ⟨_, _, ⟨_, _⟩, rfl, rfl⟩); refine ⟨sConv, ?_⟩)) | with_reducible refine T.n ?_ | with_reducible refine T.ret ?_ | with_reducible refine T.exit ?_ | with_reducible refine I.n ?_ | with_reducible refine I.ret ?_ | with_reducible refine I.hit ?_ | with_reducible refine I.miss (by decide) ?_)
  apply retC1; (· exact rfl); (· exact sRet); (· exact rfl); (· exact rfl); (· exact rfl); (· exact sHas); (· exact rfl); rotate_left; (· exact (⟨rfl, rfl⟩)); (· exact sConv)
/-- the entry that 'alive' looks at -/
abbrev ent0 : Ent := ⟨1, ⟨1, 0, 0, ⟨0, 0⟩⟩, 1, 5, false, false, 0, 0⟩
abbrev cfg0 : Cfg := ⟨0, 0, 2, 3, 9⟩
theorem ent0_may : ent0.may = true := by decide
theorem ent0_put : ent0.put = [1, 1, 0, 0, 0, 0, 0, 0, 0, 0, 0, 0, 0, 0, 1, 0, 0, 0, 5, 0, 0, 0, 0, 0, 0, 69, 69] := by decide
theorem ent0_r7 : ent0.ready cfg0 7 = false := by decide
theorem ent0_r8 : ent0.ready cfg0 8 = true := by decide
theorem ent0_try : ent0.try_ 8 = ⟨1, ⟨1, 0, 0, ⟨0, 0⟩⟩, 2, 8, false, false, 0, 0⟩ := by decide
theorem ent0_dead : (ent0.try_ 8).dead cfg0 14 = true := by decide
theorem ent0_dead9 : ent0.dead cfg0 9 = false := by decide
theorem ent0_R : entR ent0.put = ent0 := by rw [ent0_put]; decide
theorem ent0_get : eget ent0.put = some ent0 := by
  unfold eget
  rw [ent0_R, if_pos ⟨ent0.put_length, ent0_may, rfl⟩]
end Go.Proofs.Ytncfkkmdhdofpaa.Sep
