/- the document's octets of an entry, by parts of memory. -/
import Derived.Test.YtncfkkmdhdofpaaEnt6
import Derived.Test.YtncfkkmdhdofpaaEnt3
import Derived.Test.YtncfkkmdhdofpaaChangePlain
import Derived.Test.YtncfkkmdhdofpaaPutw
namespace Go.Proofs.Ytncfkkmdhdofpaa.Sep
open Go.RowKit Go.Proofs.Ytncfkkmdhdofpaa.Reg Go.Proofs.Ytncfkkmdhdofpaa.Oct
open Go.Proofs.Ytncfkkmdhdofpaa.Mem hiding Rd Own
-- types: octT idnT
-- recs: rec_Reader idnT_rec effT_rec cfgT_rec entT_rec enrT_rec
-- eqs: idnT_eqa effT_eqa entT_eqa enrT_eqa
-- zeros: z_octs z_rdr
-- funcs
set_option maxRecDepth 100000
set_option maxHeartbeats 8000000
section
variable (E : Env) (e : Ent)
theorem moct (hm : e.may = true) : Tri Try.prog E 100 #[.agg e.cs.toArray] [] fun r H' => ∃ A' c', r = .returned (.slice A' 27 c') ∧ H' = [own octT A' 27 c' e.put] := by
  obtain ⟨⟨o0, o1⟩, hw, ⟨s0, s1⟩, ⟨⟨b0, b1⟩, _⟩, ⟨l0, l1⟩, ⟨k0, k1⟩, _⟩ := (Ent.may_iff e).1 hm
  have w1 := wrap_nat l0 (by omega)
  have w2 := wrap_nat k0 (by omega)
  have g1 : e.last.toNat < 18446744073709551616 := by omega
  have g2 : e.backLast.toNat < 18446744073709551616 := by omega
  have o4 : 1 ≤ 4 ∧ 4 ≤ 8 := by omega
  have hfin := ent_fin e
  have hfl : e.flagN = (if e.acked then 1 else 0) + (if e.gone then 2 else 0) := rfl
  refine tri Try.func100 rfl Try.ntmps100 (by simp) ?_
  repeat (first | refine wEn5 ?_ | (refine kEn5 ?_; (first | rintro _ _ ⟨rfl, rfl⟩ | rintro _ _ ⟨_, rfl, rfl⟩ | rintro _ _ ⟨_, _, ⟨_, _⟩, rfl, rfl⟩); try refine ⟨sConv, ?_⟩) | refine Dr.two ?_ ?_)
  refine L.step (by decide) (S.call rfl rfl Try.func112 (by kernel_rfl) rfl sPicks (fun E' hE => rfput E' e.what hw) ?_)
  rintro r H' ⟨A1, c1, rfl, rfl⟩
  refine ⟨_, rfl, _, sCat, ?_⟩
  repeat (first | refine wEn5 ?_ | (refine kEn5 ?_; (first | rintro _ _ ⟨rfl, rfl⟩ | rintro _ _ ⟨_, rfl, rfl⟩ | rintro _ _ ⟨_, _, ⟨_, _⟩, rfl, rfl⟩); try refine ⟨sConv, ?_⟩) | refine Dr.two ?_ ?_)
  rename_i A3 c3 _ _
  refine L.step (by decide) (S.call rfl rfl Try.func80 (by kernel_rfl) rfl sPicks (fun E' hE => rputw_any E' A3 (1 + 13 + 1) c3 19 4 _ e.last.toNat 4 rfl rfl o4 sRd g1 (by decide)) ?_)
  rintro r H' ⟨A4, c4, rfl, hc4, rfl⟩
  refine ⟨_, rfl, _, sCat, ?_⟩
  repeat (first | refine wEn5 ?_ | (refine kEn5 ?_; (first | rintro _ _ ⟨rfl, rfl⟩ | rintro _ _ ⟨_, rfl, rfl⟩ | rintro _ _ ⟨_, _, ⟨_, _⟩, rfl, rfl⟩); try refine ⟨sConv, ?_⟩) | refine Dr.two ?_ ?_)
  rename_i A5 c5 _ _
  refine L.step (by decide) (S.call rfl rfl Try.func80 (by kernel_rfl) rfl sPicks (fun E' hE => rputw_any E' A5 (19 + 1) c5 24 4 _ e.backLast.toNat 4 rfl rfl o4 sRd g2 (by decide)) ?_)
  rintro r H' ⟨A6, c6, rfl, hc6, rfl⟩
  refine ⟨_, rfl, _, sCat, ?_⟩
  cases ha : e.acked
  all_goals
    cases hg : e.gone
    all_goals
      rw [ha, hg] at hfl
      simp only [Bool.false_eq_true, if_false, if_true, Int.reduceAdd] at hfl
      rw [hfl] at hfin
      repeat (first | refine wEn5 ?_ | (refine kEn5 ?_; (first | rintro _ _ ⟨rfl, rfl⟩ | rintro _ _ ⟨_, rfl, rfl⟩ | rintro _ _ ⟨_, _, ⟨_, _⟩, rfl, rfl⟩); try refine ⟨sConv, ?_⟩) | refine Dr.two ?_ ?_)
      try dsimp only [Int.reduceAdd]
      rw [hfin, show 24 + 3 = 27 from rfl]
      exact ret1 rfl sRet sConv (⟨_, _, rfl, rfl⟩)
theorem mput_no (hm : e.may = false) : Tri Try.prog E 66 #[.agg e.cs.toArray] [] fun r H' => r = .returned (.slice none 0 0) ∧ H' = [] := by
  refine tri Try.func66 rfl Try.ntmps66 (by simp) ?_
  repeat (first | refine wEn5 ?_ | (refine kEn5 ?_; (first | rintro _ _ ⟨rfl, rfl⟩ | rintro _ _ ⟨_, rfl, rfl⟩ | rintro _ _ ⟨_, _, ⟨_, _⟩, rfl, rfl⟩); try refine ⟨sConv, ?_⟩) | refine Dr.two ?_ ?_)
  refine L.step (by decide) (S.call rfl rfl Try.func52 (by kernel_rfl) rfl sPicks (fun E' hE => mmay E' e) ?_)
  rw [hm]
  rintro r H' ⟨rfl, rfl⟩
  refine ⟨_, rfl, _, sCat, ?_⟩
  repeat (first | refine wEn5 ?_ | (refine kEn5 ?_; (first | rintro _ _ ⟨rfl, rfl⟩ | rintro _ _ ⟨_, rfl, rfl⟩ | rintro _ _ ⟨_, _, ⟨_, _⟩, rfl, rfl⟩); try refine ⟨sConv, ?_⟩) | refine Dr.two ?_ ?_)
  exact ret1 rfl sRet sConv (⟨rfl, rfl⟩)
theorem mput_ok (hm : e.may = true) : Tri Try.prog E 66 #[.agg e.cs.toArray] [] fun r H' => ∃ A' c', r = .returned (.slice A' 27 c') ∧ H' = [own octT A' 27 c' e.put] := by
  refine tri Try.func66 rfl Try.ntmps66 (by simp) ?_
  repeat (first | refine wEn5 ?_ | (refine kEn5 ?_; (first | rintro _ _ ⟨rfl, rfl⟩ | rintro _ _ ⟨_, rfl, rfl⟩ | rintro _ _ ⟨_, _, ⟨_, _⟩, rfl, rfl⟩); try refine ⟨sConv, ?_⟩) | refine Dr.two ?_ ?_)
  refine L.step (by decide) (S.call rfl rfl Try.func52 (by kernel_rfl) rfl sPicks (fun E' hE => mmay E' e) ?_)
  rw [hm]
  rintro r H' ⟨rfl, rfl⟩
  refine ⟨_, rfl, _, sCat, ?_⟩
  repeat (first | refine wEn5 ?_ | (refine kEn5 ?_; (first | rintro _ _ ⟨rfl, rfl⟩ | rintro _ _ ⟨_, rfl, rfl⟩ | rintro _ _ ⟨_, _, ⟨_, _⟩, rfl, rfl⟩); try refine ⟨sConv, ?_⟩) | refine Dr.two ?_ ?_)
  refine L.step (by decide) (S.call rfl rfl Try.func100 (by kernel_rfl) rfl sPicks (fun E' hE => moct E' e hm) ?_)
  rintro r H' ⟨A1, c1, rfl, rfl⟩
  refine ⟨_, rfl, _, sCat, ?_⟩
  repeat (first | refine wEn5 ?_ | (refine kEn5 ?_; (first | rintro _ _ ⟨rfl, rfl⟩ | rintro _ _ ⟨_, rfl, rfl⟩ | rintro _ _ ⟨_, _, ⟨_, _⟩, rfl, rfl⟩); try refine ⟨sConv, ?_⟩) | refine Dr.two ?_ ?_)
  exact ret1 rfl sRet sConv (⟨_, _, rfl, rfl⟩)
end
end Go.Proofs.Ytncfkkmdhdofpaa.Sep
