/- entry.Put, by parts of memory. -/
import Derived.Test.YtncfkkmdhdofpaaEnt5
import Derived.Test.YtncfkkmdhdofpaaEnt3
import Derived.Test.YtncfkkmdhdofpaaChangePlain
import Derived.Test.YtncfkkmdhdofpaaPutw
namespace Go.Proofs.Ytncfkkmdhdofpaa.Sep
open Go.RowKit Go.Proofs.Ytncfkkmdhdofpaa.Reg Go.Proofs.Ytncfkkmdhdofpaa.Oct
open Go.Proofs.Ytncfkkmdhdofpaa.Mem hiding Rd Own
-- types: octT idnT
-- recs: rec_Reader idnT_rec effT_rec cfgT_rec entT_rec enrT_rec
-- eqs: idnT_eqa effT_eqa entT_eqa enrT_eqa
-- zeros: z_octs z_rdr
-- funcs
set_option maxRecDepth 100000
set_option maxHeartbeats 8000000
def Ent.put (e : Ent) : List UInt8 := be e.ord.toNat 1 ++ (e.what.put ++ (be e.sent.toNat 1 ++ (be e.last.toNat 4 ++ (be e.back.toNat 1 ++ (be e.backLast.toNat 4 ++ [UInt8.ofNat e.flagN.toNat, 69, 69])))))
theorem Ent.put_length (e : Ent) : e.put.length = 27 := by simp [Ent.put, be_length, Eff.put_length]
theorem ent_fin (e : Ent) : (((((([UInt8.ofNat e.ord.toNat] ++ e.what.put) ++ [UInt8.ofNat e.sent.toNat]) ++ be e.last.toNat 4) ++ [UInt8.ofNat e.back.toNat]) ++ be e.backLast.toNat 4) ++ [UInt8.ofNat e.flagN.toNat, UInt8.ofNat (Int.toNat 69), UInt8.ofNat (Int.toNat 69)]) = e.put := by
  rw [show UInt8.ofNat (Int.toNat 69) = 69 from rfl]
  simp [Ent.put, be_one]
section
variable (E : Env) (e : Ent)
theorem eput_no (hm : e.may = false) : Tri Try.prog E 65 #[.agg e.cs.toArray] [] fun r H' => r = .returned (.slice none 0 0) ∧ H' = [] := by
  refine tri Try.func65 rfl Try.ntmps65 (by simp) ?_
  repeat (first | refine wEn5 ?_ | (refine kEn5 ?_; (first | rintro _ _ ⟨rfl, rfl⟩ | rintro _ _ ⟨_, rfl, rfl⟩ | rintro _ _ ⟨_, _, ⟨_, _⟩, rfl, rfl⟩); try refine ⟨sConv, ?_⟩) | refine Dr.two ?_ ?_)
  refine L.step (by decide) (S.call rfl rfl Try.func51 (by kernel_rfl) rfl sPicks (fun E' hE => echeck E' e) ?_)
  rw [hm]
  rintro r H' ⟨rfl, rfl⟩
  refine ⟨_, rfl, _, sCat, ?_⟩
  repeat (first | refine wEn5 ?_ | (refine kEn5 ?_; (first | rintro _ _ ⟨rfl, rfl⟩ | rintro _ _ ⟨_, rfl, rfl⟩ | rintro _ _ ⟨_, _, ⟨_, _⟩, rfl, rfl⟩); try refine ⟨sConv, ?_⟩) | refine Dr.two ?_ ?_)
  exact ret1 rfl sRet sConv (⟨rfl, rfl⟩)
theorem eput_ok (hm : e.may = true) : Tri Try.prog E 65 #[.agg e.cs.toArray] [] fun r H' => ∃ A' c', r = .returned (.slice A' 27 c') ∧ H' = [own octT A' 27 c' e.put] := by
  obtain ⟨⟨o0, o1⟩, hw, ⟨s0, s1⟩, ⟨⟨b0, b1⟩, _⟩, ⟨l0, l1⟩, ⟨k0, k1⟩, _⟩ := (Ent.may_iff e).1 hm
  have w1 := wrap_nat l0 (by omega)
  have w2 := wrap_nat k0 (by omega)
  have g1 : e.last.toNat < 18446744073709551616 := by omega
  have g2 : e.backLast.toNat < 18446744073709551616 := by omega
  have o4 : 1 ≤ 4 ∧ 4 ≤ 8 := by omega
  have hfin := ent_fin e
  have f0 : 0 ≤ e.flagN := by unfold Ent.flagN; split <;> split <;> omega
  have f1 : e.flagN < 256 := by unfold Ent.flagN; split <;> split <;> omega
  refine tri Try.func65 rfl Try.ntmps65 (by simp) ?_
  repeat (first | refine wEn5 ?_ | (refine kEn5 ?_; (first | rintro _ _ ⟨rfl, rfl⟩ | rintro _ _ ⟨_, rfl, rfl⟩ | rintro _ _ ⟨_, _, ⟨_, _⟩, rfl, rfl⟩); try refine ⟨sConv, ?_⟩) | refine Dr.two ?_ ?_)
  refine L.step (by decide) (S.call rfl rfl Try.func51 (by kernel_rfl) rfl sPicks (fun E' hE => echeck E' e) ?_)
  rw [hm]
  rintro r H' ⟨rfl, rfl⟩
  refine ⟨_, rfl, _, sCat, ?_⟩
  repeat (first | refine wEn5 ?_ | (refine kEn5 ?_; (first | rintro _ _ ⟨rfl, rfl⟩ | rintro _ _ ⟨_, rfl, rfl⟩ | rintro _ _ ⟨_, _, ⟨_, _⟩, rfl, rfl⟩); try refine ⟨sConv, ?_⟩) | refine Dr.two ?_ ?_)
  refine L.step (by decide) (S.call rfl rfl Try.func98 (by kernel_rfl) rfl sPicks (fun E' hE => fput E' e.what hw) ?_)
  rintro r H' ⟨A1, c1, rfl, rfl⟩
  refine ⟨_, rfl, _, sCat, ?_⟩
  repeat (first | refine wEn5 ?_ | (refine kEn5 ?_; (first | rintro _ _ ⟨rfl, rfl⟩ | rintro _ _ ⟨_, rfl, rfl⟩ | rintro _ _ ⟨_, _, ⟨_, _⟩, rfl, rfl⟩); try refine ⟨sConv, ?_⟩) | refine Dr.two ?_ ?_)
  rename_i gb _ A2 c2 _ _
  refine C.regionA 100000 (.one 0 false (.one 1 false (.one 2 false (.one 3 false (.one 6 false (.one 7 false (.one 8 false (.one 4 true (.one 5 true (.one 9 true (.one 10 false .nil))))))))))) ([blk gb 89 e.cs]) (by kernel_rfl) (by kernel_rfl) sConv ?_
  repeat (first | refine wEn5 ?_ | (refine kEn5 ?_; (first | rintro _ _ ⟨rfl, rfl⟩ | rintro _ _ ⟨_, rfl, rfl⟩ | rintro _ _ ⟨_, _, ⟨_, _⟩, rfl, rfl⟩); try refine ⟨sConv, ?_⟩) | refine Dr.two ?_ ?_)
  rename_i A3 c3 _ _
  refine Dr.go rfl (by rintro k ⟨⟩ <;> decide) sGon (S.call rfl rfl Try.func71 (by kernel_rfl) rfl sPicks (fun E' hE => putw_any E' A3 (1 + 13 + 1) c3 19 4 _ e.last.toNat 4 rfl rfl o4 sRd g1 (by decide)) ?_)
  rintro r H' ⟨A4, c4, rfl, hc4, rfl⟩
  refine ⟨_, rfl, _, sCat, sConv, ?_⟩
  repeat (first | refine wEn5 ?_ | (refine kEn5 ?_; (first | rintro _ _ ⟨rfl, rfl⟩ | rintro _ _ ⟨_, rfl, rfl⟩ | rintro _ _ ⟨_, _, ⟨_, _⟩, rfl, rfl⟩); try refine ⟨sConv, ?_⟩) | refine Dr.two ?_ ?_)
  refine C.regionA 100000 (.one 0 false (.one 1 false (.one 2 false (.one 3 false (.one 6 false (.one 7 false (.one 8 false (.one 4 true (.one 5 true (.one 9 true (.one 10 false .nil))))))))))) ([blk gb 89 e.cs]) (by kernel_rfl) (by kernel_rfl) sConv ?_
  repeat (first | refine wEn5 ?_ | (refine kEn5 ?_; (first | rintro _ _ ⟨rfl, rfl⟩ | rintro _ _ ⟨_, rfl, rfl⟩ | rintro _ _ ⟨_, _, ⟨_, _⟩, rfl, rfl⟩); try refine ⟨sConv, ?_⟩) | refine Dr.two ?_ ?_)
  rename_i A5 c5 _ _
  refine Dr.go rfl (by rintro k ⟨⟩ <;> decide) sGon (S.call rfl rfl Try.func71 (by kernel_rfl) rfl sPicks (fun E' hE => putw_any E' A5 (19 + 1) c5 24 4 _ e.backLast.toNat 4 rfl rfl o4 sRd g2 (by decide)) ?_)
  rintro r H' ⟨A6, c6, rfl, hc6, rfl⟩
  refine ⟨_, rfl, _, sCat, sConv, ?_⟩
  repeat (first | refine wEn5 ?_ | (refine kEn5 ?_; (first | rintro _ _ ⟨rfl, rfl⟩ | rintro _ _ ⟨_, rfl, rfl⟩ | rintro _ _ ⟨_, _, ⟨_, _⟩, rfl, rfl⟩); try refine ⟨sConv, ?_⟩) | refine Dr.two ?_ ?_)
  refine L.step (by decide) (S.call rfl rfl Try.func99 (by kernel_rfl) rfl sPicks (fun E' hE => eflags E' e) ?_)
  rintro r H' ⟨rfl, rfl⟩
  refine ⟨_, rfl, _, sCat, ?_⟩
  repeat (first | refine wEn5 ?_ | (refine kEn5 ?_; (first | rintro _ _ ⟨rfl, rfl⟩ | rintro _ _ ⟨_, rfl, rfl⟩ | rintro _ _ ⟨_, _, ⟨_, _⟩, rfl, rfl⟩); try refine ⟨sConv, ?_⟩) | refine Dr.two ?_ ?_)
  rw [hfin, show 24 + 3 = 27 from rfl]
  exact ret1 rfl sRet sConv (⟨_, _, rfl, rfl⟩)
end
end Go.Proofs.Ytncfkkmdhdofpaa.Sep
