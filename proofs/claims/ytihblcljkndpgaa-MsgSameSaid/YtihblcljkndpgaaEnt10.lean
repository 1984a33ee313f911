/- the document's GetEffect, by parts of memory. -/
import Derived.Test.YtihblcljkndpgaaEnt7
import Derived.Test.YtihblcljkndpgaaChange3
import Derived.Test.YtihblcljkndpgaaPutw
import Derived.Test.YtihblcljkndpgaaRet
namespace Go.Proofs.Ytihblcljkndpgaa.Sep
open Go.RowKit Go.Proofs.Ytihblcljkndpgaa.Reg Go.Proofs.Ytihblcljkndpgaa.Oct
open Go.Proofs.Ytihblcljkndpgaa.Mem hiding Rd Own
-- types: octT idnT
-- recs: rec_Reader idnT_rec effT_rec
-- eqs: idnT_eqa effT_eqa
-- zeros: z_octs z_rdr
-- funcs
set_option maxRecDepth 100000
set_option maxHeartbeats 6000000
theorem rfget_any (E : Env) (A : Option Addr) (n c : Nat) (l : List UInt8) (r : Option Eff) (hx : fget13 l = r) (hr : Rd E octT A n c l) (hl : n = 13) :
    Tri Try.prog E 52 #[.slice A n c] [] fun e H' => e = .returned (.tuple #[.agg (r.getD effT_z).cs.toArray, .bool r.isSome]) ∧ H' = [] := by
  have hn := hr.len
  have hcap := hr.cap
  have g0 : l[0]? = some l[0] := List.getElem?_eq_getElem (by omega)
  have f0 := fld_one (l := l) (i := 0) (by omega)
  have u0 := UInt8.toNat_lt l[0]
  generalize l[0] = x0 at g0 f0 u0
  have g1 : l[1]? = some l[1] := List.getElem?_eq_getElem (by omega)
  have f1 := fld_one (l := l) (i := 1) (by omega)
  have u1 := UInt8.toNat_lt l[1]
  generalize l[1] = x1 at g1 f1 u1
  have g10 : l[10]? = some l[10] := List.getElem?_eq_getElem (by omega)
  have f10 := fld_one (l := l) (i := 10) (by omega)
  have u10 := UInt8.toNat_lt l[10]
  generalize l[10] = x10 at g10 f10 u10
  have l11 := fld_lt l 11 2
  have hsg := wrap_sgn (k := fld l 2 8) (fld_lt l 2 8)
  have hcs : (effOf l).cs = [.int .i64 x0.toNat, .int .i64 x1.toNat, .int .i64 (sgn (fld l 2 8)), .int .i64 x10.toNat, .int .i64 (fld l 11 2)] := by
    simp only [Eff.cs, effOf, f0, f1, f10]
  have m10 : 10 ≤ n := by omega
  have m13 : 13 ≤ n := by omega
  refine tri Try.func52 rfl Try.ntmps52 (by simp) ?_
  repeat (first | refine wEn5 ?_ | (refine kEn5 ?_; (first | rintro _ _ ⟨rfl, rfl⟩ | rintro _ _ ⟨_, rfl, rfl⟩ | rintro _ _ ⟨_, _, ⟨_, _⟩, rfl, rfl⟩); try refine ⟨sConv, ?_⟩) | refine Dr.two ?_ ?_)
  rename_i gres
  refine C.mid (X := Nat) (fun g => [(2, .pointer (some ⟨gres, 0, none⟩)), (4, .pointer (some ⟨g, 0, none⟩))]) (fun g => [blk gres 32 effT_z.cs, blk g 32 [.int .i64 x0.toNat, .int .i64 x1.toNat, .int .i64 (sgn (fld l 2 8)), .int .i64 x10.toNat, .int .i64 (fld l 11 2)]]) (fun _ => True) ?_ ?_
  · refine C.regionA 100000 (.one 0 false (.one 1 false (.one 2 false (.one 3 false (.one 4 false (.one 5 false (.one 6 false (.one 7 false (.one 8 false (.one 9 false (.one 12 false (.one 13 false (.one 14 false (.one 15 false (.one 16 false (.one 17 false (.two 10 (.one 11 false (.two 18 (.one 19 false (.one 20 false (.one 21 false (.one 22 true (.one 23 true .nil))))) 22 (.one 18 true (.one 19 false (.one 20 false (.one 21 false (.one 23 true .nil))))))) 22 (.one 10 true (.one 11 false (.one 18 true (.one 19 false (.one 20 false (.one 21 false (.one 23 true .nil)))))))))))))))))))))))) _ (by kernel_rfl) (by kernel_rfl) Conv.refl ?_
    repeat (first | refine vEn5 ?_ | (refine kEn5 ?_; (first | rintro _ _ ⟨rfl, rfl⟩ | rintro _ _ ⟨_, rfl, rfl⟩ | rintro _ _ ⟨_, _, ⟨_, _⟩, rfl, rfl⟩); try refine ⟨sConv, ?_⟩))
    refine Dr.two ?_ ?_
    · refine Go1.go rfl (by rintro k ⟨⟩ <;> decide) sGon (S.call rfl rfl Try.func21 (by kernel_rfl) rfl sPicks (fun E' hE => rgetf_any E' A n c l sRd 2 10 8 rfl (by decide) m10) ?_)
      rintro e H' ⟨rfl, rfl⟩
      refine ⟨_, rfl, _, sCat, sConv, ?_⟩
      repeat (first | refine vEn5 ?_ | (refine kEn5 ?_; (first | rintro _ _ ⟨rfl, rfl⟩ | rintro _ _ ⟨_, rfl, rfl⟩ | rintro _ _ ⟨_, _, ⟨_, _⟩, rfl, rfl⟩); try refine ⟨sConv, ?_⟩))
      refine Dr.two ?_ ?_
      · refine Go1.go rfl (by rintro k ⟨⟩ <;> decide) sGon (S.call rfl rfl Try.func21 (by kernel_rfl) rfl sPicks (fun E' hE => rgetf_any E' A n c l sRd 11 13 2 rfl (by decide) m13) ?_)
        rintro e H' ⟨rfl, rfl⟩
        refine ⟨_, rfl, _, sCat, sConv, ?_⟩
        repeat (first | refine wEn5 ?_ | (refine kEn5 ?_; (first | rintro _ _ ⟨rfl, rfl⟩ | rintro _ _ ⟨_, rfl, rfl⟩ | rintro _ _ ⟨_, _, ⟨_, _⟩, rfl, rfl⟩); try refine ⟨sConv, ?_⟩) | refine Dr.two ?_ ?_)
        exact ⟨_, sHolds, sConv, trivial⟩
      · repeat (first | refine vEn5 ?_ | (refine kEn5 ?_; (first | rintro _ _ ⟨rfl, rfl⟩ | rintro _ _ ⟨_, rfl, rfl⟩ | rintro _ _ ⟨_, _, ⟨_, _⟩, rfl, rfl⟩); try refine ⟨sConv, ?_⟩))
        refine Dr.go rfl (by rintro k ⟨⟩ <;> decide) sGon (S.call rfl rfl Try.func21 (by kernel_rfl) rfl sPicks (fun E' hE => rgetf_any E' A n c l sRd 11 13 2 rfl (by decide) m13) ?_)
        rintro e H' ⟨rfl, rfl⟩
        refine ⟨_, rfl, _, sCat, sConv, ?_⟩
        repeat (first | refine wEn5 ?_ | (refine kEn5 ?_; (first | rintro _ _ ⟨rfl, rfl⟩ | rintro _ _ ⟨_, rfl, rfl⟩ | rintro _ _ ⟨_, _, ⟨_, _⟩, rfl, rfl⟩); try refine ⟨sConv, ?_⟩) | refine Dr.two ?_ ?_)
        exact ⟨_, sHolds, sConv, trivial⟩
    · repeat (first | refine vEn5 ?_ | (refine kEn5 ?_; (first | rintro _ _ ⟨rfl, rfl⟩ | rintro _ _ ⟨_, rfl, rfl⟩ | rintro _ _ ⟨_, _, ⟨_, _⟩, rfl, rfl⟩); try refine ⟨sConv, ?_⟩))
      refine Dr.go rfl (by rintro k ⟨⟩ <;> decide) sGon (S.call rfl rfl Try.func21 (by kernel_rfl) rfl sPicks (fun E' hE => rgetf_any E' A n c l sRd 2 10 8 rfl (by decide) m10) ?_)
      rintro e H' ⟨rfl, rfl⟩
      refine ⟨_, rfl, _, sCat, sConv, ?_⟩
      repeat (first | refine vEn5 ?_ | (refine kEn5 ?_; (first | rintro _ _ ⟨rfl, rfl⟩ | rintro _ _ ⟨_, rfl, rfl⟩ | rintro _ _ ⟨_, _, ⟨_, _⟩, rfl, rfl⟩); try refine ⟨sConv, ?_⟩))
      refine Dr.go rfl (by rintro k ⟨⟩ <;> decide) sGon (S.call rfl rfl Try.func21 (by kernel_rfl) rfl sPicks (fun E' hE => rgetf_any E' A n c l sRd 11 13 2 rfl (by decide) m13) ?_)
      rintro e H' ⟨rfl, rfl⟩
      refine ⟨_, rfl, _, sCat, sConv, ?_⟩
      repeat (first | refine wEn5 ?_ | (refine kEn5 ?_; (first | rintro _ _ ⟨rfl, rfl⟩ | rintro _ _ ⟨_, rfl, rfl⟩ | rintro _ _ ⟨_, _, ⟨_, _⟩, rfl, rfl⟩); try refine ⟨sConv, ?_⟩) | refine Dr.two ?_ ?_)
      exact ⟨_, sHolds, sConv, trivial⟩
  rintro g G -
  rw [← hcs]
  repeat (first | refine wEn5 ?_ | (refine kEn5 ?_; (first | rintro _ _ ⟨rfl, rfl⟩ | rintro _ _ ⟨_, rfl, rfl⟩ | rintro _ _ ⟨_, _, ⟨_, _⟩, rfl, rfl⟩); try refine ⟨sConv, ?_⟩) | refine Dr.two ?_ ?_)
  refine L.step (by decide) (S.call rfl rfl Try.func79 (by kernel_rfl) rfl sPicks (fun E' hE => rfcheck E' (effOf l)) ?_)
  rintro e H' ⟨rfl, rfl⟩
  refine ⟨_, rfl, _, sCat, ?_⟩
  unfold fget13 at hx
  by_cases hc : (effOf l).check = 0
  · rw [if_pos hc] at hx
    subst hx
    rw [hc]
    repeat (first | refine wEn5 ?_ | (refine kEn5 ?_; (first | rintro _ _ ⟨rfl, rfl⟩ | rintro _ _ ⟨_, rfl, rfl⟩ | rintro _ _ ⟨_, _, ⟨_, _⟩, rfl, rfl⟩); try refine ⟨sConv, ?_⟩) | refine Dr.two ?_ ?_)
    apply retC2; (· exact rfl); (· exact sRet); (· exact rfl); (· exact rfl); (· exact rfl); (· exact sHas); (· exact rfl); (· exact sRet); rotate_left; (· exact (⟨rfl, rfl⟩)); (· exact sConv)
  · rw [if_neg hc] at hx
    subst hx
    repeat (first | refine wEn5 ?_ | (refine kEn5 ?_; (first | rintro _ _ ⟨rfl, rfl⟩ | rintro _ _ ⟨_, rfl, rfl⟩ | rintro _ _ ⟨_, _, ⟨_, _⟩, rfl, rfl⟩); try refine ⟨sConv, ?_⟩) | refine Dr.two ?_ ?_)
    apply retC2; (· exact rfl); (· exact sRet); (· exact rfl); (· exact rfl); (· exact rfl); (· exact sHas); (· exact rfl); (· exact sRet); rotate_left; (· exact (⟨rfl, rfl⟩)); (· exact sConv)
end Go.Proofs.Ytihblcljkndpgaa.Sep
