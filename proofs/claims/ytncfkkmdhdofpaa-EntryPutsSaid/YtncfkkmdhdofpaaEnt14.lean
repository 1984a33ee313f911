/- the document's reading of an entry, by parts of memory. -/
import Derived.Test.YtncfkkmdhdofpaaEnt10
import Derived.Test.YtncfkkmdhdofpaaEnt3
import Derived.Test.YtncfkkmdhdofpaaEntPlain
import Derived.Test.YtncfkkmdhdofpaaEnt4
import Derived.Test.YtncfkkmdhdofpaaEnt7
import Derived.Test.YtncfkkmdhdofpaaChange2
import Derived.Test.YtncfkkmdhdofpaaChangePlain
import Derived.Test.YtncfkkmdhdofpaaPutw
import Derived.Test.YtncfkkmdhdofpaaRet
import Derived.Test.YtncfkkmdhdofpaaOctDone
namespace Go.Proofs.Ytncfkkmdhdofpaa.Sep
open Go.RowKit Go.Proofs.Ytncfkkmdhdofpaa.Reg Go.Proofs.Ytncfkkmdhdofpaa.Oct
open Go.Proofs.Ytncfkkmdhdofpaa.Mem hiding Rd Own
-- types: octT idnT
-- recs: rec_Reader idnT_rec effT_rec cfgT_rec entT_rec enrT_rec
-- eqs: idnT_eqa effT_eqa entT_eqa enrT_eqa
-- zeros: z_octs z_rdr
-- funcs
-- strs
set_option maxRecDepth 100000
set_option maxHeartbeats 8000000
theorem mread_no (E : Env) (A : Option Addr) (n c : Nat) (b : List UInt8) (hr : Rd E octT A n c b) (hl : ¬ (n = 27 ∧ fld b 24 1 ≤ 3 ∧ b[25]? = some 69 ∧ b[26]? = some 69)) :
    Tri Try.prog E 68 #[.slice A n c] [] fun e H' => e = .returned (.tuple #[.agg enrT_z.cs.toArray, .bool false]) ∧ H' = [] := by
  have hn := hr.len
  have hcap := hr.cap
  refine tri Try.func68 rfl Try.ntmps68 (by simp) ?_
  by_cases hn27 : n = 27
  case neg =>
    repeat (first | refine wEn5 ?_ | (refine kEn5 ?_; (first | rintro _ _ ⟨rfl, rfl⟩ | rintro _ _ ⟨_, rfl, rfl⟩ | rintro _ _ ⟨_, _, ⟨_, _⟩, rfl, rfl⟩); try refine ⟨sConv, ?_⟩) | refine Dr.two ?_ ?_)
    apply retC2; (· exact rfl); (· exact sRet); (· exact rfl); (· exact rfl); (· exact rfl); (· exact sHas); (· exact rfl); (· exact sRet); rotate_left; (· exact (⟨rfl, rfl⟩)); (· exact sConv)
  have g24 : b[24]? = some b[24] := List.getElem?_eq_getElem (by omega)
  have f24 := fld_one (l := b) (i := 24) (by omega)
  generalize b[24] = x24 at g24 f24
  by_cases h24 : 3 < x24.toNat
  · repeat (first | refine wEn5 ?_ | (refine kEn5 ?_; (first | rintro _ _ ⟨rfl, rfl⟩ | rintro _ _ ⟨_, rfl, rfl⟩ | rintro _ _ ⟨_, _, ⟨_, _⟩, rfl, rfl⟩); try refine ⟨sConv, ?_⟩) | refine Dr.two ?_ ?_)
    apply retC2; (· exact rfl); (· exact sRet); (· exact rfl); (· exact rfl); (· exact rfl); (· exact sHas); (· exact rfl); (· exact sRet); rotate_left; (· exact (⟨rfl, rfl⟩)); (· exact sConv)
  have g25 : b[25]? = some b[25] := List.getElem?_eq_getElem (by omega)
  have e25 : b[25]? = some 69 ↔ b[25].toNat = 69 := by
    rw [g25]
    constructor
    · intro h; injection h with h; rw [h]; rfl
    · intro h; rw [show b[25] = 69 from UInt8.toNat_inj.1 h]
  have g26 : b[26]? = some b[26] := List.getElem?_eq_getElem (by omega)
  have e26 : b[26]? = some 69 ↔ b[26].toNat = 69 := by
    rw [g26]
    constructor
    · intro h; injection h with h; rw [h]; rfl
    · intro h; rw [show b[26] = 69 from UInt8.toNat_inj.1 h]
  rw [e25, e26, f24] at hl
  generalize b[25] = x25 at *
  generalize b[26] = x26 at *
  by_cases h25 : x25.toNat = 69
  · repeat (first | refine wEn5 ?_ | (refine kEn5 ?_; (first | rintro _ _ ⟨rfl, rfl⟩ | rintro _ _ ⟨_, rfl, rfl⟩ | rintro _ _ ⟨_, _, ⟨_, _⟩, rfl, rfl⟩); try refine ⟨sConv, ?_⟩) | refine Dr.two ?_ ?_)
    apply retC2; (· exact rfl); (· exact sRet); (· exact rfl); (· exact rfl); (· exact rfl); (· exact sHas); (· exact rfl); (· exact sRet); rotate_left; (· exact (⟨rfl, rfl⟩)); (· exact sConv)
  · repeat (first | refine wEn5 ?_ | (refine kEn5 ?_; (first | rintro _ _ ⟨rfl, rfl⟩ | rintro _ _ ⟨_, rfl, rfl⟩ | rintro _ _ ⟨_, _, ⟨_, _⟩, rfl, rfl⟩); try refine ⟨sConv, ?_⟩) | refine Dr.two ?_ ?_)
    apply retC2; (· exact rfl); (· exact sRet); (· exact rfl); (· exact rfl); (· exact rfl); (· exact sHas); (· exact rfl); (· exact sRet); rotate_left; (· exact (⟨rfl, rfl⟩)); (· exact sConv)
theorem mread_long (E : Env) (A : Option Addr) (n c : Nat) (b : List UInt8) (hr : Rd E octT A n c b) (hn27 : n = 27) (h24 : fld b 24 1 ≤ 3) (h25 : b[25]? = some 69) (h26 : b[26]? = some 69) :
    Tri Try.prog E 68 #[.slice A n c] [] fun e H' => e = .returned (.tuple #[.agg ((mget b).getD enrT_z).cs.toArray, .bool (mget b).isSome]) ∧ H' = [] := by
  have hn := hr.len
  have hcap := hr.cap
  have g0 : b[0]? = some b[0] := List.getElem?_eq_getElem (by omega)
  have f0 := fld_one (l := b) (i := 0) (by omega)
  have u0 := UInt8.toNat_lt b[0]
  generalize b[0] = x0 at g0 f0 u0
  have g14 : b[14]? = some b[14] := List.getElem?_eq_getElem (by omega)
  have f14 := fld_one (l := b) (i := 14) (by omega)
  have u14 := UInt8.toNat_lt b[14]
  generalize b[14] = x14 at g14 f14 u14
  have g19 : b[19]? = some b[19] := List.getElem?_eq_getElem (by omega)
  have f19 := fld_one (l := b) (i := 19) (by omega)
  have u19 := UInt8.toNat_lt b[19]
  generalize b[19] = x19 at g19 f19 u19
  have g24 : b[24]? = some b[24] := List.getElem?_eq_getElem (by omega)
  have f24 := fld_one (l := b) (i := 24) (by omega)
  have u24 := UInt8.toNat_lt b[24]
  generalize b[24] = x24 at g24 f24 u24
  have l15 := fld_lt b 15 4
  have l20 := fld_lt b 20 4
  have hcut : Rd E octT (if c = 1 then A else A.map (·.add (1 * octT.size))) (14 - 1) (c - 1) ((b.drop 1).take 13) := by
    have h := hr.cut (j := 1) (m := 14) (by omega) (by omega)
    rw [List.drop_take] at h
    exact h
  have m19 : 19 ≤ n := by omega
  have m24 : 24 ≤ n := by omega
  have hmg : mget b = if (fget13 ((b.drop 1).take 13)).isSome = true ∧ (entM b).may = true then some (entM b) else none := by
    unfold mget
    exact ite_iff ⟨fun h => h.2.2.2.2, fun h => ⟨by omega, h24, h25, h26, h⟩⟩
  have hEM : entM b = ⟨x0.toNat, (fget13 ((b.drop 1).take 13)).getD effT_z, x14.toNat, fld b 15 4, decide (((x24.toNat : Nat) : Int) % 2 = 1), decide ((1 : Int) < (x24.toNat : Nat)), x19.toNat, fld b 20 4⟩ := by
    unfold entM
    rw [f0, f14, f19, f24]
  refine tri Try.func68 rfl Try.ntmps68 (by simp) ?_
  repeat (first | refine wEn5 ?_ | (refine kEn5 ?_; (first | rintro _ _ ⟨rfl, rfl⟩ | rintro _ _ ⟨_, rfl, rfl⟩ | rintro _ _ ⟨_, _, ⟨_, _⟩, rfl, rfl⟩); try refine ⟨sConv, ?_⟩) | refine Dr.two ?_ ?_)
  refine L.step (by decide) (S.call rfl rfl Try.func103 (by kernel_rfl) rfl sPicks (fun E' hE => rfget_any E' _ _ _ _ (fget13 ((b.drop 1).take 13)) rfl (hcut.sub hE) rfl) ?_)
  have hy : ∃ y, fget13 ((b.drop 1).take 13) = y := ⟨_, rfl⟩
  obtain ⟨y, hy⟩ := hy
  rw [hy] at hEM hmg ⊢
  have hez : ∃ z, y.getD effT_z = z := ⟨_, rfl⟩
  obtain ⟨z, hz⟩ := hez
  rw [hz] at hEM ⊢
  rintro e H' ⟨rfl, rfl⟩
  refine ⟨_, rfl, _, sCat, ?_⟩
  repeat (first | refine wEn5 ?_ | (refine kEn5 ?_; (first | rintro _ _ ⟨rfl, rfl⟩ | rintro _ _ ⟨_, rfl, rfl⟩ | rintro _ _ ⟨_, _, ⟨_, _⟩, rfl, rfl⟩); try refine ⟨sConv, ?_⟩) | refine Dr.two ?_ ?_)
  rename_i gres gq
  refine C.mid (X := Nat) (fun g => [(2, .pointer (some ⟨gres, 0, none⟩)), (5, .bool y.isSome), (6, .pointer (some ⟨g, 0, none⟩))]) (fun g => [blk gres 92 enrT_z.cs, blk g 92 [.int .i64 x0.toNat, .int .i64 z.kind, .int .i64 z.a, .int .i64 z.n, .int .i64 z.ref.rep, .int .i64 z.ref.seq, .int .i64 x14.toNat, .int .i64 (fld b 15 4), .bool (decide (((x24.toNat : Nat) : Int) % 2 = 1)), .bool (decide ((1 : Int) < (x24.toNat : Nat))), .int .i64 x19.toNat, .int .i64 (fld b 20 4)]]) (fun _ => True) ?_ ?_
  · refine C.regionA 100000 (.one 0 false (.one 1 false (.one 2 false (.one 3 false (.one 4 false (.one 5 false (.one 6 false (.one 7 false (.one 8 false (.one 9 false (.one 10 false (.one 13 false (.one 14 false (.one 15 false (.one 16 false (.one 17 false (.one 18 false (.one 21 false (.one 22 false (.one 23 false (.one 24 false (.one 25 false (.one 26 false (.one 27 false (.one 28 false (.one 29 false (.two 11 (.one 12 false (.two 19 (.one 20 false (.one 30 false (.one 31 true (.one 32 true .nil)))) 31 (.one 19 true (.one 20 false (.one 30 false (.one 32 true .nil)))))) 31 (.one 11 true (.one 12 false (.one 19 true (.one 20 false (.one 30 false (.one 32 true .nil))))))))))))))))))))))))))))))))) _ (by kernel_rfl) (by kernel_rfl) Conv.refl ?_
    repeat (first | refine wEn5 ?_ | (refine kEn5 ?_; (first | rintro _ _ ⟨rfl, rfl⟩ | rintro _ _ ⟨_, rfl, rfl⟩ | rintro _ _ ⟨_, _, ⟨_, _⟩, rfl, rfl⟩); try refine ⟨sConv, ?_⟩) | refine Dr.two ?_ ?_)
    · refine Go1.go rfl (by rintro k ⟨⟩ <;> decide) sGon (S.call rfl rfl Try.func81 (by kernel_rfl) rfl sPicks (fun E' hE => rgetf_any E' A n c b sRd 15 19 4 rfl (by decide) m19) ?_)
      rintro e H' ⟨rfl, rfl⟩
      refine ⟨_, rfl, _, sCat, sConv, ?_⟩
      repeat (first | refine wEn5 ?_ | (refine kEn5 ?_; (first | rintro _ _ ⟨rfl, rfl⟩ | rintro _ _ ⟨_, rfl, rfl⟩ | rintro _ _ ⟨_, _, ⟨_, _⟩, rfl, rfl⟩); try refine ⟨sConv, ?_⟩) | refine Dr.two ?_ ?_)
      · refine Go1.go rfl (by rintro k ⟨⟩ <;> decide) sGon (S.call rfl rfl Try.func81 (by kernel_rfl) rfl sPicks (fun E' hE => rgetf_any E' A n c b sRd 20 24 4 rfl (by decide) m24) ?_)
        rintro e H' ⟨rfl, rfl⟩
        refine ⟨_, rfl, _, sCat, sConv, ?_⟩
        repeat (first | refine wEn5 ?_ | (refine kEn5 ?_; (first | rintro _ _ ⟨rfl, rfl⟩ | rintro _ _ ⟨_, rfl, rfl⟩ | rintro _ _ ⟨_, _, ⟨_, _⟩, rfl, rfl⟩); try refine ⟨sConv, ?_⟩) | refine Dr.two ?_ ?_)
        exact ⟨_, sHolds, sConv, trivial⟩
      · repeat (first | refine wEn5 ?_ | (refine kEn5 ?_; (first | rintro _ _ ⟨rfl, rfl⟩ | rintro _ _ ⟨_, rfl, rfl⟩ | rintro _ _ ⟨_, _, ⟨_, _⟩, rfl, rfl⟩); try refine ⟨sConv, ?_⟩) | refine Dr.two ?_ ?_)
        refine Dr.go rfl (by rintro k ⟨⟩ <;> decide) sGon (S.call rfl rfl Try.func81 (by kernel_rfl) rfl sPicks (fun E' hE => rgetf_any E' A n c b sRd 20 24 4 rfl (by decide) m24) ?_)
        rintro e H' ⟨rfl, rfl⟩
        refine ⟨_, rfl, _, sCat, sConv, ?_⟩
        repeat (first | refine wEn5 ?_ | (refine kEn5 ?_; (first | rintro _ _ ⟨rfl, rfl⟩ | rintro _ _ ⟨_, rfl, rfl⟩ | rintro _ _ ⟨_, _, ⟨_, _⟩, rfl, rfl⟩); try refine ⟨sConv, ?_⟩) | refine Dr.two ?_ ?_)
        exact ⟨_, sHolds, sConv, trivial⟩
    · repeat (first | refine wEn5 ?_ | (refine kEn5 ?_; (first | rintro _ _ ⟨rfl, rfl⟩ | rintro _ _ ⟨_, rfl, rfl⟩ | rintro _ _ ⟨_, _, ⟨_, _⟩, rfl, rfl⟩); try refine ⟨sConv, ?_⟩) | refine Dr.two ?_ ?_)
      refine Dr.go rfl (by rintro k ⟨⟩ <;> decide) sGon (S.call rfl rfl Try.func81 (by kernel_rfl) rfl sPicks (fun E' hE => rgetf_any E' A n c b sRd 15 19 4 rfl (by decide) m19) ?_)
      rintro e H' ⟨rfl, rfl⟩
      refine ⟨_, rfl, _, sCat, sConv, ?_⟩
      repeat (first | refine wEn5 ?_ | (refine kEn5 ?_; (first | rintro _ _ ⟨rfl, rfl⟩ | rintro _ _ ⟨_, rfl, rfl⟩ | rintro _ _ ⟨_, _, ⟨_, _⟩, rfl, rfl⟩); try refine ⟨sConv, ?_⟩) | refine Dr.two ?_ ?_)
      refine Dr.go rfl (by rintro k ⟨⟩ <;> decide) sGon (S.call rfl rfl Try.func81 (by kernel_rfl) rfl sPicks (fun E' hE => rgetf_any E' A n c b sRd 20 24 4 rfl (by decide) m24) ?_)
      rintro e H' ⟨rfl, rfl⟩
      refine ⟨_, rfl, _, sCat, sConv, ?_⟩
      repeat (first | refine wEn5 ?_ | (refine kEn5 ?_; (first | rintro _ _ ⟨rfl, rfl⟩ | rintro _ _ ⟨_, rfl, rfl⟩ | rintro _ _ ⟨_, _, ⟨_, _⟩, rfl, rfl⟩); try refine ⟨sConv, ?_⟩) | refine Dr.two ?_ ?_)
      exact ⟨_, sHolds, sConv, trivial⟩
  rintro g G -
  cases hys : y.isSome
  · rw [hys, if_neg (fun h => by cases h.1)] at hmg
    rw [hmg]
    repeat (first | refine wEn5 ?_ | (refine kEn5 ?_; (first | rintro _ _ ⟨rfl, rfl⟩ | rintro _ _ ⟨_, rfl, rfl⟩ | rintro _ _ ⟨_, _, ⟨_, _⟩, rfl, rfl⟩); try refine ⟨sConv, ?_⟩) | refine Dr.two ?_ ?_)
    apply retC2; (· exact rfl); (· exact sRet); (· exact rfl); (· exact rfl); (· exact rfl); (· exact sHas); (· exact rfl); (· exact sRet); rotate_left; (· exact (⟨rfl, rfl⟩)); (· exact sConv)
  · rw [hys] at hmg
    repeat (first | refine wEn5 ?_ | (refine kEn5 ?_; (first | rintro _ _ ⟨rfl, rfl⟩ | rintro _ _ ⟨_, rfl, rfl⟩ | rintro _ _ ⟨_, _, ⟨_, _⟩, rfl, rfl⟩); try refine ⟨sConv, ?_⟩) | refine Dr.two ?_ ?_)
    have hcs : (entM b).cs = [.int .i64 x0.toNat, .int .i64 z.kind, .int .i64 z.a, .int .i64 z.n, .int .i64 z.ref.rep, .int .i64 z.ref.seq, .int .i64 x14.toNat, .int .i64 (fld b 15 4), .bool (decide (((x24.toNat : Nat) : Int) % 2 = 1)), .bool (decide ((1 : Int) < (x24.toNat : Nat))), .int .i64 x19.toNat, .int .i64 (fld b 20 4)] := by rw [hEM]
    rw [← hcs]
    refine L.step (by decide) (S.call rfl rfl Try.func52 (by kernel_rfl) rfl sPicks (fun E' hE => mmay E' (entM b)) ?_)
    rintro e H' ⟨rfl, rfl⟩
    refine ⟨_, rfl, _, sCat, ?_⟩
    cases hm : (entM b).may
    · rw [hm, if_neg (fun h => by cases h.2)] at hmg
      rw [hmg]
      repeat (first | refine wEn5 ?_ | (refine kEn5 ?_; (first | rintro _ _ ⟨rfl, rfl⟩ | rintro _ _ ⟨_, rfl, rfl⟩ | rintro _ _ ⟨_, _, ⟨_, _⟩, rfl, rfl⟩); try refine ⟨sConv, ?_⟩) | refine Dr.two ?_ ?_)
      apply retC2; (· exact rfl); (· exact sRet); (· exact rfl); (· exact rfl); (· exact rfl); (· exact sHas); (· exact rfl); (· exact sRet); rotate_left; (· exact (⟨rfl, rfl⟩)); (· exact sConv)
    · rw [hm, if_pos ⟨rfl, rfl⟩] at hmg
      rw [hmg]
      repeat (first | refine wEn5 ?_ | (refine kEn5 ?_; (first | rintro _ _ ⟨rfl, rfl⟩ | rintro _ _ ⟨_, rfl, rfl⟩ | rintro _ _ ⟨_, _, ⟨_, _⟩, rfl, rfl⟩); try refine ⟨sConv, ?_⟩) | refine Dr.two ?_ ?_)
      apply retC2; (· exact rfl); (· exact sRet); (· exact rfl); (· exact rfl); (· exact rfl); (· exact sHas); (· exact rfl); (· exact sRet); rotate_left; (· exact (⟨rfl, rfl⟩)); (· exact sConv)
theorem mread_any (E : Env) (A : Option Addr) (n c : Nat) (b : List UInt8) (hr : Rd E octT A n c b) :
    Tri Try.prog E 68 #[.slice A n c] [] fun e H' => e = .returned (.tuple #[.agg ((mget b).getD enrT_z).cs.toArray, .bool (mget b).isSome]) ∧ H' = [] := by
  have hn := hr.len
  by_cases h : n = 27 ∧ fld b 24 1 ≤ 3 ∧ b[25]? = some 69 ∧ b[26]? = some 69
  · obtain ⟨h1, h2, h3, h4⟩ := h
    exact mread_long E A n c b hr h1 h2 h3 h4
  · have hm : mget b = none := by
      unfold mget
      exact if_neg fun ⟨h1, h2, h3, h4, _⟩ => h ⟨by omega, h2, h3, h4⟩
    rw [hm]
    exact mread_no E A n c b hr h
end Go.Proofs.Ytncfkkmdhdofpaa.Sep
