/- the law EntryPuts, by parts of memory. -/
import Derived.Test.YtncfkkmdhdofpaaEnt14
import Derived.Test.YtncfkkmdhdofpaaEnt12
import Derived.Test.YtncfkkmdhdofpaaEnt9
import Derived.Test.YtncfkkmdhdofpaaEnt4
import Derived.Test.YtncfkkmdhdofpaaEnt7
import Derived.Test.YtncfkkmdhdofpaaChange2
import Derived.Test.YtncfkkmdhdofpaaChangePlain
import Derived.Test.YtncfkkmdhdofpaaPutw
import Derived.Test.YtncfkkmdhdofpaaRet
import Derived.Test.YtncfkkmdhdofpaaOctDone
namespace Go.Proofs.Ytncfkkmdhdofpaa.Sep
open Go.RowKit Go.Proofs.Ytncfkkmdhdofpaa.Reg Go.Proofs.Ytncfkkmdhdofpaa.Oct
open Go.Proofs.Ytncfkkmdhdofpaa.Mem hiding Rd Own
-- types: octT idnT
-- recs: rec_Reader idnT_rec effT_rec cfgT_rec entT_rec enrT_rec
-- eqs: idnT_eqa effT_eqa entT_eqa enrT_eqa
-- zeros: z_octs z_rdr
-- funcs
-- strs
set_option maxRecDepth 100000
set_option maxHeartbeats 8000000
theorem puts20 (E : Env) (e : Ent) (A : Option Addr) (n c : Nat) (b : List UInt8) (hok : e.ok) (hr : Rd E octT A n c b) : Tri Try.prog E 13 #[.agg e.cs.toArray, .slice A n c] [] fun r _ => r = .returned (.bool true) := by
  have hn := hr.len
  have hcap := hr.cap
  have hg : ∀ E, Rd E octT A n c b → Tri Try.prog E 67 #[.slice A n c] [] fun r H' => r = .returned (.tuple #[.agg ((mget b).getD entT_z).cs.toArray, .bool (mget b).isSome]) ∧ H' = [] := fun E h => by
    by_cases h27 : n = 27
    · rw [← eget_mget]
      exact eget_long E A n c b h h27
    · have hm : mget b = none := by
        unfold mget
        exact if_neg fun h1 => h27 (by omega)
      rw [hm]
      exact eget_short E A n c b h h27
  have d1 : ∀ t : Ent, decide ((⟨t.ord, ⟨t.what.kind, t.what.a, t.what.n, ⟨t.what.ref.rep, t.what.ref.seq⟩⟩, t.sent, t.last, t.acked, t.gone, t.back, t.backLast⟩ : Ent) = ⟨t.ord, ⟨t.what.kind, t.what.a, t.what.n, ⟨t.what.ref.rep, t.what.ref.seq⟩⟩, t.sent, t.last, t.acked, t.gone, t.back, t.backLast⟩) = true := fun t => decide_eq_true rfl
  have d2 : decide ((⟨e.ord, ⟨e.what.kind, e.what.a, e.what.n, ⟨e.what.ref.rep, e.what.ref.seq⟩⟩, e.sent, e.last, e.acked, e.gone, e.back, e.backLast⟩ : Ent) = ⟨e.ord, ⟨e.what.kind, e.what.a, e.what.n, ⟨e.what.ref.rep, e.what.ref.seq⟩⟩, e.sent, e.last, e.acked, e.gone, e.back, e.backLast⟩) = true := d1 e
  refine tri Try.func13 rfl Try.ntmps13 (by simp) ?_
  repeat (first | refine wE12 ?_ | (refine kE12 ?_; (first | rintro _ _ ⟨rfl, rfl⟩ | rintro _ _ ⟨_, rfl, rfl⟩ | rintro _ _ ⟨_, _, ⟨_, _⟩, rfl, rfl⟩); try refine ⟨sConv, ?_⟩) | refine Dr.two ?_ ?_)
  refine L.step (by decide) (S.call rfl rfl Try.func49 (by kernel_rfl) rfl sPicks (fun E' hE => alive20 E') ?_)
  rintro r H' ⟨rfl, rfl⟩
  refine ⟨_, rfl, _, sCat, ?_⟩
  repeat (first | refine wE12 ?_ | (refine kE12 ?_; (first | rintro _ _ ⟨rfl, rfl⟩ | rintro _ _ ⟨_, rfl, rfl⟩ | rintro _ _ ⟨_, _, ⟨_, _⟩, rfl, rfl⟩); try refine ⟨sConv, ?_⟩) | refine Dr.two ?_ ?_)
  cases hm : e.may
  · refine L.step (by decide) (S.call rfl rfl Try.func65 (by kernel_rfl) rfl sPicks (fun E' hE => eput_no E' e hm) ?_)
    rintro r H' ⟨rfl, rfl⟩
    refine ⟨_, rfl, _, sCat, ?_⟩
    have dn : decide (([] : List UInt8) ≠ []) = false := by decide
    repeat (first | refine wE12 ?_ | (refine kE12 ?_; (first | rintro _ _ ⟨rfl, rfl⟩ | rintro _ _ ⟨_, rfl, rfl⟩ | rintro _ _ ⟨_, _, ⟨_, _⟩, rfl, rfl⟩); try refine ⟨sConv, ?_⟩) | refine Dr.two ?_ ?_)
    refine C.regionA 100000 (.one 0 false (.one 1 false (.one 2 false (.one 3 true (.one 4 true (.one 5 false (.one 6 false .nil))))))) _ (by kernel_rfl) (by kernel_rfl) Conv.refl ?_
    repeat (first | refine wE12 ?_ | (refine kE12 ?_; (first | rintro _ _ ⟨rfl, rfl⟩ | rintro _ _ ⟨_, rfl, rfl⟩ | rintro _ _ ⟨_, _, ⟨_, _⟩, rfl, rfl⟩); try refine ⟨sConv, ?_⟩) | refine Dr.two ?_ ?_)
    refine Dr.go rfl (by rintro k ⟨⟩ <;> decide) sGon (S.call rfl rfl Try.func50 (by kernel_rfl) rfl sPicks (fun E' hE => model20 E' e) ?_)
    rintro r H' ⟨rfl, rfl⟩
    refine ⟨_, rfl, _, sCat, sConv, ?_⟩
    repeat (first | refine wE12 ?_ | (refine kE12 ?_; (first | rintro _ _ ⟨rfl, rfl⟩ | rintro _ _ ⟨_, rfl, rfl⟩ | rintro _ _ ⟨_, _, ⟨_, _⟩, rfl, rfl⟩); try refine ⟨sConv, ?_⟩) | refine Dr.two ?_ ?_)
    refine Dr.go rfl (by rintro k ⟨⟩ <;> decide) sGon (S.call rfl rfl Try.func66 (by kernel_rfl) rfl sPicks (fun E' hE => mput_no E' e hm) ?_)
    rintro r H' ⟨rfl, rfl⟩
    refine ⟨_, rfl, _, sCat, sConv, ?_⟩
    repeat (first | refine wE12 ?_ | (refine kE12 ?_; (first | rintro _ _ ⟨rfl, rfl⟩ | rintro _ _ ⟨_, rfl, rfl⟩ | rintro _ _ ⟨_, _, ⟨_, _⟩, rfl, rfl⟩); try refine ⟨sConv, ?_⟩) | refine Dr.two ?_ ?_)
    refine L.step (by decide) (S.call rfl rfl Try.func67 (by kernel_rfl) rfl sPicks (fun E' hE => eget_short E' none 0 0 [] (Rd.nil _ _) (by decide)) ?_)
    rintro r H' ⟨rfl, rfl⟩
    refine ⟨_, rfl, _, sCat, ?_⟩
    repeat (first | refine wE12 ?_ | (refine kE12 ?_; (first | rintro _ _ ⟨rfl, rfl⟩ | rintro _ _ ⟨_, rfl, rfl⟩ | rintro _ _ ⟨_, _, ⟨_, _⟩, rfl, rfl⟩); try refine ⟨sConv, ?_⟩) | refine Dr.two ?_ ?_)
    refine L.step (by decide) (S.call rfl rfl Try.func50 (by kernel_rfl) rfl sPicks (fun E' hE => model20 E' e) ?_)
    rintro r H' ⟨rfl, rfl⟩
    refine ⟨_, rfl, _, sCat, ?_⟩
    repeat (first | refine wE12 ?_ | (refine kE12 ?_; (first | rintro _ _ ⟨rfl, rfl⟩ | rintro _ _ ⟨_, rfl, rfl⟩ | rintro _ _ ⟨_, _, ⟨_, _⟩, rfl, rfl⟩); try refine ⟨sConv, ?_⟩) | refine Dr.two ?_ ?_)
    refine L.step (by decide) (S.call rfl rfl Try.func52 (by kernel_rfl) rfl sPicks (fun E' hE => mmay E' e) ?_)
    rw [hm]
    rintro r H' ⟨rfl, rfl⟩
    refine ⟨_, rfl, _, sCat, ?_⟩
    repeat (first | refine wE12 ?_ | (refine kE12 ?_; (first | rintro _ _ ⟨rfl, rfl⟩ | rintro _ _ ⟨_, rfl, rfl⟩ | rintro _ _ ⟨_, _, ⟨_, _⟩, rfl, rfl⟩); try refine ⟨sConv, ?_⟩) | refine Dr.two ?_ ?_)
    refine L.step (by decide) (S.call rfl rfl Try.func67 (by kernel_rfl) rfl sPicks (fun E' hE => hg E' sRd) ?_)
    cases hb : mget b with
    | none =>
      dsimp only [Option.getD, Option.isSome]
      rintro r H' ⟨rfl, rfl⟩
      refine ⟨_, rfl, _, sCat, ?_⟩
      have d3 := d1 entT_z
      repeat (first | refine wE12 ?_ | (refine kE12 ?_; (first | rintro _ _ ⟨rfl, rfl⟩ | rintro _ _ ⟨_, rfl, rfl⟩ | rintro _ _ ⟨_, _, ⟨_, _⟩, rfl, rfl⟩); try refine ⟨sConv, ?_⟩) | refine Dr.two ?_ ?_)
      refine L.step (by decide) (S.call rfl rfl Try.func68 (by kernel_rfl) rfl sPicks (fun E' hE => mread_any E' A n c b sRd) ?_)
      rw [hb]
      dsimp only [Option.getD, Option.isSome]
      rintro r H' ⟨rfl, rfl⟩
      refine ⟨_, rfl, _, sCat, ?_⟩
      repeat (first | refine wE12 ?_ | (refine kE12 ?_; (first | rintro _ _ ⟨rfl, rfl⟩ | rintro _ _ ⟨_, rfl, rfl⟩ | rintro _ _ ⟨_, _, ⟨_, _⟩, rfl, rfl⟩); try refine ⟨sConv, ?_⟩) | refine Dr.two ?_ ?_)
      refine C.regionA 100000 (.one 0 false (.one 1 false (.one 2 false (.one 3 false (.one 4 false (.one 6 false (.one 5 true (.one 7 false (.one 8 false (.one 9 false .nil)))))))))) _ (by kernel_rfl) (by kernel_rfl) Conv.refl ?_
      repeat (first | refine wE12 ?_ | (refine kE12 ?_; (first | rintro _ _ ⟨rfl, rfl⟩ | rintro _ _ ⟨_, rfl, rfl⟩ | rintro _ _ ⟨_, _, ⟨_, _⟩, rfl, rfl⟩); try refine ⟨sConv, ?_⟩) | refine Dr.two ?_ ?_)
      refine Dr.go rfl (by rintro k ⟨⟩ <;> decide) sGon (S.call rfl rfl Try.func50 (by kernel_rfl) rfl sPicks (fun E' hE => model20 E' entT_z) ?_)
      rintro r H' ⟨rfl, rfl⟩
      refine ⟨_, rfl, _, sCat, sConv, ?_⟩
      repeat (first | refine wE12 ?_ | (refine kE12 ?_; (first | rintro _ _ ⟨rfl, rfl⟩ | rintro _ _ ⟨_, rfl, rfl⟩ | rintro _ _ ⟨_, _, ⟨_, _⟩, rfl, rfl⟩); try refine ⟨sConv, ?_⟩) | refine Dr.two ?_ ?_)
      exact ret1 rfl sRet sConv (rfl)
    | some y =>
      dsimp only [Option.getD, Option.isSome]
      rintro r H' ⟨rfl, rfl⟩
      refine ⟨_, rfl, _, sCat, ?_⟩
      have d3 := d1 y
      repeat (first | refine wE12 ?_ | (refine kE12 ?_; (first | rintro _ _ ⟨rfl, rfl⟩ | rintro _ _ ⟨_, rfl, rfl⟩ | rintro _ _ ⟨_, _, ⟨_, _⟩, rfl, rfl⟩); try refine ⟨sConv, ?_⟩) | refine Dr.two ?_ ?_)
      refine L.step (by decide) (S.call rfl rfl Try.func68 (by kernel_rfl) rfl sPicks (fun E' hE => mread_any E' A n c b sRd) ?_)
      rw [hb]
      dsimp only [Option.getD, Option.isSome]
      rintro r H' ⟨rfl, rfl⟩
      refine ⟨_, rfl, _, sCat, ?_⟩
      repeat (first | refine wE12 ?_ | (refine kE12 ?_; (first | rintro _ _ ⟨rfl, rfl⟩ | rintro _ _ ⟨_, rfl, rfl⟩ | rintro _ _ ⟨_, _, ⟨_, _⟩, rfl, rfl⟩); try refine ⟨sConv, ?_⟩) | refine Dr.two ?_ ?_)
      refine C.regionA 100000 (.one 0 false (.one 1 false (.one 2 false (.one 3 false (.one 4 false (.one 6 false (.one 5 true (.one 7 false (.one 8 false (.one 9 false .nil)))))))))) _ (by kernel_rfl) (by kernel_rfl) Conv.refl ?_
      repeat (first | refine wE12 ?_ | (refine kE12 ?_; (first | rintro _ _ ⟨rfl, rfl⟩ | rintro _ _ ⟨_, rfl, rfl⟩ | rintro _ _ ⟨_, _, ⟨_, _⟩, rfl, rfl⟩); try refine ⟨sConv, ?_⟩) | refine Dr.two ?_ ?_)
      refine Dr.go rfl (by rintro k ⟨⟩ <;> decide) sGon (S.call rfl rfl Try.func50 (by kernel_rfl) rfl sPicks (fun E' hE => model20 E' y) ?_)
      rintro r H' ⟨rfl, rfl⟩
      refine ⟨_, rfl, _, sCat, sConv, ?_⟩
      repeat (first | refine wE12 ?_ | (refine kE12 ?_; (first | rintro _ _ ⟨rfl, rfl⟩ | rintro _ _ ⟨_, rfl, rfl⟩ | rintro _ _ ⟨_, _, ⟨_, _⟩, rfl, rfl⟩); try refine ⟨sConv, ?_⟩) | refine Dr.two ?_ ?_)
      exact ret1 rfl sRet sConv ((by rw [d3]))
  · refine L.step (by decide) (S.call rfl rfl Try.func65 (by kernel_rfl) rfl sPicks (fun E' hE => eput_ok E' e hm) ?_)
    rintro r H' ⟨A1, c1, rfl, rfl⟩
    refine ⟨_, rfl, _, sCat, ?_⟩
    have dn : decide (e.put ≠ e.put) = false := by simp
    repeat (first | refine wE12 ?_ | (refine kE12 ?_; (first | rintro _ _ ⟨rfl, rfl⟩ | rintro _ _ ⟨_, rfl, rfl⟩ | rintro _ _ ⟨_, _, ⟨_, _⟩, rfl, rfl⟩); try refine ⟨sConv, ?_⟩) | refine Dr.two ?_ ?_)
    refine C.regionA 100000 (.one 0 false (.one 1 false (.one 2 false (.one 3 true (.one 4 true (.one 5 false (.one 6 false .nil))))))) _ (by kernel_rfl) (by kernel_rfl) Conv.refl ?_
    repeat (first | refine wE12 ?_ | (refine kE12 ?_; (first | rintro _ _ ⟨rfl, rfl⟩ | rintro _ _ ⟨_, rfl, rfl⟩ | rintro _ _ ⟨_, _, ⟨_, _⟩, rfl, rfl⟩); try refine ⟨sConv, ?_⟩) | refine Dr.two ?_ ?_)
    refine Dr.go rfl (by rintro k ⟨⟩ <;> decide) sGon (S.call rfl rfl Try.func50 (by kernel_rfl) rfl sPicks (fun E' hE => model20 E' e) ?_)
    rintro r H' ⟨rfl, rfl⟩
    refine ⟨_, rfl, _, sCat, sConv, ?_⟩
    repeat (first | refine wE12 ?_ | (refine kE12 ?_; (first | rintro _ _ ⟨rfl, rfl⟩ | rintro _ _ ⟨_, rfl, rfl⟩ | rintro _ _ ⟨_, _, ⟨_, _⟩, rfl, rfl⟩); try refine ⟨sConv, ?_⟩) | refine Dr.two ?_ ?_)
    refine Dr.go rfl (by rintro k ⟨⟩ <;> decide) sGon (S.call rfl rfl Try.func66 (by kernel_rfl) rfl sPicks (fun E' hE => mput_ok E' e hm) ?_)
    rintro r H' ⟨A2, c2, rfl, rfl⟩
    refine ⟨_, rfl, _, sCat, sConv, ?_⟩
    refine Dr.more (Hk' := _) sConv Conv.refl ?_
    repeat (first | refine wE12 ?_ | (refine kE12 ?_; (first | rintro _ _ ⟨rfl, rfl⟩ | rintro _ _ ⟨_, rfl, rfl⟩ | rintro _ _ ⟨_, _, ⟨_, _⟩, rfl, rfl⟩); try refine ⟨sConv, ?_⟩) | refine Dr.two ?_ ?_)
    have hget : ∀ E', Rd E' octT A1 27 c1 e.put → Tri Try.prog E' 67 #[.slice A1 27 c1] [] fun r H' => r = .returned (.tuple #[.agg e.cs.toArray, .bool true]) ∧ H' = [] := fun E' h => by
      have h2 := eget_long E' A1 27 c1 e.put h rfl
      rw [eget_put hm hok.2.1.2.2.1] at h2
      exact h2
    generalize e.put = p at *
    refine L.step (by decide) (S.call rfl rfl Try.func67 (by kernel_rfl) rfl sPicks (fun E' hE => hget E' sRd) ?_)
    rintro r H' ⟨rfl, rfl⟩
    refine ⟨_, rfl, _, sCat, ?_⟩
    repeat (first | refine wE12 ?_ | (refine kE12 ?_; (first | rintro _ _ ⟨rfl, rfl⟩ | rintro _ _ ⟨_, rfl, rfl⟩ | rintro _ _ ⟨_, _, ⟨_, _⟩, rfl, rfl⟩); try refine ⟨sConv, ?_⟩) | refine Dr.two ?_ ?_)
    refine L.step (by decide) (S.call rfl rfl Try.func50 (by kernel_rfl) rfl sPicks (fun E' hE => model20 E' e) ?_)
    rintro r H' ⟨rfl, rfl⟩
    refine ⟨_, rfl, _, sCat, ?_⟩
    repeat (first | refine wE12 ?_ | (refine kE12 ?_; (first | rintro _ _ ⟨rfl, rfl⟩ | rintro _ _ ⟨_, rfl, rfl⟩ | rintro _ _ ⟨_, _, ⟨_, _⟩, rfl, rfl⟩); try refine ⟨sConv, ?_⟩) | refine Dr.two ?_ ?_)
    refine L.step (by decide) (S.call rfl rfl Try.func52 (by kernel_rfl) rfl sPicks (fun E' hE => mmay E' e) ?_)
    rw [hm]
    rintro r H' ⟨rfl, rfl⟩
    refine ⟨_, rfl, _, sCat, ?_⟩
    have d4 : decide ((⟨e.ord, ⟨e.what.kind, e.what.a, e.what.n, ⟨e.what.ref.rep, e.what.ref.seq⟩⟩, e.sent, e.last, e.acked, e.gone, e.back, e.backLast⟩ : Ent) ≠ ⟨e.ord, ⟨e.what.kind, e.what.a, e.what.n, ⟨e.what.ref.rep, e.what.ref.seq⟩⟩, e.sent, e.last, e.acked, e.gone, e.back, e.backLast⟩) = false := by simp
    have d5 : (!decide ((⟨e.ord, ⟨e.what.kind, e.what.a, e.what.n, ⟨e.what.ref.rep, e.what.ref.seq⟩⟩, e.sent, e.last, e.acked, e.gone, e.back, e.backLast⟩ : Ent) = ⟨e.ord, ⟨e.what.kind, e.what.a, e.what.n, ⟨e.what.ref.rep, e.what.ref.seq⟩⟩, e.sent, e.last, e.acked, e.gone, e.back, e.backLast⟩)) = false := by rw [d2]; rfl
    repeat (first | refine wE12 ?_ | (refine kE12 ?_; (first | rintro _ _ ⟨rfl, rfl⟩ | rintro _ _ ⟨_, rfl, rfl⟩ | rintro _ _ ⟨_, _, ⟨_, _⟩, rfl, rfl⟩); try refine ⟨sConv, ?_⟩) | refine Dr.two ?_ ?_)
    refine L.step (by decide) (S.call rfl rfl Try.func67 (by kernel_rfl) rfl sPicks (fun E' hE => hg E' sRd) ?_)
    cases hb : mget b with
    | none =>
      dsimp only [Option.getD, Option.isSome]
      rintro r H' ⟨rfl, rfl⟩
      refine ⟨_, rfl, _, sCat, ?_⟩
      have d3 := d1 entT_z
      repeat (first | refine wE12 ?_ | (refine kE12 ?_; (first | rintro _ _ ⟨rfl, rfl⟩ | rintro _ _ ⟨_, rfl, rfl⟩ | rintro _ _ ⟨_, _, ⟨_, _⟩, rfl, rfl⟩); try refine ⟨sConv, ?_⟩) | refine Dr.two ?_ ?_)
      refine L.step (by decide) (S.call rfl rfl Try.func68 (by kernel_rfl) rfl sPicks (fun E' hE => mread_any E' A n c b sRd) ?_)
      rw [hb]
      dsimp only [Option.getD, Option.isSome]
      rintro r H' ⟨rfl, rfl⟩
      refine ⟨_, rfl, _, sCat, ?_⟩
      repeat (first | refine wE12 ?_ | (refine kE12 ?_; (first | rintro _ _ ⟨rfl, rfl⟩ | rintro _ _ ⟨_, rfl, rfl⟩ | rintro _ _ ⟨_, _, ⟨_, _⟩, rfl, rfl⟩); try refine ⟨sConv, ?_⟩) | refine Dr.two ?_ ?_)
      refine C.regionA 100000 (.one 0 false (.one 1 false (.one 2 false (.one 3 false (.one 4 false (.one 6 false (.one 5 true (.one 7 false (.one 8 false (.one 9 false .nil)))))))))) _ (by kernel_rfl) (by kernel_rfl) Conv.refl ?_
      repeat (first | refine wE12 ?_ | (refine kE12 ?_; (first | rintro _ _ ⟨rfl, rfl⟩ | rintro _ _ ⟨_, rfl, rfl⟩ | rintro _ _ ⟨_, _, ⟨_, _⟩, rfl, rfl⟩); try refine ⟨sConv, ?_⟩) | refine Dr.two ?_ ?_)
      refine Dr.go rfl (by rintro k ⟨⟩ <;> decide) sGon (S.call rfl rfl Try.func50 (by kernel_rfl) rfl sPicks (fun E' hE => model20 E' entT_z) ?_)
      rintro r H' ⟨rfl, rfl⟩
      refine ⟨_, rfl, _, sCat, sConv, ?_⟩
      repeat (first | refine wE12 ?_ | (refine kE12 ?_; (first | rintro _ _ ⟨rfl, rfl⟩ | rintro _ _ ⟨_, rfl, rfl⟩ | rintro _ _ ⟨_, _, ⟨_, _⟩, rfl, rfl⟩); try refine ⟨sConv, ?_⟩) | refine Dr.two ?_ ?_)
      exact ret1 rfl sRet sConv (rfl)
    | some y =>
      dsimp only [Option.getD, Option.isSome]
      rintro r H' ⟨rfl, rfl⟩
      refine ⟨_, rfl, _, sCat, ?_⟩
      have d3 := d1 y
      repeat (first | refine wE12 ?_ | (refine kE12 ?_; (first | rintro _ _ ⟨rfl, rfl⟩ | rintro _ _ ⟨_, rfl, rfl⟩ | rintro _ _ ⟨_, _, ⟨_, _⟩, rfl, rfl⟩); try refine ⟨sConv, ?_⟩) | refine Dr.two ?_ ?_)
      refine L.step (by decide) (S.call rfl rfl Try.func68 (by kernel_rfl) rfl sPicks (fun E' hE => mread_any E' A n c b sRd) ?_)
      rw [hb]
      dsimp only [Option.getD, Option.isSome]
      rintro r H' ⟨rfl, rfl⟩
      refine ⟨_, rfl, _, sCat, ?_⟩
      repeat (first | refine wE12 ?_ | (refine kE12 ?_; (first | rintro _ _ ⟨rfl, rfl⟩ | rintro _ _ ⟨_, rfl, rfl⟩ | rintro _ _ ⟨_, _, ⟨_, _⟩, rfl, rfl⟩); try refine ⟨sConv, ?_⟩) | refine Dr.two ?_ ?_)
      refine C.regionA 100000 (.one 0 false (.one 1 false (.one 2 false (.one 3 false (.one 4 false (.one 6 false (.one 5 true (.one 7 false (.one 8 false (.one 9 false .nil)))))))))) _ (by kernel_rfl) (by kernel_rfl) Conv.refl ?_
      repeat (first | refine wE12 ?_ | (refine kE12 ?_; (first | rintro _ _ ⟨rfl, rfl⟩ | rintro _ _ ⟨_, rfl, rfl⟩ | rintro _ _ ⟨_, _, ⟨_, _⟩, rfl, rfl⟩); try refine ⟨sConv, ?_⟩) | refine Dr.two ?_ ?_)
      refine Dr.go rfl (by rintro k ⟨⟩ <;> decide) sGon (S.call rfl rfl Try.func50 (by kernel_rfl) rfl sPicks (fun E' hE => model20 E' y) ?_)
      rintro r H' ⟨rfl, rfl⟩
      refine ⟨_, rfl, _, sCat, sConv, ?_⟩
      repeat (first | refine wE12 ?_ | (refine kE12 ?_; (first | rintro _ _ ⟨rfl, rfl⟩ | rintro _ _ ⟨_, rfl, rfl⟩ | rintro _ _ ⟨_, _, ⟨_, _⟩, rfl, rfl⟩); try refine ⟨sConv, ?_⟩) | refine Dr.two ?_ ?_)
      exact ret1 rfl sRet sConv ((by rw [d3]))
end Go.Proofs.Ytncfkkmdhdofpaa.Sep
