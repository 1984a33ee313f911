/- the document's chains, each an element of a slice: what is next, settled, tried, answered; by parts of memory (printed by tools/chre.py of Chr1 and Chr2). -/
import Derived.Test.YtkhmplaocfjpjaaLed1
namespace Go.Proofs.Ytkhmplaocfjpjaa.Sep
open Go.RowKit Go.Proofs.Ytkhmplaocfjpjaa.Reg
open Go.Proofs.Ytkhmplaocfjpjaa.Mem hiding Rd Own
-- types: entT enrT effT lineT rchT chvT efsT op22T keyT reqT
-- recs: idnT_rec effT_rec cfgT_rec entT_rec enrT_rec keyT_rec reqT_rec chain_rec chref_rec op22T_rec lineT_rec ledger_rec bk22_rec
-- eqs: idnT_eqa effT_eqa entT_eqa enrT_eqa keyT_eqa reqT_eqa
-- funcs
-- flds
-- elts
set_option maxRecDepth 100000
set_option maxHeartbeats 8000000
abbrev mce (Bq : Option Addr) (mq dq : Nat) (bsq : List Lnv) (iq : Nat) (id : Idn) (made : Int) (A : Option Addr) (n c : Nat) (X : Option Addr) (nx cx : Nat) : Asn := elt rchT Bq mq dq bsq iq [.int .i64 id.rep, .int .i64 id.seq, .int .i64 made, .slice A n c, .slice X nx cx]
section
variable (E : Env) (Bq : Option Addr) (mq dq : Nat) (bsq : List Lnv) (iq : Nat) (id : Idn) (made : Int) (A : Option Addr) (n c : Nat) (l : List Ent) (want : List Eff) (X : Option Addr) (nx cx : Nat)
theorem rnextE (hr : Rd E enrT A n c l) (hw : Rd E effT X nx cx want) (hm : I64 made) :
    Tri Try.prog E 17 #[.pointer (some ((ad Bq).add (iq * rchT.size)))] [mce Bq mq dq bsq iq id made A n c X nx cx] fun r H' => Nxt (next id made l want) r ∧ H' = [mce Bq mq dq bsq iq id made A n c X nx cx] := by
  have hn := hr.len
  have hcap := hr.cap
  have hnw := hw.len
  have hcw := hw.cap
  have hmax : maxLen = 9223372036854775807 := rfl
  unfold I64 at hm
  unfold Nxt
  refine tri Try.func17 rfl Try.ntmps17 (by simp) ?_
  repeat ((fail_if_success (refine C.seq (x := Code.region 2 _ _) ?_)); first | refine vLd1 ?_ | (refine kLd1 ?_; (first | rintro _ _ ⟨rfl, rfl⟩ | rintro _ _ ⟨_, rfl, rfl⟩ | rintro _ _ ⟨_, _, ⟨_, _⟩, rfl, rfl⟩); try refine ⟨sConv, ?_⟩) | refine Dr.two ?_ ?_)
  rename_i g2
  refine C.cut (X := Unit) (fun _ => [(0, .pointer (some ((ad Bq).add (iq * rchT.size)))), (2, .pointer (some ⟨g2, 0, none⟩)), (4, .int .i64 n), (23, .bool (tip l).isSome)]) (fun _ => [blk g2 49 reqT_z.cs, mce Bq mq dq bsq iq id made A n c X nx cx]) (fun _ => True) ?_ ?_
  · by_cases h0 : n = 0
    · have ht : tip l = none := by unfold tip; rw [List.getElem?_eq_none (by omega)]
      rw [ht]
      dsimp only [Option.isSome]
      repeat (first | refine wLd1 ?_ | (refine kLd1 ?_; (first | rintro _ _ ⟨rfl, rfl⟩ | rintro _ _ ⟨_, rfl, rfl⟩ | rintro _ _ ⟨_, _, ⟨_, _⟩, rfl, rfl⟩); try refine ⟨sConv, ?_⟩) | refine Dr.two ?_ ?_)
      exact ⟨(), sHolds, sConv, trivial⟩
    · have hs : IntKind.i64.wrap ((n : Int) - 1) = ((n - 1 : Nat) : Int) := by rw [IntWalk.i64_in _ (by omega)]; omega
      have hx : l[n - 1]? = some l[n - 1] := List.getElem?_eq_getElem (by omega)
      generalize l[n - 1] = e at hx
      repeat (first | refine wLd1 ?_ | (refine kLd1 ?_; (first | rintro _ _ ⟨rfl, rfl⟩ | rintro _ _ ⟨_, rfl, rfl⟩ | rintro _ _ ⟨_, _, ⟨_, _⟩, rfl, rfl⟩); try refine ⟨sConv, ?_⟩) | refine Dr.two ?_ ?_)
      refine L.step (by decide) (S.call rfl rfl Try.func61 (by kernel_rfl) rfl sPicks (fun E' hE => mopn E' e) ?_)
      rintro r H' ⟨rfl, rfl⟩
      refine ⟨_, rfl, _, sCat, ?_⟩
      rw [hn] at hx
      cases ho : e.opn
      · rw [tip_shut hx ho]
        dsimp only [Option.isSome]
        repeat (first | refine wLd1 ?_ | (refine kLd1 ?_; (first | rintro _ _ ⟨rfl, rfl⟩ | rintro _ _ ⟨_, rfl, rfl⟩ | rintro _ _ ⟨_, _, ⟨_, _⟩, rfl, rfl⟩); try refine ⟨sConv, ?_⟩) | refine Dr.two ?_ ?_)
        exact ⟨(), sHolds, sConv, trivial⟩
      · rw [tip_opn hx ho]
        dsimp only [Option.isSome]
        repeat (first | refine wLd1 ?_ | (refine kLd1 ?_; (first | rintro _ _ ⟨rfl, rfl⟩ | rintro _ _ ⟨_, rfl, rfl⟩ | rintro _ _ ⟨_, _, ⟨_, _⟩, rfl, rfl⟩); try refine ⟨sConv, ?_⟩) | refine Dr.two ?_ ?_)
        exact ⟨(), sHolds, sConv, trivial⟩
  rintro - G -
  unfold next
  cases htip : tip l with
  | some e =>
    obtain ⟨he, ho⟩ := tip_some htip
    have hlt := (List.getElem?_eq_some_iff.1 he).1
    have hs : IntKind.i64.wrap ((n : Int) - 1) = ((n - 1 : Nat) : Int) := by rw [IntWalk.i64_in _ (by omega)]; omega
    rw [← hn] at he
    dsimp only [Option.isSome]
    repeat (first | refine wLd1 ?_ | (refine kLd1 ?_; (first | rintro _ _ ⟨rfl, rfl⟩ | rintro _ _ ⟨_, rfl, rfl⟩ | rintro _ _ ⟨_, _, ⟨_, _⟩, rfl, rfl⟩); try refine ⟨sConv, ?_⟩) | refine Dr.two ?_ ?_)
    refine L.step (by decide) (S.call rfl rfl Try.func63 (by kernel_rfl) rfl sPicks (fun E' hE => mtries E' e) ?_)
    rintro r H' ⟨rfl, rfl⟩
    refine ⟨_, rfl, _, sCat, ?_⟩
    by_cases h8 : e.nt < 8
    · rw [if_pos h8]
      dsimp only [Option.getD, Option.isSome]
      repeat (first | refine wLd1 ?_ | (refine kLd1 ?_; (first | rintro _ _ ⟨rfl, rfl⟩ | rintro _ _ ⟨_, rfl, rfl⟩ | rintro _ _ ⟨_, _, ⟨_, _⟩, rfl, rfl⟩); try refine ⟨sConv, ?_⟩) | refine Dr.two ?_ ?_)
      rename_i g5
      refine C.regionA 100000 (.one 0 false (.one 1 false (.one 2 false (.one 3 false (.one 4 false (.one 5 false (.one 6 false (.one 9 false (.one 10 false (.one 7 true (.one 8 false (.one 11 false (.one 12 true (.one 13 false .nil)))))))))))))) ([blk g5 53 e.cs, mce Bq mq dq bsq iq id made A n c X nx cx]) (by kernel_rfl) (by kernel_rfl) sConv ?_
      repeat (first | refine wLd1 ?_ | (refine kLd1 ?_; (first | rintro _ _ ⟨rfl, rfl⟩ | rintro _ _ ⟨_, rfl, rfl⟩ | rintro _ _ ⟨_, _, ⟨_, _⟩, rfl, rfl⟩); try refine ⟨sConv, ?_⟩) | refine Dr.two ?_ ?_)
      refine Dr.go rfl (by rintro k ⟨⟩ <;> decide) sGon (S.call rfl rfl Try.func19 (by kernel_rfl) rfl sPicks (fun E' hE => mund E' e) ?_)
      rintro r H' ⟨rfl, rfl⟩
      refine ⟨_, rfl, _, sCat, sConv, ?_⟩
      repeat (first | refine wLd1 ?_ | (refine kLd1 ?_; (first | rintro _ _ ⟨rfl, rfl⟩ | rintro _ _ ⟨_, rfl, rfl⟩ | rintro _ _ ⟨_, _, ⟨_, _⟩, rfl, rfl⟩); try refine ⟨sConv, ?_⟩) | refine Dr.two ?_ ?_)
      apply retC2; (· exact rfl); (· exact sRet); (· exact rfl); (· exact rfl); (· exact rfl); (· exact sHas); (· exact rfl); (· exact sRet); rotate_left; (· exact (⟨rfl, rfl⟩)); (· exact sConv)
    · rw [if_neg h8]
      dsimp only [Option.getD, Option.isSome]
      repeat (first | refine wLd1 ?_ | (refine kLd1 ?_; (first | rintro _ _ ⟨rfl, rfl⟩ | rintro _ _ ⟨_, rfl, rfl⟩ | rintro _ _ ⟨_, _, ⟨_, _⟩, rfl, rfl⟩); try refine ⟨sConv, ?_⟩) | refine Dr.two ?_ ?_)
      apply retC2; (· exact rfl); (· exact sRet); (· exact rfl); (· exact rfl); (· exact rfl); (· exact sHas); (· exact rfl); (· exact sRet); rotate_left; (· exact (⟨rfl, rfl⟩)); (· exact sConv)
  | none =>
    dsimp only [Option.getD, Option.isSome]
    by_cases h1 : nx ≤ n
    · rw [fresh_no (.inl (by omega))]
      dsimp only [Option.getD, Option.isSome]
      repeat (first | refine wLd1 ?_ | (refine kLd1 ?_; (first | rintro _ _ ⟨rfl, rfl⟩ | rintro _ _ ⟨_, rfl, rfl⟩ | rintro _ _ ⟨_, _, ⟨_, _⟩, rfl, rfl⟩); try refine ⟨sConv, ?_⟩) | refine Dr.two ?_ ?_)
      apply retC2; (· exact rfl); (· exact sRet); (· exact rfl); (· exact rfl); (· exact rfl); (· exact sHas); (· exact rfl); (· exact sRet); rotate_left; (· exact (⟨rfl, rfl⟩)); (· exact sConv)
    by_cases h2 : 255 ≤ made
    · rw [fresh_no (.inr h2)]
      dsimp only [Option.getD, Option.isSome]
      repeat (first | refine wLd1 ?_ | (refine kLd1 ?_; (first | rintro _ _ ⟨rfl, rfl⟩ | rintro _ _ ⟨_, rfl, rfl⟩ | rintro _ _ ⟨_, _, ⟨_, _⟩, rfl, rfl⟩); try refine ⟨sConv, ?_⟩) | refine Dr.two ?_ ?_)
      apply retC2; (· exact rfl); (· exact sRet); (· exact rfl); (· exact rfl); (· exact rfl); (· exact sHas); (· exact rfl); (· exact sRet); rotate_left; (· exact (⟨rfl, rfl⟩)); (· exact sConv)
    have hx : want[n]? = some want[n] := List.getElem?_eq_getElem (by omega)
    rw [← hn, fresh_yes hx (by omega)]
    dsimp only [Option.getD, Option.isSome]
    generalize want[n] = f at hx
    repeat (first | refine wLd1 ?_ | (refine kLd1 ?_; (first | rintro _ _ ⟨rfl, rfl⟩ | rintro _ _ ⟨_, rfl, rfl⟩ | rintro _ _ ⟨_, _, ⟨_, _⟩, rfl, rfl⟩); try refine ⟨sConv, ?_⟩) | refine Dr.two ?_ ?_)
    refine C.regionA 100000 (.one 0 false (.one 1 false (.one 2 false (.one 3 false (.one 4 false (.one 5 false (.one 6 false (.one 7 false (.one 8 false (.one 9 false (.one 10 false (.one 11 false (.one 12 false (.one 13 false (.one 14 false (.one 15 false (.one 16 false (.one 17 false (.one 18 true (.one 19 false .nil)))))))))))))))))))) ([mce Bq mq dq bsq iq id made A n c X nx cx]) (by kernel_rfl) (by kernel_rfl) sConv ?_
    repeat (first | refine wLd1 ?_ | (refine kLd1 ?_; (first | rintro _ _ ⟨rfl, rfl⟩ | rintro _ _ ⟨_, rfl, rfl⟩ | rintro _ _ ⟨_, _, ⟨_, _⟩, rfl, rfl⟩); try refine ⟨sConv, ?_⟩) | refine Dr.two ?_ ?_)
    apply retC2; (· exact rfl); (· exact sRet); (· exact rfl); (· exact rfl); (· exact rfl); (· exact sHas); (· exact rfl); (· exact sRet); rotate_left; (· exact (⟨rfl, rfl⟩)); (· exact sConv)
/-- what 'Settle' leaves -/
def SetPostE (Bq : Option Addr) (mq dq : Nat) (bsq : List Lnv) (iq : Nat) (id : Idn) (made : Int) (n : Nat) (l : List Ent) (nw : Nat) (want : List Eff) : Ending → List Asn → Prop := fun r H' =>
  ∃ A' c' Y cy, r = .returned (.tuple #[]) ∧ (n ≤ c' ∧ c' ≤ maxLen) ∧ (nw ≤ cy ∧ cy ≤ maxLen) ∧ H' = [own effT Y nw cy want, mce Bq mq dq bsq iq id made A' n c' Y nw cy, own enrT A' n c' (settle want l)]
theorem rsettleE (Z : Option Addr) (nz cz : Nat) (hr : Rd E enrT A n c l) (hw : Rd E effT Z nz cz want) (hl : n ≤ 1000000) (hlw : nz ≤ 1000000) :
    Tri Try.prog E 129 #[.pointer (some ((ad Bq).add (iq * rchT.size))), .slice Z nz cz] [mce Bq mq dq bsq iq id made A n c X nx cx] (SetPostE Bq mq dq bsq iq id made n l nz want) := by
  have hn := hr.len
  have hcap := hr.cap
  have hnw := hw.len
  have hcw := hw.cap
  have hmax : maxLen = 9223372036854775807 := rfl
  have hsl := settle_length want l
  unfold SetPostE
  refine tri Try.func129 rfl Try.ntmps129 (by simp) ?_
  repeat (first | refine wLd1 ?_ | (refine kLd1 ?_; (first | rintro _ _ ⟨rfl, rfl⟩ | rintro _ _ ⟨_, rfl, rfl⟩ | rintro _ _ ⟨_, _, ⟨_, _⟩, rfl, rfl⟩); try refine ⟨sConv, ?_⟩) | refine Dr.two ?_ ?_)
  refine C.loop (X := Nat × Option Addr × Nat) (fun x => [(0, .pointer (some ((ad Bq).add (iq * rchT.size)))), (1, .slice Z nz cz), (4, .slice x.2.1 x.1 x.2.2), (5, .bool (lost want l x.1)), (6, .int .i64 x.1)])
    (fun x => [mce Bq mq dq bsq iq id made A n c X nx cx, own enrT x.2.1 x.1 x.2.2 ((settle want l).take x.1)]) (fun x => x.1 ≤ n ∧ x.1 ≤ x.2.2 ∧ x.2.2 ≤ maxLen) (fun x => n - x.1) (0, none, 0) sHolds (by show Conv _ _ [_, own enrT none 0 0 ((settle want l).take 0)]; rw [List.take_zero]; exact (Conv.nil0 enrT none).trans sConv) ⟨Nat.zero_le _, Nat.le_refl _, Nat.zero_le _⟩ ?_
  rintro ⟨i, O, co⟩ G ⟨hi, hco, hco2⟩
  dsimp only at hi hco hco2 ⊢
  by_cases hlt : i < n
  · have hx : l[i]? = some l[i] := List.getElem?_eq_getElem (by omega)
    generalize l[i] = e at hx
    repeat ((fail_if_success (refine C.seq (x := Code.region 6 _ _) ?_)); first | refine vLd1 ?_ | (refine kLd1 ?_; (first | rintro _ _ ⟨rfl, rfl⟩ | rintro _ _ ⟨_, rfl, rfl⟩ | rintro _ _ ⟨_, _, ⟨_, _⟩, rfl, rfl⟩); try refine ⟨sConv, ?_⟩) | refine Dr.two ?_ ?_)
    rename_i g7
    refine C.mid (X := Unit) (fun _ => [(0, .pointer (some ((ad Bq).add (iq * rchT.size)))), (1, .slice Z nz cz), (4, .slice O i co), (5, .bool (lost want l (i + 1))), (6, .int .i64 i), (7, .pointer (some ⟨g7, 0, none⟩))])
      (fun _ => [blk g7 53 e.cs, mce Bq mq dq bsq iq id made A n c X nx cx, own enrT O i co ((settle want l).take i)]) (fun _ => True) ?_ ?_
    · cases h1 : lost want l i
      case true =>
        rw [lost_yes hx (.inl h1)]
        rcases Bool.eq_false_or_eq_true e.gone with h2 | h2
        · repeat (first | refine wLd1 ?_ | (refine kLd1 ?_; (first | rintro _ _ ⟨rfl, rfl⟩ | rintro _ _ ⟨_, rfl, rfl⟩ | rintro _ _ ⟨_, _, ⟨_, _⟩, rfl, rfl⟩); try refine ⟨sConv, ?_⟩) | refine Dr.two ?_ ?_)
          refine C.regionA 100000 (.one 0 false (.one 1 false (.one 2 false (.one 3 false (.one 4 false (.one 5 false (.one 6 false (.one 7 false (.one 8 false (.one 9 false (.one 10 false (.one 11 false (.one 12 false (.one 13 false (.one 14 false (.one 15 false (.one 16 false .nil))))))))))))))))) _ (by kernel_rfl) (by kernel_rfl) Conv.refl ?_
          repeat (first | refine wLd1 ?_ | (refine kLd1 ?_; (first | rintro _ _ ⟨rfl, rfl⟩ | rintro _ _ ⟨_, rfl, rfl⟩ | rintro _ _ ⟨_, _, ⟨_, _⟩, rfl, rfl⟩); try refine ⟨sConv, ?_⟩) | refine Dr.two ?_ ?_)
          exact ⟨(), sHolds, sConv, trivial⟩
        by_cases h3 : nz ≤ i
        · repeat (first | refine wLd1 ?_ | (refine kLd1 ?_; (first | rintro _ _ ⟨rfl, rfl⟩ | rintro _ _ ⟨_, rfl, rfl⟩ | rintro _ _ ⟨_, _, ⟨_, _⟩, rfl, rfl⟩); try refine ⟨sConv, ?_⟩) | refine Dr.two ?_ ?_)
          refine C.regionA 100000 (.one 0 false (.one 1 false (.one 2 false (.one 3 false (.one 4 false (.one 5 false (.one 6 false (.one 7 false (.one 8 false (.one 9 false (.one 10 false (.one 11 false (.one 12 false (.one 13 false (.one 14 false (.one 15 false (.one 16 false .nil))))))))))))))))) _ (by kernel_rfl) (by kernel_rfl) Conv.refl ?_
          repeat (first | refine wLd1 ?_ | (refine kLd1 ?_; (first | rintro _ _ ⟨rfl, rfl⟩ | rintro _ _ ⟨_, rfl, rfl⟩ | rintro _ _ ⟨_, _, ⟨_, _⟩, rfl, rfl⟩); try refine ⟨sConv, ?_⟩) | refine Dr.two ?_ ?_)
          exact ⟨(), sHolds, sConv, trivial⟩
        have hwx : want[i]? = some want[i] := List.getElem?_eq_getElem (by omega)
        generalize want[i] = w at hwx
        cases hd : decide ((⟨w.kind, w.a, w.n, ⟨w.ref.rep, w.ref.seq⟩⟩ : Eff) = ⟨e.what.kind, e.what.a, e.what.n, ⟨e.what.ref.rep, e.what.ref.seq⟩⟩)
        · have hd2 : (!decide ((⟨w.kind, w.a, w.n, ⟨w.ref.rep, w.ref.seq⟩⟩ : Eff) = ⟨e.what.kind, e.what.a, e.what.n, ⟨e.what.ref.rep, e.what.ref.seq⟩⟩)) = true := by rw [hd]; rfl
          repeat (first | refine wLd1 ?_ | (refine kLd1 ?_; (first | rintro _ _ ⟨rfl, rfl⟩ | rintro _ _ ⟨_, rfl, rfl⟩ | rintro _ _ ⟨_, _, ⟨_, _⟩, rfl, rfl⟩); try refine ⟨sConv, ?_⟩) | refine Dr.two ?_ ?_)
          refine C.regionA 100000 (.one 0 false (.one 1 false (.one 2 false (.one 3 false (.one 4 false (.one 5 false (.one 6 false (.one 7 false (.one 8 false (.one 9 false (.one 10 false (.one 11 false (.one 12 false (.one 13 false (.one 14 false (.one 15 false (.one 16 false .nil))))))))))))))))) _ (by kernel_rfl) (by kernel_rfl) Conv.refl ?_
          repeat (first | refine wLd1 ?_ | (refine kLd1 ?_; (first | rintro _ _ ⟨rfl, rfl⟩ | rintro _ _ ⟨_, rfl, rfl⟩ | rintro _ _ ⟨_, _, ⟨_, _⟩, rfl, rfl⟩); try refine ⟨sConv, ?_⟩) | refine Dr.two ?_ ?_)
          exact ⟨(), sHolds, sConv, trivial⟩
        · have hd2 : (!decide ((⟨w.kind, w.a, w.n, ⟨w.ref.rep, w.ref.seq⟩⟩ : Eff) = ⟨e.what.kind, e.what.a, e.what.n, ⟨e.what.ref.rep, e.what.ref.seq⟩⟩)) = false := by rw [hd]; rfl
          repeat (first | refine wLd1 ?_ | (refine kLd1 ?_; (first | rintro _ _ ⟨rfl, rfl⟩ | rintro _ _ ⟨_, rfl, rfl⟩ | rintro _ _ ⟨_, _, ⟨_, _⟩, rfl, rfl⟩); try refine ⟨sConv, ?_⟩) | refine Dr.two ?_ ?_)
          refine C.regionA 100000 (.one 0 false (.one 1 false (.one 2 false (.one 3 false (.one 4 false (.one 5 false (.one 6 false (.one 7 false (.one 8 false (.one 9 false (.one 10 false (.one 11 false (.one 12 false (.one 13 false (.one 14 false (.one 15 false (.one 16 false .nil))))))))))))))))) _ (by kernel_rfl) (by kernel_rfl) Conv.refl ?_
          repeat (first | refine wLd1 ?_ | (refine kLd1 ?_; (first | rintro _ _ ⟨rfl, rfl⟩ | rintro _ _ ⟨_, rfl, rfl⟩ | rintro _ _ ⟨_, _, ⟨_, _⟩, rfl, rfl⟩); try refine ⟨sConv, ?_⟩) | refine Dr.two ?_ ?_)
          exact ⟨(), sHolds, sConv, trivial⟩
      rcases Bool.eq_false_or_eq_true e.gone with h2 | h2
      · rw [lost_yes hx (.inr (.inl h2))]
        repeat (first | refine wLd1 ?_ | (refine kLd1 ?_; (first | rintro _ _ ⟨rfl, rfl⟩ | rintro _ _ ⟨_, rfl, rfl⟩ | rintro _ _ ⟨_, _, ⟨_, _⟩, rfl, rfl⟩); try refine ⟨sConv, ?_⟩) | refine Dr.two ?_ ?_)
        refine C.regionA 100000 (.one 0 false (.one 1 false (.one 2 false (.one 3 false (.one 4 false (.one 5 false (.one 6 false (.one 7 false (.one 8 false (.one 9 false (.one 10 false (.one 11 false (.one 12 false (.one 13 false (.one 14 false (.one 15 false (.one 16 false .nil))))))))))))))))) _ (by kernel_rfl) (by kernel_rfl) Conv.refl ?_
        repeat (first | refine wLd1 ?_ | (refine kLd1 ?_; (first | rintro _ _ ⟨rfl, rfl⟩ | rintro _ _ ⟨_, rfl, rfl⟩ | rintro _ _ ⟨_, _, ⟨_, _⟩, rfl, rfl⟩); try refine ⟨sConv, ?_⟩) | refine Dr.two ?_ ?_)
        exact ⟨(), sHolds, sConv, trivial⟩
      by_cases h3 : nz ≤ i
      · rw [lost_yes hx (.inr (.inr (by omega)))]
        repeat (first | refine wLd1 ?_ | (refine kLd1 ?_; (first | rintro _ _ ⟨rfl, rfl⟩ | rintro _ _ ⟨_, rfl, rfl⟩ | rintro _ _ ⟨_, _, ⟨_, _⟩, rfl, rfl⟩); try refine ⟨sConv, ?_⟩) | refine Dr.two ?_ ?_)
        refine C.regionA 100000 (.one 0 false (.one 1 false (.one 2 false (.one 3 false (.one 4 false (.one 5 false (.one 6 false (.one 7 false (.one 8 false (.one 9 false (.one 10 false (.one 11 false (.one 12 false (.one 13 false (.one 14 false (.one 15 false (.one 16 false .nil))))))))))))))))) _ (by kernel_rfl) (by kernel_rfl) Conv.refl ?_
        repeat (first | refine wLd1 ?_ | (refine kLd1 ?_; (first | rintro _ _ ⟨rfl, rfl⟩ | rintro _ _ ⟨_, rfl, rfl⟩ | rintro _ _ ⟨_, _, ⟨_, _⟩, rfl, rfl⟩); try refine ⟨sConv, ?_⟩) | refine Dr.two ?_ ?_)
        exact ⟨(), sHolds, sConv, trivial⟩
      have hwx : want[i]? = some want[i] := List.getElem?_eq_getElem (by omega)
      rw [lost_eq hx h1 h2 hwx]
      generalize want[i] = w at hwx
      by_cases hd : w = e.what
      · have hd2 : (!decide ((⟨w.kind, w.a, w.n, ⟨w.ref.rep, w.ref.seq⟩⟩ : Eff) = ⟨e.what.kind, e.what.a, e.what.n, ⟨e.what.ref.rep, e.what.ref.seq⟩⟩)) = false := by rw [eff_eta, decide_eq_true hd]; rfl
        rw [show (!decide (e.what = w)) = false by rw [decide_eq_true hd.symm]; rfl]
        repeat (first | refine wLd1 ?_ | (refine kLd1 ?_; (first | rintro _ _ ⟨rfl, rfl⟩ | rintro _ _ ⟨_, rfl, rfl⟩ | rintro _ _ ⟨_, _, ⟨_, _⟩, rfl, rfl⟩); try refine ⟨sConv, ?_⟩) | refine Dr.two ?_ ?_)
        refine C.regionA 100000 (.one 0 false (.one 1 false (.one 2 false (.one 3 false (.one 4 false (.one 5 false (.one 6 false (.one 7 false (.one 8 false (.one 9 false (.one 10 false (.one 11 false (.one 12 false (.one 13 false (.one 14 false (.one 15 false (.one 16 false .nil))))))))))))))))) _ (by kernel_rfl) (by kernel_rfl) Conv.refl ?_
        repeat (first | refine wLd1 ?_ | (refine kLd1 ?_; (first | rintro _ _ ⟨rfl, rfl⟩ | rintro _ _ ⟨_, rfl, rfl⟩ | rintro _ _ ⟨_, _, ⟨_, _⟩, rfl, rfl⟩); try refine ⟨sConv, ?_⟩) | refine Dr.two ?_ ?_)
        exact ⟨(), sHolds, sConv, trivial⟩
      · have hd2 : (!decide ((⟨w.kind, w.a, w.n, ⟨w.ref.rep, w.ref.seq⟩⟩ : Eff) = ⟨e.what.kind, e.what.a, e.what.n, ⟨e.what.ref.rep, e.what.ref.seq⟩⟩)) = true := by rw [eff_eta, decide_eq_false hd]; rfl
        rw [show (!decide (e.what = w)) = true by rw [decide_eq_false (fun h => hd h.symm)]; rfl]
        repeat (first | refine wLd1 ?_ | (refine kLd1 ?_; (first | rintro _ _ ⟨rfl, rfl⟩ | rintro _ _ ⟨_, rfl, rfl⟩ | rintro _ _ ⟨_, _, ⟨_, _⟩, rfl, rfl⟩); try refine ⟨sConv, ?_⟩) | refine Dr.two ?_ ?_)
        refine C.regionA 100000 (.one 0 false (.one 1 false (.one 2 false (.one 3 false (.one 4 false (.one 5 false (.one 6 false (.one 7 false (.one 8 false (.one 9 false (.one 10 false (.one 11 false (.one 12 false (.one 13 false (.one 14 false (.one 15 false (.one 16 false .nil))))))))))))))))) _ (by kernel_rfl) (by kernel_rfl) Conv.refl ?_
        repeat (first | refine wLd1 ?_ | (refine kLd1 ?_; (first | rintro _ _ ⟨rfl, rfl⟩ | rintro _ _ ⟨_, rfl, rfl⟩ | rintro _ _ ⟨_, _, ⟨_, _⟩, rfl, rfl⟩); try refine ⟨sConv, ?_⟩) | refine Dr.two ?_ ?_)
        exact ⟨(), sHolds, sConv, trivial⟩
    rintro - G -
    have hst := settle_take (want := want) hx
    generalize hb : lost want l (i + 1) = b at *
    repeat (first | refine wLd1 ?_ | (refine kLd1 ?_; (first | rintro _ _ ⟨rfl, rfl⟩ | rintro _ _ ⟨_, rfl, rfl⟩ | rintro _ _ ⟨_, _, ⟨_, _⟩, rfl, rfl⟩); try refine ⟨sConv, ?_⟩) | refine Dr.two ?_ ?_)
    refine L.stepK (by decide) (S.buildSlice1K (T := enrT) (e := (e.mark b)) rfl rfl rfl rfl (by decide)) ?_; rintro _ _ ⟨_, rfl, rfl⟩
    repeat (first | refine wLd1 ?_ | (refine kLd1 ?_; (first | rintro _ _ ⟨rfl, rfl⟩ | rintro _ _ ⟨_, rfl, rfl⟩ | rintro _ _ ⟨_, _, ⟨_, _⟩, rfl, rfl⟩); try refine ⟨sConv, ?_⟩) | refine Dr.two ?_ ?_)
    rw [hst]
    rename_i A2 c2 h1 h2
    exact ⟨(i + 1, A2, c2), by dsimp only; rw [hb]; exact sHolds, sConv, ⟨by dsimp only; omega, h1, h2⟩, by dsimp only; omega⟩
  · obtain rfl : i = n := by omega
    rw [List.take_of_length_le (by omega)]
    repeat (first | refine wLd1 ?_ | (refine kLd1 ?_; (first | rintro _ _ ⟨rfl, rfl⟩ | rintro _ _ ⟨_, rfl, rfl⟩ | rintro _ _ ⟨_, _, ⟨_, _⟩, rfl, rfl⟩); try refine ⟨sConv, ?_⟩) | refine Dr.two ?_ ?_)
    rename_i A2 c2 h1 h2
    exact end0 rfl sConv (⟨_, _, _, _, rfl, ⟨hco, hco2⟩, ⟨h1, h2⟩, rfl⟩)
/-- what 'Try' leaves -/
def RTryE (Bq : Option Addr) (mq dq : Nat) (bsq : List Lnv) (iq : Nat) (id : Idn) (t : Option (Int × List Ent)) (d : Int × List Ent) (X : Option Addr) (nx cx : Nat) : Ending → List Asn → Prop := fun r H' =>
  ∃ A' n' c', r = .returned (.bool t.isSome) ∧ n' = (t.getD d).2.length ∧ (n' ≤ c' ∧ c' ≤ maxLen) ∧ H' = [mce Bq mq dq bsq iq id (t.getD d).1 A' n' c' X nx cx, own enrT A' n' c' (t.getD d).2]
theorem rtryE (now : Int) (hw : Rd E effT X nx cx want) (hn : n = l.length) (hcap : n ≤ c ∧ c ≤ maxLen) (hl : n ≤ 1000000) (hok : ∀ e ∈ l, e.ok) (hm : I64 made) :
    Tri Try.prog E 130 #[.pointer (some ((ad Bq).add (iq * rchT.size))), .int .i64 now] [mce Bq mq dq bsq iq id made A n c X nx cx, own enrT A n c l] (RTryE Bq mq dq bsq iq id (tried id made l want now) (made, l) X nx cx) := by
  have hmax : maxLen = 9223372036854775807 := rfl
  have hm2 := hm
  unfold I64 at hm2
  unfold RTryE
  refine tri Try.func130 rfl Try.ntmps130 (by simp) ?_
  repeat (first | refine wLd1 ?_ | (refine kLd1 ?_; (first | rintro _ _ ⟨rfl, rfl⟩ | rintro _ _ ⟨_, rfl, rfl⟩ | rintro _ _ ⟨_, _, ⟨_, _⟩, rfl, rfl⟩); try refine ⟨sConv, ?_⟩) | refine Dr.two ?_ ?_)
  refine L.step (by decide) (S.call rfl rfl Try.func17 (by kernel_rfl) rfl sPicks (fun E' hE => rnextE E' Bq mq dq bsq iq id made A n c l want X nx cx sRd sRd hm) ?_)
  rintro r H' ⟨rfl, rfl⟩
  refine ⟨_, rfl, _, sCat, ?_⟩
  unfold tried
  cases hq : next id made l want with
  | none =>
    dsimp only [Option.getD, Option.isSome]
    repeat (first | refine wLd1 ?_ | (refine kLd1 ?_; (first | rintro _ _ ⟨rfl, rfl⟩ | rintro _ _ ⟨_, rfl, rfl⟩ | rintro _ _ ⟨_, _, ⟨_, _⟩, rfl, rfl⟩); try refine ⟨sConv, ?_⟩) | refine Dr.two ?_ ?_)
    exact ret1 rfl sRet sConv (⟨_, _, _, rfl, hn, hcap, rfl⟩)
  | some q =>
    dsimp only [Option.getD, Option.isSome]
    cases htip : tip l with
    | some e =>
      obtain ⟨he, ho⟩ := tip_some htip
      have heok : e.ok := hok e (List.mem_of_getElem? he)
      have hlt := (List.getElem?_eq_some_iff.1 he).1
      have hs : IntKind.i64.wrap ((n : Int) - 1) = ((n - 1 : Nat) : Int) := by rw [IntWalk.i64_in _ (by omega)]; omega
      rw [← hn] at he
      rw [← hn]
      dsimp only [Option.getD, Option.isSome]
      repeat (first | refine wLd1 ?_ | (refine kLd1 ?_; (first | rintro _ _ ⟨rfl, rfl⟩ | rintro _ _ ⟨_, rfl, rfl⟩ | rintro _ _ ⟨_, _, ⟨_, _⟩, rfl, rfl⟩); try refine ⟨sConv, ?_⟩) | refine Dr.two ?_ ?_)
      refine L.step (by decide) (S.call rfl rfl Try.func61 (by kernel_rfl) rfl sPicks (fun E' hE => mopn E' e) ?_)
      rw [ho]
      rintro r H' ⟨rfl, rfl⟩
      refine ⟨_, rfl, _, sCat, ?_⟩
      repeat (first | refine wLd1 ?_ | (refine kLd1 ?_; (first | rintro _ _ ⟨rfl, rfl⟩ | rintro _ _ ⟨_, rfl, rfl⟩ | rintro _ _ ⟨_, _, ⟨_, _⟩, rfl, rfl⟩); try refine ⟨sConv, ?_⟩) | refine Dr.two ?_ ?_)
      refine L.step (by decide) (S.call rfl rfl Try.func144 (by kernel_rfl) rfl sPicks (fun E' hE => mtry E' e now heok) ?_)
      generalize e.try_ now = x
      rintro r H' ⟨rfl, rfl⟩
      refine ⟨_, rfl, _, sCat, ?_⟩
      repeat (first | refine wLd1 ?_ | (refine kLd1 ?_; (first | rintro _ _ ⟨rfl, rfl⟩ | rintro _ _ ⟨_, rfl, rfl⟩ | rintro _ _ ⟨_, _, ⟨_, _⟩, rfl, rfl⟩); try refine ⟨sConv, ?_⟩) | refine Dr.two ?_ ?_)
      rename_i h1 h2
      exact ret1 rfl sRet sConv (⟨_, _, _, rfl, by simp [hn], ⟨h1, h2⟩, rfl⟩)
    | none =>
      unfold next at hq
      rw [htip] at hq
      obtain ⟨hlt, _⟩ := fresh_some hq
      dsimp only [Option.getD, Option.isSome]
      by_cases h0 : n = 0
      · repeat (first | refine wLd1 ?_ | (refine kLd1 ?_; (first | rintro _ _ ⟨rfl, rfl⟩ | rintro _ _ ⟨_, rfl, rfl⟩ | rintro _ _ ⟨_, _, ⟨_, _⟩, rfl, rfl⟩); try refine ⟨sConv, ?_⟩) | refine Dr.two ?_ ?_)
        refine L.stepK (by decide) (S.buildSlice1K (T := enrT) (e := (newEnt q now)) rfl rfl rfl rfl (by decide)) ?_; rintro _ _ ⟨_, rfl, rfl⟩
        repeat (first | refine wLd1 ?_ | (refine kLd1 ?_; (first | rintro _ _ ⟨rfl, rfl⟩ | rintro _ _ ⟨_, rfl, rfl⟩ | rintro _ _ ⟨_, _, ⟨_, _⟩, rfl, rfl⟩); try refine ⟨sConv, ?_⟩) | refine Dr.two ?_ ?_)
        rename_i h1 h2
        exact ret1 rfl sRet sConv (⟨_, _, _, rfl, by simp [hn], ⟨h1, h2⟩, rfl⟩)
      · have hs : IntKind.i64.wrap ((n : Int) - 1) = ((n - 1 : Nat) : Int) := by rw [IntWalk.i64_in _ (by omega)]; omega
        have hx : l[n - 1]? = some l[n - 1] := List.getElem?_eq_getElem (by omega)
        generalize l[n - 1] = e at hx
        have ho : e.opn = false := by
          cases ho : e.opn
          · rfl
          · rw [hn] at hx
            rw [tip_opn hx ho] at htip
            cases htip
        repeat (first | refine wLd1 ?_ | (refine kLd1 ?_; (first | rintro _ _ ⟨rfl, rfl⟩ | rintro _ _ ⟨_, rfl, rfl⟩ | rintro _ _ ⟨_, _, ⟨_, _⟩, rfl, rfl⟩); try refine ⟨sConv, ?_⟩) | refine Dr.two ?_ ?_)
        refine L.step (by decide) (S.call rfl rfl Try.func61 (by kernel_rfl) rfl sPicks (fun E' hE => mopn E' e) ?_)
        rw [ho]
        rintro r H' ⟨rfl, rfl⟩
        refine ⟨_, rfl, _, sCat, ?_⟩
        repeat (first | refine wLd1 ?_ | (refine kLd1 ?_; (first | rintro _ _ ⟨rfl, rfl⟩ | rintro _ _ ⟨_, rfl, rfl⟩ | rintro _ _ ⟨_, _, ⟨_, _⟩, rfl, rfl⟩); try refine ⟨sConv, ?_⟩) | refine Dr.two ?_ ?_)
        refine L.stepK (by decide) (S.buildSlice1K (T := enrT) (e := (newEnt q now)) rfl rfl rfl rfl (by decide)) ?_; rintro _ _ ⟨_, rfl, rfl⟩
        repeat (first | refine wLd1 ?_ | (refine kLd1 ?_; (first | rintro _ _ ⟨rfl, rfl⟩ | rintro _ _ ⟨_, rfl, rfl⟩ | rintro _ _ ⟨_, _, ⟨_, _⟩, rfl, rfl⟩); try refine ⟨sConv, ?_⟩) | refine Dr.two ?_ ?_)
        rename_i h1 h2
        exact ret1 rfl sRet sConv (⟨_, _, _, rfl, by simp [hn], ⟨h1, h2⟩, rfl⟩)
/-- what 'Ack' leaves -/
def RAckE (Bq : Option Addr) (mq dq : Nat) (bsq : List Lnv) (iq : Nat) (id : Idn) (made : Int) (a : Option (List Ent)) (l : List Ent) (X : Option Addr) (nx cx : Nat) : Ending → List Asn → Prop := fun r H' =>
  ∃ A' n' c', r = .returned (.bool a.isSome) ∧ n' = (a.getD l).length ∧ (n' ≤ c' ∧ c' ≤ maxLen) ∧ H' = [mce Bq mq dq bsq iq id made A' n' c' X nx cx, own enrT A' n' c' (a.getD l)]
theorem rackE (k : Keyv) (hn : n = l.length) (hcap : n ≤ c ∧ c ≤ maxLen) (hl : n ≤ 1000000) :
    Tri Try.prog E 131 #[.pointer (some ((ad Bq).add (iq * rchT.size))), .agg k.cs.toArray] [mce Bq mq dq bsq iq id made A n c X nx cx, own enrT A n c l] (RAckE Bq mq dq bsq iq id made (acked id l k) l X nx cx) := by
  have hmax : maxLen = 9223372036854775807 := rfl
  unfold RAckE
  refine tri Try.func131 rfl Try.ntmps131 (by simp) ?_
  have hdn : ∀ m : Nat, m ≤ 1000000 → IntKind.i64.wrap ((m : Int) - 1) = dn m := by
    intro m hm
    rw [IntWalk.i64_in _ (by omega)]
    cases m with
    | zero => rfl
    | succ m => show (((m + 1 : Nat) : Int) - 1) = (m : Int); omega
  have hd0 := hdn n hl
  repeat (first | refine wLd1 ?_ | (refine kLd1 ?_; (first | rintro _ _ ⟨rfl, rfl⟩ | rintro _ _ ⟨_, rfl, rfl⟩ | rintro _ _ ⟨_, _, ⟨_, _⟩, rfl, rfl⟩); try refine ⟨sConv, ?_⟩) | refine Dr.two ?_ ?_)
  rename_i g3
  refine C.loop (X := Nat) (fun j => [(0, .pointer (some ((ad Bq).add (iq * rchT.size)))), (3, .pointer (some ⟨g3, 0, none⟩)), (5, .int .i64 (idxFrom (fun e => decide (e.ord = k.ord)) l j)), (6, .int .i64 (dn j))])
    (fun _ => [blk g3 45 k.cs, mce Bq mq dq bsq iq id made A n c X nx cx, own enrT A n c l]) (fun j => j ≤ n) (fun j => j) n (by rw [idxFrom_end (by omega)]; exact sHolds) Conv.refl (Nat.le_refl _) ?_
  rintro j G hj
  cases j with
  | succ m =>
    have hx : l[m]? = some l[m] := List.getElem?_eq_getElem (by omega)
    have hst := idxFrom_step (p := fun e => decide (e.ord = k.ord)) hx
    have hd1 := hdn m (by omega)
    generalize l[m] = e at hx hst
    dsimp only [dn]
    by_cases hk : e.ord = k.ord
    · rw [if_pos (decide_eq_true hk)] at hst
      repeat (first | refine wLd1 ?_ | (refine kLd1 ?_; (first | rintro _ _ ⟨rfl, rfl⟩ | rintro _ _ ⟨_, rfl, rfl⟩ | rintro _ _ ⟨_, _, ⟨_, _⟩, rfl, rfl⟩); try refine ⟨sConv, ?_⟩) | refine Dr.two ?_ ?_)
      refine C.regionA 100000 (.one 0 false (.one 1 false (.one 2 false (.one 3 false (.one 4 false (.one 5 false (.one 6 false (.one 7 false (.one 8 false (.one 9 false (.one 10 false .nil))))))))))) _ (by kernel_rfl) (by kernel_rfl) Conv.refl ?_
      repeat (first | refine wLd1 ?_ | (refine kLd1 ?_; (first | rintro _ _ ⟨rfl, rfl⟩ | rintro _ _ ⟨_, rfl, rfl⟩ | rintro _ _ ⟨_, _, ⟨_, _⟩, rfl, rfl⟩); try refine ⟨sConv, ?_⟩) | refine Dr.two ?_ ?_)
      exact ⟨m, by rw [hst]; exact sHolds, sConv, by omega, by omega⟩
    · rw [if_neg (by simp [hk])] at hst
      repeat (first | refine wLd1 ?_ | (refine kLd1 ?_; (first | rintro _ _ ⟨rfl, rfl⟩ | rintro _ _ ⟨_, rfl, rfl⟩ | rintro _ _ ⟨_, _, ⟨_, _⟩, rfl, rfl⟩); try refine ⟨sConv, ?_⟩) | refine Dr.two ?_ ?_)
      refine C.regionA 100000 (.one 0 false (.one 1 false (.one 2 false (.one 3 false (.one 4 false (.one 5 false (.one 6 false (.one 7 false (.one 8 false (.one 9 false (.one 10 false .nil))))))))))) _ (by kernel_rfl) (by kernel_rfl) Conv.refl ?_
      repeat (first | refine wLd1 ?_ | (refine kLd1 ?_; (first | rintro _ _ ⟨rfl, rfl⟩ | rintro _ _ ⟨_, rfl, rfl⟩ | rintro _ _ ⟨_, _, ⟨_, _⟩, rfl, rfl⟩); try refine ⟨sConv, ?_⟩) | refine Dr.two ?_ ?_)
      exact ⟨m, by rw [hst]; exact sHolds, sConv, by omega, by omega⟩
  | zero =>
    rw [idxFrom_zero]
    dsimp only [dn]
    unfold idx
    by_cases hid : k.id = id
    case neg =>
      rw [acked_none (.inl hid)]
      have hd : (!decide ((⟨k.id.rep, k.id.seq⟩ : Idn) = ⟨id.rep, id.seq⟩)) = true := by rw [idn_eta, decide_eq_false hid]; rfl
      dsimp only [Option.getD, Option.isSome]
      repeat (first | refine wLd1 ?_ | (refine kLd1 ?_; (first | rintro _ _ ⟨rfl, rfl⟩ | rintro _ _ ⟨_, rfl, rfl⟩ | rintro _ _ ⟨_, _, ⟨_, _⟩, rfl, rfl⟩); try refine ⟨sConv, ?_⟩) | refine Dr.two ?_ ?_)
      refine C.regionA 100000 (.one 0 false (.one 1 false (.one 2 false (.one 3 false (.one 4 false (.one 5 false (.one 6 false (.one 7 false (.one 8 false (.one 9 false (.one 10 false .nil))))))))))) _ (by kernel_rfl) (by kernel_rfl) Conv.refl ?_
      repeat (first | refine wLd1 ?_ | (refine kLd1 ?_; (first | rintro _ _ ⟨rfl, rfl⟩ | rintro _ _ ⟨_, rfl, rfl⟩ | rintro _ _ ⟨_, _, ⟨_, _⟩, rfl, rfl⟩); try refine ⟨sConv, ?_⟩) | refine Dr.two ?_ ?_)
      exact ret1 rfl sRet sConv (⟨_, _, _, rfl, hn, hcap, rfl⟩)
    have hd : (!decide ((⟨k.id.rep, k.id.seq⟩ : Idn) = ⟨id.rep, id.seq⟩)) = false := by rw [idn_eta, decide_eq_true hid]; rfl
    cases hf : l.findIdx? (fun e => decide (e.ord = k.ord)) with
    | none =>
      rw [acked_none (.inr hf)]
      dsimp only [Option.getD, Option.isSome]
      repeat (first | refine wLd1 ?_ | (refine kLd1 ?_; (first | rintro _ _ ⟨rfl, rfl⟩ | rintro _ _ ⟨_, rfl, rfl⟩ | rintro _ _ ⟨_, _, ⟨_, _⟩, rfl, rfl⟩); try refine ⟨sConv, ?_⟩) | refine Dr.two ?_ ?_)
      refine C.regionA 100000 (.one 0 false (.one 1 false (.one 2 false (.one 3 false (.one 4 false (.one 5 false (.one 6 false (.one 7 false (.one 8 false (.one 9 false (.one 10 false .nil))))))))))) _ (by kernel_rfl) (by kernel_rfl) Conv.refl ?_
      repeat (first | refine wLd1 ?_ | (refine kLd1 ?_; (first | rintro _ _ ⟨rfl, rfl⟩ | rintro _ _ ⟨_, rfl, rfl⟩ | rintro _ _ ⟨_, _, ⟨_, _⟩, rfl, rfl⟩); try refine ⟨sConv, ?_⟩) | refine Dr.two ?_ ?_)
      exact ret1 rfl sRet sConv (⟨_, _, _, rfl, hn, hcap, rfl⟩)
    | some i =>
      obtain ⟨e, he, _⟩ := find_at hf
      have hi := (List.getElem?_eq_some_iff.1 he).1
      have hak := acked_at hid hf he
      have hset := rack_set e
      have hs : IntKind.i64.wrap ((n : Int) - 1) = ((n - 1 : Nat) : Int) := by rw [IntWalk.i64_in _ (by omega)]; omega
      dsimp only
      repeat (first | refine wLd1 ?_ | (refine kLd1 ?_; (first | rintro _ _ ⟨rfl, rfl⟩ | rintro _ _ ⟨_, rfl, rfl⟩ | rintro _ _ ⟨_, _, ⟨_, _⟩, rfl, rfl⟩); try refine ⟨sConv, ?_⟩) | refine Dr.two ?_ ?_)
      refine C.regionA 100000 (.one 0 false (.one 1 false (.one 2 false (.one 3 false (.one 4 false (.one 5 false (.one 6 false (.one 7 false (.one 8 false (.one 9 false (.one 10 false .nil))))))))))) _ (by kernel_rfl) (by kernel_rfl) Conv.refl ?_
      cases hu : k.undo
      · have h2 : (!k.undo) = true := by rw [hu]; rfl
        cases ha : e.acked
        · have h3 : (!e.acked) = true := by rw [ha]; rfl
          rw [hak.trans (show _ = some (l.set i e.ack) by rw [hu, ha]; rfl)]
          dsimp only [Option.getD, Option.isSome]
          repeat (first | refine wLd1 ?_ | (refine kLd1 ?_; (first | rintro _ _ ⟨rfl, rfl⟩ | rintro _ _ ⟨_, rfl, rfl⟩ | rintro _ _ ⟨_, _, ⟨_, _⟩, rfl, rfl⟩); try refine ⟨sConv, ?_⟩) | refine Dr.two ?_ ?_)
          rename_i h8 h9
          exact ret1 rfl sRet sConv (⟨_, _, _, rfl, by simp [hn], ⟨h8, h9⟩, rfl⟩)
        · have h3 : (!e.acked) = false := by rw [ha]; rfl
          rw [hak.trans (show _ = none by rw [hu, ha]; rfl)]
          dsimp only [Option.getD, Option.isSome]
          repeat (first | refine wLd1 ?_ | (refine kLd1 ?_; (first | rintro _ _ ⟨rfl, rfl⟩ | rintro _ _ ⟨_, rfl, rfl⟩ | rintro _ _ ⟨_, _, ⟨_, _⟩, rfl, rfl⟩); try refine ⟨sConv, ?_⟩) | refine Dr.two ?_ ?_)
          exact ret1 rfl sRet sConv (⟨_, _, _, rfl, hn, hcap, rfl⟩)
      · have h2 : (!k.undo) = false := by rw [hu]; rfl
        rw [hu] at hak
        repeat (first | refine wLd1 ?_ | (refine kLd1 ?_; (first | rintro _ _ ⟨rfl, rfl⟩ | rintro _ _ ⟨_, rfl, rfl⟩ | rintro _ _ ⟨_, _, ⟨_, _⟩, rfl, rfl⟩); try refine ⟨sConv, ?_⟩) | refine Dr.two ?_ ?_)
        rename_i O co hc1 hc2
        refine L.step (by decide) (S.call rfl rfl Try.func19 (by kernel_rfl) rfl sPicks (fun E' hE => mund E' e) ?_)
        cases hun : e.und
        · rw [hak.trans (show _ = none by rw [hun]; rfl)]
          dsimp only [Option.getD, Option.isSome]
          rintro r H' ⟨rfl, rfl⟩
          refine ⟨_, rfl, _, sCat, ?_⟩
          repeat (first | refine wLd1 ?_ | (refine kLd1 ?_; (first | rintro _ _ ⟨rfl, rfl⟩ | rintro _ _ ⟨_, rfl, rfl⟩ | rintro _ _ ⟨_, _, ⟨_, _⟩, rfl, rfl⟩); try refine ⟨sConv, ?_⟩) | refine Dr.two ?_ ?_)
          exact ret1 rfl sRet sConv (⟨_, _, _, rfl, hn, hcap, rfl⟩)
        by_cases hb : 1 ≤ e.back
        case neg =>
          rw [hak.trans (show _ = none by rw [hun, decide_eq_false hb]; rfl)]
          dsimp only [Option.getD, Option.isSome]
          rintro r H' ⟨rfl, rfl⟩
          refine ⟨_, rfl, _, sCat, ?_⟩
          repeat (first | refine wLd1 ?_ | (refine kLd1 ?_; (first | rintro _ _ ⟨rfl, rfl⟩ | rintro _ _ ⟨_, rfl, rfl⟩ | rintro _ _ ⟨_, _, ⟨_, _⟩, rfl, rfl⟩); try refine ⟨sConv, ?_⟩) | refine Dr.two ?_ ?_)
          exact ret1 rfl sRet sConv (⟨_, _, _, rfl, hn, hcap, rfl⟩)
        by_cases hlast : i + 1 = l.length
        · rw [hak.trans (show _ = some (l.take i) by rw [hun, decide_eq_true hb, decide_eq_true hlast]; rfl)]
          dsimp only [Option.getD, Option.isSome]
          rintro r H' ⟨rfl, rfl⟩
          refine ⟨_, rfl, _, sCat, ?_⟩
          repeat ((fail_if_success (refine C.seq (x := Code.region 18 _ _) ?_)); first | refine vLd1 ?_ | (refine kLd1 ?_; (first | rintro _ _ ⟨rfl, rfl⟩ | rintro _ _ ⟨_, rfl, rfl⟩ | rintro _ _ ⟨_, _, ⟨_, _⟩, rfl, rfl⟩); try refine ⟨sConv, ?_⟩) | refine Dr.two ?_ ?_)
          refine C.conv (Conv.ownTake (T := enrT) (A := O) (n := n) (c := co) (l := l) (k := i) (by omega) sRepl) ?_
          repeat (first | refine wLd1 ?_ | (refine kLd1 ?_; (first | rintro _ _ ⟨rfl, rfl⟩ | rintro _ _ ⟨_, rfl, rfl⟩ | rintro _ _ ⟨_, _, ⟨_, _⟩, rfl, rfl⟩); try refine ⟨sConv, ?_⟩) | refine Dr.two ?_ ?_)
          exact ret1 rfl sRet sConv (⟨_, _, _, rfl, by rw [List.length_take]; omega, ⟨by omega, hc2⟩, rfl⟩)
        · rw [hak.trans (show _ = none by rw [hun, decide_eq_true hb, decide_eq_false hlast]; rfl)]
          dsimp only [Option.getD, Option.isSome]
          rintro r H' ⟨rfl, rfl⟩
          refine ⟨_, rfl, _, sCat, ?_⟩
          repeat (first | refine wLd1 ?_ | (refine kLd1 ?_; (first | rintro _ _ ⟨rfl, rfl⟩ | rintro _ _ ⟨_, rfl, rfl⟩ | rintro _ _ ⟨_, _, ⟨_, _⟩, rfl, rfl⟩); try refine ⟨sConv, ?_⟩) | refine Dr.two ?_ ?_)
          exact ret1 rfl sRet sConv (⟨_, _, _, rfl, hn, hcap, rfl⟩)
end
end Go.Proofs.Ytkhmplaocfjpjaa.Sep
