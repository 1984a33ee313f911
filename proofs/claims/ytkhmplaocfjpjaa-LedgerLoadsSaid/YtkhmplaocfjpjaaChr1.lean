/- the document's chains: what is settled, and what is next; by parts of memory. -/
import Derived.Test.YtkhmplaocfjpjaaChn3
namespace Go.Proofs.Ytkhmplaocfjpjaa.Sep
open Go.RowKit Go.Proofs.Ytkhmplaocfjpjaa.Reg
open Go.Proofs.Ytkhmplaocfjpjaa.Mem hiding Rd Own
-- types: entT enrT effT
-- recs: idnT_rec effT_rec cfgT_rec entT_rec enrT_rec keyT_rec reqT_rec chain_rec chref_rec
-- eqs: idnT_eqa effT_eqa entT_eqa enrT_eqa keyT_eqa reqT_eqa
-- funcs
-- flds
set_option maxRecDepth 100000
set_option maxHeartbeats 8000000
abbrev mch (g : Nat) (id : Idn) (made : Int) (A : Option Addr) (n c : Nat) (X : Option Addr) (nx cx : Nat) : Asn := blk g 42 [.int .i64 id.rep, .int .i64 id.seq, .int .i64 made, .slice A n c, .slice X nx cx]
section
variable (E : Env) (g : Nat) (id : Idn) (made : Int) (A : Option Addr) (n c : Nat) (l : List Ent) (want : List Eff) (X : Option Addr) (nx cx : Nat)
theorem rnext (hr : Rd E enrT A n c l) (hw : Rd E effT X nx cx want) (hm : I64 made) :
    Tri Try.prog E 17 #[.pointer (some ⟨g, 0, none⟩)] [mch g id made A n c X nx cx] fun r H' => Nxt (next id made l want) r ∧ H' = [mch g id made A n c X nx cx] := by
  have hn := hr.len
  have hcap := hr.cap
  have hnw := hw.len
  have hcw := hw.cap
  have hmax : maxLen = 9223372036854775807 := rfl
  unfold I64 at hm
  unfold Nxt
  refine tri Try.func17 rfl Try.ntmps17 (by simp) ?_
  repeat ((fail_if_success (refine C.seq (x := Code.region 2 _ _) ?_)); first | refine vCh1 ?_ | (refine kCh1 ?_; (first | rintro _ _ ⟨rfl, rfl⟩ | rintro _ _ ⟨_, rfl, rfl⟩ | rintro _ _ ⟨_, _, ⟨_, _⟩, rfl, rfl⟩); try refine ⟨sConv, ?_⟩) | refine Dr.two ?_ ?_)
  rename_i g2
  refine C.cut (X := Unit) (fun _ => [(0, .pointer (some ⟨g, 0, none⟩)), (2, .pointer (some ⟨g2, 0, none⟩)), (4, .int .i64 n), (23, .bool (tip l).isSome)]) (fun _ => [blk g2 49 reqT_z.cs, mch g id made A n c X nx cx]) (fun _ => True) ?_ ?_
  · by_cases h0 : n = 0
    · have ht : tip l = none := by unfold tip; rw [List.getElem?_eq_none (by omega)]
      rw [ht]
      dsimp only [Option.isSome]
      repeat (first | refine wCh1 ?_ | (refine kCh1 ?_; (first | rintro _ _ ⟨rfl, rfl⟩ | rintro _ _ ⟨_, rfl, rfl⟩ | rintro _ _ ⟨_, _, ⟨_, _⟩, rfl, rfl⟩); try refine ⟨sConv, ?_⟩) | refine Dr.two ?_ ?_)
      exact ⟨(), sHolds, sConv, trivial⟩
    · have hs : IntKind.i64.wrap ((n : Int) - 1) = ((n - 1 : Nat) : Int) := by rw [IntWalk.i64_in _ (by omega)]; omega
      have hx : l[n - 1]? = some l[n - 1] := List.getElem?_eq_getElem (by omega)
      generalize l[n - 1] = e at hx
      repeat (first | refine wCh1 ?_ | (refine kCh1 ?_; (first | rintro _ _ ⟨rfl, rfl⟩ | rintro _ _ ⟨_, rfl, rfl⟩ | rintro _ _ ⟨_, _, ⟨_, _⟩, rfl, rfl⟩); try refine ⟨sConv, ?_⟩) | refine Dr.two ?_ ?_)
      refine L.step (by decide) (S.call rfl rfl Try.func61 (by kernel_rfl) rfl sPicks (fun E' hE => mopn E' e) ?_)
      rintro r H' ⟨rfl, rfl⟩
      refine ⟨_, rfl, _, sCat, ?_⟩
      rw [hn] at hx
      cases ho : e.opn
      · rw [tip_shut hx ho]
        dsimp only [Option.isSome]
        repeat (first | refine wCh1 ?_ | (refine kCh1 ?_; (first | rintro _ _ ⟨rfl, rfl⟩ | rintro _ _ ⟨_, rfl, rfl⟩ | rintro _ _ ⟨_, _, ⟨_, _⟩, rfl, rfl⟩); try refine ⟨sConv, ?_⟩) | refine Dr.two ?_ ?_)
        exact ⟨(), sHolds, sConv, trivial⟩
      · rw [tip_opn hx ho]
        dsimp only [Option.isSome]
        repeat (first | refine wCh1 ?_ | (refine kCh1 ?_; (first | rintro _ _ ⟨rfl, rfl⟩ | rintro _ _ ⟨_, rfl, rfl⟩ | rintro _ _ ⟨_, _, ⟨_, _⟩, rfl, rfl⟩); try refine ⟨sConv, ?_⟩) | refine Dr.two ?_ ?_)
        exact ⟨(), sHolds, sConv, trivial⟩
  rintro - G -
  unfold next
  cases htip : tip l with
  | some e =>
    obtain ⟨he, ho⟩ := tip_some htip
    have hlt := (List.getElem?_eq_some_iff.1 he).1
    have hs : IntKind.i64.wrap ((n : Int) - 1) = ((n - 1 : Nat) : Int) := by rw [IntWalk.i64_in _ (by omega)]; omega
    rw [← hn] at he
    dsimp only [Option.isSome]
    repeat (first | refine wCh1 ?_ | (refine kCh1 ?_; (first | rintro _ _ ⟨rfl, rfl⟩ | rintro _ _ ⟨_, rfl, rfl⟩ | rintro _ _ ⟨_, _, ⟨_, _⟩, rfl, rfl⟩); try refine ⟨sConv, ?_⟩) | refine Dr.two ?_ ?_)
    refine L.step (by decide) (S.call rfl rfl Try.func63 (by kernel_rfl) rfl sPicks (fun E' hE => mtries E' e) ?_)
    rintro r H' ⟨rfl, rfl⟩
    refine ⟨_, rfl, _, sCat, ?_⟩
    by_cases h8 : e.nt < 8
    · rw [if_pos h8]
      dsimp only [Option.getD, Option.isSome]
      repeat (first | refine wCh1 ?_ | (refine kCh1 ?_; (first | rintro _ _ ⟨rfl, rfl⟩ | rintro _ _ ⟨_, rfl, rfl⟩ | rintro _ _ ⟨_, _, ⟨_, _⟩, rfl, rfl⟩); try refine ⟨sConv, ?_⟩) | refine Dr.two ?_ ?_)
      rename_i g5
      refine C.regionA 100000 (.one 0 false (.one 1 false (.one 2 false (.one 3 false (.one 4 false (.one 5 false (.one 6 false (.one 9 false (.one 10 false (.one 7 true (.one 8 false (.one 11 false (.one 12 true (.one 13 false .nil)))))))))))))) ([blk g5 53 e.cs, mch g id made A n c X nx cx]) (by kernel_rfl) (by kernel_rfl) sConv ?_
      repeat (first | refine wCh1 ?_ | (refine kCh1 ?_; (first | rintro _ _ ⟨rfl, rfl⟩ | rintro _ _ ⟨_, rfl, rfl⟩ | rintro _ _ ⟨_, _, ⟨_, _⟩, rfl, rfl⟩); try refine ⟨sConv, ?_⟩) | refine Dr.two ?_ ?_)
      refine Dr.go rfl (by rintro k ⟨⟩ <;> decide) sGon (S.call rfl rfl Try.func19 (by kernel_rfl) rfl sPicks (fun E' hE => mund E' e) ?_)
      rintro r H' ⟨rfl, rfl⟩
      refine ⟨_, rfl, _, sCat, sConv, ?_⟩
      repeat (first | refine wCh1 ?_ | (refine kCh1 ?_; (first | rintro _ _ ⟨rfl, rfl⟩ | rintro _ _ ⟨_, rfl, rfl⟩ | rintro _ _ ⟨_, _, ⟨_, _⟩, rfl, rfl⟩); try refine ⟨sConv, ?_⟩) | refine Dr.two ?_ ?_)
      apply retC2; (· exact rfl); (· exact sRet); (· exact rfl); (· exact rfl); (· exact rfl); (· exact sHas); (· exact rfl); (· exact sRet); rotate_left; (· exact (⟨rfl, rfl⟩)); (· exact sConv)
    · rw [if_neg h8]
      dsimp only [Option.getD, Option.isSome]
      repeat (first | refine wCh1 ?_ | (refine kCh1 ?_; (first | rintro _ _ ⟨rfl, rfl⟩ | rintro _ _ ⟨_, rfl, rfl⟩ | rintro _ _ ⟨_, _, ⟨_, _⟩, rfl, rfl⟩); try refine ⟨sConv, ?_⟩) | refine Dr.two ?_ ?_)
      apply retC2; (· exact rfl); (· exact sRet); (· exact rfl); (· exact rfl); (· exact rfl); (· exact sHas); (· exact rfl); (· exact sRet); rotate_left; (· exact (⟨rfl, rfl⟩)); (· exact sConv)
  | none =>
    dsimp only [Option.getD, Option.isSome]
    by_cases h1 : nx ≤ n
    · rw [fresh_no (.inl (by omega))]
      dsimp only [Option.getD, Option.isSome]
      repeat (first | refine wCh1 ?_ | (refine kCh1 ?_; (first | rintro _ _ ⟨rfl, rfl⟩ | rintro _ _ ⟨_, rfl, rfl⟩ | rintro _ _ ⟨_, _, ⟨_, _⟩, rfl, rfl⟩); try refine ⟨sConv, ?_⟩) | refine Dr.two ?_ ?_)
      apply retC2; (· exact rfl); (· exact sRet); (· exact rfl); (· exact rfl); (· exact rfl); (· exact sHas); (· exact rfl); (· exact sRet); rotate_left; (· exact (⟨rfl, rfl⟩)); (· exact sConv)
    by_cases h2 : 255 ≤ made
    · rw [fresh_no (.inr h2)]
      dsimp only [Option.getD, Option.isSome]
      repeat (first | refine wCh1 ?_ | (refine kCh1 ?_; (first | rintro _ _ ⟨rfl, rfl⟩ | rintro _ _ ⟨_, rfl, rfl⟩ | rintro _ _ ⟨_, _, ⟨_, _⟩, rfl, rfl⟩); try refine ⟨sConv, ?_⟩) | refine Dr.two ?_ ?_)
      apply retC2; (· exact rfl); (· exact sRet); (· exact rfl); (· exact rfl); (· exact rfl); (· exact sHas); (· exact rfl); (· exact sRet); rotate_left; (· exact (⟨rfl, rfl⟩)); (· exact sConv)
    have hx : want[n]? = some want[n] := List.getElem?_eq_getElem (by omega)
    rw [← hn, fresh_yes hx (by omega)]
    dsimp only [Option.getD, Option.isSome]
    generalize want[n] = f at hx
    repeat (first | refine wCh1 ?_ | (refine kCh1 ?_; (first | rintro _ _ ⟨rfl, rfl⟩ | rintro _ _ ⟨_, rfl, rfl⟩ | rintro _ _ ⟨_, _, ⟨_, _⟩, rfl, rfl⟩); try refine ⟨sConv, ?_⟩) | refine Dr.two ?_ ?_)
    refine C.regionA 100000 (.one 0 false (.one 1 false (.one 2 false (.one 3 false (.one 4 false (.one 5 false (.one 6 false (.one 7 false (.one 8 false (.one 9 false (.one 10 false (.one 11 false (.one 12 false (.one 13 false (.one 14 false (.one 15 false (.one 16 false (.one 17 false (.one 18 true (.one 19 false .nil)))))))))))))))))))) ([mch g id made A n c X nx cx]) (by kernel_rfl) (by kernel_rfl) sConv ?_
    repeat (first | refine wCh1 ?_ | (refine kCh1 ?_; (first | rintro _ _ ⟨rfl, rfl⟩ | rintro _ _ ⟨_, rfl, rfl⟩ | rintro _ _ ⟨_, _, ⟨_, _⟩, rfl, rfl⟩); try refine ⟨sConv, ?_⟩) | refine Dr.two ?_ ?_)
    apply retC2; (· exact rfl); (· exact sRet); (· exact rfl); (· exact rfl); (· exact rfl); (· exact sHas); (· exact rfl); (· exact sRet); rotate_left; (· exact (⟨rfl, rfl⟩)); (· exact sConv)
/-- what 'Settle' leaves -/
def SetPost (g : Nat) (id : Idn) (made : Int) (n : Nat) (l : List Ent) (nw : Nat) (want : List Eff) : Ending → List Asn → Prop := fun r H' =>
  ∃ A' c' Y cy, r = .returned (.tuple #[]) ∧ (n ≤ c' ∧ c' ≤ maxLen) ∧ (nw ≤ cy ∧ cy ≤ maxLen) ∧ H' = [own effT Y nw cy want, mch g id made A' n c' Y nw cy, own enrT A' n c' (settle want l)]
theorem rsettle (Z : Option Addr) (nz cz : Nat) (hr : Rd E enrT A n c l) (hw : Rd E effT Z nz cz want) (hl : n ≤ 1000000) (hlw : nz ≤ 1000000) :
    Tri Try.prog E 129 #[.pointer (some ⟨g, 0, none⟩), .slice Z nz cz] [mch g id made A n c X nx cx] (SetPost g id made n l nz want) := by
  have hn := hr.len
  have hcap := hr.cap
  have hnw := hw.len
  have hcw := hw.cap
  have hmax : maxLen = 9223372036854775807 := rfl
  have hsl := settle_length want l
  unfold SetPost
  refine tri Try.func129 rfl Try.ntmps129 (by simp) ?_
  repeat (first | refine wCh1 ?_ | (refine kCh1 ?_; (first | rintro _ _ ⟨rfl, rfl⟩ | rintro _ _ ⟨_, rfl, rfl⟩ | rintro _ _ ⟨_, _, ⟨_, _⟩, rfl, rfl⟩); try refine ⟨sConv, ?_⟩) | refine Dr.two ?_ ?_)
  refine C.loop (X := Nat × Option Addr × Nat) (fun x => [(0, .pointer (some ⟨g, 0, none⟩)), (1, .slice Z nz cz), (4, .slice x.2.1 x.1 x.2.2), (5, .bool (lost want l x.1)), (6, .int .i64 x.1)])
    (fun x => [mch g id made A n c X nx cx, own enrT x.2.1 x.1 x.2.2 ((settle want l).take x.1)]) (fun x => x.1 ≤ n ∧ x.1 ≤ x.2.2 ∧ x.2.2 ≤ maxLen) (fun x => n - x.1) (0, none, 0) sHolds (by show Conv _ _ [_, own enrT none 0 0 ((settle want l).take 0)]; rw [List.take_zero]; exact (Conv.nil0 enrT none).trans sConv) ⟨Nat.zero_le _, Nat.le_refl _, Nat.zero_le _⟩ ?_
  rintro ⟨i, O, co⟩ G ⟨hi, hco, hco2⟩
  dsimp only at hi hco hco2 ⊢
  by_cases hlt : i < n
  · have hx : l[i]? = some l[i] := List.getElem?_eq_getElem (by omega)
    generalize l[i] = e at hx
    repeat ((fail_if_success (refine C.seq (x := Code.region 6 _ _) ?_)); first | refine vCh1 ?_ | (refine kCh1 ?_; (first | rintro _ _ ⟨rfl, rfl⟩ | rintro _ _ ⟨_, rfl, rfl⟩ | rintro _ _ ⟨_, _, ⟨_, _⟩, rfl, rfl⟩); try refine ⟨sConv, ?_⟩) | refine Dr.two ?_ ?_)
    rename_i g7
    refine C.mid (X := Unit) (fun _ => [(0, .pointer (some ⟨g, 0, none⟩)), (1, .slice Z nz cz), (4, .slice O i co), (5, .bool (lost want l (i + 1))), (6, .int .i64 i), (7, .pointer (some ⟨g7, 0, none⟩))])
      (fun _ => [blk g7 53 e.cs, mch g id made A n c X nx cx, own enrT O i co ((settle want l).take i)]) (fun _ => True) ?_ ?_
    · cases h1 : lost want l i
      case true =>
        rw [lost_yes hx (.inl h1)]
        rcases Bool.eq_false_or_eq_true e.gone with h2 | h2
        · repeat (first | refine wCh1 ?_ | (refine kCh1 ?_; (first | rintro _ _ ⟨rfl, rfl⟩ | rintro _ _ ⟨_, rfl, rfl⟩ | rintro _ _ ⟨_, _, ⟨_, _⟩, rfl, rfl⟩); try refine ⟨sConv, ?_⟩) | refine Dr.two ?_ ?_)
          refine C.regionA 100000 (.one 0 false (.one 1 false (.one 2 false (.one 3 false (.one 4 false (.one 5 false (.one 6 false (.one 7 false (.one 8 false (.one 9 false (.one 10 false (.one 11 false (.one 12 false (.one 13 false (.one 14 false (.one 15 false (.one 16 false .nil))))))))))))))))) _ (by kernel_rfl) (by kernel_rfl) Conv.refl ?_
          repeat (first | refine wCh1 ?_ | (refine kCh1 ?_; (first | rintro _ _ ⟨rfl, rfl⟩ | rintro _ _ ⟨_, rfl, rfl⟩ | rintro _ _ ⟨_, _, ⟨_, _⟩, rfl, rfl⟩); try refine ⟨sConv, ?_⟩) | refine Dr.two ?_ ?_)
          exact ⟨(), sHolds, sConv, trivial⟩
        by_cases h3 : nz ≤ i
        · repeat (first | refine wCh1 ?_ | (refine kCh1 ?_; (first | rintro _ _ ⟨rfl, rfl⟩ | rintro _ _ ⟨_, rfl, rfl⟩ | rintro _ _ ⟨_, _, ⟨_, _⟩, rfl, rfl⟩); try refine ⟨sConv, ?_⟩) | refine Dr.two ?_ ?_)
          refine C.regionA 100000 (.one 0 false (.one 1 false (.one 2 false (.one 3 false (.one 4 false (.one 5 false (.one 6 false (.one 7 false (.one 8 false (.one 9 false (.one 10 false (.one 11 false (.one 12 false (.one 13 false (.one 14 false (.one 15 false (.one 16 false .nil))))))))))))))))) _ (by kernel_rfl) (by kernel_rfl) Conv.refl ?_
          repeat (first | refine wCh1 ?_ | (refine kCh1 ?_; (first | rintro _ _ ⟨rfl, rfl⟩ | rintro _ _ ⟨_, rfl, rfl⟩ | rintro _ _ ⟨_, _, ⟨_, _⟩, rfl, rfl⟩); try refine ⟨sConv, ?_⟩) | refine Dr.two ?_ ?_)
          exact ⟨(), sHolds, sConv, trivial⟩
        have hwx : want[i]? = some want[i] := List.getElem?_eq_getElem (by omega)
        generalize want[i] = w at hwx
        cases hd : decide ((⟨w.kind, w.a, w.n, ⟨w.ref.rep, w.ref.seq⟩⟩ : Eff) = ⟨e.what.kind, e.what.a, e.what.n, ⟨e.what.ref.rep, e.what.ref.seq⟩⟩)
        · have hd2 : (!decide ((⟨w.kind, w.a, w.n, ⟨w.ref.rep, w.ref.seq⟩⟩ : Eff) = ⟨e.what.kind, e.what.a, e.what.n, ⟨e.what.ref.rep, e.what.ref.seq⟩⟩)) = true := by rw [hd]; rfl
          repeat (first | refine wCh1 ?_ | (refine kCh1 ?_; (first | rintro _ _ ⟨rfl, rfl⟩ | rintro _ _ ⟨_, rfl, rfl⟩ | rintro _ _ ⟨_, _, ⟨_, _⟩, rfl, rfl⟩); try refine ⟨sConv, ?_⟩) | refine Dr.two ?_ ?_)
          refine C.regionA 100000 (.one 0 false (.one 1 false (.one 2 false (.one 3 false (.one 4 false (.one 5 false (.one 6 false (.one 7 false (.one 8 false (.one 9 false (.one 10 false (.one 11 false (.one 12 false (.one 13 false (.one 14 false (.one 15 false (.one 16 false .nil))))))))))))))))) _ (by kernel_rfl) (by kernel_rfl) Conv.refl ?_
          repeat (first | refine wCh1 ?_ | (refine kCh1 ?_; (first | rintro _ _ ⟨rfl, rfl⟩ | rintro _ _ ⟨_, rfl, rfl⟩ | rintro _ _ ⟨_, _, ⟨_, _⟩, rfl, rfl⟩); try refine ⟨sConv, ?_⟩) | refine Dr.two ?_ ?_)
          exact ⟨(), sHolds, sConv, trivial⟩
        · have hd2 : (!decide ((⟨w.kind, w.a, w.n, ⟨w.ref.rep, w.ref.seq⟩⟩ : Eff) = ⟨e.what.kind, e.what.a, e.what.n, ⟨e.what.ref.rep, e.what.ref.seq⟩⟩)) = false := by rw [hd]; rfl
          repeat (first | refine wCh1 ?_ | (refine kCh1 ?_; (first | rintro _ _ ⟨rfl, rfl⟩ | rintro _ _ ⟨_, rfl, rfl⟩ | rintro _ _ ⟨_, _, ⟨_, _⟩, rfl, rfl⟩); try refine ⟨sConv, ?_⟩) | refine Dr.two ?_ ?_)
          refine C.regionA 100000 (.one 0 false (.one 1 false (.one 2 false (.one 3 false (.one 4 false (.one 5 false (.one 6 false (.one 7 false (.one 8 false (.one 9 false (.one 10 false (.one 11 false (.one 12 false (.one 13 false (.one 14 false (.one 15 false (.one 16 false .nil))))))))))))))))) _ (by kernel_rfl) (by kernel_rfl) Conv.refl ?_
          repeat (first | refine wCh1 ?_ | (refine kCh1 ?_; (first | rintro _ _ ⟨rfl, rfl⟩ | rintro _ _ ⟨_, rfl, rfl⟩ | rintro _ _ ⟨_, _, ⟨_, _⟩, rfl, rfl⟩); try refine ⟨sConv, ?_⟩) | refine Dr.two ?_ ?_)
          exact ⟨(), sHolds, sConv, trivial⟩
      rcases Bool.eq_false_or_eq_true e.gone with h2 | h2
      · rw [lost_yes hx (.inr (.inl h2))]
        repeat (first | refine wCh1 ?_ | (refine kCh1 ?_; (first | rintro _ _ ⟨rfl, rfl⟩ | rintro _ _ ⟨_, rfl, rfl⟩ | rintro _ _ ⟨_, _, ⟨_, _⟩, rfl, rfl⟩); try refine ⟨sConv, ?_⟩) | refine Dr.two ?_ ?_)
        refine C.regionA 100000 (.one 0 false (.one 1 false (.one 2 false (.one 3 false (.one 4 false (.one 5 false (.one 6 false (.one 7 false (.one 8 false (.one 9 false (.one 10 false (.one 11 false (.one 12 false (.one 13 false (.one 14 false (.one 15 false (.one 16 false .nil))))))))))))))))) _ (by kernel_rfl) (by kernel_rfl) Conv.refl ?_
        repeat (first | refine wCh1 ?_ | (refine kCh1 ?_; (first | rintro _ _ ⟨rfl, rfl⟩ | rintro _ _ ⟨_, rfl, rfl⟩ | rintro _ _ ⟨_, _, ⟨_, _⟩, rfl, rfl⟩); try refine ⟨sConv, ?_⟩) | refine Dr.two ?_ ?_)
        exact ⟨(), sHolds, sConv, trivial⟩
      by_cases h3 : nz ≤ i
      · rw [lost_yes hx (.inr (.inr (by omega)))]
        repeat (first | refine wCh1 ?_ | (refine kCh1 ?_; (first | rintro _ _ ⟨rfl, rfl⟩ | rintro _ _ ⟨_, rfl, rfl⟩ | rintro _ _ ⟨_, _, ⟨_, _⟩, rfl, rfl⟩); try refine ⟨sConv, ?_⟩) | refine Dr.two ?_ ?_)
        refine C.regionA 100000 (.one 0 false (.one 1 false (.one 2 false (.one 3 false (.one 4 false (.one 5 false (.one 6 false (.one 7 false (.one 8 false (.one 9 false (.one 10 false (.one 11 false (.one 12 false (.one 13 false (.one 14 false (.one 15 false (.one 16 false .nil))))))))))))))))) _ (by kernel_rfl) (by kernel_rfl) Conv.refl ?_
        repeat (first | refine wCh1 ?_ | (refine kCh1 ?_; (first | rintro _ _ ⟨rfl, rfl⟩ | rintro _ _ ⟨_, rfl, rfl⟩ | rintro _ _ ⟨_, _, ⟨_, _⟩, rfl, rfl⟩); try refine ⟨sConv, ?_⟩) | refine Dr.two ?_ ?_)
        exact ⟨(), sHolds, sConv, trivial⟩
      have hwx : want[i]? = some want[i] := List.getElem?_eq_getElem (by omega)
      rw [lost_eq hx h1 h2 hwx]
      generalize want[i] = w at hwx
      by_cases hd : w = e.what
      · have hd2 : (!decide ((⟨w.kind, w.a, w.n, ⟨w.ref.rep, w.ref.seq⟩⟩ : Eff) = ⟨e.what.kind, e.what.a, e.what.n, ⟨e.what.ref.rep, e.what.ref.seq⟩⟩)) = false := by rw [eff_eta, decide_eq_true hd]; rfl
        rw [show (!decide (e.what = w)) = false by rw [decide_eq_true hd.symm]; rfl]
        repeat (first | refine wCh1 ?_ | (refine kCh1 ?_; (first | rintro _ _ ⟨rfl, rfl⟩ | rintro _ _ ⟨_, rfl, rfl⟩ | rintro _ _ ⟨_, _, ⟨_, _⟩, rfl, rfl⟩); try refine ⟨sConv, ?_⟩) | refine Dr.two ?_ ?_)
        refine C.regionA 100000 (.one 0 false (.one 1 false (.one 2 false (.one 3 false (.one 4 false (.one 5 false (.one 6 false (.one 7 false (.one 8 false (.one 9 false (.one 10 false (.one 11 false (.one 12 false (.one 13 false (.one 14 false (.one 15 false (.one 16 false .nil))))))))))))))))) _ (by kernel_rfl) (by kernel_rfl) Conv.refl ?_
        repeat (first | refine wCh1 ?_ | (refine kCh1 ?_; (first | rintro _ _ ⟨rfl, rfl⟩ | rintro _ _ ⟨_, rfl, rfl⟩ | rintro _ _ ⟨_, _, ⟨_, _⟩, rfl, rfl⟩); try refine ⟨sConv, ?_⟩) | refine Dr.two ?_ ?_)
        exact ⟨(), sHolds, sConv, trivial⟩
      · have hd2 : (!decide ((⟨w.kind, w.a, w.n, ⟨w.ref.rep, w.ref.seq⟩⟩ : Eff) = ⟨e.what.kind, e.what.a, e.what.n, ⟨e.what.ref.rep, e.what.ref.seq⟩⟩)) = true := by rw [eff_eta, decide_eq_false hd]; rfl
        rw [show (!decide (e.what = w)) = true by rw [decide_eq_false (fun h => hd h.symm)]; rfl]
        repeat (first | refine wCh1 ?_ | (refine kCh1 ?_; (first | rintro _ _ ⟨rfl, rfl⟩ | rintro _ _ ⟨_, rfl, rfl⟩ | rintro _ _ ⟨_, _, ⟨_, _⟩, rfl, rfl⟩); try refine ⟨sConv, ?_⟩) | refine Dr.two ?_ ?_)
        refine C.regionA 100000 (.one 0 false (.one 1 false (.one 2 false (.one 3 false (.one 4 false (.one 5 false (.one 6 false (.one 7 false (.one 8 false (.one 9 false (.one 10 false (.one 11 false (.one 12 false (.one 13 false (.one 14 false (.one 15 false (.one 16 false .nil))))))))))))))))) _ (by kernel_rfl) (by kernel_rfl) Conv.refl ?_
        repeat (first | refine wCh1 ?_ | (refine kCh1 ?_; (first | rintro _ _ ⟨rfl, rfl⟩ | rintro _ _ ⟨_, rfl, rfl⟩ | rintro _ _ ⟨_, _, ⟨_, _⟩, rfl, rfl⟩); try refine ⟨sConv, ?_⟩) | refine Dr.two ?_ ?_)
        exact ⟨(), sHolds, sConv, trivial⟩
    rintro - G -
    have hst := settle_take (want := want) hx
    generalize hb : lost want l (i + 1) = b at *
    repeat (first | refine wCh1 ?_ | (refine kCh1 ?_; (first | rintro _ _ ⟨rfl, rfl⟩ | rintro _ _ ⟨_, rfl, rfl⟩ | rintro _ _ ⟨_, _, ⟨_, _⟩, rfl, rfl⟩); try refine ⟨sConv, ?_⟩) | refine Dr.two ?_ ?_)
    refine L.stepK (by decide) (S.buildSlice1K (T := enrT) (e := (e.mark b)) rfl rfl rfl rfl (by decide)) ?_; rintro _ _ ⟨_, rfl, rfl⟩
    repeat (first | refine wCh1 ?_ | (refine kCh1 ?_; (first | rintro _ _ ⟨rfl, rfl⟩ | rintro _ _ ⟨_, rfl, rfl⟩ | rintro _ _ ⟨_, _, ⟨_, _⟩, rfl, rfl⟩); try refine ⟨sConv, ?_⟩) | refine Dr.two ?_ ?_)
    rw [hst]
    rename_i A2 c2 h1 h2
    exact ⟨(i + 1, A2, c2), by dsimp only; rw [hb]; exact sHolds, sConv, ⟨by dsimp only; omega, h1, h2⟩, by dsimp only; omega⟩
  · obtain rfl : i = n := by omega
    rw [List.take_of_length_le (by omega)]
    repeat (first | refine wCh1 ?_ | (refine kCh1 ?_; (first | rintro _ _ ⟨rfl, rfl⟩ | rintro _ _ ⟨_, rfl, rfl⟩ | rintro _ _ ⟨_, _, ⟨_, _⟩, rfl, rfl⟩); try refine ⟨sConv, ?_⟩) | refine Dr.two ?_ ?_)
    rename_i A2 c2 h1 h2
    exact end0 rfl sConv (⟨_, _, _, _, rfl, ⟨hco, hco2⟩, ⟨h1, h2⟩, rfl⟩)
end
end Go.Proofs.Ytkhmplaocfjpjaa.Sep
