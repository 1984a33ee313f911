/- the law ChainSettles, by parts of memory. -/
import Derived.Test.YtiabahpofcapbaaChl4
namespace Go.Proofs.Ytiabahpofcapbaa.Sep
open Go.RowKit Go.Proofs.Ytiabahpofcapbaa.Reg
open Go.Proofs.Ytiabahpofcapbaa.Mem hiding Rd Own
-- types: entT enrT effT opT
-- recs: idnT_rec effT_rec cfgT_rec entT_rec enrT_rec keyT_rec reqT_rec opT_rec chain_rec chref_rec pair_rec
-- eqs: idnT_eqa effT_eqa entT_eqa enrT_eqa keyT_eqa reqT_eqa
-- funcs
-- flds
set_option maxRecDepth 100000
set_option maxHeartbeats 8000000
/-- what is settled is settled again -/
theorem settle_twice (want : List Eff) (l : List Ent) : settle want (settle want l) = settle want l := by
  have key : ∀ i, i ≤ l.length → lost want (settle want l) i = lost want l i := by
    intro i
    induction i with
    | zero => intro _; rfl
    | succ i ih =>
      intro hi
      have hx : l[i]? = some l[i] := List.getElem?_eq_getElem (by omega)
      have hs := settle_at (want := want) hx
      rw [lost_succ hs, ih (by omega)]
      rw [lost_succ hx]
      show (lost want l i || ((lost want l i || (l[i].gone || decide (want[i]? ≠ some l[i].what))) || decide (want[i]? ≠ some l[i].what))) = _
      cases lost want l i <;> cases l[i].gone <;> cases decide (want[i]? ≠ some l[i].what) <;> rfl
  refine List.ext_getElem? fun i => ?_
  cases hx : l[i]? with
  | none => rw [List.getElem?_eq_none (by rw [settle_length, settle_length]; exact List.getElem?_eq_none_iff.1 hx), List.getElem?_eq_none (by rw [settle_length]; exact List.getElem?_eq_none_iff.1 hx)]
  | some e =>
    have hi := (List.getElem?_eq_some_iff.1 hx).1
    have hs := settle_at (want := want) hx
    rw [settle_at hs, hs, key (i + 1) (by omega)]
    rfl
theorem mark_back (e : Ent) (g : Bool) : (e.mark g).mark e.gone = e := rfl
section
variable (E : Env) (id : Idn) (made : Int) (A : Option Addr) (n c : Nat) (l : List Ent) (want : List Eff) (X : Option Addr) (nx cx : Nat)
theorem settles21 (hr : Rd E entT A n c l) (hw : Rd E effT X nx cx want) : Tri Try.prog E 4 #[chn id made A n c, .slice X nx cx] [] fun r _ => r = .returned (.bool true) := by
  have hcap0 := hr.cap
  have hnw := hw.len
  have hcw := hw.cap
  have hmax : maxLen = 9223372036854775807 := rfl
  refine tri Try.func4 rfl Try.ntmps4 (by simp) ?_
  repeat (first | refine wCh1 ?_ | (refine kCh1 ?_; (first | rintro _ _ ⟨rfl, rfl⟩ | rintro _ _ ⟨_, rfl, rfl⟩ | rintro _ _ ⟨_, _, ⟨_, _⟩, rfl, rfl⟩); try refine ⟨sConv, ?_⟩) | refine Dr.two ?_ ?_)
  refine L.step (by decide) (S.call rfl rfl Try.func12 (by kernel_rfl) rfl sPicks (fun E' hE => alive21 E') ?_)
  rintro r H' ⟨rfl, rfl⟩
  refine ⟨_, rfl, _, sCat, ?_⟩
  repeat ((fail_if_success (refine C.seq (x := Code.region 3 _ _) ?_)); first | refine vCh1 ?_ | (refine kCh1 ?_; (first | rintro _ _ ⟨rfl, rfl⟩ | rintro _ _ ⟨_, rfl, rfl⟩ | rintro _ _ ⟨_, _, ⟨_, _⟩, rfl, rfl⟩); try refine ⟨sConv, ?_⟩) | refine Dr.two ?_ ?_)
  rename_i g2
  refine C.mid (X := Nat × List Ent) (fun y => [(1, .slice X nx cx), (2, .pointer (some ⟨g2, 0, none⟩))]) (fun y => [blk g2 33 [.int .i64 id.rep, .int .i64 id.seq, .int .i64 made, .slice A y.1 c]]) (fun y => y.1 ≤ 40 ∧ Rd E entT A y.1 c y.2) ?_ ?_
  · by_cases h40 : 40 < n
    · repeat (first | refine wCh1 ?_ | (refine kCh1 ?_; (first | rintro _ _ ⟨rfl, rfl⟩ | rintro _ _ ⟨_, rfl, rfl⟩ | rintro _ _ ⟨_, _, ⟨_, _⟩, rfl, rfl⟩); try refine ⟨sConv, ?_⟩) | refine Dr.two ?_ ?_)
      exact ⟨(40, l.take 40), sHolds, sConv, Nat.le_refl _, hr.upto (by omega) (by omega) (by omega)⟩
    · repeat (first | refine wCh1 ?_ | (refine kCh1 ?_; (first | rintro _ _ ⟨rfl, rfl⟩ | rintro _ _ ⟨_, rfl, rfl⟩ | rintro _ _ ⟨_, _, ⟨_, _⟩, rfl, rfl⟩); try refine ⟨sConv, ?_⟩) | refine Dr.two ?_ ?_)
      exact ⟨(n, l), sHolds, sConv, by dsimp only; omega, hr⟩
  clear hr hcap0
  rintro ⟨n, l⟩ G ⟨hn40, hr⟩
  dsimp only at hn40 hr ⊢
  have hn := hr.len
  have hcap := hr.cap
  have hl2 : n ≤ 1000000 := by omega
  have hst := settle_twice want l
  have hsl := settle_length want l
  have hid : decide ((⟨id.rep, id.seq⟩ : Idn) = ⟨id.rep, id.seq⟩) = true := decide_eq_true rfl
  repeat (first | refine wCh1 ?_ | (refine kCh1 ?_; (first | rintro _ _ ⟨rfl, rfl⟩ | rintro _ _ ⟨_, rfl, rfl⟩ | rintro _ _ ⟨_, _, ⟨_, _⟩, rfl, rfl⟩); try refine ⟨sConv, ?_⟩) | refine Dr.two ?_ ?_)
  refine L.step (by decide) (S.call rfl rfl Try.func16 (by kernel_rfl) rfl sPicks (fun E' hE => csettle E' id made A n c l want X nx cx sRd sRd hl2) ?_)
  rintro r H' ⟨A1, c1, rfl, ⟨hc1, hc2⟩, rfl⟩
  refine ⟨_, rfl, _, sCat, ?_⟩
  repeat (first | refine wCh1 ?_ | (refine kCh1 ?_; (first | rintro _ _ ⟨rfl, rfl⟩ | rintro _ _ ⟨_, rfl, rfl⟩ | rintro _ _ ⟨_, _, ⟨_, _⟩, rfl, rfl⟩); try refine ⟨sConv, ?_⟩) | refine Dr.two ?_ ?_)
  rename_i O co _ _ g6
  refine C.loop (X := Nat) (fun i => [(1, .slice X nx cx), (2, .pointer (some ⟨g2, 0, none⟩)), (5, .slice O n co), (6, .pointer (some ⟨g6, 0, none⟩)), (7, .bool (lost want l i)), (8, .int .i64 i)])
    (fun _ => [blk g6 33 [.int .i64 id.rep, .int .i64 id.seq, .int .i64 made, .slice A1 n c1], own entT A1 n c1 (settle want l), blk g2 33 [.int .i64 id.rep, .int .i64 id.seq, .int .i64 made, .slice A n c], own entT O n co l]) (fun i => i ≤ n) (fun i => n - i) 0 sHolds sConv (Nat.zero_le _) ?_
  rintro i G hi
  by_cases hlt : i < n
  · have hx : l[i]? = some l[i] := List.getElem?_eq_getElem (by omega)
    generalize l[i] = e at hx
    have hs : (settle want l)[i]? = some (⟨e.ord, e.what, e.sent, e.last, e.acked, lost want l (i + 1), e.back, e.backLast⟩ : Ent) := settle_at (want := want) hx
    have hee : (!decide ((⟨e.ord, ⟨e.what.kind, e.what.a, e.what.n, ⟨e.what.ref.rep, e.what.ref.seq⟩⟩, e.sent, e.last, e.acked, e.gone, e.back, e.backLast⟩ : Ent) = ⟨e.ord, ⟨e.what.kind, e.what.a, e.what.n, ⟨e.what.ref.rep, e.what.ref.seq⟩⟩, e.sent, e.last, e.acked, e.gone, e.back, e.backLast⟩)) = false := by rw [decide_eq_true rfl]; rfl
    have hsucc := lost_succ (want := want) hx
    repeat ((fail_if_success (refine C.seq (x := Code.region 14 _ _) ?_)); first | refine vCh1 ?_ | (refine kCh1 ?_; (first | rintro _ _ ⟨rfl, rfl⟩ | rintro _ _ ⟨_, rfl, rfl⟩ | rintro _ _ ⟨_, _, ⟨_, _⟩, rfl, rfl⟩); try refine ⟨sConv, ?_⟩) | refine Dr.two ?_ ?_)
    rename_i g9
    refine C.mid (X := Unit) (fun _ => [(1, .slice X nx cx), (2, .pointer (some ⟨g2, 0, none⟩)), (5, .slice O n co), (6, .pointer (some ⟨g6, 0, none⟩)), (8, .int .i64 i), (9, .pointer (some ⟨g9, 0, none⟩))])
      (fun _ => [blk g9 39 [.int .i64 e.ord, .int .i64 e.what.kind, .int .i64 e.what.a, .int .i64 e.what.n, .int .i64 e.what.ref.rep, .int .i64 e.what.ref.seq, .int .i64 e.sent, .int .i64 e.last, .bool e.acked, .bool (lost want l (i + 1)), .int .i64 e.back, .int .i64 e.backLast], blk g6 33 [.int .i64 id.rep, .int .i64 id.seq, .int .i64 made, .slice A1 n c1], own entT A1 n c1 (settle want l), blk g2 33 [.int .i64 id.rep, .int .i64 id.seq, .int .i64 made, .slice A n c], own entT O n co l]) (fun _ => True) ?_ ?_
    · rcases Bool.eq_false_or_eq_true (lost want l (i + 1)) with hg | hg
      · have hg2 : (!lost want l (i + 1)) = false := by rw [hg]; rfl
        rcases Bool.eq_false_or_eq_true (lost want l i) with hp | hp
        · rcases Bool.eq_false_or_eq_true e.gone with h0 | h0
          · repeat (first | refine wCh1 ?_ | (refine kCh1 ?_; (first | rintro _ _ ⟨rfl, rfl⟩ | rintro _ _ ⟨_, rfl, rfl⟩ | rintro _ _ ⟨_, _, ⟨_, _⟩, rfl, rfl⟩); try refine ⟨sConv, ?_⟩) | refine Dr.two ?_ ?_)
            refine C.regionA 100000 (.one 0 false (.one 1 false (.one 2 false (.one 3 false (.one 4 false (.one 5 false (.one 6 false (.one 7 false (.one 8 false (.one 9 false (.one 10 false (.one 11 false (.one 12 false (.one 13 false (.one 14 false (.one 15 false (.one 16 false (.one 17 false (.one 18 false (.one 19 false (.one 20 false (.one 21 false (.one 22 false (.one 23 false (.one 24 false (.one 25 false (.one 26 false (.one 27 false (.one 28 false (.one 29 false (.one 30 false (.one 31 false (.one 32 false (.one 33 false (.one 34 false (.one 35 false (.one 36 false (.one 37 false (.one 38 false (.one 39 false (.one 40 false (.one 41 false (.one 42 false (.one 43 false (.one 44 false (.one 45 false (.one 46 false (.one 47 false (.one 48 false (.one 49 false .nil)))))))))))))))))))))))))))))))))))))))))))))))))) _ (by kernel_rfl) (by kernel_rfl) Conv.refl ?_
            repeat (first | refine wCh1 ?_ | (refine kCh1 ?_; (first | rintro _ _ ⟨rfl, rfl⟩ | rintro _ _ ⟨_, rfl, rfl⟩ | rintro _ _ ⟨_, _, ⟨_, _⟩, rfl, rfl⟩); try refine ⟨sConv, ?_⟩) | refine Dr.two ?_ ?_)
            exact ⟨(), sHolds, sConv, trivial⟩
          · repeat (first | refine wCh1 ?_ | (refine kCh1 ?_; (first | rintro _ _ ⟨rfl, rfl⟩ | rintro _ _ ⟨_, rfl, rfl⟩ | rintro _ _ ⟨_, _, ⟨_, _⟩, rfl, rfl⟩); try refine ⟨sConv, ?_⟩) | refine Dr.two ?_ ?_)
            refine C.regionA 100000 (.one 0 false (.one 1 false (.one 2 false (.one 3 false (.one 4 false (.one 5 false (.one 6 false (.one 7 false (.one 8 false (.one 9 false (.one 10 false (.one 11 false (.one 12 false (.one 13 false (.one 14 false (.one 15 false (.one 16 false (.one 17 false (.one 18 false (.one 19 false (.one 20 false (.one 21 false (.one 22 false (.one 23 false (.one 24 false (.one 25 false (.one 26 false (.one 27 false (.one 28 false (.one 29 false (.one 30 false (.one 31 false (.one 32 false (.one 33 false (.one 34 false (.one 35 false (.one 36 false (.one 37 false (.one 38 false (.one 39 false (.one 40 false (.one 41 false (.one 42 false (.one 43 false (.one 44 false (.one 45 false (.one 46 false (.one 47 false (.one 48 false (.one 49 false .nil)))))))))))))))))))))))))))))))))))))))))))))))))) _ (by kernel_rfl) (by kernel_rfl) Conv.refl ?_
            repeat (first | refine wCh1 ?_ | (refine kCh1 ?_; (first | rintro _ _ ⟨rfl, rfl⟩ | rintro _ _ ⟨_, rfl, rfl⟩ | rintro _ _ ⟨_, _, ⟨_, _⟩, rfl, rfl⟩); try refine ⟨sConv, ?_⟩) | refine Dr.two ?_ ?_)
            exact ⟨(), sHolds, sConv, trivial⟩
        · rcases Bool.eq_false_or_eq_true e.gone with h0 | h0
          · repeat (first | refine wCh1 ?_ | (refine kCh1 ?_; (first | rintro _ _ ⟨rfl, rfl⟩ | rintro _ _ ⟨_, rfl, rfl⟩ | rintro _ _ ⟨_, _, ⟨_, _⟩, rfl, rfl⟩); try refine ⟨sConv, ?_⟩) | refine Dr.two ?_ ?_)
            refine C.regionA 100000 (.one 0 false (.one 1 false (.one 2 false (.one 3 false (.one 4 false (.one 5 false (.one 6 false (.one 7 false (.one 8 false (.one 9 false (.one 10 false (.one 11 false (.one 12 false (.one 13 false (.one 14 false (.one 15 false (.one 16 false (.one 17 false (.one 18 false (.one 19 false (.one 20 false (.one 21 false (.one 22 false (.one 23 false (.one 24 false (.one 25 false (.one 26 false (.one 27 false (.one 28 false (.one 29 false (.one 30 false (.one 31 false (.one 32 false (.one 33 false (.one 34 false (.one 35 false (.one 36 false (.one 37 false (.one 38 false (.one 39 false (.one 40 false (.one 41 false (.one 42 false (.one 43 false (.one 44 false (.one 45 false (.one 46 false (.one 47 false (.one 48 false (.one 49 false .nil)))))))))))))))))))))))))))))))))))))))))))))))))) _ (by kernel_rfl) (by kernel_rfl) Conv.refl ?_
            repeat (first | refine wCh1 ?_ | (refine kCh1 ?_; (first | rintro _ _ ⟨rfl, rfl⟩ | rintro _ _ ⟨_, rfl, rfl⟩ | rintro _ _ ⟨_, _, ⟨_, _⟩, rfl, rfl⟩); try refine ⟨sConv, ?_⟩) | refine Dr.two ?_ ?_)
            exact ⟨(), sHolds, sConv, trivial⟩
          · repeat (first | refine wCh1 ?_ | (refine kCh1 ?_; (first | rintro _ _ ⟨rfl, rfl⟩ | rintro _ _ ⟨_, rfl, rfl⟩ | rintro _ _ ⟨_, _, ⟨_, _⟩, rfl, rfl⟩); try refine ⟨sConv, ?_⟩) | refine Dr.two ?_ ?_)
            refine C.regionA 100000 (.one 0 false (.one 1 false (.one 2 false (.one 3 false (.one 4 false (.one 5 false (.one 6 false (.one 7 false (.one 8 false (.one 9 false (.one 10 false (.one 11 false (.one 12 false (.one 13 false (.one 14 false (.one 15 false (.one 16 false (.one 17 false (.one 18 false (.one 19 false (.one 20 false (.one 21 false (.one 22 false (.one 23 false (.one 24 false (.one 25 false (.one 26 false (.one 27 false (.one 28 false (.one 29 false (.one 30 false (.one 31 false (.one 32 false (.one 33 false (.one 34 false (.one 35 false (.one 36 false (.one 37 false (.one 38 false (.one 39 false (.one 40 false (.one 41 false (.one 42 false (.one 43 false (.one 44 false (.one 45 false (.one 46 false (.one 47 false (.one 48 false (.one 49 false .nil)))))))))))))))))))))))))))))))))))))))))))))))))) _ (by kernel_rfl) (by kernel_rfl) Conv.refl ?_
            repeat (first | refine wCh1 ?_ | (refine kCh1 ?_; (first | rintro _ _ ⟨rfl, rfl⟩ | rintro _ _ ⟨_, rfl, rfl⟩ | rintro _ _ ⟨_, _, ⟨_, _⟩, rfl, rfl⟩); try refine ⟨sConv, ?_⟩) | refine Dr.two ?_ ?_)
            exact ⟨(), sHolds, sConv, trivial⟩
      · have hg2 : (!lost want l (i + 1)) = true := by rw [hg]; rfl
        rw [hg] at hsucc
        have hp : lost want l i = false := by cases h : lost want l i; rfl; rw [h] at hsucc; cases hsucc
        have h0 : e.gone = false := by cases h : e.gone; rfl; rw [hp, h] at hsucc; cases hsucc
        rw [hp, h0, Bool.false_or, Bool.false_or] at hsucc
        have hwx : want[i]? = some e.what := Classical.not_not.1 (of_decide_eq_false hsucc.symm)
        have hix := (List.getElem?_eq_some_iff.1 hwx).1
        have hef : (!decide ((⟨e.what.kind, e.what.a, e.what.n, ⟨e.what.ref.rep, e.what.ref.seq⟩⟩ : Eff) = ⟨e.what.kind, e.what.a, e.what.n, ⟨e.what.ref.rep, e.what.ref.seq⟩⟩)) = false := by rw [decide_eq_true rfl]; rfl
        repeat (first | refine wCh1 ?_ | (refine kCh1 ?_; (first | rintro _ _ ⟨rfl, rfl⟩ | rintro _ _ ⟨_, rfl, rfl⟩ | rintro _ _ ⟨_, _, ⟨_, _⟩, rfl, rfl⟩); try refine ⟨sConv, ?_⟩) | refine Dr.two ?_ ?_)
        refine C.regionA 100000 (.one 0 false (.one 1 false (.one 2 false (.one 3 false (.one 4 false (.one 5 false (.one 6 false (.one 7 false (.one 8 false (.one 9 false (.one 10 false (.one 11 false (.one 12 false (.one 13 false (.one 14 false (.one 15 false (.one 16 false (.one 17 false (.one 18 false (.one 19 false (.one 20 false (.one 21 false (.one 22 false (.one 23 false (.one 24 false (.one 25 false (.one 26 false (.one 27 false (.one 28 false (.one 29 false (.one 30 false (.one 31 false (.one 32 false (.one 33 false (.one 34 false (.one 35 false (.one 36 false (.one 37 false (.one 38 false (.one 39 false (.one 40 false (.one 41 false (.one 42 false (.one 43 false (.one 44 false (.one 45 false (.one 46 false (.one 47 false (.one 48 false (.one 49 false .nil)))))))))))))))))))))))))))))))))))))))))))))))))) _ (by kernel_rfl) (by kernel_rfl) Conv.refl ?_
        repeat (first | refine wCh1 ?_ | (refine kCh1 ?_; (first | rintro _ _ ⟨rfl, rfl⟩ | rintro _ _ ⟨_, rfl, rfl⟩ | rintro _ _ ⟨_, _, ⟨_, _⟩, rfl, rfl⟩); try refine ⟨sConv, ?_⟩) | refine Dr.two ?_ ?_)
        exact ⟨(), sHolds, sConv, trivial⟩
    rintro - G -
    repeat (first | refine wCh1 ?_ | (refine kCh1 ?_; (first | rintro _ _ ⟨rfl, rfl⟩ | rintro _ _ ⟨_, rfl, rfl⟩ | rintro _ _ ⟨_, _, ⟨_, _⟩, rfl, rfl⟩); try refine ⟨sConv, ?_⟩) | refine Dr.two ?_ ?_)
    refine C.regionA 100000 (.one 0 false (.one 1 false (.one 2 false (.one 3 false (.one 4 false (.one 5 false .nil)))))) _ (by kernel_rfl) (by kernel_rfl) Conv.refl ?_
    repeat (first | refine wCh1 ?_ | (refine kCh1 ?_; (first | rintro _ _ ⟨rfl, rfl⟩ | rintro _ _ ⟨_, rfl, rfl⟩ | rintro _ _ ⟨_, _, ⟨_, _⟩, rfl, rfl⟩); try refine ⟨sConv, ?_⟩) | refine Dr.two ?_ ?_)
    exact ⟨i + 1, sHolds, sConv, by omega, by omega⟩
  · repeat (first | refine wCh1 ?_ | (refine kCh1 ?_; (first | rintro _ _ ⟨rfl, rfl⟩ | rintro _ _ ⟨_, rfl, rfl⟩ | rintro _ _ ⟨_, _, ⟨_, _⟩, rfl, rfl⟩); try refine ⟨sConv, ?_⟩) | refine Dr.two ?_ ?_)
    refine L.step (by decide) (S.call rfl rfl Try.func16 (by kernel_rfl) rfl sPicks (fun E' hE => csettle E' id made A1 n c1 (settle want l) want X nx cx sRd sRd hl2) ?_)
    rw [hst]
    rintro r H' ⟨A3, c3, rfl, ⟨hd1, hd2⟩, rfl⟩
    refine ⟨_, rfl, _, sCat, ?_⟩
    repeat (first | refine wCh1 ?_ | (refine kCh1 ?_; (first | rintro _ _ ⟨rfl, rfl⟩ | rintro _ _ ⟨_, rfl, rfl⟩ | rintro _ _ ⟨_, _, ⟨_, _⟩, rfl, rfl⟩); try refine ⟨sConv, ?_⟩) | refine Dr.two ?_ ?_)
    rename_i g10
    refine C.loop (X := Nat) (fun j => [(2, .pointer (some ⟨g2, 0, none⟩)), (6, .pointer (some ⟨g6, 0, none⟩)), (10, .pointer (some ⟨g10, 0, none⟩)), (11, .int .i64 j)])
      (fun _ => [blk g10 33 [.int .i64 id.rep, .int .i64 id.seq, .int .i64 made, .slice A3 n c3], own entT A3 n c3 (settle want l), blk g6 33 [.int .i64 id.rep, .int .i64 id.seq, .int .i64 made, .slice A1 n c1], own entT A1 n c1 (settle want l), blk g2 33 [.int .i64 id.rep, .int .i64 id.seq, .int .i64 made, .slice A n c]]) (fun j => j ≤ n) (fun j => n - j) 0 sHolds sConv (Nat.zero_le _) ?_
    rintro j G hj
    by_cases hlt2 : j < n
    · have hx : (settle want l)[j]? = some (settle want l)[j] := List.getElem?_eq_getElem (by omega)
      generalize (settle want l)[j] = e at hx
      have hee : (!decide ((⟨e.ord, ⟨e.what.kind, e.what.a, e.what.n, ⟨e.what.ref.rep, e.what.ref.seq⟩⟩, e.sent, e.last, e.acked, e.gone, e.back, e.backLast⟩ : Ent) = ⟨e.ord, ⟨e.what.kind, e.what.a, e.what.n, ⟨e.what.ref.rep, e.what.ref.seq⟩⟩, e.sent, e.last, e.acked, e.gone, e.back, e.backLast⟩)) = false := by rw [decide_eq_true rfl]; rfl
      repeat (first | refine wCh1 ?_ | (refine kCh1 ?_; (first | rintro _ _ ⟨rfl, rfl⟩ | rintro _ _ ⟨_, rfl, rfl⟩ | rintro _ _ ⟨_, _, ⟨_, _⟩, rfl, rfl⟩); try refine ⟨sConv, ?_⟩) | refine Dr.two ?_ ?_)
      refine C.regionA 100000 (.one 0 false (.one 1 false (.one 2 false (.one 3 false (.one 4 false (.one 5 false (.one 6 false (.one 7 false (.one 8 false (.one 9 false (.one 10 false .nil))))))))))) _ (by kernel_rfl) (by kernel_rfl) Conv.refl ?_
      repeat (first | refine wCh1 ?_ | (refine kCh1 ?_; (first | rintro _ _ ⟨rfl, rfl⟩ | rintro _ _ ⟨_, rfl, rfl⟩ | rintro _ _ ⟨_, _, ⟨_, _⟩, rfl, rfl⟩); try refine ⟨sConv, ?_⟩) | refine Dr.two ?_ ?_)
      exact ⟨j + 1, sHolds, sConv, by omega, by omega⟩
    · repeat (first | refine wCh1 ?_ | (refine kCh1 ?_; (first | rintro _ _ ⟨rfl, rfl⟩ | rintro _ _ ⟨_, rfl, rfl⟩ | rintro _ _ ⟨_, _, ⟨_, _⟩, rfl, rfl⟩); try refine ⟨sConv, ?_⟩) | refine Dr.two ?_ ?_)
      exact ret1 rfl sRet sConv ((by simp))
end
end Go.Proofs.Ytiabahpofcapbaa.Sep
