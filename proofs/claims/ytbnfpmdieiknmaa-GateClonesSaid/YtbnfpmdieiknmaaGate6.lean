/- the law of the gate: alive; all calls of a script; a clone goes on by itself. By parts of memory. -/
import Derived.Test.YtbnfpmdieiknmaaGate5
namespace Go.Proofs.Ytbnfpmdieiknmaa.Sep
open Go.RowKit Go.Proofs.Ytbnfpmdieiknmaa.Reg
open Go.Proofs.Ytbnfpmdieiknmaa.Mem hiding Rd Own
-- types: reqT op30T
-- recs: idnT_rec effT_rec keyT_rec reqT_rec op30T_rec gate_rec book_rec
-- eqs: idnT_eqa effT_eqa keyT_eqa reqT_eqa
-- funcs
-- maps
set_option maxRecDepth 100000
set_option maxHeartbeats 8000000
abbrev q0 : Req := ⟨⟨⟨0, 0⟩, 1, false⟩, ⟨0, 0, 0, ⟨0, 0⟩⟩⟩
theorem G30.zero (r : Int) (hr : 0 ≤ r ∧ r ≤ 255) : G30 none 0 0 r [] := ⟨rfl, ⟨Nat.le_refl _, Nat.zero_le _⟩, fun _ => rfl, hr⟩
theorem S30.zero : S30 none 0 0 0 [] 0 := ⟨G30.zero 0 (by decide), ⟨Nat.le_refl _, Nat.zero_le _⟩⟩
section
variable (E : Env)
theorem alive30 : Tri Try.prog E 33 #[] [] fun r H' => r = .returned (.bool true) ∧ H' = [] := by
  have hno : q0.key ∉ ([] : List Req).map Req.key := fun h => (List.not_mem_nil h).elim
  have hyes : q0.key ∈ [q0].map Req.key := List.mem_singleton.2 rfl
  have hdy : decide (q0.key ∈ [q0].map Req.key) = true := decide_eq_true hyes
  have hnet : netL [q0] = [q0] := by decide
  have l1 : (1 : Nat) ≤ 1000 := by decide
  have l0 : (0 : Nat) ≤ 1000 := by decide
  refine tri Try.func33 rfl Try.ntmps33 (by simp) ?_
  repeat (first | refine wG30 ?_ | (refine kG30 ?_; (first | rintro _ _ ⟨rfl, rfl⟩ | rintro _ _ ⟨_, rfl, rfl⟩ | rintro _ _ ⟨_, _, ⟨_, _⟩, rfl, rfl⟩); try refine ⟨sConv, ?_⟩) | refine Dr.two ?_ ?_)
  rename_i g1
  refine L.step (by decide) (S.call rfl rfl Try.func36 (by kernel_rfl) rfl sPicks (fun E' hE => (show Tri _ _ _ _ _ (fun e H' => e = .returned (.tuple #[]) ∧ H' = [gt g1 none none 0 0 1]) from grefuse E' g1 none none 0 0 0 1)) ?_)
  rintro e H' ⟨rfl, rfl⟩
  refine ⟨_, rfl, _, sCat, ?_⟩
  repeat (first | refine wG30 ?_ | (refine kG30 ?_; (first | rintro _ _ ⟨rfl, rfl⟩ | rintro _ _ ⟨_, rfl, rfl⟩ | rintro _ _ ⟨_, _, ⟨_, _⟩, rfl, rfl⟩); try refine ⟨sConv, ?_⟩) | refine Dr.two ?_ ?_)
  rename_i g2
  refine C.conv (((Conv.nil0 reqT none).trans Conv.mp0)) ?_
  refine C.regionA 100000 (.one 0 false (.one 1 false (.one 3 false (.one 4 false (.one 6 false (.one 7 false (.one 2 true (.one 5 true (.one 8 true (.one 9 false (.one 10 false (.one 11 false .nil)))))))))))) ([blk g2 70 q0.cs]) (by kernel_rfl) (by kernel_rfl) sConv ?_
  repeat (first | refine wG30 ?_ | (refine kG30 ?_; (first | rintro _ _ ⟨rfl, rfl⟩ | rintro _ _ ⟨_, rfl, rfl⟩ | rintro _ _ ⟨_, _, ⟨_, _⟩, rfl, rfl⟩); try refine ⟨sConv, ?_⟩) | refine Dr.two ?_ ?_)
  refine Dr.go rfl (by rintro k ⟨⟩ <;> decide) sGon (S.call rfl rfl Try.func37 (by kernel_rfl) rfl sPicks (fun E' hE => (show Tri _ _ _ _ [gt g1 none none 0 0 1, mpA none [], own reqT none 0 0 []] (fun e H' => e = .returned (.bool false) ∧ H' = [gt g1 none none 0 0 0, mpA none [], own reqT none 0 0 []]) from gdo_no E' g1 none none 0 0 1 [] q0 hno (by decide))) ?_)
  rintro e H' ⟨rfl, rfl⟩
  refine ⟨_, rfl, _, sCat, sConv, ?_⟩
  repeat (first | refine wG30 ?_ | (refine kG30 ?_; (first | rintro _ _ ⟨rfl, rfl⟩ | rintro _ _ ⟨_, rfl, rfl⟩ | rintro _ _ ⟨_, _, ⟨_, _⟩, rfl, rfl⟩); try refine ⟨sConv, ?_⟩) | refine Dr.two ?_ ?_)
  refine Dr.go rfl (by rintro k ⟨⟩ <;> decide) sGon (S.call rfl rfl Try.func37 (by kernel_rfl) rfl sPicks (fun E' hE => (show Tri _ _ _ _ [gt g1 none none 0 0 0, mpA none [], own reqT none 0 0 []] (fun e H' => ∃ m' A' c', e = .returned (.bool true) ∧ G30 m' 1 c' 0 [q0] ∧ H' = [gt g1 m' A' 1 c' 0, mpA m' [q0.key], own reqT A' 1 c' [q0]]) from gdo_new E' g1 none none 0 0 0 [] (G30.zero 0 (by decide)) q0 hno (by decide) l0)) ?_)
  rintro e H' ⟨m1, A1, c1, rfl, hG, rfl⟩
  refine ⟨_, rfl, _, sCat, sConv, ?_⟩
  repeat (first | refine wG30 ?_ | (refine kG30 ?_; (first | rintro _ _ ⟨rfl, rfl⟩ | rintro _ _ ⟨_, rfl, rfl⟩ | rintro _ _ ⟨_, _, ⟨_, _⟩, rfl, rfl⟩); try refine ⟨sConv, ?_⟩) | refine Dr.two ?_ ?_)
  refine Dr.go rfl (by rintro k ⟨⟩ <;> decide) sGon (S.call rfl rfl Try.func37 (by kernel_rfl) rfl sPicks (fun E' hE => (show Tri _ _ _ _ [gt g1 m1 A1 1 c1 0, mpA m1 [q0.key], own reqT A1 1 c1 [q0]] (fun e H' => e = .returned (.bool true) ∧ H' = [gt g1 m1 A1 1 c1 0, mpA m1 [q0.key], own reqT A1 1 c1 [q0]]) from gdo_yes E' g1 m1 A1 1 c1 0 [q0] q0 hyes)) ?_)
  rintro e H' ⟨rfl, rfl⟩
  refine ⟨_, rfl, _, sCat, sConv, ?_⟩
  repeat (first | refine wG30 ?_ | (refine kG30 ?_; (first | rintro _ _ ⟨rfl, rfl⟩ | rintro _ _ ⟨_, rfl, rfl⟩ | rintro _ _ ⟨_, _, ⟨_, _⟩, rfl, rfl⟩); try refine ⟨sConv, ?_⟩) | refine Dr.two ?_ ?_)
  refine L.step (by decide) (S.call rfl rfl Try.func38 (by kernel_rfl) rfl sPicks (fun E' hE => gapplied E' g1 m1 A1 1 c1 0 [q0] sRd l1) ?_)
  rintro e H' ⟨A2, c2, rfl, hc2, rfl⟩
  refine ⟨_, rfl, _, sCat, ?_⟩
  repeat (first | refine wG30 ?_ | (refine kG30 ?_; (first | rintro _ _ ⟨rfl, rfl⟩ | rintro _ _ ⟨_, rfl, rfl⟩ | rintro _ _ ⟨_, _, ⟨_, _⟩, rfl, rfl⟩); try refine ⟨sConv, ?_⟩) | refine Dr.two ?_ ?_)
  refine L.step (by decide) (S.call rfl rfl Try.func50 (by kernel_rfl) rfl sPicks (fun E' hE => (show Tri _ _ _ _ [gt g1 m1 A1 1 c1 0, mpA m1 [q0.key], own reqT A1 1 c1 [q0]] (fun e H' => ∃ A' n' c', e = .returned (.slice A' n' c') ∧ n' = (netL [q0]).length ∧ H' = [own reqT A' n' c' (netL [q0]), gt g1 m1 A1 1 c1 0, mpA m1 [q0.key], own reqT A1 1 c1 [q0]]) from gnet E' g1 m1 A1 1 c1 0 [q0] hG l1)) ?_)
  rw [hnet]
  rintro e H' ⟨A3, n3, c3, rfl, hn3, rfl⟩
  change n3 = 1 at hn3
  subst hn3
  refine ⟨_, rfl, _, sCat, ?_⟩
  repeat (first | refine wG30 ?_ | (refine kG30 ?_; (first | rintro _ _ ⟨rfl, rfl⟩ | rintro _ _ ⟨_, rfl, rfl⟩ | rintro _ _ ⟨_, _, ⟨_, _⟩, rfl, rfl⟩); try refine ⟨sConv, ?_⟩) | refine Dr.two ?_ ?_)
  refine L.step (by decide) (S.call rfl rfl Try.func49 (by kernel_rfl) rfl sPicks (fun E' hE => ghas E' g1 m1 A1 1 c1 0 [q0.key] q0.key) ?_)
  rw [show decide (q0.key ∈ [q0.key]) = true from hdy]
  rintro e H' ⟨rfl, rfl⟩
  refine ⟨_, rfl, _, sCat, ?_⟩
  repeat (first | refine wG30 ?_ | (refine kG30 ?_; (first | rintro _ _ ⟨rfl, rfl⟩ | rintro _ _ ⟨_, rfl, rfl⟩ | rintro _ _ ⟨_, _, ⟨_, _⟩, rfl, rfl⟩); try refine ⟨sConv, ?_⟩) | refine Dr.two ?_ ?_)
  refine L.step (by decide) (S.call rfl rfl Try.func51 (by kernel_rfl) rfl sPicks (fun E' hE => grefusing E' g1 m1 A1 1 c1 0) ?_)
  rintro e H' ⟨rfl, rfl⟩
  refine ⟨_, rfl, _, sCat, ?_⟩
  repeat (first | refine wG30 ?_ | (refine kG30 ?_; (first | rintro _ _ ⟨rfl, rfl⟩ | rintro _ _ ⟨_, rfl, rfl⟩ | rintro _ _ ⟨_, _, ⟨_, _⟩, rfl, rfl⟩); try refine ⟨sConv, ?_⟩) | refine Dr.two ?_ ?_)
  exact ret1 rfl sRet sConv (⟨rfl, rfl⟩)
variable (A : Option Addr) (n c : Nat) (l : List Op30) (hr : Rd E op30T A n c l)
include hr
theorem runs30 : Tri Try.prog E 6 #[.slice A n c] [] fun r _ => r = .returned (.bool true) := by
  have hcap := hr.cap
  have hr80 := hr.upto (k := min n 80) (m := c) (by omega) (by omega) (by omega)
  have h80 : min n 80 ≤ 80 := by omega
  have h500 : (0 : Nat) ≤ 500 := by omega
  refine tri Try.func6 rfl Try.ntmps6 (by simp) ?_
  repeat (first | refine wG30 ?_ | (refine kG30 ?_; (first | rintro _ _ ⟨rfl, rfl⟩ | rintro _ _ ⟨_, rfl, rfl⟩ | rintro _ _ ⟨_, _, ⟨_, _⟩, rfl, rfl⟩); try refine ⟨sConv, ?_⟩) | refine Dr.two ?_ ?_)
  refine L.step (by decide) (S.call rfl rfl Try.func33 (by kernel_rfl) rfl sPicks (fun E' hE => alive30 E') ?_)
  rintro e H' ⟨rfl, rfl⟩
  refine ⟨_, rfl, _, sCat, ?_⟩
  repeat (first | refine wG30 ?_ | (refine kG30 ?_; (first | rintro _ _ ⟨rfl, rfl⟩ | rintro _ _ ⟨_, rfl, rfl⟩ | rintro _ _ ⟨_, _, ⟨_, _⟩, rfl, rfl⟩); try refine ⟨sConv, ?_⟩) | refine Dr.two ?_ ?_)
  rename_i gb g
  refine L.step (by decide) (S.call rfl rfl Try.func35 (by kernel_rfl) rfl sPicks (fun E' hE => few30 E' A n c l (hr.sub hE)) ?_)
  rintro e H' ⟨rfl, rfl⟩
  refine ⟨_, rfl, _, sCat, ?_⟩
  repeat (first | refine wG30 ?_ | (refine kG30 ?_; (first | rintro _ _ ⟨rfl, rfl⟩ | rintro _ _ ⟨_, rfl, rfl⟩ | rintro _ _ ⟨_, _, ⟨_, _⟩, rfl, rfl⟩); try refine ⟨sConv, ?_⟩) | refine Dr.two ?_ ?_)
  refine L.conv (((Conv.nil0 reqT none).trans (Conv.nil0 reqT none)).trans Conv.mp0) ?_
  refine L.step (by decide) (S.call rfl rfl Try.func34 (by kernel_rfl) rfl sPicks (fun E' hE => (show Tri _ _ _ _ [gt g none none 0 0 0, mpA none [], own reqT none 0 0 [], bk gb none 0 0 0, own reqT none 0 0 []] _ from run30 E' g gb none none 0 0 0 [] none 0 S30.zero A (min n 80) c _ (hr80.sub hE) h80 h500)) ?_)
  unfold all30
  rintro e H' ⟨m1, A1, n1, c1, B1, d1, r1, l1, rfl, -, -, rfl⟩
  refine ⟨_, rfl, _, sCat, ?_⟩
  repeat (first | refine wG30 ?_ | (refine kG30 ?_; (first | rintro _ _ ⟨rfl, rfl⟩ | rintro _ _ ⟨_, rfl, rfl⟩ | rintro _ _ ⟨_, _, ⟨_, _⟩, rfl, rfl⟩); try refine ⟨sConv, ?_⟩) | refine Dr.two ?_ ?_)
  exact ret1 rfl sRet sConv (rfl)
/-- one request more at most, which is new -/
theorem once30 : Tri Try.prog E 7 #[.slice A n c] [] fun r _ => r = .returned (.bool true) := by
  have hmax : maxLen = 9223372036854775807 := rfl
  have hcap := hr.cap
  have hr80 := hr.upto (k := min n 80) (m := c) (by omega) (by omega) (by omega)
  have h80 : min n 80 ≤ 80 := by omega
  obtain ⟨q, hq⟩ : ∃ q, min n 80 = q := ⟨_, rfl⟩
  rw [hq] at hr80 h80
  revert hr80
  generalize l.take q = xs
  intro hr80
  have hql := hr80.len
  refine tri Try.func7 rfl Try.ntmps7 (by simp) ?_
  repeat (first | refine wG30 ?_ | (refine kG30 ?_; (first | rintro _ _ ⟨rfl, rfl⟩ | rintro _ _ ⟨_, rfl, rfl⟩ | rintro _ _ ⟨_, _, ⟨_, _⟩, rfl, rfl⟩); try refine ⟨sConv, ?_⟩) | refine Dr.two ?_ ?_)
  refine L.step (by decide) (S.call rfl rfl Try.func33 (by kernel_rfl) rfl sPicks (fun E' hE => alive30 E') ?_)
  rintro e H' ⟨rfl, rfl⟩
  refine ⟨_, rfl, _, sCat, ?_⟩
  repeat (first | refine wG30 ?_ | (refine kG30 ?_; (first | rintro _ _ ⟨rfl, rfl⟩ | rintro _ _ ⟨_, rfl, rfl⟩ | rintro _ _ ⟨_, _, ⟨_, _⟩, rfl, rfl⟩); try refine ⟨sConv, ?_⟩) | refine Dr.two ?_ ?_)
  rename_i g
  refine L.step (by decide) (S.call rfl rfl Try.func35 (by kernel_rfl) rfl sPicks (fun E' hE => few30 E' A n c l (hr.sub hE)) ?_)
  rw [hq]
  rintro e H' ⟨rfl, rfl⟩
  refine ⟨_, rfl, _, sCat, ?_⟩
  repeat (first | refine wG30 ?_ | (refine kG30 ?_; (first | rintro _ _ ⟨rfl, rfl⟩ | rintro _ _ ⟨_, rfl, rfl⟩ | rintro _ _ ⟨_, _, ⟨_, _⟩, rfl, rfl⟩); try refine ⟨sConv, ?_⟩) | refine Dr.two ?_ ?_)
  refine C.loop (X := Rs30) (fun x => [(0, .slice A q c), (3, .pointer (some ⟨g, 0, none⟩)), (4, .int .i64 x.n), (5, .int .i64 x.i)])
    (fun x => [gt g x.m x.A x.n x.c x.r, mpA x.m (x.l.map Req.key), own reqT x.A x.n x.c x.l]) (fun x => G30 x.m x.n x.c x.r x.l ∧ x.i ≤ q ∧ x.n ≤ x.i) (fun x => q - x.i) ⟨0, none, none, 0, 0, 0, [], none, 0⟩ sHolds (by show Conv _ _ [gt g none none 0 0 0, mpA none [], own reqT none 0 0 []]; exact (Conv.nil0 reqT none).trans (Conv.mp0.trans sConv)) ⟨G30.zero 0 (by decide), Nat.zero_le _, Nat.le_refl _⟩ ?_
  rintro ⟨i, m1, A1, n1, c1, r1, l1, B1, d1⟩ F ⟨hG, hi, hn1⟩
  dsimp only at hG hi hn1 ⊢
  by_cases hlt : i < q
  · obtain ⟨x, hx⟩ : ∃ x, xs[i]? = some x := ⟨_, List.getElem?_eq_getElem (by omega)⟩
    have hl1 : n1 ≤ 1000 := by omega
    have hw : IntKind.i64.wrap ((n1 : Int) + 1) = ((n1 + 1 : Nat) : Int) := by rw [IntWalk.i64_in _ (by omega)]; omega
    obtain ⟨hr1, hr2⟩ := hG.hr
    by_cases hk : x.kind = 2
    · have hr' : 0 ≤ (if x.n < 0 then 0 else if 255 < x.n then 255 else x.n) ∧ (if x.n < 0 then 0 else if 255 < x.n then 255 else x.n) ≤ 255 := by
        split
        · omega
        · split <;> omega
      repeat (first | refine wG30 ?_ | (refine kG30 ?_; (first | rintro _ _ ⟨rfl, rfl⟩ | rintro _ _ ⟨_, rfl, rfl⟩ | rintro _ _ ⟨_, _, ⟨_, _⟩, rfl, rfl⟩); try refine ⟨sConv, ?_⟩) | refine Dr.two ?_ ?_)
      refine L.step (by decide) (S.call rfl rfl Try.func36 (by kernel_rfl) rfl sPicks (fun E' hE => grefuse E' g m1 A1 n1 c1 r1 x.n) ?_)
      generalize (if x.n < 0 then 0 else if 255 < x.n then 255 else x.n) = r2 at hr'
      rintro e H' ⟨rfl, rfl⟩
      refine ⟨_, rfl, _, sCat, ?_⟩
      repeat (first | refine wG30 ?_ | (refine kG30 ?_; (first | rintro _ _ ⟨rfl, rfl⟩ | rintro _ _ ⟨_, rfl, rfl⟩ | rintro _ _ ⟨_, _, ⟨_, _⟩, rfl, rfl⟩); try refine ⟨sConv, ?_⟩) | refine Dr.two ?_ ?_)
      refine L.step (by decide) (S.call rfl rfl Try.func38 (by kernel_rfl) rfl sPicks (fun E' hE => gapplied E' g m1 A1 n1 c1 r2 l1 sRd hl1) ?_)
      rintro e H' ⟨A2, c2, rfl, hc2, rfl⟩
      refine ⟨_, rfl, _, sCat, ?_⟩
      repeat (first | refine wG30 ?_ | (refine kG30 ?_; (first | rintro _ _ ⟨rfl, rfl⟩ | rintro _ _ ⟨_, rfl, rfl⟩ | rintro _ _ ⟨_, _, ⟨_, _⟩, rfl, rfl⟩); try refine ⟨sConv, ?_⟩) | refine Dr.two ?_ ?_)
      refine C.regionA 100000 (.one 0 false (.one 1 false (.one 2 false (.one 3 false (.one 4 false (.one 5 false (.one 6 false (.one 7 false (.one 8 false (.one 9 false (.one 10 false (.one 11 false (.one 12 false (.one 13 false (.one 14 false (.one 15 false (.one 16 false (.one 17 false (.one 18 false (.one 19 false (.one 20 false (.one 21 false (.one 22 false (.one 23 false (.one 24 false (.one 25 false (.one 26 false (.one 27 false (.one 28 false (.one 29 false (.one 30 false (.one 31 false (.one 32 false (.one 33 false (.one 34 false (.one 35 false (.one 36 false (.one 37 false (.one 38 false (.one 39 false (.one 40 false (.one 41 false (.one 42 false (.one 43 false (.one 44 true (.one 45 false (.one 46 false (.one 47 false .nil)))))))))))))))))))))))))))))))))))))))))))))))) _ (by kernel_rfl) (by kernel_rfl) Conv.refl ?_
      repeat (first | refine wG30 ?_ | (refine kG30 ?_; (first | rintro _ _ ⟨rfl, rfl⟩ | rintro _ _ ⟨_, rfl, rfl⟩ | rintro _ _ ⟨_, _, ⟨_, _⟩, rfl, rfl⟩); try refine ⟨sConv, ?_⟩) | refine Dr.two ?_ ?_)
      exact ⟨⟨i + 1, m1, A1, n1, c1, r2, l1, none, 0⟩, sHolds, sConv, ⟨⟨hG.hn, hG.hc, hG.hm, hr'⟩, by dsimp only; omega, by dsimp only; omega⟩, by dsimp only; omega⟩
    by_cases hq : x.q.key ∈ l1.map Req.key
    · skip
      repeat (first | refine wG30 ?_ | (refine kG30 ?_; (first | rintro _ _ ⟨rfl, rfl⟩ | rintro _ _ ⟨_, rfl, rfl⟩ | rintro _ _ ⟨_, _, ⟨_, _⟩, rfl, rfl⟩); try refine ⟨sConv, ?_⟩) | refine Dr.two ?_ ?_)
      refine L.step (by decide) (S.call rfl rfl Try.func37 (by kernel_rfl) rfl sPicks (fun E' hE => gdo_yes E' g m1 A1 n1 c1 r1 l1 x.q hq) ?_)
      unfold gst
      rintro e H' ⟨rfl, rfl⟩
      refine ⟨_, rfl, _, sCat, ?_⟩
      repeat (first | refine wG30 ?_ | (refine kG30 ?_; (first | rintro _ _ ⟨rfl, rfl⟩ | rintro _ _ ⟨_, rfl, rfl⟩ | rintro _ _ ⟨_, _, ⟨_, _⟩, rfl, rfl⟩); try refine ⟨sConv, ?_⟩) | refine Dr.two ?_ ?_)
      refine L.step (by decide) (S.call rfl rfl Try.func38 (by kernel_rfl) rfl sPicks (fun E' hE => gapplied E' g m1 A1 n1 c1 r1 l1 sRd hl1) ?_)
      rintro e H' ⟨A2, c2, rfl, hc2, rfl⟩
      refine ⟨_, rfl, _, sCat, ?_⟩
      repeat (first | refine wG30 ?_ | (refine kG30 ?_; (first | rintro _ _ ⟨rfl, rfl⟩ | rintro _ _ ⟨_, rfl, rfl⟩ | rintro _ _ ⟨_, _, ⟨_, _⟩, rfl, rfl⟩); try refine ⟨sConv, ?_⟩) | refine Dr.two ?_ ?_)
      refine C.regionA 100000 (.one 0 false (.one 1 false (.one 2 false (.one 3 false (.one 4 false (.one 5 false (.one 6 false (.one 7 false (.one 8 false (.one 9 false (.one 10 false (.one 11 false (.one 12 false (.one 13 false (.one 14 false (.one 15 false (.one 16 false (.one 17 false (.one 18 false (.one 19 false (.one 20 false (.one 21 false (.one 22 false (.one 23 false (.one 24 false (.one 25 false (.one 26 false (.one 27 false (.one 28 false (.one 29 false (.one 30 false (.one 31 false (.one 32 false (.one 33 false (.one 34 false (.one 35 false (.one 36 false (.one 37 false (.one 38 false (.one 39 false (.one 40 false (.one 41 false (.one 42 false (.one 43 false (.one 44 true (.one 45 false (.one 46 false (.one 47 false .nil)))))))))))))))))))))))))))))))))))))))))))))))) _ (by kernel_rfl) (by kernel_rfl) Conv.refl ?_
      repeat (first | refine wG30 ?_ | (refine kG30 ?_; (first | rintro _ _ ⟨rfl, rfl⟩ | rintro _ _ ⟨_, rfl, rfl⟩ | rintro _ _ ⟨_, _, ⟨_, _⟩, rfl, rfl⟩); try refine ⟨sConv, ?_⟩) | refine Dr.two ?_ ?_)
      exact ⟨⟨i + 1, m1, A1, n1, c1, r1, l1, none, 0⟩, sHolds, sConv, ⟨⟨hG.hn, hG.hc, hG.hm, hG.hr⟩, by dsimp only; omega, by dsimp only; omega⟩, by dsimp only; omega⟩
    by_cases hr0 : 0 < r1
    · have hr01 : 0 ≤ r1 - 1 ∧ r1 - 1 ≤ 255 := by omega
      repeat (first | refine wG30 ?_ | (refine kG30 ?_; (first | rintro _ _ ⟨rfl, rfl⟩ | rintro _ _ ⟨_, rfl, rfl⟩ | rintro _ _ ⟨_, _, ⟨_, _⟩, rfl, rfl⟩); try refine ⟨sConv, ?_⟩) | refine Dr.two ?_ ?_)
      refine L.step (by decide) (S.call rfl rfl Try.func37 (by kernel_rfl) rfl sPicks (fun E' hE => gdo_no E' g m1 A1 n1 c1 r1 l1 x.q hq ⟨hr0, hr2⟩) ?_)
      unfold gst
      rintro e H' ⟨rfl, rfl⟩
      refine ⟨_, rfl, _, sCat, ?_⟩
      repeat (first | refine wG30 ?_ | (refine kG30 ?_; (first | rintro _ _ ⟨rfl, rfl⟩ | rintro _ _ ⟨_, rfl, rfl⟩ | rintro _ _ ⟨_, _, ⟨_, _⟩, rfl, rfl⟩); try refine ⟨sConv, ?_⟩) | refine Dr.two ?_ ?_)
      refine L.step (by decide) (S.call rfl rfl Try.func38 (by kernel_rfl) rfl sPicks (fun E' hE => gapplied E' g m1 A1 n1 c1 (r1 - 1) l1 sRd hl1) ?_)
      rintro e H' ⟨A2, c2, rfl, hc2, rfl⟩
      refine ⟨_, rfl, _, sCat, ?_⟩
      repeat (first | refine wG30 ?_ | (refine kG30 ?_; (first | rintro _ _ ⟨rfl, rfl⟩ | rintro _ _ ⟨_, rfl, rfl⟩ | rintro _ _ ⟨_, _, ⟨_, _⟩, rfl, rfl⟩); try refine ⟨sConv, ?_⟩) | refine Dr.two ?_ ?_)
      refine C.regionA 100000 (.one 0 false (.one 1 false (.one 2 false (.one 3 false (.one 4 false (.one 5 false (.one 6 false (.one 7 false (.one 8 false (.one 9 false (.one 10 false (.one 11 false (.one 12 false (.one 13 false (.one 14 false (.one 15 false (.one 16 false (.one 17 false (.one 18 false (.one 19 false (.one 20 false (.one 21 false (.one 22 false (.one 23 false (.one 24 false (.one 25 false (.one 26 false (.one 27 false (.one 28 false (.one 29 false (.one 30 false (.one 31 false (.one 32 false (.one 33 false (.one 34 false (.one 35 false (.one 36 false (.one 37 false (.one 38 false (.one 39 false (.one 40 false (.one 41 false (.one 42 false (.one 43 false (.one 44 true (.one 45 false (.one 46 false (.one 47 false .nil)))))))))))))))))))))))))))))))))))))))))))))))) _ (by kernel_rfl) (by kernel_rfl) Conv.refl ?_
      repeat (first | refine wG30 ?_ | (refine kG30 ?_; (first | rintro _ _ ⟨rfl, rfl⟩ | rintro _ _ ⟨_, rfl, rfl⟩ | rintro _ _ ⟨_, _, ⟨_, _⟩, rfl, rfl⟩); try refine ⟨sConv, ?_⟩) | refine Dr.two ?_ ?_)
      exact ⟨⟨i + 1, m1, A1, n1, c1, (r1 - 1), l1, none, 0⟩, sHolds, sConv, ⟨⟨hG.hn, hG.hc, hG.hm, hr01⟩, by dsimp only; omega, by dsimp only; omega⟩, by dsimp only; omega⟩
    have hr00 : r1 ≤ 0 := by omega
    have hdq : decide (x.q.key ∈ l1.map Req.key) = false := decide_eq_false hq
    have hat : (l1 ++ [x.q])[n1]? = some x.q := by rw [hG.hn]; simp
    have htk : (l1 ++ [x.q]).take n1 = l1 := by rw [hG.hn, List.take_left' rfl]
    have hup : ∀ E' A2 c2, Rd E' reqT A2 (n1 + 1) c2 (l1 ++ [x.q]) → Rd E' reqT A2 n1 c2 l1 := fun E' A2 c2 h => by
      have hc := h.cap
      have := h.upto (k := n1) (m := c2) (by omega) (by omega) (by omega)
      rwa [htk] at this
    have hd := rq_eta x.q x.q
    have hne : (!decide ((⟨⟨⟨x.q.key.id.rep, x.q.key.id.seq⟩, x.q.key.ord, x.q.key.undo⟩, ⟨x.q.what.kind, x.q.what.a, x.q.what.n, ⟨x.q.what.ref.rep, x.q.what.ref.seq⟩⟩⟩ : Req) = ⟨⟨⟨x.q.key.id.rep, x.q.key.id.seq⟩, x.q.key.ord, x.q.key.undo⟩, ⟨x.q.what.kind, x.q.what.a, x.q.what.n, ⟨x.q.what.ref.rep, x.q.what.ref.seq⟩⟩⟩)) = false := by rw [decide_eq_true rfl]; rfl
    have hl2 : n1 + 1 ≤ 1000 := by omega
    repeat (first | refine wG30 ?_ | (refine kG30 ?_; (first | rintro _ _ ⟨rfl, rfl⟩ | rintro _ _ ⟨_, rfl, rfl⟩ | rintro _ _ ⟨_, _, ⟨_, _⟩, rfl, rfl⟩); try refine ⟨sConv, ?_⟩) | refine Dr.two ?_ ?_)
    refine L.step (by decide) (S.call rfl rfl Try.func37 (by kernel_rfl) rfl sPicks (fun E' hE => gdo_new E' g m1 A1 n1 c1 r1 l1 hG x.q hq hr00 hl1) ?_)
    unfold gst
    rintro e H' ⟨m2, A2, c2, rfl, hG2, rfl⟩
    refine ⟨_, rfl, _, sCat, ?_⟩
    repeat (first | refine wG30 ?_ | (refine kG30 ?_; (first | rintro _ _ ⟨rfl, rfl⟩ | rintro _ _ ⟨_, rfl, rfl⟩ | rintro _ _ ⟨_, _, ⟨_, _⟩, rfl, rfl⟩); try refine ⟨sConv, ?_⟩) | refine Dr.two ?_ ?_)
    refine L.step (by decide) (S.call rfl rfl Try.func38 (by kernel_rfl) rfl sPicks (fun E' hE => gapplied E' g m2 A2 (n1 + 1) c2 r1 (l1 ++ [x.q]) sRd hl2) ?_)
    rintro e H' ⟨A3, c3, rfl, hc3, rfl⟩
    refine ⟨_, rfl, _, sCat, ?_⟩
    repeat (first | refine wG30 ?_ | (refine kG30 ?_; (first | rintro _ _ ⟨rfl, rfl⟩ | rintro _ _ ⟨_, rfl, rfl⟩ | rintro _ _ ⟨_, _, ⟨_, _⟩, rfl, rfl⟩); try refine ⟨sConv, ?_⟩) | refine Dr.two ?_ ?_)
    refine C.regionA 100000 (.one 0 false (.one 1 false (.one 2 false (.one 3 false (.one 4 false (.one 5 false (.one 6 false (.one 7 false (.one 8 false (.one 9 false (.one 10 false (.one 11 false (.one 12 false (.one 13 false (.one 14 false (.one 15 false (.one 16 false (.one 17 false (.one 18 false (.one 19 false (.one 20 false (.one 21 false (.one 22 false (.one 23 false (.one 24 false (.one 25 false (.one 26 false (.one 27 false (.one 28 false (.one 29 false (.one 30 false (.one 31 false (.one 32 false (.one 33 false (.one 34 false (.one 35 false (.one 36 false (.one 37 false (.one 38 false (.one 39 false (.one 40 false (.one 41 false (.one 42 false (.one 43 false (.one 44 true (.one 45 false (.one 46 false (.one 47 false .nil)))))))))))))))))))))))))))))))))))))))))))))))) _ (by kernel_rfl) (by kernel_rfl) Conv.refl ?_
    repeat (first | refine wG30 ?_ | (refine kG30 ?_; (first | rintro _ _ ⟨rfl, rfl⟩ | rintro _ _ ⟨_, rfl, rfl⟩ | rintro _ _ ⟨_, _, ⟨_, _⟩, rfl, rfl⟩); try refine ⟨sConv, ?_⟩) | refine Dr.two ?_ ?_)
    refine Dr.go rfl (by rintro k ⟨⟩ <;> decide) sGon (S.call rfl rfl Try.func39 (by kernel_rfl) rfl sPicks (fun E' hE => has30 E' A3 n1 c3 l1 x.q.key (hup E' A3 c3 sRd)) ?_)
    rw [hdq]
    rintro e H' ⟨rfl, rfl⟩
    refine ⟨_, rfl, _, sCat, sConv, ?_⟩
    repeat (first | refine wG30 ?_ | (refine kG30 ?_; (first | rintro _ _ ⟨rfl, rfl⟩ | rintro _ _ ⟨_, rfl, rfl⟩ | rintro _ _ ⟨_, _, ⟨_, _⟩, rfl, rfl⟩); try refine ⟨sConv, ?_⟩) | refine Dr.two ?_ ?_)
    exact ⟨⟨i + 1, m2, A2, n1 + 1, c2, r1, l1 ++ [x.q], none, 0⟩, sHolds, sConv, ⟨hG2, by dsimp only; omega, by dsimp only; omega⟩, by dsimp only; omega⟩
  obtain rfl : i = q := by omega
  repeat (first | refine wG30 ?_ | (refine kG30 ?_; (first | rintro _ _ ⟨rfl, rfl⟩ | rintro _ _ ⟨_, rfl, rfl⟩ | rintro _ _ ⟨_, _, ⟨_, _⟩, rfl, rfl⟩); try refine ⟨sConv, ?_⟩) | refine Dr.two ?_ ?_)
  exact ret1 rfl sRet sConv (rfl)
end
end Go.Proofs.Ytbnfpmdieiknmaa.Sep
