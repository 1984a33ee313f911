/- the law of the gate: all calls, and what is told; alive. By parts of memory. -/
import Derived.Test.YtbnfpmdieiknmaaGate4
namespace Go.Proofs.Ytbnfpmdieiknmaa.Sep
open Go.RowKit Go.Proofs.Ytbnfpmdieiknmaa.Reg
open Go.Proofs.Ytbnfpmdieiknmaa.Mem hiding Rd Own
-- types: reqT op30T
-- recs: idnT_rec effT_rec keyT_rec reqT_rec op30T_rec gate_rec book_rec
-- eqs: idnT_eqa effT_eqa keyT_eqa reqT_eqa
-- funcs
-- maps
set_option maxRecDepth 100000
set_option maxHeartbeats 8000000
structure Rs30 where
  i : Nat
  m : Option Nat
  A : Option Addr
  n : Nat
  c : Nat
  r : Int
  l : List Req
  B : Option Addr
  d : Nat
section
variable (E : Env) (g gb : Nat) (m : Option Nat) (A : Option Addr) (n c : Nat) (r : Int) (l : List Req) (B : Option Addr) (d : Nat)
theorem net_take {l : List Req} {i : Nat} {x : Req} (hx : l[i]? = some x) : (l.take (i + 1)).filter (fun q => !lostP (l.map Req.key) q) = (l.take i).filter (fun q => !lostP (l.map Req.key) q) ++ if lostP (l.map Req.key) x then [] else [x] := by
  rw [filter_take_succ hx]
  cases lostP (l.map Req.key) x <;> rfl
theorem run30 (hs : S30 m n c r l d) (O : Option Addr) (q co : Nat) (xs : List Op30) (hr : Rd E op30T O q co xs) (hq : q ≤ 80) (hn : n ≤ 500) :
    Tri Try.prog E 34 #[.pointer (some ⟨gb, 0, none⟩), .pointer (some ⟨g, 0, none⟩), .slice O q co] (all30 g gb m A n c r l B d) (fun e H' => ∃ m' A' n' c' B' d' r' l', e = .returned (.bool true) ∧ S30 m' n' c' r' l' d' ∧ n' ≤ n + q ∧ H' = all30 g gb m' A' n' c' r' l' B' d') := by
  have hmax : maxLen = 9223372036854775807 := rfl
  have hql := hr.len
  unfold all30
  refine tri Try.func34 rfl Try.ntmps34 (by simp) ?_
  repeat (first | refine wG30 ?_ | (refine kG30 ?_; (first | rintro _ _ ⟨rfl, rfl⟩ | rintro _ _ ⟨_, rfl, rfl⟩ | rintro _ _ ⟨_, _, ⟨_, _⟩, rfl, rfl⟩); try refine ⟨sConv, ?_⟩) | refine Dr.two ?_ ?_)
  refine C.loop (X := Rs30) (fun x => [(0, .pointer (some ⟨gb, 0, none⟩)), (1, .pointer (some ⟨g, 0, none⟩)), (2, .slice O q co), (7, .int .i64 x.i)])
    (fun x => [gt g x.m x.A x.n x.c x.r, mpA x.m (x.l.map Req.key), own reqT x.A x.n x.c x.l, bk gb x.B x.n x.d x.r, own reqT x.B x.n x.d x.l]) (fun x => S30 x.m x.n x.c x.r x.l x.d ∧ x.i ≤ q ∧ x.n ≤ n + x.i) (fun x => q - x.i) ⟨0, m, A, n, c, r, l, B, d⟩ sHolds sConv ⟨hs, Nat.zero_le _, Nat.le_refl _⟩ ?_
  rintro ⟨i, m1, A1, n1, c1, r1, l1, B1, d1⟩ F ⟨hs1, hi, hn1⟩
  dsimp only at hs1 hi hn1 ⊢
  by_cases hlt : i < q
  · obtain ⟨x, hx⟩ : ∃ x, xs[i]? = some x := ⟨_, List.getElem?_eq_getElem (by omega)⟩
    have hl1 : n1 ≤ 1000 := by omega
    repeat (first | refine wG30 ?_ | (refine kG30 ?_; (first | rintro _ _ ⟨rfl, rfl⟩ | rintro _ _ ⟨_, rfl, rfl⟩ | rintro _ _ ⟨_, _, ⟨_, _⟩, rfl, rfl⟩); try refine ⟨sConv, ?_⟩) | refine Dr.two ?_ ?_)
    refine C.regionA 100000 (.one 0 false (.one 1 false (.one 2 false (.one 3 false (.one 4 false (.one 5 false (.one 6 true (.one 7 false (.one 8 false (.one 9 false (.one 11 false (.one 12 false (.one 13 false (.one 14 false (.one 10 true (.one 15 false (.one 16 false .nil))))))))))))))))) ([]) (by kernel_rfl) (by kernel_rfl) sConv ?_
    repeat (first | refine wG30 ?_ | (refine kG30 ?_; (first | rintro _ _ ⟨rfl, rfl⟩ | rintro _ _ ⟨_, rfl, rfl⟩ | rintro _ _ ⟨_, _, ⟨_, _⟩, rfl, rfl⟩); try refine ⟨sConv, ?_⟩) | refine Dr.two ?_ ?_)
    refine Dr.go rfl (by rintro k ⟨⟩ <;> decide) sGon (S.call rfl rfl Try.func67 (by kernel_rfl) rfl sPicks (fun E' hE => step30 E' g gb m1 A1 n1 c1 r1 l1 B1 d1 hs1 x hl1) ?_)
    unfold Step30 all30
    rintro e H' ⟨m2, A2, n2, c2, B2, d2, r2, l2, rfl, hs2, hn2, rfl⟩
    refine ⟨_, rfl, _, sCat, sConv, ?_⟩
    refine Dr.more (Hk' := ([bk gb B2 n2 d2 r2])) sConv sConv ?_
    repeat (first | refine wG30 ?_ | (refine kG30 ?_; (first | rintro _ _ ⟨rfl, rfl⟩ | rintro _ _ ⟨_, rfl, rfl⟩ | rintro _ _ ⟨_, _, ⟨_, _⟩, rfl, rfl⟩); try refine ⟨sConv, ?_⟩) | refine Dr.two ?_ ?_)
    refine Dr.go rfl (by rintro k ⟨⟩ <;> decide) sGon (S.call rfl rfl Try.func51 (by kernel_rfl) rfl sPicks (fun E' hE => grefusing E' g m2 A2 n2 c2 r2) ?_)
    rintro e H' ⟨rfl, rfl⟩
    refine ⟨_, rfl, _, sCat, sConv, ?_⟩
    repeat (first | refine wG30 ?_ | (refine kG30 ?_; (first | rintro _ _ ⟨rfl, rfl⟩ | rintro _ _ ⟨_, rfl, rfl⟩ | rintro _ _ ⟨_, _, ⟨_, _⟩, rfl, rfl⟩); try refine ⟨sConv, ?_⟩) | refine Dr.two ?_ ?_)
    exact ⟨⟨i + 1, m2, A2, n2, c2, r2, l2, B2, d2⟩, sHolds, sConv, ⟨hs2, by dsimp only; omega, by dsimp only; omega⟩, by dsimp only; omega⟩
  obtain rfl : i = q := by omega
  have hl1 : n1 ≤ 1000 := by omega
  have hnl := hs1.g.hn
  have hcc := hs1.g.hc
  have hn1m : n1 ≤ maxLen := by omega
  repeat (first | refine wG30 ?_ | (refine kG30 ?_; (first | rintro _ _ ⟨rfl, rfl⟩ | rintro _ _ ⟨_, rfl, rfl⟩ | rintro _ _ ⟨_, _, ⟨_, _⟩, rfl, rfl⟩); try refine ⟨sConv, ?_⟩) | refine Dr.two ?_ ?_)
  refine C.loop (X := Nat × Option Addr × Nat × Nat) (fun x => [(0, .pointer (some ⟨gb, 0, none⟩)), (1, .pointer (some ⟨g, 0, none⟩)), (8, .slice x.2.1 x.2.2.1 x.2.2.2), (9, .int .i64 x.1)])
    (fun x => [own reqT x.2.1 x.2.2.1 x.2.2.2 ((l1.take x.1).filter fun q => !lostP (l1.map Req.key) q), gt g m1 A1 n1 c1 r1, mpA m1 (l1.map Req.key), own reqT A1 n1 c1 l1, bk gb B1 n1 d1 r1, own reqT B1 n1 d1 l1])
    (fun x => x.1 ≤ n1 ∧ x.2.2.1 ≤ x.1 ∧ x.2.2.1 = ((l1.take x.1).filter fun q => !lostP (l1.map Req.key) q).length) (fun x => n1 - x.1) (0, none, 0, 0) sHolds ((Conv.nil0 reqT none).trans sConv) ⟨Nat.zero_le _, Nat.le_refl _, rfl⟩ ?_
  rintro ⟨i, D, dn, dc⟩ F ⟨hi2, hdn, hdl⟩
  dsimp only at hi2 hdn hdl ⊢
  by_cases hlt : i < n1
  · obtain ⟨x, hx⟩ : ∃ x, l1[i]? = some x := ⟨_, List.getElem?_eq_getElem (by omega)⟩
    have hnt := net_take hx
    rcases Bool.eq_false_or_eq_true x.key.undo with hu | hu
    · have hlo : lostP (l1.map Req.key) x = true := by unfold lostP; rw [hu]; rfl
      have hun : (!x.key.undo) = false := by rw [hu]; rfl
      rw [hlo, if_pos rfl, List.append_nil] at hnt
      repeat (first | refine wG30 ?_ | (refine kG30 ?_; (first | rintro _ _ ⟨rfl, rfl⟩ | rintro _ _ ⟨_, rfl, rfl⟩ | rintro _ _ ⟨_, _, ⟨_, _⟩, rfl, rfl⟩); try refine ⟨sConv, ?_⟩) | refine Dr.two ?_ ?_)
      refine C.regionA 100000 (.one 0 false (.one 1 false (.one 2 false (.one 3 false (.one 4 false (.one 5 false (.one 6 false (.one 7 false (.one 8 false (.one 9 false (.one 10 false (.one 11 false (.one 12 false (.one 13 false (.one 14 false (.one 15 false (.one 16 false (.one 17 false (.one 18 false (.one 19 false (.one 20 false (.one 21 false (.one 22 false (.one 23 true (.one 24 true (.one 25 false (.one 26 false .nil))))))))))))))))))))))))))) _ (by kernel_rfl) (by kernel_rfl) Conv.refl ?_
      repeat (first | refine wG30 ?_ | (refine kG30 ?_; (first | rintro _ _ ⟨rfl, rfl⟩ | rintro _ _ ⟨_, rfl, rfl⟩ | rintro _ _ ⟨_, _, ⟨_, _⟩, rfl, rfl⟩); try refine ⟨sConv, ?_⟩) | refine Dr.two ?_ ?_)
      refine ⟨(i + 1, D, dn, dc), sHolds, ?_, ⟨by dsimp only; omega, by dsimp only; omega, by dsimp only; rw [hnt]; exact hdl⟩, by dsimp only; omega⟩
      dsimp only
      rw [hnt]
      exact sConv
    · have hun : (!x.key.undo) = true := by rw [hu]; rfl
      by_cases ho : x.key.other ∈ l1.map Req.key
      · have hlo : lostP (l1.map Req.key) x = true := by unfold lostP; rw [hu, decide_eq_true ho]; rfl
        have hdo : decide (x.key.other ∈ l1.map Req.key) = true := decide_eq_true ho
        rw [hlo, if_pos rfl, List.append_nil] at hnt
        repeat (first | refine wG30 ?_ | (refine kG30 ?_; (first | rintro _ _ ⟨rfl, rfl⟩ | rintro _ _ ⟨_, rfl, rfl⟩ | rintro _ _ ⟨_, _, ⟨_, _⟩, rfl, rfl⟩); try refine ⟨sConv, ?_⟩) | refine Dr.two ?_ ?_)
        refine C.regionA 100000 (.one 0 false (.one 1 false (.one 2 false (.one 3 false (.one 4 false (.one 5 false (.one 6 false (.one 7 false (.one 8 false (.one 9 false (.one 10 false (.one 11 false (.one 12 false (.one 13 false (.one 14 false (.one 15 false (.one 16 false (.one 17 false (.one 18 false (.one 19 false (.one 20 false (.one 21 false (.one 22 false (.one 23 true (.one 24 true (.one 25 false (.one 26 false .nil))))))))))))))))))))))))))) _ (by kernel_rfl) (by kernel_rfl) Conv.refl ?_
        repeat (first | refine wG30 ?_ | (refine kG30 ?_; (first | rintro _ _ ⟨rfl, rfl⟩ | rintro _ _ ⟨_, rfl, rfl⟩ | rintro _ _ ⟨_, _, ⟨_, _⟩, rfl, rfl⟩); try refine ⟨sConv, ?_⟩) | refine Dr.two ?_ ?_)
        refine Dr.go rfl (by rintro k ⟨⟩ <;> decide) sGon (S.call rfl rfl Try.func68 (by kernel_rfl) rfl sPicks (fun E' hE => rother30 E' x.key) ?_)
        rintro e H' ⟨rfl, rfl⟩
        refine ⟨_, rfl, _, sCat, sConv, ?_⟩
        repeat (first | refine wG30 ?_ | (refine kG30 ?_; (first | rintro _ _ ⟨rfl, rfl⟩ | rintro _ _ ⟨_, rfl, rfl⟩ | rintro _ _ ⟨_, _, ⟨_, _⟩, rfl, rfl⟩); try refine ⟨sConv, ?_⟩) | refine Dr.two ?_ ?_)
        refine Dr.go rfl (by rintro k ⟨⟩ <;> decide) sGon (S.call rfl rfl Try.func39 (by kernel_rfl) rfl sPicks (fun E' hE => has30 E' B1 n1 d1 l1 x.key.other sRd) ?_)
        rw [hdo]
        rintro e H' ⟨rfl, rfl⟩
        refine ⟨_, rfl, _, sCat, sConv, ?_⟩
        repeat (first | refine wG30 ?_ | (refine kG30 ?_; (first | rintro _ _ ⟨rfl, rfl⟩ | rintro _ _ ⟨_, rfl, rfl⟩ | rintro _ _ ⟨_, _, ⟨_, _⟩, rfl, rfl⟩); try refine ⟨sConv, ?_⟩) | refine Dr.two ?_ ?_)
        refine ⟨(i + 1, D, dn, dc), sHolds, ?_, ⟨by dsimp only; omega, by dsimp only; omega, by dsimp only; rw [hnt]; exact hdl⟩, by dsimp only; omega⟩
        dsimp only
        rw [hnt]
        exact sConv
      · have hlo : lostP (l1.map Req.key) x = false := by unfold lostP; rw [hu, decide_eq_false ho]; rfl
        have hdo : decide (x.key.other ∈ l1.map Req.key) = false := decide_eq_false ho
        rw [hlo] at hnt
        simp only [Bool.false_eq_true, if_false] at hnt
        repeat (first | refine wG30 ?_ | (refine kG30 ?_; (first | rintro _ _ ⟨rfl, rfl⟩ | rintro _ _ ⟨_, rfl, rfl⟩ | rintro _ _ ⟨_, _, ⟨_, _⟩, rfl, rfl⟩); try refine ⟨sConv, ?_⟩) | refine Dr.two ?_ ?_)
        refine C.regionA 100000 (.one 0 false (.one 1 false (.one 2 false (.one 3 false (.one 4 false (.one 5 false (.one 6 false (.one 7 false (.one 8 false (.one 9 false (.one 10 false (.one 11 false (.one 12 false (.one 13 false (.one 14 false (.one 15 false (.one 16 false (.one 17 false (.one 18 false (.one 19 false (.one 20 false (.one 21 false (.one 22 false (.one 23 true (.one 24 true (.one 25 false (.one 26 false .nil))))))))))))))))))))))))))) _ (by kernel_rfl) (by kernel_rfl) Conv.refl ?_
        repeat (first | refine wG30 ?_ | (refine kG30 ?_; (first | rintro _ _ ⟨rfl, rfl⟩ | rintro _ _ ⟨_, rfl, rfl⟩ | rintro _ _ ⟨_, _, ⟨_, _⟩, rfl, rfl⟩); try refine ⟨sConv, ?_⟩) | refine Dr.two ?_ ?_)
        refine Dr.go rfl (by rintro k ⟨⟩ <;> decide) sGon (S.call rfl rfl Try.func68 (by kernel_rfl) rfl sPicks (fun E' hE => rother30 E' x.key) ?_)
        rintro e H' ⟨rfl, rfl⟩
        refine ⟨_, rfl, _, sCat, sConv, ?_⟩
        repeat (first | refine wG30 ?_ | (refine kG30 ?_; (first | rintro _ _ ⟨rfl, rfl⟩ | rintro _ _ ⟨_, rfl, rfl⟩ | rintro _ _ ⟨_, _, ⟨_, _⟩, rfl, rfl⟩); try refine ⟨sConv, ?_⟩) | refine Dr.two ?_ ?_)
        refine Dr.go rfl (by rintro k ⟨⟩ <;> decide) sGon (S.call rfl rfl Try.func39 (by kernel_rfl) rfl sPicks (fun E' hE => has30 E' B1 n1 d1 l1 x.key.other sRd) ?_)
        rw [hdo]
        rintro e H' ⟨rfl, rfl⟩
        refine ⟨_, rfl, _, sCat, sConv, ?_⟩
        repeat (first | refine wG30 ?_ | (refine kG30 ?_; (first | rintro _ _ ⟨rfl, rfl⟩ | rintro _ _ ⟨_, rfl, rfl⟩ | rintro _ _ ⟨_, _, ⟨_, _⟩, rfl, rfl⟩); try refine ⟨sConv, ?_⟩) | refine Dr.two ?_ ?_)
        rename_i A9 c9 k1 k2
        refine ⟨(i + 1, A9, dn + 1, c9), sHolds, ?_, ⟨by dsimp only; omega, by dsimp only; omega, by dsimp only; rw [hnt, List.length_append, ← hdl]; rfl⟩, by dsimp only; omega⟩
        dsimp only
        rw [hnt]
        exact sConv
  obtain rfl : i = n1 := by omega
  have hfin : ((l1.take i).filter fun q => !lostP (l1.map Req.key) q) = netL l1 := by rw [List.take_of_length_le (by omega)]
  rw [hfin]
  repeat (first | refine wG30 ?_ | (refine kG30 ?_; (first | rintro _ _ ⟨rfl, rfl⟩ | rintro _ _ ⟨_, rfl, rfl⟩ | rintro _ _ ⟨_, _, ⟨_, _⟩, rfl, rfl⟩); try refine ⟨sConv, ?_⟩) | refine Dr.two ?_ ?_)
  refine C.regionA 100000 (.one 0 false (.one 2 false (.one 3 false (.one 4 false (.one 5 false (.one 1 true (.one 6 true (.one 7 false (.one 8 false (.one 10 false (.one 9 true (.one 11 true (.one 12 false (.one 13 false .nil)))))))))))))) ([bk gb B1 i d1 r1]) (by kernel_rfl) (by kernel_rfl) sConv ?_
  repeat (first | refine wG30 ?_ | (refine kG30 ?_; (first | rintro _ _ ⟨rfl, rfl⟩ | rintro _ _ ⟨_, rfl, rfl⟩ | rintro _ _ ⟨_, _, ⟨_, _⟩, rfl, rfl⟩); try refine ⟨sConv, ?_⟩) | refine Dr.two ?_ ?_)
  refine Dr.go rfl (by rintro k ⟨⟩ <;> decide) sGon (S.call rfl rfl Try.func38 (by kernel_rfl) rfl sPicks (fun E' hE => gapplied E' g m1 A1 i c1 r1 l1 sRd hl1) ?_)
  rintro e H' ⟨A', c', rfl, hc', rfl⟩
  refine ⟨_, rfl, _, sCat, sConv, ?_⟩
  repeat (first | refine wG30 ?_ | (refine kG30 ?_; (first | rintro _ _ ⟨rfl, rfl⟩ | rintro _ _ ⟨_, rfl, rfl⟩ | rintro _ _ ⟨_, _, ⟨_, _⟩, rfl, rfl⟩); try refine ⟨sConv, ?_⟩) | refine Dr.two ?_ ?_)
  refine Dr.go rfl (by rintro k ⟨⟩ <;> decide) sGon (S.call rfl rfl Try.func69 (by kernel_rfl) rfl sPicks (fun E' hE => reqs30 E' A' i c' B1 i d1 l1 sRd sRd) ?_)
  rintro e H' ⟨rfl, rfl⟩
  refine ⟨_, rfl, _, sCat, sConv, ?_⟩
  repeat (first | refine wG30 ?_ | (refine kG30 ?_; (first | rintro _ _ ⟨rfl, rfl⟩ | rintro _ _ ⟨_, rfl, rfl⟩ | rintro _ _ ⟨_, _, ⟨_, _⟩, rfl, rfl⟩); try refine ⟨sConv, ?_⟩) | refine Dr.two ?_ ?_)
  refine Dr.go rfl (by rintro k ⟨⟩ <;> decide) sGon (S.call rfl rfl Try.func50 (by kernel_rfl) rfl sPicks (fun E' hE => gnet E' g m1 A1 i c1 r1 l1 hs1.g hl1) ?_)
  rintro e H' ⟨A3, n3, c3, rfl, hn3, rfl⟩
  refine ⟨_, rfl, _, sCat, sConv, ?_⟩
  repeat (first | refine wG30 ?_ | (refine kG30 ?_; (first | rintro _ _ ⟨rfl, rfl⟩ | rintro _ _ ⟨_, rfl, rfl⟩ | rintro _ _ ⟨_, _, ⟨_, _⟩, rfl, rfl⟩); try refine ⟨sConv, ?_⟩) | refine Dr.two ?_ ?_)
  refine Dr.go rfl (by rintro k ⟨⟩ <;> decide) sGon (S.call rfl rfl Try.func69 (by kernel_rfl) rfl sPicks (fun E' hE => reqs30 E' A3 n3 c3 D dn dc (netL l1) sRd sRd) ?_)
  rintro e H' ⟨rfl, rfl⟩
  refine ⟨_, rfl, _, sCat, sConv, ?_⟩
  repeat (first | refine wG30 ?_ | (refine kG30 ?_; (first | rintro _ _ ⟨rfl, rfl⟩ | rintro _ _ ⟨_, rfl, rfl⟩ | rintro _ _ ⟨_, _, ⟨_, _⟩, rfl, rfl⟩); try refine ⟨sConv, ?_⟩) | refine Dr.two ?_ ?_)
  exact ret1 rfl sRet sConv (⟨m1, A1, i, c1, B1, d1, r1, l1, rfl, hs1, hn1, rfl⟩)
end
end Go.Proofs.Ytbnfpmdieiknmaa.Sep
