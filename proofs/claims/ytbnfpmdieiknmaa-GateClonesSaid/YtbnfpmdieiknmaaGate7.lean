/- the law of the gate: a clone goes on by itself. By parts of memory. -/
import Derived.Test.YtbnfpmdieiknmaaGate6
namespace Go.Proofs.Ytbnfpmdieiknmaa.Sep
open Go.RowKit Go.Proofs.Ytbnfpmdieiknmaa.Reg
open Go.Proofs.Ytbnfpmdieiknmaa.Mem hiding Rd Own
-- types: reqT op30T
-- recs: idnT_rec effT_rec keyT_rec reqT_rec op30T_rec gate_rec book_rec
-- eqs: idnT_eqa effT_eqa keyT_eqa reqT_eqa
-- funcs
-- maps
set_option maxRecDepth 100000
set_option maxHeartbeats 8000000
theorem clones30 (E : Env) (A : Option Addr) (n c : Nat) (l : List Op30) (hr : Rd E op30T A n c l) (B : Option Addr) (m d : Nat) (k : List Op30) (hr2 : Rd E op30T B m d k) (D : Option Addr) (p b : Nat) (j : List Op30) (hr3 : Rd E op30T D p b j) :
    Tri Try.prog E 11 #[.slice A n c, .slice B m d, .slice D p b] [] fun r _ => r = .returned (.bool true) := by
  have hmax : maxLen = 9223372036854775807 := rfl
  have hcap := hr.cap
  have hcap2 := hr2.cap
  have hcap3 := hr3.cap
  have hr80 := hr.upto (k := min n 80) (m := c) (by omega) (by omega) (by omega)
  have h80 : min n 80 ≤ 80 := by omega
  have kr80 := hr2.upto (k := min m 80) (m := d) (by omega) (by omega) (by omega)
  have k80 : min m 80 ≤ 80 := by omega
  have jr80 := hr3.upto (k := min p 80) (m := b) (by omega) (by omega) (by omega)
  have j80 : min p 80 ≤ 80 := by omega
  have h500 : (0 : Nat) ≤ 500 := by omega
  refine tri Try.func11 rfl Try.ntmps11 (by simp) ?_
  repeat (first | refine wG30 ?_ | (refine kG30 ?_; (first | rintro _ _ ⟨rfl, rfl⟩ | rintro _ _ ⟨_, rfl, rfl⟩ | rintro _ _ ⟨_, _, ⟨_, _⟩, rfl, rfl⟩); try refine ⟨sConv, ?_⟩) | refine Dr.two ?_ ?_)
  refine L.step (by decide) (S.call rfl rfl Try.func33 (by kernel_rfl) rfl sPicks (fun E' hE => alive30 E') ?_)
  rintro e H' ⟨rfl, rfl⟩
  refine ⟨_, rfl, _, sCat, ?_⟩
  repeat (first | refine wG30 ?_ | (refine kG30 ?_; (first | rintro _ _ ⟨rfl, rfl⟩ | rintro _ _ ⟨_, rfl, rfl⟩ | rintro _ _ ⟨_, _, ⟨_, _⟩, rfl, rfl⟩); try refine ⟨sConv, ?_⟩) | refine Dr.two ?_ ?_)
  rename_i g gb
  refine L.step (by decide) (S.call rfl rfl Try.func35 (by kernel_rfl) rfl sPicks (fun E' hE => few30 E' A n c l (hr.sub hE)) ?_)
  rintro e H' ⟨rfl, rfl⟩
  refine ⟨_, rfl, _, sCat, ?_⟩
  repeat (first | refine wG30 ?_ | (refine kG30 ?_; (first | rintro _ _ ⟨rfl, rfl⟩ | rintro _ _ ⟨_, rfl, rfl⟩ | rintro _ _ ⟨_, _, ⟨_, _⟩, rfl, rfl⟩); try refine ⟨sConv, ?_⟩) | refine Dr.two ?_ ?_)
  refine L.conv (((Conv.nil0 reqT none).trans (Conv.nil0 reqT none)).trans Conv.mp0) ?_
  refine L.step (by decide) (S.call rfl rfl Try.func34 (by kernel_rfl) rfl sPicks (fun E' hE => (show Tri _ _ _ _ [gt g none none 0 0 0, mpA none [], own reqT none 0 0 [], bk gb none 0 0 0, own reqT none 0 0 []] _ from run30 E' g gb none none 0 0 0 [] none 0 S30.zero A (min n 80) c _ (hr80.sub hE) h80 h500)) ?_)
  unfold all30
  rintro e H' ⟨m1, A1, n1, c1, B1, d1, r1, l1, rfl, hs, hn1, rfl⟩
  refine ⟨_, rfl, _, sCat, ?_⟩
  have hl1 : n1 ≤ 1000 := by omega
  have hl5 : n1 ≤ 500 := by omega
  have hnl := hs.g.hn
  repeat ((fail_if_success (refine C.seq (x := Code.region 5 _ _) ?_)); first | refine vG30 ?_ | (refine kG30 ?_; (first | rintro _ _ ⟨rfl, rfl⟩ | rintro _ _ ⟨_, rfl, rfl⟩ | rintro _ _ ⟨_, _, ⟨_, _⟩, rfl, rfl⟩); try refine ⟨sConv, ?_⟩) | refine Dr.two ?_ ?_)
  refine C.cut (X := Nat × Nat × Option Nat × Option Addr × Nat × Option Addr × Nat) (fun x => [(1, .slice B m d), (2, .slice D p b), (7, .pointer (some ⟨g, 0, none⟩)), (8, .pointer (some ⟨gb, 0, none⟩)), (9, .bool true), (10, .pointer (some ⟨x.1, 0, none⟩)), (11, .pointer (some ⟨x.2.1, 0, none⟩))])
    (fun x => [gt x.1 x.2.2.1 x.2.2.2.1 n1 x.2.2.2.2.1 r1, mpA x.2.2.1 (l1.map Req.key), own reqT x.2.2.2.1 n1 x.2.2.2.2.1 l1, gt g m1 A1 n1 c1 r1, mpA m1 (l1.map Req.key), own reqT A1 n1 c1 l1, bk gb B1 n1 d1 r1, own reqT B1 n1 d1 l1, bk x.2.1 x.2.2.2.2.2.1 n1 x.2.2.2.2.2.2 r1, own reqT x.2.2.2.2.2.1 n1 x.2.2.2.2.2.2 l1])
    (fun x => S30 x.2.2.1 n1 x.2.2.2.2.1 r1 l1 x.2.2.2.2.2.2) ?_ ?_
  · refine C.regionA 100000 (.one 0 false (.one 3 false (.one 4 false (.one 5 false (.one 6 false (.one 8 false (.one 9 false (.one 10 false (.one 11 false (.two 1 (.one 2 true (.one 7 true (.one 12 false (.one 14 false (.one 13 true (.one 15 false .nil)))))) 2 (.one 1 true (.one 7 true (.one 12 false (.one 14 false (.one 13 true (.one 15 false .nil)))))))))))))))) ([bk gb B1 n1 d1 r1, own reqT B1 n1 d1 l1]) (by kernel_rfl) (by kernel_rfl) sConv ?_
    repeat (first | refine vG30 ?_ | (refine kG30 ?_; (first | rintro _ _ ⟨rfl, rfl⟩ | rintro _ _ ⟨_, rfl, rfl⟩ | rintro _ _ ⟨_, _, ⟨_, _⟩, rfl, rfl⟩); try refine ⟨sConv, ?_⟩))
    refine Dr.two ?_ ?_
    · refine Go1.go rfl (by rintro k ⟨⟩ <;> decide) sGon (S.call rfl rfl Try.func48 (by kernel_rfl) rfl sPicks (fun E' hE => gclone E' g m1 A1 n1 c1 r1 l1 hs.g hl1) ?_)
      rintro e H' ⟨g2, m2, A2, c2, rfl, hG2, rfl⟩
      refine ⟨_, rfl, _, sCat, sConv, ?_⟩
      repeat (first | refine wG30 ?_ | (refine kG30 ?_; (first | rintro _ _ ⟨rfl, rfl⟩ | rintro _ _ ⟨_, rfl, rfl⟩ | rintro _ _ ⟨_, _, ⟨_, _⟩, rfl, rfl⟩); try refine ⟨sConv, ?_⟩) | refine Dr.two ?_ ?_)
      rename_i B2 d2 k1 k2 gb2
      exact ⟨(g2, gb2, m2, A2, c2, B2, d2), sHolds, sConv, ⟨hG2, ⟨k1, k2⟩⟩⟩
    · repeat (first | refine vG30 ?_ | (refine kG30 ?_; (first | rintro _ _ ⟨rfl, rfl⟩ | rintro _ _ ⟨_, rfl, rfl⟩ | rintro _ _ ⟨_, _, ⟨_, _⟩, rfl, rfl⟩); try refine ⟨sConv, ?_⟩))
      refine Dr.go rfl (by rintro k ⟨⟩ <;> decide) sGon (S.call rfl rfl Try.func48 (by kernel_rfl) rfl sPicks (fun E' hE => gclone E' g m1 A1 n1 c1 r1 l1 hs.g hl1) ?_)
      rintro e H' ⟨g2, m2, A2, c2, rfl, hG2, rfl⟩
      refine ⟨_, rfl, _, sCat, sConv, ?_⟩
      repeat (first | refine wG30 ?_ | (refine kG30 ?_; (first | rintro _ _ ⟨rfl, rfl⟩ | rintro _ _ ⟨_, rfl, rfl⟩ | rintro _ _ ⟨_, _, ⟨_, _⟩, rfl, rfl⟩); try refine ⟨sConv, ?_⟩) | refine Dr.two ?_ ?_)
      rename_i B2 d2 k1 k2 gb2
      exact ⟨(g2, gb2, m2, A2, c2, B2, d2), sHolds, sConv, ⟨hG2, ⟨k1, k2⟩⟩⟩
  rintro ⟨g2, gb2, m2, A2, c2, B2, d2⟩ F hs2
  dsimp only at hs2 ⊢
  repeat (first | refine wG30 ?_ | (refine kG30 ?_; (first | rintro _ _ ⟨rfl, rfl⟩ | rintro _ _ ⟨_, rfl, rfl⟩ | rintro _ _ ⟨_, _, ⟨_, _⟩, rfl, rfl⟩); try refine ⟨sConv, ?_⟩) | refine Dr.two ?_ ?_)
  refine L.step (by decide) (S.call rfl rfl Try.func38 (by kernel_rfl) rfl sPicks (fun E' hE => gapplied E' g m1 A1 n1 c1 r1 l1 sRd hl1) ?_)
  rintro e H' ⟨A3, c3, rfl, hc3, rfl⟩
  refine ⟨_, rfl, _, sCat, ?_⟩
  repeat (first | refine wG30 ?_ | (refine kG30 ?_; (first | rintro _ _ ⟨rfl, rfl⟩ | rintro _ _ ⟨_, rfl, rfl⟩ | rintro _ _ ⟨_, _, ⟨_, _⟩, rfl, rfl⟩); try refine ⟨sConv, ?_⟩) | refine Dr.two ?_ ?_)
  refine C.loop (X := Nat × List Req) (fun x => [(1, .slice B m d), (2, .slice D p b), (7, .pointer (some ⟨g, 0, none⟩)), (8, .pointer (some ⟨gb, 0, none⟩)), (9, .bool true), (10, .pointer (some ⟨g2, 0, none⟩)), (11, .pointer (some ⟨gb2, 0, none⟩)), (12, .slice A3 n1 c3), (13, .int .i64 x.1)])
    (fun x => [own reqT A3 n1 c3 x.2, gt g2 m2 A2 n1 c2 r1, mpA m2 (l1.map Req.key), own reqT A2 n1 c2 l1, gt g m1 A1 n1 c1 r1, mpA m1 (l1.map Req.key), own reqT A1 n1 c1 l1, bk gb B1 n1 d1 r1, own reqT B1 n1 d1 l1, bk gb2 B2 n1 d2 r1, own reqT B2 n1 d2 l1]) (fun x => x.1 ≤ n1 ∧ x.2.length = n1) (fun x => n1 - x.1) (0, l1) sHolds sConv ⟨Nat.zero_le _, hnl.symm⟩ ?_
  rintro ⟨i, z⟩ F ⟨hi, hz⟩
  dsimp only at hi hz ⊢
  by_cases hin : i < n1
  · obtain ⟨y, hy⟩ : ∃ y, z[i]? = some y := ⟨_, List.getElem?_eq_getElem (by omega)⟩
    repeat (first | refine wG30 ?_ | (refine kG30 ?_; (first | rintro _ _ ⟨rfl, rfl⟩ | rintro _ _ ⟨_, rfl, rfl⟩ | rintro _ _ ⟨_, _, ⟨_, _⟩, rfl, rfl⟩); try refine ⟨sConv, ?_⟩) | refine Dr.two ?_ ?_)
    refine L.step0K (S.storeEK (T := reqT) (A := A3) (n := n1) (c := c3) (l := z) (k := i) (e := y) (e' := reqT_z) rfl rfl rfl sRepl hy rfl rfl rfl) ?_
    rintro _ _ ⟨rfl, rfl⟩
    repeat (first | refine wG30 ?_ | (refine kG30 ?_; (first | rintro _ _ ⟨rfl, rfl⟩ | rintro _ _ ⟨_, rfl, rfl⟩ | rintro _ _ ⟨_, _, ⟨_, _⟩, rfl, rfl⟩); try refine ⟨sConv, ?_⟩) | refine Dr.two ?_ ?_)
    exact ⟨(i + 1, z.set i reqT_z), sHolds, sConv, ⟨by dsimp only; omega, by dsimp only; rw [List.length_set]; exact hz⟩, by dsimp only; omega⟩
  obtain rfl : i = n1 := by omega
  repeat (first | refine wG30 ?_ | (refine kG30 ?_; (first | rintro _ _ ⟨rfl, rfl⟩ | rintro _ _ ⟨_, rfl, rfl⟩ | rintro _ _ ⟨_, _, ⟨_, _⟩, rfl, rfl⟩); try refine ⟨sConv, ?_⟩) | refine Dr.two ?_ ?_)
  refine L.step (by decide) (S.call rfl rfl Try.func35 (by kernel_rfl) rfl sPicks (fun E' hE => few30 E' B m d k (hr2.sub hE)) ?_)
  rintro e H' ⟨rfl, rfl⟩
  refine ⟨_, rfl, _, sCat, ?_⟩
  repeat (first | refine wG30 ?_ | (refine kG30 ?_; (first | rintro _ _ ⟨rfl, rfl⟩ | rintro _ _ ⟨_, rfl, rfl⟩ | rintro _ _ ⟨_, _, ⟨_, _⟩, rfl, rfl⟩); try refine ⟨sConv, ?_⟩) | refine Dr.two ?_ ?_)
  refine L.step (by decide) (S.call rfl rfl Try.func34 (by kernel_rfl) rfl sPicks (fun E' hE => run30 E' g gb m1 A1 i c1 r1 l1 B1 d1 hs B (min m 80) d _ (kr80.sub hE) k80 hl5) ?_)
  unfold all30
  rintro e H' ⟨m5, A5, n5, c5, B5, d5, r5, l5, rfl, -, -, rfl⟩
  refine ⟨_, rfl, _, sCat, ?_⟩
  repeat (first | refine wG30 ?_ | (refine kG30 ?_; (first | rintro _ _ ⟨rfl, rfl⟩ | rintro _ _ ⟨_, rfl, rfl⟩ | rintro _ _ ⟨_, _, ⟨_, _⟩, rfl, rfl⟩); try refine ⟨sConv, ?_⟩) | refine Dr.two ?_ ?_)
  refine L.step (by decide) (S.call rfl rfl Try.func35 (by kernel_rfl) rfl sPicks (fun E' hE => few30 E' D p b j (hr3.sub hE)) ?_)
  rintro e H' ⟨rfl, rfl⟩
  refine ⟨_, rfl, _, sCat, ?_⟩
  repeat (first | refine wG30 ?_ | (refine kG30 ?_; (first | rintro _ _ ⟨rfl, rfl⟩ | rintro _ _ ⟨_, rfl, rfl⟩ | rintro _ _ ⟨_, _, ⟨_, _⟩, rfl, rfl⟩); try refine ⟨sConv, ?_⟩) | refine Dr.two ?_ ?_)
  refine L.step (by decide) (S.call rfl rfl Try.func34 (by kernel_rfl) rfl sPicks (fun E' hE => run30 E' g2 gb2 m2 A2 i c2 r1 l1 B2 d2 hs2 D (min p 80) b _ (jr80.sub hE) j80 hl5) ?_)
  unfold all30
  rintro e H' ⟨m6, A6, n6, c6, B6, d6, r6, l6, rfl, -, -, rfl⟩
  refine ⟨_, rfl, _, sCat, ?_⟩
  repeat (first | refine wG30 ?_ | (refine kG30 ?_; (first | rintro _ _ ⟨rfl, rfl⟩ | rintro _ _ ⟨_, rfl, rfl⟩ | rintro _ _ ⟨_, _, ⟨_, _⟩, rfl, rfl⟩); try refine ⟨sConv, ?_⟩) | refine Dr.two ?_ ?_)
  refine L.step (by decide) (S.call rfl rfl Try.func36 (by kernel_rfl) rfl sPicks (fun E' hE => grefuse_nil E' 3) ?_)
  rintro e H' ⟨rfl, rfl⟩
  refine ⟨_, rfl, _, sCat, ?_⟩
  repeat (first | refine wG30 ?_ | (refine kG30 ?_; (first | rintro _ _ ⟨rfl, rfl⟩ | rintro _ _ ⟨_, rfl, rfl⟩ | rintro _ _ ⟨_, _, ⟨_, _⟩, rfl, rfl⟩); try refine ⟨sConv, ?_⟩) | refine Dr.two ?_ ?_)
  refine L.step (by decide) (S.call rfl rfl Try.func37 (by kernel_rfl) rfl sPicks (fun E' hE => gdo_nil E' reqT_z) ?_)
  rintro e H' ⟨rfl, rfl⟩
  refine ⟨_, rfl, _, sCat, ?_⟩
  repeat (first | refine wG30 ?_ | (refine kG30 ?_; (first | rintro _ _ ⟨rfl, rfl⟩ | rintro _ _ ⟨_, rfl, rfl⟩ | rintro _ _ ⟨_, _, ⟨_, _⟩, rfl, rfl⟩); try refine ⟨sConv, ?_⟩) | refine Dr.two ?_ ?_)
  refine L.step (by decide) (S.call rfl rfl Try.func49 (by kernel_rfl) rfl sPicks (fun E' hE => ghas_nil E' keyT_z) ?_)
  rintro e H' ⟨rfl, rfl⟩
  refine ⟨_, rfl, _, sCat, ?_⟩
  repeat (first | refine wG30 ?_ | (refine kG30 ?_; (first | rintro _ _ ⟨rfl, rfl⟩ | rintro _ _ ⟨_, rfl, rfl⟩ | rintro _ _ ⟨_, _, ⟨_, _⟩, rfl, rfl⟩); try refine ⟨sConv, ?_⟩) | refine Dr.two ?_ ?_)
  refine L.step (by decide) (S.call rfl rfl Try.func38 (by kernel_rfl) rfl sPicks (fun E' hE => gapplied_nil E') ?_)
  rintro e H' ⟨rfl, rfl⟩
  refine ⟨_, rfl, _, sCat, ?_⟩
  repeat (first | refine wG30 ?_ | (refine kG30 ?_; (first | rintro _ _ ⟨rfl, rfl⟩ | rintro _ _ ⟨_, rfl, rfl⟩ | rintro _ _ ⟨_, _, ⟨_, _⟩, rfl, rfl⟩); try refine ⟨sConv, ?_⟩) | refine Dr.two ?_ ?_)
  refine L.step (by decide) (S.call rfl rfl Try.func50 (by kernel_rfl) rfl sPicks (fun E' hE => gnet_nil E') ?_)
  rintro e H' ⟨rfl, rfl⟩
  refine ⟨_, rfl, _, sCat, ?_⟩
  repeat (first | refine wG30 ?_ | (refine kG30 ?_; (first | rintro _ _ ⟨rfl, rfl⟩ | rintro _ _ ⟨_, rfl, rfl⟩ | rintro _ _ ⟨_, _, ⟨_, _⟩, rfl, rfl⟩); try refine ⟨sConv, ?_⟩) | refine Dr.two ?_ ?_)
  refine L.step (by decide) (S.call rfl rfl Try.func51 (by kernel_rfl) rfl sPicks (fun E' hE => grefusing_nil E') ?_)
  rintro e H' ⟨rfl, rfl⟩
  refine ⟨_, rfl, _, sCat, ?_⟩
  repeat (first | refine wG30 ?_ | (refine kG30 ?_; (first | rintro _ _ ⟨rfl, rfl⟩ | rintro _ _ ⟨_, rfl, rfl⟩ | rintro _ _ ⟨_, _, ⟨_, _⟩, rfl, rfl⟩); try refine ⟨sConv, ?_⟩) | refine Dr.two ?_ ?_)
  refine L.step (by decide) (S.call rfl rfl Try.func48 (by kernel_rfl) rfl sPicks (fun E' hE => gclone_nil E') ?_)
  rintro e H' ⟨rfl, rfl⟩
  refine ⟨_, rfl, _, sCat, ?_⟩
  repeat (first | refine wG30 ?_ | (refine kG30 ?_; (first | rintro _ _ ⟨rfl, rfl⟩ | rintro _ _ ⟨_, rfl, rfl⟩ | rintro _ _ ⟨_, _, ⟨_, _⟩, rfl, rfl⟩); try refine ⟨sConv, ?_⟩) | refine Dr.two ?_ ?_)
  exact ret1 rfl sRet sConv (rfl)
end Go.Proofs.Ytbnfpmdieiknmaa.Sep
