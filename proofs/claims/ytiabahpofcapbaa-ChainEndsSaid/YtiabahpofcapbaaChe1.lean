/- the law ChainEnds, by parts of memory. -/
import Derived.Test.YtiabahpofcapbaaChl4
import Derived.Test.YtiabahpofcapbaaCho1
import Derived.Test.YtiabahpofcapbaaChePlain
namespace Go.Proofs.Ytiabahpofcapbaa.Sep
open Go.RowKit Go.Proofs.Ytiabahpofcapbaa.Reg
open Go.Proofs.Ytiabahpofcapbaa.Mem hiding Rd Own
-- types: entT enrT effT opT
-- recs: idnT_rec effT_rec cfgT_rec entT_rec enrT_rec keyT_rec reqT_rec opT_rec chain_rec chref_rec pair_rec
-- eqs: idnT_eqa effT_eqa entT_eqa enrT_eqa keyT_eqa reqT_eqa
-- funcs
-- flds
set_option maxRecDepth 100000
set_option maxHeartbeats 8000000
theorem ends21 (E : Env) (id : Idn) (A : Option Addr) (n c : Nat) (l : List Op21) (X : Option Addr) (nx cx : Nat) (want : List Eff) (hr : Rd E opT A n c l) (hin : ∀ x ∈ l, In21 E x) (hw : Rd E effT X nx cx want) (hwok : ∀ f ∈ want, f.ok) :
    Tri Try.prog E 6 #[.agg id.cs.toArray, .slice A n c, .slice X nx cx] [] fun r _ => r = .returned (.bool true) := by
  have hws := In21.ws hin
  have hops := few21_ok hin
  have hws2 := hws.few
  have hcw := hw.cap
  have z0 : 0 ≤ 0 ∧ 0 ≤ maxLen := ⟨Nat.le_refl _, Nat.zero_le _⟩
  have hmax : maxLen = 9223372036854775807 := rfl
  refine tri Try.func6 rfl Try.ntmps6 (by simp) ?_
  repeat (first | refine wCh1 ?_ | (refine kCh1 ?_; (first | rintro _ _ ⟨rfl, rfl⟩ | rintro _ _ ⟨_, rfl, rfl⟩ | rintro _ _ ⟨_, _, ⟨_, _⟩, rfl, rfl⟩); try refine ⟨sConv, ?_⟩) | refine Dr.two ?_ ?_)
  refine L.step (by decide) (S.call rfl rfl Try.func12 (by kernel_rfl) rfl sPicks (fun E' hE => alive21 E') ?_)
  rintro r H' ⟨rfl, rfl⟩
  refine ⟨_, rfl, _, sCat, ?_⟩
  repeat (first | refine wCh1 ?_ | (refine kCh1 ?_; (first | rintro _ _ ⟨rfl, rfl⟩ | rintro _ _ ⟨_, rfl, rfl⟩ | rintro _ _ ⟨_, _, ⟨_, _⟩, rfl, rfl⟩); try refine ⟨sConv, ?_⟩) | refine Dr.two ?_ ?_)
  refine L.step (by decide) (S.call rfl rfl Try.func13 (by kernel_rfl) rfl sPicks (fun E' hE => begin21 E' id) ?_)
  rintro r H' ⟨gp, gM, rfl, rfl⟩
  refine ⟨_, rfl, _, sCat, ?_⟩
  repeat (first | refine wCh1 ?_ | (refine kCh1 ?_; (first | rintro _ _ ⟨rfl, rfl⟩ | rintro _ _ ⟨_, rfl, rfl⟩ | rintro _ _ ⟨_, _, ⟨_, _⟩, rfl, rfl⟩); try refine ⟨sConv, ?_⟩) | refine Dr.two ?_ ?_)
  refine L.step (by decide) (S.call rfl rfl Try.func15 (by kernel_rfl) rfl sPicks (fun E' hE => few21_any E' A n c l sRd (hws.sub hE)) ?_)
  rintro r H' ⟨O, m, co, rfl, hm, ⟨hco1, hco2⟩, rfl⟩
  refine ⟨_, rfl, _, sCat, ?_⟩
  generalize few21 l = ops at *
  repeat ((fail_if_success (refine C.seq (x := Code.region 5 _ _) ?_)); first | refine vCh1 ?_ | (refine kCh1 ?_; (first | rintro _ _ ⟨rfl, rfl⟩ | rintro _ _ ⟨_, rfl, rfl⟩ | rintro _ _ ⟨_, _, ⟨_, _⟩, rfl, rfl⟩); try refine ⟨sConv, ?_⟩) | refine Dr.two ?_ ?_)
  refine C.mid (X := Nat × List Op21) (fun y => [(1, .slice O y.1 co), (2, .slice X nx cx), (7, .pointer (some ⟨gp, 0, none⟩))]) (fun y => [own opT O y.1 co y.2, pr gp gM id 0 none 0 0, mch gM id 0 none 0 0 none 0 0]) (fun y => y.2.length ≤ 30 ∧ (∀ x ∈ y.2, x.ok) ∧ Ws E y.2) ?_ ?_
  · by_cases h30 : 30 < m
    · repeat (first | refine wCh1 ?_ | (refine kCh1 ?_; (first | rintro _ _ ⟨rfl, rfl⟩ | rintro _ _ ⟨_, rfl, rfl⟩ | rintro _ _ ⟨_, _, ⟨_, _⟩, rfl, rfl⟩); try refine ⟨sConv, ?_⟩) | refine Dr.two ?_ ?_)
      exact ⟨(30, ops.take 30), sHolds, (Conv.ownTake (T := opT) (A := O) (n := m) (c := co) (l := ops) (k := 30) (by omega) sRepl).trans sConv, by dsimp only; rw [List.length_take]; omega, fun x hx => hops x (List.mem_of_mem_take hx), fun x hx => hws2 x (List.mem_of_mem_take hx)⟩
    · repeat (first | refine wCh1 ?_ | (refine kCh1 ?_; (first | rintro _ _ ⟨rfl, rfl⟩ | rintro _ _ ⟨_, rfl, rfl⟩ | rintro _ _ ⟨_, _, ⟨_, _⟩, rfl, rfl⟩); try refine ⟨sConv, ?_⟩) | refine Dr.two ?_ ?_)
      exact ⟨(m, ops), sHolds, sConv, by dsimp only; omega, hops, hws2⟩
  clear hops hws2 hm hco1
  clear ops
  rintro ⟨m, ops⟩ G ⟨h30, hops, hws2⟩
  dsimp only at h30 hops hws2 ⊢
  repeat ((fail_if_success (refine C.seq (x := Code.region 7 _ _) ?_)); first | refine vCh1 ?_ | (refine kCh1 ?_; (first | rintro _ _ ⟨rfl, rfl⟩ | rintro _ _ ⟨_, rfl, rfl⟩ | rintro _ _ ⟨_, _, ⟨_, _⟩, rfl, rfl⟩); try refine ⟨sConv, ?_⟩) | refine Dr.two ?_ ?_)
  refine C.mid (X := Nat × List Eff) (fun y => [(1, .slice O m co), (2, .slice X y.1 cx), (7, .pointer (some ⟨gp, 0, none⟩))]) (fun _ => [own opT O m co ops, pr gp gM id 0 none 0 0, mch gM id 0 none 0 0 none 0 0]) (fun y => y.2.length ≤ 8 ∧ (∀ f ∈ y.2, f.ok) ∧ Rd E effT X y.1 cx y.2) ?_ ?_
  · by_cases h8 : 8 < nx
    · repeat (first | refine wCh1 ?_ | (refine kCh1 ?_; (first | rintro _ _ ⟨rfl, rfl⟩ | rintro _ _ ⟨_, rfl, rfl⟩ | rintro _ _ ⟨_, _, ⟨_, _⟩, rfl, rfl⟩); try refine ⟨sConv, ?_⟩) | refine Dr.two ?_ ?_)
      exact ⟨(8, want.take 8), sHolds, sConv, by dsimp only; rw [List.length_take]; omega, fun f hf => hwok f (List.mem_of_mem_take hf), hw.upto (by omega) (by omega) (by omega)⟩
    · repeat (first | refine wCh1 ?_ | (refine kCh1 ?_; (first | rintro _ _ ⟨rfl, rfl⟩ | rintro _ _ ⟨_, rfl, rfl⟩ | rintro _ _ ⟨_, _, ⟨_, _⟩, rfl, rfl⟩); try refine ⟨sConv, ?_⟩) | refine Dr.two ?_ ?_)
      exact ⟨(nx, want), sHolds, sConv, by dsimp only; have := hw.len; omega, hwok, hw⟩
  clear hw hwok hcw
  clear want nx
  rintro ⟨nx, want⟩ G2 ⟨hw8, hwok, hw⟩
  dsimp only at hw8 hwok hw ⊢
  have hcw := hw.cap
  have hnw := hw.len
  repeat (first | refine wCh1 ?_ | (refine kCh1 ?_; (first | rintro _ _ ⟨rfl, rfl⟩ | rintro _ _ ⟨_, rfl, rfl⟩ | rintro _ _ ⟨_, _, ⟨_, _⟩, rfl, rfl⟩); try refine ⟨sConv, ?_⟩) | refine Dr.two ?_ ?_)
  refine L.conv conv3 ?_
  refine L.step (by decide) (S.call rfl rfl Try.func14 (by kernel_rfl) rfl sPicks (fun E' hE => run21 E' gp gM id s0 none 0 0 none 0 none 0 0 O m co ops sRd (hws2.sub hE) s0_ok hops rfl z0 z0 rfl z0) ?_)
  unfold Step21
  rintro r H' ⟨A2, n2, c2, B2, cb2, X2, nx2, cx2, rfl, k1, k2, k3, k4, k5, rfl⟩
  refine ⟨_, rfl, _, sCat, ?_⟩
  have hs := S21.run_ok (id := id) s0_ok hops
  have ho := run_ord (id := id) hops
  obtain ⟨hb, hmk⟩ := run_back (id := id) ops s0 (fun i y h => by simp at h)
  generalize S21.run id s0 ops = s at *
  have h0 := hs.made0
  have h1 := hs.made1
  have h2 := hs.len
  have hl2 : n2 ≤ 1000000 := by omega
  have hm30 : s.made ≤ 30 := by
    change s.made ≤ (0 : Int) + ops.length at hmk
    omega
  repeat (first | refine wCh1 ?_ | (refine kCh1 ?_; (first | rintro _ _ ⟨rfl, rfl⟩ | rintro _ _ ⟨_, rfl, rfl⟩ | rintro _ _ ⟨_, _, ⟨_, _⟩, rfl, rfl⟩); try refine ⟨sConv, ?_⟩) | refine Dr.two ?_ ?_)
  refine L.step (by decide) (S.call rfl rfl Try.func16 (by kernel_rfl) rfl sPicks (fun E' hE => csettle E' id s.made A2 n2 c2 s.l want X nx cx sRd sRd hl2) ?_)
  rintro r H' ⟨A3, c3, rfl, ⟨hc1, hc2⟩, rfl⟩
  refine ⟨_, rfl, _, sCat, ?_⟩
  have hend := settle_end (want := want) hs ho hb hwok hw8
  have hsl := settle_length want s.l
  have hsl2 : n2 = (settle want s.l).length := by omega
  obtain ⟨made, ls, ws⟩ := s
  dsimp only at *
  generalize settle want ls = cs at *
  repeat (first | refine wCh1 ?_ | (refine kCh1 ?_; (first | rintro _ _ ⟨rfl, rfl⟩ | rintro _ _ ⟨_, rfl, rfl⟩ | rintro _ _ ⟨_, _, ⟨_, _⟩, rfl, rfl⟩); try refine ⟨sConv, ?_⟩) | refine Dr.two ?_ ?_)
  rename_i g8
  refine C.loop (X := Nat) (fun i => [(2, .slice X nx cx), (8, .pointer (some ⟨g8, 0, none⟩)), (9, .int .i64 0), (10, .int .i64 i)])
    (fun _ => [blk g8 33 [.int .i64 id.rep, .int .i64 id.seq, .int .i64 made, .slice A3 n2 c3], own entT A3 n2 c3 cs]) (fun i => i ≤ n2 ∧ ∀ (j : Nat) (x : Ent), j < i → cs[j]? = some x → x.sent < 7 ∧ x.back < 7) (fun i => n2 - i) 0 sHolds sConv ⟨Nat.zero_le _, fun j x hj => by omega⟩ ?_
  rintro i G3 ⟨hi, hall⟩
  by_cases hlt : i < n2
  · obtain ⟨e, hy⟩ : ∃ e, cs[i]? = some e := ⟨_, List.getElem?_eq_getElem (by omega)⟩
    by_cases q1 : 7 ≤ e.sent
    · repeat (first | refine wCh1 ?_ | (refine kCh1 ?_; (first | rintro _ _ ⟨rfl, rfl⟩ | rintro _ _ ⟨_, rfl, rfl⟩ | rintro _ _ ⟨_, _, ⟨_, _⟩, rfl, rfl⟩); try refine ⟨sConv, ?_⟩) | refine Dr.two ?_ ?_)
      exact ret1 rfl sRet sConv (rfl)
    by_cases q2 : 7 ≤ e.back
    · repeat (first | refine wCh1 ?_ | (refine kCh1 ?_; (first | rintro _ _ ⟨rfl, rfl⟩ | rintro _ _ ⟨_, rfl, rfl⟩ | rintro _ _ ⟨_, _, ⟨_, _⟩, rfl, rfl⟩); try refine ⟨sConv, ?_⟩) | refine Dr.two ?_ ?_)
      exact ret1 rfl sRet sConv (rfl)
    repeat (first | refine wCh1 ?_ | (refine kCh1 ?_; (first | rintro _ _ ⟨rfl, rfl⟩ | rintro _ _ ⟨_, rfl, rfl⟩ | rintro _ _ ⟨_, _, ⟨_, _⟩, rfl, rfl⟩); try refine ⟨sConv, ?_⟩) | refine Dr.two ?_ ?_)
    refine ⟨i + 1, sHolds, sConv, ⟨by omega, fun j x hj hx => ?_⟩, by omega⟩
    by_cases hji : j = i
    · subst hji; rw [hy] at hx; injection hx with hx; subst hx; omega
    · exact hall j x (by omega) hx
  obtain rfl : i = n2 := by omega
  obtain ⟨k, hE21⟩ := hend fun j x hx => hall j x (by have := (List.getElem?_eq_some_iff.1 hx).1; omega) hx
  have hmu : mu want ⟨made, cs, want⟩ k ≤ 39 := by
    unfold mu
    have := un_le cs
    dsimp only
    omega
  repeat (first | refine wCh1 ?_ | (refine kCh1 ?_; (first | rintro _ _ ⟨rfl, rfl⟩ | rintro _ _ ⟨_, rfl, rfl⟩ | rintro _ _ ⟨_, _, ⟨_, _⟩, rfl, rfl⟩); try refine ⟨sConv, ?_⟩) | refine Dr.two ?_ ?_)
  refine C.loop (X := Nat × S21 × Nat × Option Addr × Nat × Nat) (fun y => [(2, .slice X nx cx), (8, .pointer (some ⟨g8, 0, none⟩)), (9, .int .i64 y.1)])
    (fun y => [blk g8 33 [.int .i64 id.rep, .int .i64 id.seq, .int .i64 y.2.1.made, .slice y.2.2.2.1 y.2.2.2.2.1 y.2.2.2.2.2], own entT y.2.2.2.1 y.2.2.2.2.1 y.2.2.2.2.2 y.2.1.l])
    (fun y => End21 want y.2.1 y.2.2.1 ∧ y.1 + mu want y.2.1 y.2.2.1 ≤ 39 ∧ y.2.1.made ≤ 30 + y.1 ∧ y.2.2.2.2.1 = y.2.1.l.length) (fun y => mu want y.2.1 y.2.2.1) (0, ⟨made, cs, want⟩, k, A3, i, c3) sHolds sConv ⟨hE21, by dsimp only; omega, by dsimp only; omega, hsl2⟩ ?_
  clear hE21 hmu hall hend hsl hsl2 hs ho hb hmk
  rintro ⟨d, s, k2', A4, n4, c4⟩ G4 ⟨hE21, hmu, hmd, hn4⟩
  dsimp only at hE21 hmu hmd hn4 ⊢
  have hents := hE21.ok.ents
  have t0 := hE21.ok.made0
  have t1 := hE21.ok.made1
  have t2 := hE21.ok.len
  have hsw := hE21.w
  have hm1 : I64 s.made := by unfold I64; omega
  have hl4 : n4 ≤ 1000000 := by omega
  repeat (first | refine wCh1 ?_ | (refine kCh1 ?_; (first | rintro _ _ ⟨rfl, rfl⟩ | rintro _ _ ⟨_, rfl, rfl⟩ | rintro _ _ ⟨_, _, ⟨_, _⟩, rfl, rfl⟩); try refine ⟨sConv, ?_⟩) | refine Dr.two ?_ ?_)
  refine L.step (by decide) (S.call rfl rfl Try.func19 (by kernel_rfl) rfl sPicks (fun E' hE => cquiet E' id s.made A4 n4 c4 s.l want X nx cx sRd sRd) ?_)
  cases hq : quiet s.l want
  · have hnow : I64 ((d + 1 : Nat) : Int) := by unfold I64; omega
    have hwr : IntKind.i64.wrap ((d : Int) + 1) = ((d + 1 : Nat) : Int) := by rw [IntWalk.i64_in _ (by omega)]; omega
    obtain ⟨q, s', k', hR⟩ := round_any (id := id) (now := ((d + 1 : Nat) : Int)) hE21 hnow (by omega) hq
    obtain ⟨r1, r2, r3, r4, r5, r6, r7⟩ := hR
    rintro r H' ⟨rfl, rfl⟩
    refine ⟨_, rfl, _, sCat, ?_⟩
    repeat (first | refine wCh1 ?_ | (refine kCh1 ?_; (first | rintro _ _ ⟨rfl, rfl⟩ | rintro _ _ ⟨_, rfl, rfl⟩ | rintro _ _ ⟨_, _, ⟨_, _⟩, rfl, rfl⟩); try refine ⟨sConv, ?_⟩) | refine Dr.two ?_ ?_)
    refine L.step (by decide) (S.call rfl rfl Try.func18 (by kernel_rfl) rfl sPicks (fun E' hE => cnext E' id s.made A4 n4 c4 s.l want X nx cx sRd sRd hents hm1) ?_)
    unfold Nxt
    rw [r1]
    dsimp only [Option.getD, Option.isSome]
    rintro r H' ⟨rfl, rfl⟩
    refine ⟨_, rfl, _, sCat, ?_⟩
    repeat (first | refine wCh1 ?_ | (refine kCh1 ?_; (first | rintro _ _ ⟨rfl, rfl⟩ | rintro _ _ ⟨_, rfl, rfl⟩ | rintro _ _ ⟨_, _, ⟨_, _⟩, rfl, rfl⟩); try refine ⟨sConv, ?_⟩) | refine Dr.two ?_ ?_)
    refine L.step (by decide) (S.call rfl rfl Try.func20 (by kernel_rfl) rfl sPicks (fun E' hE => ctry E' id s.made A4 n4 c4 s.l want X nx cx ((d + 1 : Nat) : Int) sRd sRd hl4 hents hm1) ?_)
    unfold TryPost
    rw [r2]
    have hs1 : s.try_ id ((d + 1 : Nat) : Int) = ⟨((tried id s.made s.l want ((d + 1 : Nat) : Int)).getD (s.made, s.l)).1, ((tried id s.made s.l want ((d + 1 : Nat) : Int)).getD (s.made, s.l)).2, s.w⟩ := by
      unfold S21.try_; rw [hsw]
    generalize (tried id s.made s.l want ((d + 1 : Nat) : Int)).getD (s.made, s.l) = t at *
    rintro r H' ⟨A5, n5, c5, rfl, hn5, -, rfl⟩
    refine ⟨_, rfl, _, sCat, ?_⟩
    have hok1 := S21.try_ok (id := id) hE21.ok hnow
    rw [hs1] at r3 r4 hok1
    dsimp only at r3
    have u1 := hok1.made1
    have u2 := hok1.len
    dsimp only at u1 u2
    have hl5 : n5 ≤ 1000000 := by omega
    repeat (first | refine wCh1 ?_ | (refine kCh1 ?_; (first | rintro _ _ ⟨rfl, rfl⟩ | rintro _ _ ⟨_, rfl, rfl⟩ | rintro _ _ ⟨_, _, ⟨_, _⟩, rfl, rfl⟩); try refine ⟨sConv, ?_⟩) | refine Dr.two ?_ ?_)
    refine L.step (by decide) (S.call rfl rfl Try.func21 (by kernel_rfl) rfl sPicks (fun E' hE => cack E' id t.1 A5 n5 c5 t.2 q.key sRd hl5) ?_)
    unfold AckPost
    rw [r3]
    have hs2 : s' = ⟨t.1, (acked id t.2 q.key).getD t.2, s.w⟩ := r4
    generalize (acked id t.2 q.key).getD t.2 = z at *
    rintro r H' ⟨A6, n6, c6, rfl, hn6, -, rfl⟩
    refine ⟨_, rfl, _, sCat, ?_⟩
    repeat (first | refine wCh1 ?_ | (refine kCh1 ?_; (first | rintro _ _ ⟨rfl, rfl⟩ | rintro _ _ ⟨_, rfl, rfl⟩ | rintro _ _ ⟨_, _, ⟨_, _⟩, rfl, rfl⟩); try refine ⟨sConv, ?_⟩) | refine Dr.two ?_ ?_)
    subst hs2
    dsimp only at r6
    exact ⟨(d + 1, ⟨t.1, z, s.w⟩, k', A6, n6, c6), sHolds, sConv, ⟨r5, by dsimp only; omega, by dsimp only; omega, hn6⟩, by dsimp only; exact r7⟩
  · obtain ⟨hlen, hdone⟩ := quiet_done hE21 hq
    rintro r H' ⟨rfl, rfl⟩
    refine ⟨_, rfl, _, sCat, ?_⟩
    repeat (first | refine wCh1 ?_ | (refine kCh1 ?_; (first | rintro _ _ ⟨rfl, rfl⟩ | rintro _ _ ⟨_, rfl, rfl⟩ | rintro _ _ ⟨_, _, ⟨_, _⟩, rfl, rfl⟩); try refine ⟨sConv, ?_⟩) | refine Dr.two ?_ ?_)
    refine C.loop (X := Nat) (fun i => [(2, .slice X nx cx), (8, .pointer (some ⟨g8, 0, none⟩)), (17, .int .i64 i)])
      (fun _ => [blk g8 33 [.int .i64 id.rep, .int .i64 id.seq, .int .i64 s.made, .slice A4 n4 c4], own entT A4 n4 c4 s.l]) (fun i => i ≤ nx) (fun i => nx - i) 0 sHolds sConv (Nat.zero_le _) ?_
    rintro j G5 hj
    by_cases hjn : j < nx
    · obtain ⟨e, hy⟩ : ∃ e, s.l[j]? = some e := ⟨_, List.getElem?_eq_getElem (by omega)⟩
      obtain ⟨d1, d2, d3⟩ := hdone j e hy
      have d4 : (!e.acked) = false := by rw [d2]; rfl
      have d5 : (!decide ((⟨e.what.kind, e.what.a, e.what.n, ⟨e.what.ref.rep, e.what.ref.seq⟩⟩ : Eff) = ⟨e.what.kind, e.what.a, e.what.n, ⟨e.what.ref.rep, e.what.ref.seq⟩⟩)) = false := by rw [decide_eq_true rfl]; rfl
      repeat (first | refine wCh1 ?_ | (refine kCh1 ?_; (first | rintro _ _ ⟨rfl, rfl⟩ | rintro _ _ ⟨_, rfl, rfl⟩ | rintro _ _ ⟨_, _, ⟨_, _⟩, rfl, rfl⟩); try refine ⟨sConv, ?_⟩) | refine Dr.two ?_ ?_)
      refine C.regionA 100000 (.one 0 false (.one 1 false (.one 2 false (.one 3 false (.one 4 false (.one 5 false (.one 6 false (.one 7 false (.one 8 false (.one 9 false (.one 10 false (.one 11 false (.one 12 false (.one 13 false (.one 14 false (.one 15 false (.one 16 false (.one 17 false (.one 18 false (.one 19 false (.one 20 false (.one 21 false (.one 22 false (.one 23 false (.one 24 false (.one 25 false (.one 26 false (.one 27 false .nil)))))))))))))))))))))))))))) _ (by kernel_rfl) (by kernel_rfl) Conv.refl ?_
      repeat (first | refine wCh1 ?_ | (refine kCh1 ?_; (first | rintro _ _ ⟨rfl, rfl⟩ | rintro _ _ ⟨_, rfl, rfl⟩ | rintro _ _ ⟨_, _, ⟨_, _⟩, rfl, rfl⟩); try refine ⟨sConv, ?_⟩) | refine Dr.two ?_ ?_)
      exact ⟨j + 1, sHolds, sConv, by omega, by omega⟩
    · repeat (first | refine wCh1 ?_ | (refine kCh1 ?_; (first | rintro _ _ ⟨rfl, rfl⟩ | rintro _ _ ⟨_, rfl, rfl⟩ | rintro _ _ ⟨_, _, ⟨_, _⟩, rfl, rfl⟩); try refine ⟨sConv, ?_⟩) | refine Dr.two ?_ ?_)
      exact ret1 rfl sRet sConv (rfl)
end Go.Proofs.Ytiabahpofcapbaa.Sep
