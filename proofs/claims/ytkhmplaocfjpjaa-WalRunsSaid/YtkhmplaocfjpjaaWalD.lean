/- the law WalRuns: opened again, one call, all that is told; by parts of memory. -/
import Derived.Test.YtkhmplaocfjpjaaRef12e
namespace Go.Proofs.Ytkhmplaocfjpjaa.Sep
open Go.RowKit Go.Proofs.Ytkhmplaocfjpjaa.Reg
open Go.Proofs.Ytkhmplaocfjpjaa.Mem hiding Rd Own
set_option maxRecDepth 100000
-- types: octT slT op12T
-- recs: rec_Disk plate_rec log_rec rdisk_rec rlog_rec op12_rec
set_option maxRecDepth 100000
set_option maxHeartbeats 6000000
abbrev both12 (g gd : Nat) (w : WL) (m e : Nat) (q : RL) : List Asn := [wlg g gd w, own slT w.R w.m w.rc w.recs, each oOc w.recs, own octT w.P w.p w.pc w.pend, dsk gd true w.dead w.armed w.wr w.A w.k w.c, own secT w.A w.k w.c w.secs,
  rlg m e q, own slT q.R q.m q.rc q.recs, each oOc q.recs, own octT q.P q.p q.pc q.pend, rdk e q.B q.k q.bc q.F q.dead q.wr, own octT q.B q.k q.bc q.D]
structure B12 (w : WL) (q : RL) (M : Nat) (V : Int) : Prop where
  wok : w.ok
  qok : q.ok
  eq : w.s = q.s
  wm : w.m ≤ M
  qm : q.m ≤ M
  wv : w.wr ≤ V
  qv : q.wr ≤ V
def Post12 (M : Nat) (V : Int) : Ending → List Asn → Prop := fun r H' => ∃ g gd w m e q, r = .returned (.tuple #[.pointer (some ⟨g, 0, none⟩), .pointer (some ⟨m, 0, none⟩), .bool true]) ∧ B12 w q M V ∧ H' = both12 g gd w m e q
section
variable (E : Env) (g gd : Nat) (w : WL) (m e : Nat) (q : RL) (M : Nat) (Vw : Int)
theorem again12 (h : B12 w q M Vw) (hM : 260 ≤ M) (hV0 : 0 ≤ Vw) (hV : Vw ≤ 800000) (arm : Int) (harm : arm ≤ 9000) : Tri Try.prog E 100 #[.pointer (some ⟨g, 0, none⟩), .pointer (some ⟨m, 0, none⟩), .int .i64 arm] (both12 g gd w m e q) (Post12 (M + 1) (Vw + 4128)) := by
  have hmax : maxLen = 9223372036854775807 := rfl
  have h1 := h.wok
  have h2 := h.qok
  have hwv := h.wv
  have hn1 := h1.n1
  have hlen1 := h1.len
  have hlen2 := h2.len
  have hn2 := h2.n1
  have eN : w.N = q.N := congrArg LS.N h.eq
  have eD : flat w.secs = q.D := congrArg LS.D h.eq
  have v1 : w.wr ≤ 900000 := by omega
  have hqk : q.k ≤ 10000 := by omega
  have hqm : q.k ≤ maxLen := by omega
  unfold Post12
  refine tri Try.func100 rfl Try.ntmps100 (by simp) ?_
  repeat (first | refine wRf12 ?_ | (refine kRf12 ?_; (first | rintro _ _ ⟨rfl, rfl⟩ | rintro _ _ ⟨_, rfl, rfl⟩ | rintro _ _ ⟨_, _, ⟨_, _⟩, rfl, rfl⟩); try refine ⟨sConv, ?_⟩) | refine Dr.two ?_ ?_)
  refine L.step (by decide) (S.call rfl rfl Try.func37 (by kernel_rfl) rfl sPicks (fun E' hE => wdisk E' g gd w h1) ?_)
  rintro r H' ⟨g', A', c', rfl, rfl⟩
  refine ⟨_, rfl, _, sCat, ?_⟩
  repeat (first | refine wRf12 ?_ | (refine kRf12 ?_; (first | rintro _ _ ⟨rfl, rfl⟩ | rintro _ _ ⟨_, rfl, rfl⟩ | rintro _ _ ⟨_, _, ⟨_, _⟩, rfl, rfl⟩); try refine ⟨sConv, ?_⟩) | refine Dr.two ?_ ?_)
  refine L.step (by decide) (S.call rfl rfl Try.func41 (by kernel_rfl) rfl sPicks (fun E' hE => revive_any E' g' w.dead w.armed w.wr A' w.k c') ?_)
  rintro r H' ⟨rfl, rfl⟩
  refine ⟨_, rfl, _, sCat, ?_⟩
  repeat (first | refine wRf12 ?_ | (refine kRf12 ?_; (first | rintro _ _ ⟨rfl, rfl⟩ | rintro _ _ ⟨_, rfl, rfl⟩ | rintro _ _ ⟨_, _, ⟨_, _⟩, rfl, rfl⟩); try refine ⟨sConv, ?_⟩) | refine Dr.two ?_ ?_)
  refine L.step (by decide) (S.call rfl rfl Try.func40 (by kernel_rfl) rfl sPicks (fun E' hE => wopen E' g' w.N (-1) w.wr A' w.k c' w.secs h1.hk hlen1 h1.n0 h1.n1 (by omega) (by omega) h1.w0 v1 (lcut_free _ _)) ?_)
  rintro r H' ⟨gx, wx, rfl, hx, hsx, hwrx, hmx, rfl⟩
  have dx : wx.dead = false := by have : wx.s.dead = false := by rw [hsx]; rfl
                                  exact this
  refine ⟨_, rfl, _, sCat, ?_⟩
  repeat (first | refine wRf12 ?_ | (refine kRf12 ?_; (first | rintro _ _ ⟨rfl, rfl⟩ | rintro _ _ ⟨_, rfl, rfl⟩ | rintro _ _ ⟨_, _, ⟨_, _⟩, rfl, rfl⟩); try refine ⟨sConv, ?_⟩) | refine Dr.two ?_ ?_)
  rename_i O2 c2 k1 k2 e2
  have z0 : (0 : Int) ≤ 900000 := by decide
  refine L.step (by decide) (S.call rfl rfl Try.func128 (by kernel_rfl) rfl sPicks (fun E' hE => ropen E' e2 q.N O2 q.k c2 q.D 0 h2.hk hlen2 h2.n0 h2.n1 ⟨k1, k2⟩ (Int.le_refl _) z0) ?_)
  rintro r H' ⟨my, qy, rfl, hy, hsy, hwry, hmy, rfl⟩
  have dy : qy.dead = false := by have : qy.s.dead = false := by rw [hsy]; rfl
                                  exact this
  refine ⟨_, rfl, _, sCat, ?_⟩
  repeat (first | refine wRf12 ?_ | (refine kRf12 ?_; (first | rintro _ _ ⟨rfl, rfl⟩ | rintro _ _ ⟨_, rfl, rfl⟩ | rintro _ _ ⟨_, _, ⟨_, _⟩, rfl, rfl⟩); try refine ⟨sConv, ?_⟩) | refine Dr.two ?_ ?_)
  refine L.step (by decide) (S.call rfl rfl Try.func38 (by kernel_rfl) rfl sPicks (fun E' hE => arm_any E' g' wx.dead wx.armed wx.wr wx.A wx.k wx.c arm) ?_)
  rw [dx, if_neg Bool.false_ne_true]
  rintro r H' ⟨rfl, rfl⟩
  refine ⟨_, rfl, _, sCat, ?_⟩
  repeat (first | refine wRf12 ?_ | (refine kRf12 ?_; (first | rintro _ _ ⟨rfl, rfl⟩ | rintro _ _ ⟨_, rfl, rfl⟩ | rintro _ _ ⟨_, _, ⟨_, _⟩, rfl, rfl⟩); try refine ⟨sConv, ?_⟩) | refine Dr.two ?_ ?_)
  have hm1 : -1 ≤ max arm (-1) := by omega
  have hm2 : max arm (-1) ≤ 9223372036854775807 := by omega
  have hsxy : wx.s = qy.s := by rw [hsx, hsy, eN, eD]
  have hB : B12 ⟨wx.N, wx.R, wx.m, wx.rc, wx.recs, wx.dur, wx.pos, wx.P, wx.p, wx.pc, wx.pend, false, max arm (-1), wx.wr, wx.A, wx.k, wx.c, wx.secs⟩ ⟨qy.N, qy.pos, qy.R, qy.m, qy.rc, qy.recs, qy.dur, qy.P, qy.p, qy.pc, qy.pend, qy.B, qy.k, qy.bc, qy.D, max arm (-1), qy.dead, qy.wr⟩ (M + 1) (Vw + 4128) := by
    have e1 : wx.N = qy.N := congrArg LS.N hsxy
    have e2' : flat wx.secs = qy.D := congrArg LS.D hsxy
    have e3 : wx.recs.map (·.b) = qy.recs.map (·.b) := congrArg LS.recs hsxy
    have e4 : wx.dur = qy.dur := congrArg LS.dur hsxy
    have e5 : wx.pos = qy.pos := congrArg LS.pos hsxy
    have e6 : wx.pend = qy.pend := congrArg LS.pend hsxy
    exact ⟨⟨hx.hm, hx.hp, hx.hk, hx.n0, hx.n1, hx.len, hm1, hm2, hx.w0, hx.fit, hx.recs, hx.dur, hx.wide⟩, ⟨hy.hm, hy.hp, hy.hk, hy.n0, hy.n1, hy.len, hm1, hm2, hy.w0, hy.fit, hy.recs, hy.dur, hy.wide⟩, by
      unfold WL.s RL.s
      dsimp only
      rw [e1, e2', e3, e4, e5, e6, dy], by dsimp only; omega, by dsimp only; omega, by dsimp only; omega, by dsimp only; omega⟩
  exact ret3 rfl sRet sRet sRet sConv (⟨gx, g', _, my, e2, _, rfl, hB, rfl⟩)
theorem told12 (h : B12 w q M Vw) : Tri Try.prog E 59 #[.pointer (some ⟨g, 0, none⟩), .pointer (some ⟨m, 0, none⟩)] (both12 g gd w m e q) fun r H' => r = .returned (.bool true) ∧ H' = both12 g gd w m e q := by
  have hmax : maxLen = 9223372036854775807 := rfl
  have h1 := h.wok
  have h2 := h.qok
  have hn1 := h1.n1
  have hlen1 := h1.len
  have hk256 : w.k ≤ 256 := by omega
  have eN : w.N = q.N := congrArg LS.N h.eq
  have eD : flat w.secs = q.D := congrArg LS.D h.eq
  have eR : w.recs.map Oc.b = q.recs.map Oc.b := congrArg LS.recs h.eq
  have eU : w.dur = q.dur := congrArg LS.dur h.eq
  have eP : w.pos = q.pos := congrArg LS.pos h.eq
  have eE : w.pend = q.pend := congrArg LS.pend h.eq
  have em : w.m = q.m := by rw [h1.hm, h2.hm, ← List.length_map (f := Oc.b), eR, List.length_map]
  have ep : w.p = q.p := by rw [h1.hp, h2.hp, eE]
  have hqr := h2.recs
  have hqd := h2.dur
  have hqm : q.m ≤ maxLen := by omega
  have hd2 : decide ((w.dur : Int) = (q.dur : Int)) = true := decide_eq_true (by rw [eU])
  have hd3 : decide (((w.m - w.dur : Nat) : Int) = ((q.m - q.dur : Nat) : Int)) = true := decide_eq_true (by rw [eU, em])
  have hd4 : decide (((32 * w.N - w.pos - w.p : Nat) : Int) = ((32 * q.N - q.pos - q.p : Nat) : Int)) = true := decide_eq_true (by rw [eN, eP, ep])
  have hdd : decide (flat w.secs = q.D) = true := decide_eq_true eD
  have hsub : IntKind.i64.wrap ((q.m : Int) - (q.dur : Int)) = ((q.m - q.dur : Nat) : Int) := by rw [IntWalk.i64_in _ (by omega)]; omega
  refine tri Try.func59 rfl Try.ntmps59 (by simp) ?_
  repeat (first | refine wRf12 ?_ | (refine kRf12 ?_; (first | rintro _ _ ⟨rfl, rfl⟩ | rintro _ _ ⟨_, rfl, rfl⟩ | rintro _ _ ⟨_, _, ⟨_, _⟩, rfl, rfl⟩); try refine ⟨sConv, ?_⟩) | refine Dr.two ?_ ?_)
  refine C.regionA 100000 (.one 0 false (.one 2 false (.one 3 false (.one 4 false (.one 5 false (.one 1 true (.one 6 true (.one 7 false (.one 8 false (.one 10 false (.one 11 false (.one 12 false (.one 13 false (.one 9 true (.one 14 false (.one 15 false (.one 16 false (.one 17 false (.one 19 false (.one 20 false (.one 21 false (.one 22 false (.one 23 false (.one 24 false (.one 25 false (.one 26 false (.one 27 false (.one 28 false (.one 18 true (.one 29 false (.one 30 false (.one 31 false (.one 32 false (.one 34 false (.one 33 true (.one 35 true (.one 36 false (.one 37 false (.one 38 false (.one 39 false (.one 43 false (.one 44 false (.one 45 false (.one 46 false (.one 47 false (.one 48 false (.one 49 false (.one 50 false (.one 40 true (.one 41 true (.one 42 false (.one 51 false (.one 52 false (.one 53 false .nil)))))))))))))))))))))))))))))))))))))))))))))))))))))) _ (by kernel_rfl) (by kernel_rfl) Conv.refl ?_
  repeat (first | refine wRf12 ?_ | (refine kRf12 ?_; (first | rintro _ _ ⟨rfl, rfl⟩ | rintro _ _ ⟨_, rfl, rfl⟩ | rintro _ _ ⟨_, _, ⟨_, _⟩, rfl, rfl⟩); try refine ⟨sConv, ?_⟩) | refine Dr.two ?_ ?_)
  refine Dr.go rfl (by rintro k ⟨⟩ <;> decide) sGon (S.call rfl rfl Try.func35 (by kernel_rfl) rfl sPicks (fun E' hE => wrecords E' g gd w h1) ?_)
  rintro r H' ⟨O, oc, xs, rfl, hxs1, hxs2, hoc, hxw, rfl⟩
  refine ⟨_, rfl, _, sCat, sConv, ?_⟩
  have hd1 : decide (xs.map (·.b) = q.recs.map (·.b)) = true := decide_eq_true (by show xs.map Oc.b = q.recs.map Oc.b; rw [hxs2, eR])
  repeat (first | refine wRf12 ?_ | (refine kRf12 ?_; (first | rintro _ _ ⟨rfl, rfl⟩ | rintro _ _ ⟨_, rfl, rfl⟩ | rintro _ _ ⟨_, _, ⟨_, _⟩, rfl, rfl⟩); try refine ⟨sConv, ?_⟩) | refine Dr.two ?_ ?_)
  refine Dr.go rfl (by rintro k ⟨⟩ <;> decide) sGon (S.call rfl rfl Try.func51 (by kernel_rfl) rfl sPicks (fun E' hE => octets_any E' O w.m oc xs q.R q.m q.rc q.recs sRd (Ins.each (l := xs) hE sHas) sRd (Ins.each (l := q.recs) hE sHas)) ?_)
  rw [hd1]
  rintro r H' ⟨rfl, rfl⟩
  refine ⟨_, rfl, _, sCat, sConv, ?_⟩
  repeat (first | refine wRf12 ?_ | (refine kRf12 ?_; (first | rintro _ _ ⟨rfl, rfl⟩ | rintro _ _ ⟨_, rfl, rfl⟩ | rintro _ _ ⟨_, _, ⟨_, _⟩, rfl, rfl⟩); try refine ⟨sConv, ?_⟩) | refine Dr.two ?_ ?_)
  refine Dr.go rfl (by rintro k ⟨⟩ <;> decide) sGon (S.call rfl rfl Try.func36 (by kernel_rfl) rfl sPicks (fun E' hE => wdurable E' g gd w) ?_)
  rintro r H' ⟨rfl, rfl⟩
  refine ⟨_, rfl, _, sCat, sConv, ?_⟩
  repeat (first | refine wRf12 ?_ | (refine kRf12 ?_; (first | rintro _ _ ⟨rfl, rfl⟩ | rintro _ _ ⟨_, rfl, rfl⟩ | rintro _ _ ⟨_, _, ⟨_, _⟩, rfl, rfl⟩); try refine ⟨sConv, ?_⟩) | refine Dr.two ?_ ?_)
  refine Dr.go rfl (by rintro k ⟨⟩ <;> decide) sGon (S.call rfl rfl Try.func42 (by kernel_rfl) rfl sPicks (fun E' hE => wpending E' g gd w h1) ?_)
  rintro r H' ⟨rfl, rfl⟩
  refine ⟨_, rfl, _, sCat, sConv, ?_⟩
  repeat (first | refine wRf12 ?_ | (refine kRf12 ?_; (first | rintro _ _ ⟨rfl, rfl⟩ | rintro _ _ ⟨_, rfl, rfl⟩ | rintro _ _ ⟨_, _, ⟨_, _⟩, rfl, rfl⟩); try refine ⟨sConv, ?_⟩) | refine Dr.two ?_ ?_)
  refine Dr.go rfl (by rintro k ⟨⟩ <;> decide) sGon (S.call rfl rfl Try.func55 (by kernel_rfl) rfl sPicks (fun E' hE => wroom E' g gd w h1) ?_)
  rintro r H' ⟨rfl, rfl⟩
  refine ⟨_, rfl, _, sCat, sConv, ?_⟩
  repeat (first | refine wRf12 ?_ | (refine kRf12 ?_; (first | rintro _ _ ⟨rfl, rfl⟩ | rintro _ _ ⟨_, rfl, rfl⟩ | rintro _ _ ⟨_, _, ⟨_, _⟩, rfl, rfl⟩); try refine ⟨sConv, ?_⟩) | refine Dr.two ?_ ?_)
  refine Dr.go rfl (by rintro k ⟨⟩ <;> decide) sGon (S.call rfl rfl Try.func101 (by kernel_rfl) rfl sPicks (fun E' hE => rroom E' m e q h2) ?_)
  rintro r H' ⟨rfl, rfl⟩
  refine ⟨_, rfl, _, sCat, sConv, ?_⟩
  repeat (first | refine wRf12 ?_ | (refine kRf12 ?_; (first | rintro _ _ ⟨rfl, rfl⟩ | rintro _ _ ⟨_, rfl, rfl⟩ | rintro _ _ ⟨_, _, ⟨_, _⟩, rfl, rfl⟩); try refine ⟨sConv, ?_⟩) | refine Dr.two ?_ ?_)
  refine Dr.go rfl (by rintro k ⟨⟩ <;> decide) sGon (S.call rfl rfl Try.func37 (by kernel_rfl) rfl sPicks (fun E' hE => wdisk E' g gd w h1) ?_)
  rintro r H' ⟨g', A', c', rfl, rfl⟩
  refine ⟨_, rfl, _, sCat, sConv, ?_⟩
  repeat (first | refine wRf12 ?_ | (refine kRf12 ?_; (first | rintro _ _ ⟨rfl, rfl⟩ | rintro _ _ ⟨_, rfl, rfl⟩ | rintro _ _ ⟨_, _, ⟨_, _⟩, rfl, rfl⟩); try refine ⟨sConv, ?_⟩) | refine Dr.two ?_ ?_)
  refine Dr.go rfl (by rintro k ⟨⟩ <;> decide) sGon (S.call rfl rfl Try.func50 (by kernel_rfl) rfl sPicks (fun E' hE => all_any E' g' true w.dead w.armed w.wr A' w.k c' w.secs hk256 h1.hk) ?_)
  rintro r H' ⟨O3, o3, rfl, rfl⟩
  refine ⟨_, rfl, _, sCat, sConv, ?_⟩
  refine Dr.more (Hk' := _) sConv Conv.refl ?_
  repeat (first | refine wRf12 ?_ | (refine kRf12 ?_; (first | rintro _ _ ⟨rfl, rfl⟩ | rintro _ _ ⟨_, rfl, rfl⟩ | rintro _ _ ⟨_, _, ⟨_, _⟩, rfl, rfl⟩); try refine ⟨sConv, ?_⟩) | refine Dr.two ?_ ?_)
  exact ret1 rfl sRet sConv (⟨by rw [hdd], rfl⟩)
theorem step12 (h : B12 w q M Vw) (hM : 260 ≤ M) (hM2 : M ≤ 1000) (hV0 : 0 ≤ Vw) (hV : Vw ≤ 800000) (x : Op12) (hr : Rd E octT x.A x.k x.c x.b) : Tri Try.prog E 58 #[.pointer (some ⟨g, 0, none⟩), .pointer (some ⟨m, 0, none⟩), .agg x.cs.toArray] (both12 g gd w m e q) (Post12 (M + 1) (Vw + 4128)) := by
  have hmax : maxLen = 9223372036854775807 := rfl
  have h1 := h.wok
  have h2 := h.qok
  have hwv := h.wv
  have hqv := h.qv
  have hwm := h.wm
  have hqm := h.qm
  unfold Post12
  refine tri Try.func58 rfl Try.ntmps58 (by simp) ?_
  by_cases k1 : x.kind = 1
  · have hm1 : w.m + 1 ≤ 100000 := by omega
    have hm2 : q.m + 1 ≤ 100000 := by omega
    repeat (first | refine wRf12 ?_ | (refine kRf12 ?_; (first | rintro _ _ ⟨rfl, rfl⟩ | rintro _ _ ⟨_, rfl, rfl⟩ | rintro _ _ ⟨_, _, ⟨_, _⟩, rfl, rfl⟩); try refine ⟨sConv, ?_⟩) | refine Dr.two ?_ ?_)
    rename_i go
    refine C.regionA 100000 (.one 0 false (.one 1 false (.one 2 false (.one 3 false (.one 4 false (.one 6 false (.one 7 false (.one 8 false (.one 5 true (.one 9 true (.one 10 false (.one 11 false (.one 12 false (.one 13 false .nil)))))))))))))) ([blk go 118 x.cs]) (by kernel_rfl) (by kernel_rfl) sConv ?_
    repeat (first | refine wRf12 ?_ | (refine kRf12 ?_; (first | rintro _ _ ⟨rfl, rfl⟩ | rintro _ _ ⟨_, rfl, rfl⟩ | rintro _ _ ⟨_, _, ⟨_, _⟩, rfl, rfl⟩); try refine ⟨sConv, ?_⟩) | refine Dr.two ?_ ?_)
    refine Dr.go rfl (by rintro k ⟨⟩ <;> decide) sGon (S.call rfl rfl Try.func33 (by kernel_rfl) rfl sPicks (fun E' hE => wappend E' g gd w h1 hm1 x.A x.k x.c x.b (hr.sub hE)) ?_)
    unfold WPost
    rw [h.eq]
    rintro r H' ⟨w', rfl, hok', hs', hwr', hm', rfl⟩
    refine ⟨_, rfl, _, sCat, sConv, ?_⟩
    repeat (first | refine wRf12 ?_ | (refine kRf12 ?_; (first | rintro _ _ ⟨rfl, rfl⟩ | rintro _ _ ⟨_, rfl, rfl⟩ | rintro _ _ ⟨_, _, ⟨_, _⟩, rfl, rfl⟩); try refine ⟨sConv, ?_⟩) | refine Dr.two ?_ ?_)
    refine Dr.go rfl (by rintro k ⟨⟩ <;> decide) sGon (S.call rfl rfl Try.func97 (by kernel_rfl) rfl sPicks (fun E' hE => rappend E' m e q h2 hm2 x.A x.k x.c x.b (hr.sub hE)) ?_)
    unfold RPost
    rintro r H' ⟨q', rfl, hqok', hqs', hqwr', hqm', rfl⟩
    refine ⟨_, rfl, _, sCat, sConv, ?_⟩
    have hB : B12 w' q' (M + 1) (Vw + 4128) := ⟨hok', hqok', hs'.trans hqs'.symm, by omega, by omega, by omega, by omega⟩
    repeat (first | refine wRf12 ?_ | (refine kRf12 ?_; (first | rintro _ _ ⟨rfl, rfl⟩ | rintro _ _ ⟨_, rfl, rfl⟩ | rintro _ _ ⟨_, _, ⟨_, _⟩, rfl, rfl⟩); try refine ⟨sConv, ?_⟩) | refine Dr.two ?_ ?_)
    exact ret3 rfl sRet sRet sRet sConv (⟨g, gd, w', m, e, q', by simp, hB, rfl⟩)
  by_cases k2 : x.kind = 2
  · have hw9 : w.wr ≤ 900000 := by omega
    have hq9 : q.wr ≤ 900000 := by omega
    repeat (first | refine wRf12 ?_ | (refine kRf12 ?_; (first | rintro _ _ ⟨rfl, rfl⟩ | rintro _ _ ⟨_, rfl, rfl⟩ | rintro _ _ ⟨_, _, ⟨_, _⟩, rfl, rfl⟩); try refine ⟨sConv, ?_⟩) | refine Dr.two ?_ ?_)
    refine L.step (by decide) (S.call rfl rfl Try.func34 (by kernel_rfl) rfl sPicks (fun E' hE => wsync E' g gd w h1 hw9) ?_)
    unfold WPost
    rw [h.eq]
    rintro r H' ⟨w', rfl, hok', hs', hwr', hm', rfl⟩
    refine ⟨_, rfl, _, sCat, ?_⟩
    repeat (first | refine wRf12 ?_ | (refine kRf12 ?_; (first | rintro _ _ ⟨rfl, rfl⟩ | rintro _ _ ⟨_, rfl, rfl⟩ | rintro _ _ ⟨_, _, ⟨_, _⟩, rfl, rfl⟩); try refine ⟨sConv, ?_⟩) | refine Dr.two ?_ ?_)
    refine L.step (by decide) (S.call rfl rfl Try.func98 (by kernel_rfl) rfl sPicks (fun E' hE => rsync E' m e q h2 hq9) ?_)
    unfold RPost
    rintro r H' ⟨q', rfl, hqok', hqs', hqwr', hqm', rfl⟩
    refine ⟨_, rfl, _, sCat, ?_⟩
    have hB : B12 w' q' (M + 1) (Vw + 4128) := ⟨hok', hqok', hs'.trans hqs'.symm, by omega, by omega, by omega, by omega⟩
    repeat (first | refine wRf12 ?_ | (refine kRf12 ?_; (first | rintro _ _ ⟨rfl, rfl⟩ | rintro _ _ ⟨_, rfl, rfl⟩ | rintro _ _ ⟨_, _, ⟨_, _⟩, rfl, rfl⟩); try refine ⟨sConv, ?_⟩) | refine Dr.two ?_ ?_)
    exact ret3 rfl sRet sRet sRet sConv (⟨g, gd, w', m, e, q', by simp, hB, rfl⟩)
  by_cases k3 : x.kind = 3
  · have hw9 : w.wr ≤ 890000 := by omega
    have hq9 : q.wr ≤ 890000 := by omega
    repeat (first | refine wRf12 ?_ | (refine kRf12 ?_; (first | rintro _ _ ⟨rfl, rfl⟩ | rintro _ _ ⟨_, rfl, rfl⟩ | rintro _ _ ⟨_, _, ⟨_, _⟩, rfl, rfl⟩); try refine ⟨sConv, ?_⟩) | refine Dr.two ?_ ?_)
    rename_i go
    refine C.regionA 100000 (.one 0 false (.one 1 false (.one 2 false (.one 3 false (.one 4 false (.one 6 false (.one 7 false (.one 8 false (.one 5 true (.one 9 true (.one 10 false (.one 11 false (.one 12 false (.one 13 false .nil)))))))))))))) ([blk go 118 x.cs]) (by kernel_rfl) (by kernel_rfl) sConv ?_
    repeat (first | refine wRf12 ?_ | (refine kRf12 ?_; (first | rintro _ _ ⟨rfl, rfl⟩ | rintro _ _ ⟨_, rfl, rfl⟩ | rintro _ _ ⟨_, _, ⟨_, _⟩, rfl, rfl⟩); try refine ⟨sConv, ?_⟩) | refine Dr.two ?_ ?_)
    refine Dr.go rfl (by rintro k ⟨⟩ <;> decide) sGon (S.call rfl rfl Try.func54 (by kernel_rfl) rfl sPicks (fun E' hE => wswap E' g gd w h1 hw9 x.A x.k x.c x.b (hr.sub hE)) ?_)
    unfold WPost
    rw [h.eq]
    rintro r H' ⟨w', rfl, hok', hs', hwr', hm', rfl⟩
    refine ⟨_, rfl, _, sCat, sConv, ?_⟩
    repeat (first | refine wRf12 ?_ | (refine kRf12 ?_; (first | rintro _ _ ⟨rfl, rfl⟩ | rintro _ _ ⟨_, rfl, rfl⟩ | rintro _ _ ⟨_, _, ⟨_, _⟩, rfl, rfl⟩); try refine ⟨sConv, ?_⟩) | refine Dr.two ?_ ?_)
    refine Dr.go rfl (by rintro k ⟨⟩ <;> decide) sGon (S.call rfl rfl Try.func99 (by kernel_rfl) rfl sPicks (fun E' hE => rswap E' m e q h2 hq9 x.A x.k x.c x.b (hr.sub hE)) ?_)
    unfold RPost
    rintro r H' ⟨q', rfl, hqok', hqs', hqwr', hqm', rfl⟩
    refine ⟨_, rfl, _, sCat, sConv, ?_⟩
    have hB : B12 w' q' (M + 1) (Vw + 4128) := ⟨hok', hqok', hs'.trans hqs'.symm, by omega, by omega, by omega, by omega⟩
    repeat (first | refine wRf12 ?_ | (refine kRf12 ?_; (first | rintro _ _ ⟨rfl, rfl⟩ | rintro _ _ ⟨_, rfl, rfl⟩ | rintro _ _ ⟨_, _, ⟨_, _⟩, rfl, rfl⟩); try refine ⟨sConv, ?_⟩) | refine Dr.two ?_ ?_)
    exact ret3 rfl sRet sRet sRet sConv (⟨g, gd, w', m, e, q', by simp, hB, rfl⟩)
  by_cases k4 : x.kind = 4
  · repeat (first | refine wRf12 ?_ | (refine kRf12 ?_; (first | rintro _ _ ⟨rfl, rfl⟩ | rintro _ _ ⟨_, rfl, rfl⟩ | rintro _ _ ⟨_, _, ⟨_, _⟩, rfl, rfl⟩); try refine ⟨sConv, ?_⟩) | refine Dr.two ?_ ?_)
    refine L.step (by decide) (S.call rfl rfl Try.func100 (by kernel_rfl) rfl sPicks (fun E' hE => again12 E' g gd w m e q M Vw h hM hV0 hV (-1) (by decide)) ?_)
    unfold Post12
    rintro r H' ⟨g2, gd2, w2, m2, e2, q2, rfl, hB, rfl⟩
    refine ⟨_, rfl, _, sCat, ?_⟩
    repeat (first | refine wRf12 ?_ | (refine kRf12 ?_; (first | rintro _ _ ⟨rfl, rfl⟩ | rintro _ _ ⟨_, rfl, rfl⟩ | rintro _ _ ⟨_, _, ⟨_, _⟩, rfl, rfl⟩); try refine ⟨sConv, ?_⟩) | refine Dr.two ?_ ?_)
    exact ret3 rfl sRet sRet sRet sConv (⟨g2, gd2, w2, m2, e2, q2, rfl, hB, rfl⟩)
  by_cases k5 : x.kind = 5
  · repeat (first | refine wRf12 ?_ | (refine kRf12 ?_; (first | rintro _ _ ⟨rfl, rfl⟩ | rintro _ _ ⟨_, rfl, rfl⟩ | rintro _ _ ⟨_, _, ⟨_, _⟩, rfl, rfl⟩); try refine ⟨sConv, ?_⟩) | refine Dr.two ?_ ?_)
    refine L.step (by decide) (S.call rfl rfl Try.func39 (by kernel_rfl) rfl sPicks (fun E' hE => near12 E' x.n (-1) 9000) ?_)
    rintro r H' ⟨rfl, rfl⟩
    refine ⟨_, rfl, _, sCat, ?_⟩
    have harm : (if x.n < -1 then -1 else if 9000 < x.n then 9000 else x.n) ≤ 9000 := by split; decide; split <;> omega
    repeat (first | refine wRf12 ?_ | (refine kRf12 ?_; (first | rintro _ _ ⟨rfl, rfl⟩ | rintro _ _ ⟨_, rfl, rfl⟩ | rintro _ _ ⟨_, _, ⟨_, _⟩, rfl, rfl⟩); try refine ⟨sConv, ?_⟩) | refine Dr.two ?_ ?_)
    refine L.step (by decide) (S.call rfl rfl Try.func100 (by kernel_rfl) rfl sPicks (fun E' hE => again12 E' g gd w m e q M Vw h hM hV0 hV _ harm) ?_)
    unfold Post12
    rintro r H' ⟨g2, gd2, w2, m2, e2, q2, rfl, hB, rfl⟩
    refine ⟨_, rfl, _, sCat, ?_⟩
    repeat (first | refine wRf12 ?_ | (refine kRf12 ?_; (first | rintro _ _ ⟨rfl, rfl⟩ | rintro _ _ ⟨_, rfl, rfl⟩ | rintro _ _ ⟨_, _, ⟨_, _⟩, rfl, rfl⟩); try refine ⟨sConv, ?_⟩) | refine Dr.two ?_ ?_)
    exact ret3 rfl sRet sRet sRet sConv (⟨g2, gd2, w2, m2, e2, q2, rfl, hB, rfl⟩)
  have hB : B12 w q (M + 1) (Vw + 4128) := ⟨h1, h2, h.eq, by omega, by omega, by omega, by omega⟩
  repeat (first | refine wRf12 ?_ | (refine kRf12 ?_; (first | rintro _ _ ⟨rfl, rfl⟩ | rintro _ _ ⟨_, rfl, rfl⟩ | rintro _ _ ⟨_, _, ⟨_, _⟩, rfl, rfl⟩); try refine ⟨sConv, ?_⟩) | refine Dr.two ?_ ?_)
  exact ret3 rfl sRet sRet sRet sConv (⟨g, gd, w, m, e, q, rfl, hB, rfl⟩)
end
def few12 (l : List Op12) : List Op12 := if 40 < l.length then l.take 40 else l
theorem few12_any (E : Env) (A : Option Addr) (n c : Nat) (l : List Op12) (hr : Rd E op12T A n c l) : Tri Try.prog E 57 #[.slice A n c] [] fun r H' => ∃ n', r = .returned (.slice A n' c) ∧ n' ≤ 40 ∧ (∀ E2, Rd E2 op12T A n c l → Rd E2 op12T A n' c (few12 l)) ∧ H' = [] := by
  have hcap := hr.cap
  have hn := hr.len
  refine tri Try.func57 rfl Try.ntmps57 (by simp) ?_
  by_cases h : 40 < n
  · repeat (first | refine wRf12 ?_ | (refine kRf12 ?_; (first | rintro _ _ ⟨rfl, rfl⟩ | rintro _ _ ⟨_, rfl, rfl⟩ | rintro _ _ ⟨_, _, ⟨_, _⟩, rfl, rfl⟩); try refine ⟨sConv, ?_⟩) | refine Dr.two ?_ ?_)
    exact ret1 rfl sRet sConv (⟨40, rfl, Nat.le_refl _, fun E2 h2 => by unfold few12; rw [if_pos (by omega)]; exact h2.upto (by omega) (by omega) (Nat.le_refl _), rfl⟩)
  · repeat (first | refine wRf12 ?_ | (refine kRf12 ?_; (first | rintro _ _ ⟨rfl, rfl⟩ | rintro _ _ ⟨_, rfl, rfl⟩ | rintro _ _ ⟨_, _, ⟨_, _⟩, rfl, rfl⟩); try refine ⟨sConv, ?_⟩) | refine Dr.two ?_ ?_)
    exact ret1 rfl sRet sConv (⟨n, rfl, by omega, fun E2 h2 => by unfold few12; rw [if_neg (by omega)]; exact h2, rfl⟩)
theorem runs12 (E : Env) (n : Int) (A : Option Addr) (na ca : Nat) (l : List Op12) (hr : Rd E op12T A na ca l) (hin : ∀ x ∈ l, Rd E octT x.A x.k x.c x.b) : Tri Try.prog E 11 #[.int .i64 n, .slice A na ca] [] fun r _ => r = .returned (.bool true) := by
  have hmax : maxLen = 9223372036854775807 := rfl
  obtain ⟨k, hk, hk0, hk1⟩ := near_k n
  have hfin : ∀ x ∈ few12 l, Rd E octT x.A x.k x.c x.b := by
    intro x hx
    unfold few12 at hx
    split at hx
    · exact hin x (List.mem_of_mem_take hx)
    · exact hin x hx
  refine tri Try.func11 rfl Try.ntmps11 (by simp) ?_
  repeat (first | refine wRf12 ?_ | (refine kRf12 ?_; (first | rintro _ _ ⟨rfl, rfl⟩ | rintro _ _ ⟨_, rfl, rfl⟩ | rintro _ _ ⟨_, _, ⟨_, _⟩, rfl, rfl⟩); try refine ⟨sConv, ?_⟩) | refine Dr.two ?_ ?_)
  refine L.step (by decide) (S.call rfl rfl Try.func31 (by kernel_rfl) rfl sPicks (fun E' hE => alive12 E') ?_)
  rintro r H' ⟨rfl, rfl⟩
  refine ⟨_, rfl, _, sCat, ?_⟩
  repeat (first | refine wRf12 ?_ | (refine kRf12 ?_; (first | rintro _ _ ⟨rfl, rfl⟩ | rintro _ _ ⟨_, rfl, rfl⟩ | rintro _ _ ⟨_, _, ⟨_, _⟩, rfl, rfl⟩); try refine ⟨sConv, ?_⟩) | refine Dr.two ?_ ?_)
  refine L.step (by decide) (S.call rfl rfl Try.func32 (by kernel_rfl) rfl sPicks (fun E' hE => wnew E' n k hk) ?_)
  rintro r H' ⟨g, gd, w, rfl, h0, hs0, hwr0, hr0, rfl⟩
  have hm0 : w.m = 0 := by rw [h0.hm, hr0]; rfl
  refine ⟨_, rfl, _, sCat, ?_⟩
  repeat (first | refine wRf12 ?_ | (refine kRf12 ?_; (first | rintro _ _ ⟨rfl, rfl⟩ | rintro _ _ ⟨_, rfl, rfl⟩ | rintro _ _ ⟨_, _, ⟨_, _⟩, rfl, rfl⟩); try refine ⟨sConv, ?_⟩) | refine Dr.two ?_ ?_)
  refine L.step (by decide) (S.call rfl rfl Try.func39 (by kernel_rfl) rfl sPicks (fun E' hE => near12 E' n 1 64) ?_)
  rw [← hk]
  rintro r H' ⟨rfl, rfl⟩
  refine ⟨_, rfl, _, sCat, ?_⟩
  repeat (first | refine wRf12 ?_ | (refine kRf12 ?_; (first | rintro _ _ ⟨rfl, rfl⟩ | rintro _ _ ⟨_, rfl, rfl⟩ | rintro _ _ ⟨_, _, ⟨_, _⟩, rfl, rfl⟩); try refine ⟨sConv, ?_⟩) | refine Dr.two ?_ ?_)
  refine L.step (by decide) (S.call rfl rfl Try.func56 (by kernel_rfl) rfl sPicks (fun E' hE => rnew E' k hk0 hk1) ?_)
  rintro r H' ⟨m, e, q, rfl, hq0, hqs0, hqwr0, hqm0, rfl⟩
  refine ⟨_, rfl, _, sCat, ?_⟩
  have hB0 : B12 w q 260 0 := ⟨h0, hq0, hs0.trans hqs0.symm, by omega, by omega, by omega, by omega⟩
  repeat (first | refine wRf12 ?_ | (refine kRf12 ?_; (first | rintro _ _ ⟨rfl, rfl⟩ | rintro _ _ ⟨_, rfl, rfl⟩ | rintro _ _ ⟨_, _, ⟨_, _⟩, rfl, rfl⟩); try refine ⟨sConv, ?_⟩) | refine Dr.two ?_ ?_)
  refine L.step (by decide) (S.call rfl rfl Try.func57 (by kernel_rfl) rfl sPicks (fun E' hE => few12_any E' A na ca l sRd) ?_)
  rintro r H' ⟨n', rfl, hn40, hfr, rfl⟩
  refine ⟨_, rfl, _, sCat, ?_⟩
  have hrf := hfr E hr
  have hlf := hrf.len
  have hcf := hrf.cap
  clear hfr
  repeat (first | refine wRf12 ?_ | (refine kRf12 ?_; (first | rintro _ _ ⟨rfl, rfl⟩ | rintro _ _ ⟨_, rfl, rfl⟩ | rintro _ _ ⟨_, _, ⟨_, _⟩, rfl, rfl⟩); try refine ⟨sConv, ?_⟩) | refine Dr.two ?_ ?_)
  refine C.loop (X := Nat × (Nat × Nat × WL) × (Nat × Nat × RL)) (fun x => [(1, .slice A n' ca), (5, .pointer (some ⟨x.2.1.1, 0, none⟩)), (6, .pointer (some ⟨x.2.2.1, 0, none⟩)), (8, .int .i64 x.1)])
    (fun x => both12 x.2.1.1 x.2.1.2.1 x.2.1.2.2 x.2.2.1 x.2.2.2.1 x.2.2.2.2) (fun x => x.1 ≤ n' ∧ B12 x.2.1.2.2 x.2.2.2.2 (260 + x.1) (4128 * (x.1 : Int))) (fun x => n' - x.1) (0, (g, gd, w), (m, e, q)) sHolds sConv ⟨Nat.zero_le _, hB0⟩ ?_
  rintro ⟨i, ⟨g1, gd1, w1⟩, ⟨m1, e1, q1⟩⟩ F ⟨hi, hB⟩
  dsimp only at hi hB ⊢
  by_cases hlt : i < n'
  · obtain ⟨x, hx⟩ : ∃ x, (few12 l)[i]? = some x := ⟨_, List.getElem?_eq_getElem (by omega)⟩
    have hxr := hfin x (List.mem_of_getElem? hx)
    have y1 : 260 ≤ 260 + i := by omega
    have y2 : 260 + i ≤ 1000 := by omega
    have y3 : 0 ≤ 4128 * (i : Int) := by omega
    have y4 : 4128 * (i : Int) ≤ 800000 := by omega
    repeat (first | refine wRf12 ?_ | (refine kRf12 ?_; (first | rintro _ _ ⟨rfl, rfl⟩ | rintro _ _ ⟨_, rfl, rfl⟩ | rintro _ _ ⟨_, _, ⟨_, _⟩, rfl, rfl⟩); try refine ⟨sConv, ?_⟩) | refine Dr.two ?_ ?_)
    refine L.step (by decide) (S.call rfl rfl Try.func58 (by kernel_rfl) rfl sPicks (fun E' hE => step12 E' g1 gd1 w1 m1 e1 q1 (260 + i) (4128 * (i : Int)) hB y1 y2 y3 y4 x (hxr.sub hE)) ?_)
    unfold Post12
    rintro r H' ⟨g2, gd2, w2, m2, e2, q2, rfl, hB2, rfl⟩
    refine ⟨_, rfl, _, sCat, ?_⟩
    repeat (first | refine wRf12 ?_ | (refine kRf12 ?_; (first | rintro _ _ ⟨rfl, rfl⟩ | rintro _ _ ⟨_, rfl, rfl⟩ | rintro _ _ ⟨_, _, ⟨_, _⟩, rfl, rfl⟩); try refine ⟨sConv, ?_⟩) | refine Dr.two ?_ ?_)
    refine L.step (by decide) (S.call rfl rfl Try.func59 (by kernel_rfl) rfl sPicks (fun E' hE => told12 E' g2 gd2 w2 m2 e2 q2 (260 + i + 1) (4128 * (i : Int) + 4128) hB2) ?_)
    rintro r H' ⟨rfl, rfl⟩
    refine ⟨_, rfl, _, sCat, ?_⟩
    repeat (first | refine wRf12 ?_ | (refine kRf12 ?_; (first | rintro _ _ ⟨rfl, rfl⟩ | rintro _ _ ⟨_, rfl, rfl⟩ | rintro _ _ ⟨_, _, ⟨_, _⟩, rfl, rfl⟩); try refine ⟨sConv, ?_⟩) | refine Dr.two ?_ ?_)
    exact ⟨(i + 1, (g2, gd2, w2), (m2, e2, q2)), sHolds, sConv, ⟨by dsimp only; omega, by dsimp only; rw [show 260 + (i + 1) = 260 + i + 1 by omega, show 4128 * ((i + 1 : Nat) : Int) = 4128 * (i : Int) + 4128 by omega]; exact hB2⟩, by dsimp only; omega⟩
  · repeat (first | refine wRf12 ?_ | (refine kRf12 ?_; (first | rintro _ _ ⟨rfl, rfl⟩ | rintro _ _ ⟨_, rfl, rfl⟩ | rintro _ _ ⟨_, _, ⟨_, _⟩, rfl, rfl⟩); try refine ⟨sConv, ?_⟩) | refine Dr.two ?_ ?_)
    refine L.step (by decide) (S.call rfl rfl Try.func59 (by kernel_rfl) rfl sPicks (fun E' hE => told12 E' g1 gd1 w1 m1 e1 q1 (260 + i) (4128 * (i : Int)) hB) ?_)
    rintro r H' ⟨rfl, rfl⟩
    refine ⟨_, rfl, _, sCat, ?_⟩
    repeat (first | refine wRf12 ?_ | (refine kRf12 ?_; (first | rintro _ _ ⟨rfl, rfl⟩ | rintro _ _ ⟨_, rfl, rfl⟩ | rintro _ _ ⟨_, _, ⟨_, _⟩, rfl, rfl⟩); try refine ⟨sConv, ?_⟩) | refine Dr.two ?_ ?_)
    exact ret1 rfl sRet sConv (rfl)
end Go.Proofs.Ytkhmplaocfjpjaa.Sep
