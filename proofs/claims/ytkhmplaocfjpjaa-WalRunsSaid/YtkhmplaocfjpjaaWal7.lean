/- wal's log: one record alone, in the other half; by parts of memory. -/
import Derived.Test.YtkhmplaocfjpjaaWal6
namespace Go.Proofs.Ytkhmplaocfjpjaa.Sep
open Go.RowKit Go.Proofs.Ytkhmplaocfjpjaa.Reg
open Go.Proofs.Ytkhmplaocfjpjaa.Mem hiding Rd Own
set_option maxRecDepth 100000
-- types: octT secT slT
-- recs: rec_Disk plate_rec log_rec
set_option maxRecDepth 100000
set_option maxHeartbeats 3000000
theorem head_sp {D x : List UInt8} {o : Nat} (ho : 1 ≤ o) (hD : o + x.length ≤ D.length) : (sp D o x).headD 0 = D.headD 0 := by
  have h := sp_get hD 0
  rw [if_pos (by omega)] at h
  cases hs : sp D o x with
  | nil => have := sp_length hD; rw [hs] at this; simp at this; omega
  | cons y t =>
    cases hd : D with
    | nil => rw [hd] at hD; simp at hD; omega
    | cons z u => rw [hs, hd] at h; injection h
theorem hb_sp {D x : List UInt8} {o : Nat} (ho : 1 ≤ o) (hD : o + x.length ≤ D.length) : hb (sp D o x) = hb D := by unfold hb; rw [head_sp ho hD]
theorem tx_sp {D x : List UInt8} {o : Nat} (ho : 1 ≤ o) (hD : o + x.length ≤ D.length) : tx (sp D o x) = tx D := by unfold tx; rw [head_sp ho hD]
abbrev swD1 (s : LS) : List UInt8 := sp s.D (hfrom s.N (1 - hb s.D) + 0) ((List.replicate (32 * s.N) 0).take (lq s.armed 0 (32 * s.N)))
abbrev swF1 (s : LS) : Int := larm s.armed 0 (32 * s.N)
abbrev swD2 (s : LS) (b : List UInt8) : List UInt8 := sp (swD1 s) (hfrom s.N (1 - hb s.D) + 0) ((Frm.fr b).take (lq (swF1 s) 0 (b.length + 7)))
abbrev swF2 (s : LS) (b : List UInt8) : Int := larm (swF1 s) 0 (b.length + 7)
abbrev swD3 (s : LS) (b : List UInt8) : List UInt8 := sp (swD2 s b) 0 (if wk (swF2 s b) = 0 then [] else [tx s.D])
def LS.swap (s : LS) (b : List UInt8) : Int × LS :=
  if b.length = 0 then (4, s) else if 4096 < b.length then (5, s) else if 32 * s.N < b.length + 7 then (10, s) else if s.dead = true then (19, s)
  else if lcut s.armed 0 (32 * s.N) = true then (19, ⟨s.N, swD1 s, s.recs, s.dur, s.pos, s.pend, true, swF1 s⟩)
  else if lcut (swF1 s) 0 (b.length + 7) = true then (19, ⟨s.N, swD2 s b, s.recs, s.dur, s.pos, s.pend, true, swF2 s b⟩)
  else if wdead (swF2 s b) = true then (19, ⟨s.N, swD3 s b, s.recs, s.dur, s.pos, s.pend, true, warmed (swF2 s b)⟩)
  else (0, ⟨s.N, swD3 s b, [b], 1, b.length + 7, [], false, warmed (swF2 s b)⟩)
section
variable (E : Env) (g gd : Nat) (w : WL)
theorem wturn_m (N : Nat) (armed wr : Int) (A : Option Addr) (n c : Nat) (l : List Sec) (h : Nat) (hh : h = 1 - hb (flat l)) (hn : n ≤ 256) (hl : 0 < l.length) (hnl : n = l.length) (ha : -1 ≤ armed) (ha2 : armed ≤ 9223372036854775807) (hw : 0 ≤ wr) (hw2 : wr ≤ 1000000) :
    Tri Try.prog E 96 #[plt gd N, .int .i64 (h : Int)] (dks gd true false armed wr A n c l) fun e H' => ∃ l' wr', e = .returned (.bool (!wdead armed)) ∧ l'.length = l.length ∧ flat l' = sp (flat l) 0 (if wk armed = 0 then [] else [tx (flat l)]) ∧ wr ≤ wr' ∧ wr' ≤ wr + 32 ∧ H' = dks gd true (wdead armed) (warmed armed) wr' A n c l' := by
  subst hh
  exact wturn E gd N armed wr A n c l hn hl hnl ha ha2 hw hw2
theorem larm_le {F : Int} (h : F ≤ 9223372036854775807) (a len : Nat) : larm F a len ≤ 9223372036854775807 := by unfold larm; split; omega; split <;> omega
theorem warmed_ok {F : Int} (h0 : -1 ≤ F) (h1 : F ≤ 9223372036854775807) : -1 ≤ warmed F ∧ warmed F ≤ 9223372036854775807 := by unfold warmed; split; omega; split <;> omega
theorem wswap (h : w.ok) (hwr : w.wr ≤ 890000) (X : Option Addr) (nx cx : Nat) (b : List UInt8) (hr : Rd E octT X nx cx b) :
    Tri Try.prog E 54 #[.pointer (some ⟨g, 0, none⟩), .slice X nx cx] (wst g gd w) (WPost g gd w (w.s.swap b) 4128) := by
  have hmax : maxLen = 9223372036854775807 := rfl
  have hnx := hr.len
  have hcx := hr.cap
  have hn0 := h.n0
  have hn1 := h.n1
  have hlen := h.len
  have hwk := h.hk
  have hfit := h.fit
  have hn256 : w.k ≤ 256 := by omega
  have hl0 : 0 < w.secs.length := by omega
  have hD : (flat w.secs).length = 32 * (2 * w.N + 1) := by rw [flat_length]; omega
  have hsame : ∀ z : Int, WPost g gd w (z, w.s) 4128 (.returned (.int .i64 z)) (wst g gd w) := fun z => ⟨w, rfl, h, rfl, by omega, by omega, rfl⟩
  unfold LS.swap
  have esN : w.s.N = w.N := rfl
  have esd : w.s.dead = w.dead := rfl
  rw [esN, esd]
  have eN : IntKind.i64.wrap ((w.N : Int) * 32) = ((32 * w.N : Nat) : Int) := by rw [IntWalk.i64_in _ (by omega)]; omega
  refine tri Try.func54 rfl Try.ntmps54 (by simp) ?_
  repeat (first | refine wWl1 ?_ | (refine kWl1 ?_; (first | rintro _ _ ⟨rfl, rfl⟩ | rintro _ _ ⟨_, rfl, rfl⟩ | rintro _ _ ⟨_, _, ⟨_, _⟩, rfl, rfl⟩); try refine ⟨sConv, ?_⟩) | refine Dr.two ?_ ?_)
  refine L.step (by decide) (S.call rfl rfl Try.func81 (by kernel_rfl) rfl sPicks (fun E' hE => wis E' g gd w) ?_)
  rintro e H' ⟨rfl, rfl⟩
  refine ⟨_, rfl, _, sCat, ?_⟩
  repeat (first | refine wWl1 ?_ | (refine kWl1 ?_; (first | rintro _ _ ⟨rfl, rfl⟩ | rintro _ _ ⟨_, rfl, rfl⟩ | rintro _ _ ⟨_, _, ⟨_, _⟩, rfl, rfl⟩); try refine ⟨sConv, ?_⟩) | refine Dr.two ?_ ?_)
  by_cases h0 : b.length = 0
  · rw [if_pos h0]
    obtain rfl : nx = 0 := by omega
    refine L.step (by decide) (S.call rfl rfl Try.func82 (by kernel_rfl) rfl sPicks (fun E' hE => putf_0 E' X cx) ?_)
    rintro e H' ⟨rfl, rfl⟩
    refine ⟨_, rfl, _, sCat, ?_⟩
    repeat (first | refine wWl1 ?_ | (refine kWl1 ?_; (first | rintro _ _ ⟨rfl, rfl⟩ | rintro _ _ ⟨_, rfl, rfl⟩ | rintro _ _ ⟨_, _, ⟨_, _⟩, rfl, rfl⟩); try refine ⟨sConv, ?_⟩) | refine Dr.two ?_ ?_)
    exact ret1 rfl sRet sConv (hsame 4)
  rw [if_neg h0]
  by_cases h5 : 4096 < b.length
  · rw [if_pos h5]
    refine L.step (by decide) (S.call rfl rfl Try.func82 (by kernel_rfl) rfl sPicks (fun E' hE => putf_long E' X nx cx b sRd (by omega)) ?_)
    rintro e H' ⟨rfl, rfl⟩
    refine ⟨_, rfl, _, sCat, ?_⟩
    repeat (first | refine wWl1 ?_ | (refine kWl1 ?_; (first | rintro _ _ ⟨rfl, rfl⟩ | rintro _ _ ⟨_, rfl, rfl⟩ | rintro _ _ ⟨_, _, ⟨_, _⟩, rfl, rfl⟩); try refine ⟨sConv, ?_⟩) | refine Dr.two ?_ ?_)
    exact ret1 rfl sRet sConv (hsame 5)
  rw [if_neg h5]
  refine L.step (by decide) (S.call rfl rfl Try.func82 (by kernel_rfl) rfl sPicks (fun E' hE => putf_ok E' X nx cx b sRd (by omega) (by omega)) ?_)
  rintro e H' ⟨A1, c1, rfl, rfl⟩
  refine ⟨_, rfl, _, sCat, ?_⟩
  have hn7 : nx + 7 ≤ maxLen := by omega
  by_cases hrm : 32 * w.N < b.length + 7
  · rw [if_pos hrm]
    have ht : decide (((32 * w.N : Nat) : Int) < ((nx + 7 : Nat) : Int)) = true := decide_eq_true (by omega)
    repeat (first | refine wWl1 ?_ | (refine kWl1 ?_; (first | rintro _ _ ⟨rfl, rfl⟩ | rintro _ _ ⟨_, rfl, rfl⟩ | rintro _ _ ⟨_, _, ⟨_, _⟩, rfl, rfl⟩); try refine ⟨sConv, ?_⟩) | refine Dr.two ?_ ?_)
    exact ret1 rfl sRet sConv (hsame 10)
  rw [if_neg hrm]
  have ht : decide (((32 * w.N : Nat) : Int) < ((nx + 7 : Nat) : Int)) = false := decide_eq_false (by omega)
  repeat (first | refine wWl1 ?_ | (refine kWl1 ?_; (first | rintro _ _ ⟨rfl, rfl⟩ | rintro _ _ ⟨_, rfl, rfl⟩ | rintro _ _ ⟨_, _, ⟨_, _⟩, rfl, rfl⟩); try refine ⟨sConv, ?_⟩) | refine Dr.two ?_ ?_)
  refine L.step (by decide) (S.call rfl rfl Try.func83 (by kernel_rfl) rfl sPicks (fun E' hE => dead_any E' gd true w.dead w.armed w.wr w.A w.k w.c) ?_)
  rcases Bool.eq_false_or_eq_true w.dead with hd | hd
  · rw [if_pos hd]
    rintro e H' ⟨rfl, rfl⟩
    refine ⟨_, rfl, _, sCat, ?_⟩
    repeat (first | refine wWl1 ?_ | (refine kWl1 ?_; (first | rintro _ _ ⟨rfl, rfl⟩ | rintro _ _ ⟨_, rfl, rfl⟩ | rintro _ _ ⟨_, _, ⟨_, _⟩, rfl, rfl⟩); try refine ⟨sConv, ?_⟩) | refine Dr.two ?_ ?_)
    exact ret1 rfl sRet sConv (hsame 19)
  rw [if_neg (by rw [hd]; exact Bool.false_ne_true)]
  rintro e H' ⟨rfl, rfl⟩
  rw [hd]
  refine ⟨_, rfl, _, sCat, ?_⟩
  repeat (first | refine wWl1 ?_ | (refine kWl1 ?_; (first | rintro _ _ ⟨rfl, rfl⟩ | rintro _ _ ⟨_, rfl, rfl⟩ | rintro _ _ ⟨_, _, ⟨_, _⟩, rfl, rfl⟩); try refine ⟨sConv, ?_⟩) | refine Dr.two ?_ ?_)
  refine L.step (by decide) (S.call rfl rfl Try.func85 (by kernel_rfl) rfl sPicks (fun E' hE => whalf E' gd w.N w.armed w.wr w.A w.k w.c w.secs hn256 hl0 hwk) ?_)
  rintro e H' ⟨rfl, rfl⟩
  refine ⟨_, rfl, _, sCat, ?_⟩
  have hbl := hb_le (flat w.secs)
  obtain ⟨q, hq⟩ : ∃ q, 1 - hb (flat w.secs) = q := ⟨_, rfl⟩
  have hq1 : q ≤ 1 := by omega
  have hsub : IntKind.i64.wrap (1 - ((hb (flat w.secs) : Nat) : Int)) = (q : Int) := by rw [IntWalk.i64_in _ (by omega)]; omega
  have hfo : 32 ≤ hfrom w.N q ∧ hfrom w.N q + 32 * w.N ≤ 32 * (2 * w.N + 1) := by
    unfold hfrom
    have : q * w.N ≤ 1 * w.N := Nat.mul_le_mul_right _ hq1
    omega
  repeat (first | refine wWl1 ?_ | (refine kWl1 ?_; (first | rintro _ _ ⟨rfl, rfl⟩ | rintro _ _ ⟨_, rfl, rfl⟩ | rintro _ _ ⟨_, _, ⟨_, _⟩, rfl, rfl⟩); try refine ⟨sConv, ?_⟩) | refine Dr.two ?_ ?_)
  refine C.regionA 100000 (.one 0 false (.one 1 false (.one 2 false (.one 3 false (.one 4 false (.one 5 false (.one 6 false (.one 7 false (.one 8 false (.one 9 false (.one 10 false (.one 11 true (.one 12 true (.one 13 false (.one 14 false (.one 15 false (.one 16 false (.one 17 false (.one 18 false (.one 19 false (.one 20 false (.one 21 true (.one 22 false (.one 23 false (.one 24 false (.one 25 false (.one 26 false (.one 27 false (.one 28 false (.one 29 false (.one 30 true (.one 31 false (.one 32 false .nil))))))))))))))))))))))))))))))))) ([wlg g gd w]) (by kernel_rfl) (by kernel_rfl) sConv ?_
  repeat (first | refine wWl1 ?_ | (refine kWl1 ?_; (first | rintro _ _ ⟨rfl, rfl⟩ | rintro _ _ ⟨_, rfl, rfl⟩ | rintro _ _ ⟨_, _, ⟨_, _⟩, rfl, rfl⟩); try refine ⟨sConv, ?_⟩) | refine Dr.two ?_ ?_)
  rename_i gz
  have hoz : List.replicate (32 * w.N) octT_z = List.replicate (32 * w.N) (0 : UInt8) := rfl
  have hzl : (List.replicate (32 * w.N) (0 : UInt8)).length = 32 * w.N := List.length_replicate
  have hz : 0 + (List.replicate (32 * w.N) octT_z).length ≤ 32 * w.N := by rw [List.length_replicate]; omega
  have hwr1 : w.wr ≤ 900000 := by omega
  refine Dr.go rfl (by rintro k ⟨⟩ <;> decide) sGon (S.call rfl rfl Try.func84 (by kernel_rfl) rfl sPicks (fun E' hE => wlay E' gd w.N w.armed w.wr w.A w.k w.c w.secs q 0 (some ⟨gz, 0, none⟩) (32 * w.N) (32 * w.N) (List.replicate (32 * w.N) octT_z) (Sub.own hE sHas) hn256 hwk hq1 hlen hn1 h.a0 h.a1 h.w0 hwr1 hz) ?_)
  unfold LayPost
  rw [hoz, hzl]
  have eD1 : swD1 w.s = sp (flat w.secs) (hfrom w.N q + 0) ((List.replicate (32 * w.N) 0).take (lq w.armed 0 (32 * w.N))) := by rw [← hq]; rfl
  have eF1 : swF1 w.s = larm w.armed 0 (32 * w.N) := rfl
  have eA : w.s.armed = w.armed := rfl
  have hF1a := larm_ge h.a0 0 (32 * w.N)
  have hF1b := larm_le h.a1 0 (32 * w.N)
  rintro e H' ⟨l1, wr1, rfl, hl1, hfl1, hv1, hv2, rfl⟩
  refine ⟨_, rfl, _, sCat, sConv, ?_⟩
  rw [← eD1] at hfl1
  rw [eA]
  rcases Bool.eq_false_or_eq_true (lcut w.armed 0 (32 * w.N)) with hc | hc
  · rw [if_pos hc, hc]
    repeat (first | refine wWl1 ?_ | (refine kWl1 ?_; (first | rintro _ _ ⟨rfl, rfl⟩ | rintro _ _ ⟨_, rfl, rfl⟩ | rintro _ _ ⟨_, _, ⟨_, _⟩, rfl, rfl⟩); try refine ⟨sConv, ?_⟩) | refine Dr.two ?_ ?_)
    exact ret1 rfl sRet sConv (⟨⟨w.N, w.R, w.m, w.rc, w.recs, w.dur, w.pos, w.P, w.p, w.pc, w.pend, true, larm w.armed 0 (32 * w.N), wr1, w.A, w.k, w.c, l1⟩, rfl, ⟨h.hm, h.hp, hwk.trans hl1.symm, hn0, hn1, hlen, hF1a, hF1b, by have := h.w0; dsimp only; omega, hfit, h.recs, h.dur, h.wide⟩, by rw [eF1]; unfold WL.s; dsimp only; rw [hfl1]; rfl, by dsimp only; omega, by dsimp only; omega, rfl⟩)
  rw [if_neg (by rw [hc]; exact Bool.false_ne_true), hc]
  rw [eF1]
  have eF2 : swF2 w.s b = larm (larm w.armed 0 (32 * w.N)) 0 (b.length + 7) := rfl
  have eD2 : swD2 w.s b = sp (flat l1) (hfrom w.N q + 0) ((Frm.fr b).take (lq (larm w.armed 0 (32 * w.N)) 0 (b.length + 7))) := by rw [hfl1, ← hq]; rfl
  have hhb1 : hb (flat l1) = hb (flat w.secs) := by
    rw [hfl1, eD1]
    exact hb_sp (by omega) (by rw [hD, List.length_take, List.length_replicate]; omega)
  have htx1 : tx (flat l1) = tx (flat w.secs) := by
    rw [hfl1, eD1]
    exact tx_sp (by omega) (by rw [hD, List.length_take, List.length_replicate]; omega)
  have hv0 : 0 ≤ wr1 := by have := h.w0; omega
  generalize larm w.armed 0 (32 * w.N) = F1 at *
  rw [eF2]
  have hD1 : (flat l1).length = 32 * (2 * w.N + 1) := by rw [flat_length]; omega
  have hz2 : 0 + (Frm.fr b).length ≤ 32 * w.N := by rw [Frm.fr_length]; omega
  have hwr2 : wr1 ≤ 900000 := by omega
  have hl1n : w.k = l1.length := by omega
  repeat (first | refine wWl1 ?_ | (refine kWl1 ?_; (first | rintro _ _ ⟨rfl, rfl⟩ | rintro _ _ ⟨_, rfl, rfl⟩ | rintro _ _ ⟨_, _, ⟨_, _⟩, rfl, rfl⟩); try refine ⟨sConv, ?_⟩) | refine Dr.two ?_ ?_)
  refine Dr.go rfl (by rintro k ⟨⟩ <;> decide) sGon (S.call rfl rfl Try.func84 (by kernel_rfl) rfl sPicks (fun E' hE => wlay E' gd w.N F1 wr1 w.A w.k w.c l1 q 0 A1 (nx + 7) c1 (Frm.fr b) (Sub.own hE sHas) hn256 hl1n hq1 hlen hn1 hF1a hF1b hv0 hwr2 hz2) ?_)
  unfold LayPost
  rw [Frm.fr_length]
  have hF2a := larm_ge hF1a 0 (b.length + 7)
  have hF2b := larm_le hF1b 0 (b.length + 7)
  rintro e H' ⟨l2, wr2, rfl, hl2, hfl2, hv3, hv4, rfl⟩
  refine ⟨_, rfl, _, sCat, sConv, ?_⟩
  rw [← eD2] at hfl2
  rcases Bool.eq_false_or_eq_true (lcut F1 0 (b.length + 7)) with hc2 | hc2
  · rw [if_pos hc2, hc2]
    repeat (first | refine wWl1 ?_ | (refine kWl1 ?_; (first | rintro _ _ ⟨rfl, rfl⟩ | rintro _ _ ⟨_, rfl, rfl⟩ | rintro _ _ ⟨_, _, ⟨_, _⟩, rfl, rfl⟩); try refine ⟨sConv, ?_⟩) | refine Dr.two ?_ ?_)
    exact ret1 rfl sRet sConv (⟨⟨w.N, w.R, w.m, w.rc, w.recs, w.dur, w.pos, w.P, w.p, w.pc, w.pend, true, larm F1 0 (b.length + 7), wr2, w.A, w.k, w.c, l2⟩, rfl, ⟨h.hm, h.hp, by dsimp only; omega, hn0, hn1, hlen, hF2a, hF2b, by dsimp only; omega, hfit, h.recs, h.dur, h.wide⟩, by unfold WL.s; dsimp only; rw [hfl2]; rfl, by dsimp only; omega, by dsimp only; omega, rfl⟩)
  rw [if_neg (by rw [hc2]; exact Bool.false_ne_true), hc2]
  have hhb2 : q = 1 - hb (flat l2) := by
    rw [hfl2, eD2, hb_sp (by omega) (by rw [hD1, List.length_take, Frm.fr_length]; omega), hhb1]
    exact hq.symm
  have htx2 : tx (flat l2) = tx (flat w.secs) := by
    rw [hfl2, eD2, tx_sp (by omega) (by rw [hD1, List.length_take, Frm.fr_length]; omega), htx1]
  generalize larm F1 0 (b.length + 7) = F2 at *
  have eD3 : swD3 w.s b = sp (flat l2) 0 (if wk F2 = 0 then [] else [tx (flat l2)]) := by rw [htx2, hfl2]; unfold swD3; rw [eF2]; rfl
  have hv5 : 0 ≤ wr2 := by omega
  have hwr3 : wr2 ≤ 1000000 := by omega
  have hl2n : w.k = l2.length := by omega
  have hl20 : 0 < l2.length := by omega
  repeat (first | refine wWl1 ?_ | (refine kWl1 ?_; (first | rintro _ _ ⟨rfl, rfl⟩ | rintro _ _ ⟨_, rfl, rfl⟩ | rintro _ _ ⟨_, _, ⟨_, _⟩, rfl, rfl⟩); try refine ⟨sConv, ?_⟩) | refine Dr.two ?_ ?_)
  refine Dr.go rfl (by rintro k ⟨⟩ <;> decide) sGon (S.call rfl rfl Try.func96 (by kernel_rfl) rfl sPicks (fun E' hE => wturn_m E' gd w.N F2 wr2 w.A w.k w.c l2 q hhb2 hn256 hl20 hl2n hF2a hF2b hv5 hwr3) ?_)
  have hF3 := warmed_ok hF2a hF2b
  rintro e H' ⟨l3, wr3, rfl, hl3, hfl3, hv6, hv7, rfl⟩
  refine ⟨_, rfl, _, sCat, sConv, ?_⟩
  rw [← eD3] at hfl3
  rcases Bool.eq_false_or_eq_true (wdead F2) with hc3 | hc3
  · rw [if_pos hc3, hc3]
    repeat (first | refine wWl1 ?_ | (refine kWl1 ?_; (first | rintro _ _ ⟨rfl, rfl⟩ | rintro _ _ ⟨_, rfl, rfl⟩ | rintro _ _ ⟨_, _, ⟨_, _⟩, rfl, rfl⟩); try refine ⟨sConv, ?_⟩) | refine Dr.two ?_ ?_)
    exact ret1 rfl sRet sConv (⟨⟨w.N, w.R, w.m, w.rc, w.recs, w.dur, w.pos, w.P, w.p, w.pc, w.pend, true, warmed F2, wr3, w.A, w.k, w.c, l3⟩, rfl, ⟨h.hm, h.hp, by dsimp only; omega, hn0, hn1, hlen, hF3.1, hF3.2, by dsimp only; omega, hfit, h.recs, h.dur, h.wide⟩, by unfold WL.s; dsimp only; rw [hfl3]; rfl, by dsimp only; omega, by dsimp only; omega, rfl⟩)
  rw [if_neg (by rw [hc3]; exact Bool.false_ne_true), hc3]
  repeat (first | refine wWl1 ?_ | (refine kWl1 ?_; (first | rintro _ _ ⟨rfl, rfl⟩ | rintro _ _ ⟨_, rfl, rfl⟩ | rintro _ _ ⟨_, _, ⟨_, _⟩, rfl, rfl⟩); try refine ⟨sConv, ?_⟩) | refine Dr.two ?_ ?_)
  rename_i A4 c4 k1 k2
  refine L.stepK (by decide) (S.buildSlice1K (T := slT) (e := (⟨A4, nx, c4, b⟩ : Oc)) rfl rfl rfl rfl (by decide)) ?_; rintro _ _ ⟨_, rfl, rfl⟩
  repeat (first | refine wWl1 ?_ | (refine kWl1 ?_; (first | rintro _ _ ⟨rfl, rfl⟩ | rintro _ _ ⟨_, rfl, rfl⟩ | rintro _ _ ⟨_, _, ⟨_, _⟩, rfl, rfl⟩); try refine ⟨sConv, ?_⟩) | refine Dr.two ?_ ?_)
  rename_i g6
  refine postF_conv3 (Conv.nil0 octT none) ?_
  refine postF_conv3 (Conv.each0 oOc) ?_
  refine postF_conv3 (Conv.push (f := oOc) (l := []) (x := ⟨A4, nx, c4, b⟩) sPicks) ?_
  have hWH : wst g gd ⟨w.N, some ⟨g6, 0, none⟩, 1, 1, [(⟨A4, nx, c4, b⟩ : Oc)], 1, nx + 7, none, 0, 0, [], false, warmed F2, wr3, w.A, w.k, w.c, l3⟩ = [blk g 107 [.pointer (some ⟨gd, 0, none⟩), .int .i64 (w.N : Int), .slice (some ⟨g6, 0, none⟩) 1 1, .int .i64 1, .int .i64 ((nx + 7 : Nat) : Int), .slice none 0 0], own slT (some ⟨g6, 0, none⟩) 1 1 [(⟨A4, nx, c4, b⟩ : Oc)], each oOc ([] ++ [(⟨A4, nx, c4, b⟩ : Oc)]), own octT none 0 0 [], dsk gd true false (warmed F2) wr3 w.A w.k w.c, own secT w.A w.k w.c l3] := rfl
  refine postF_conv3 (H1 := wst g gd ⟨w.N, some ⟨g6, 0, none⟩, 1, 1, [(⟨A4, nx, c4, b⟩ : Oc)], 1, nx + 7, none, 0, 0, [], false, warmed F2, wr3, w.A, w.k, w.c, l3⟩) (by rw [hWH]; exact sConv) ?_
  have hwide : ∀ x ∈ [(⟨A4, nx, c4, b⟩ : Oc)], x.n = x.b.length ∧ x.b.length ≤ 4096 := by
    intro x hx
    rw [List.mem_singleton] at hx
    subst hx
    exact ⟨hnx, by dsimp only; omega⟩
  exact ret1 rfl sRet sConv (⟨⟨w.N, some ⟨g6, 0, none⟩, 1, 1, [(⟨A4, nx, c4, b⟩ : Oc)], 1, nx + 7, none, 0, 0, [], false, warmed F2, wr3, w.A, w.k, w.c, l3⟩, rfl, ⟨rfl, rfl, by dsimp only; omega, hn0, hn1, hlen, hF3.1, hF3.2, by dsimp only; omega, by dsimp only [List.length_nil]; omega, by dsimp only [List.length_cons, List.length_nil]; omega, Nat.le_refl _, hwide⟩, by unfold WL.s; dsimp only; rw [hfl3, hnx]; rfl, by dsimp only; omega, by dsimp only; omega, rfl⟩)
end
end Go.Proofs.Ytkhmplaocfjpjaa.Sep
