/- wal's log: made, synced; by parts of memory. -/
import Derived.Test.YtkhmplaocfjpjaaWal4
namespace Go.Proofs.Ytkhmplaocfjpjaa.Sep
open Go.RowKit Go.Proofs.Ytkhmplaocfjpjaa.Reg
open Go.Proofs.Ytkhmplaocfjpjaa.Mem hiding Rd Own
set_option maxRecDepth 100000
-- types: octT secT slT
-- recs: rec_Disk plate_rec log_rec
set_option maxRecDepth 100000
set_option maxHeartbeats 3000000
def LS.new (k : Nat) : LS := ⟨k, List.replicate (32 * (2 * k + 1)) 0, [], 0, 0, [], false, -1⟩
theorem flat_zeros (m : Nat) : flat (List.replicate m secT_z) = List.replicate (32 * m) 0 := by
  induction m with
  | zero => rfl
  | succ m ih =>
    rw [List.replicate_succ, show 32 * (m + 1) = 32 + 32 * m by omega, ← List.replicate_append_replicate, ← ih]
    rfl
def LS.sync (s : LS) : Int × LS :=
  if s.dead = true then (19, s) else if lcut s.armed s.pos s.pend.length = true then (19, ⟨s.N, sp s.D (hfrom s.N (hb s.D) + s.pos) (s.pend.take (lq s.armed s.pos s.pend.length)), s.recs, s.dur, s.pos, s.pend, true, larm s.armed s.pos s.pend.length⟩)
  else (0, ⟨s.N, sp s.D (hfrom s.N (hb s.D) + s.pos) s.pend, s.recs, s.recs.length, s.pos + s.pend.length, [], false, larm s.armed s.pos s.pend.length⟩)
section
variable (E : Env) (g gd : Nat) (w : WL)
theorem wnew (n : Int) (k : Nat) (hk : (k : Int) = if n < 1 then 1 else if 64 < n then 64 else n) : Tri Try.prog E 32 #[.int .i64 n] [] fun e H' => ∃ (g gd : Nat) (w : WL), e = .returned (.pointer (some ⟨g, 0, none⟩)) ∧ w.ok ∧ w.s = LS.new k ∧ w.wr = 0 ∧ w.recs = [] ∧ H' = wst g gd w := by
  have hk2 : 1 ≤ k ∧ k ≤ 64 := by split at hk <;> (try split at hk) <;> omega
  have e1 : IntKind.i64.wrap (2 * (k : Int)) = 2 * (k : Int) := IntWalk.i64_in _ (by omega)
  have e2 : IntKind.i64.wrap (2 * (k : Int) + 1) = ((2 * k + 1 : Nat) : Int) := by rw [IntWalk.i64_in _ (by omega)]; omega
  have hk3 : ((2 * k + 1 : Nat) : Int) = if ((2 * k + 1 : Nat) : Int) < 0 then 0 else if 256 < ((2 * k + 1 : Nat) : Int) then 256 else ((2 * k + 1 : Nat) : Int) := by rw [if_neg (by omega), if_neg (by omega)]
  refine tri Try.func32 rfl Try.ntmps32 (by simp) ?_
  repeat (first | refine wWl1 ?_ | (refine kWl1 ?_; (first | rintro _ _ ⟨rfl, rfl⟩ | rintro _ _ ⟨_, rfl, rfl⟩ | rintro _ _ ⟨_, _, ⟨_, _⟩, rfl, rfl⟩); try refine ⟨sConv, ?_⟩) | refine Dr.two ?_ ?_)
  refine L.step (by decide) (S.call rfl rfl Try.func80 (by kernel_rfl) rfl sPicks (fun E' hE => clamp_any E' n 1 64) ?_)
  rw [← hk]
  rintro e H' ⟨rfl, rfl⟩
  refine ⟨_, rfl, _, sCat, ?_⟩
  repeat (first | refine wWl1 ?_ | (refine kWl1 ?_; (first | rintro _ _ ⟨rfl, rfl⟩ | rintro _ _ ⟨_, rfl, rfl⟩ | rintro _ _ ⟨_, _, ⟨_, _⟩, rfl, rfl⟩); try refine ⟨sConv, ?_⟩) | refine Dr.two ?_ ?_)
  refine L.step (by decide) (S.call rfl rfl Try.func52 (by kernel_rfl) rfl sPicks (fun E' hE => new_disk E' ((2 * k + 1 : Nat) : Int) (2 * k + 1) hk3) ?_)
  rintro e H' ⟨gd, g2, rfl, rfl⟩
  refine ⟨_, rfl, _, sCat, ?_⟩
  repeat (first | refine wWl1 ?_ | (refine kWl1 ?_; (first | rintro _ _ ⟨rfl, rfl⟩ | rintro _ _ ⟨_, rfl, rfl⟩ | rintro _ _ ⟨_, _, ⟨_, _⟩, rfl, rfl⟩); try refine ⟨sConv, ?_⟩) | refine Dr.two ?_ ?_)
  obtain ⟨ss, hss⟩ : ∃ ss, List.replicate (2 * k + 1) secT_z = ss := ⟨_, rfl⟩
  have hlr : ss.length = 2 * k + 1 := by rw [← hss]; exact List.length_replicate
  rw [hss]
  refine postF_conv3 (Conv.nil0 octT none) ?_
  refine postF_conv3 (Conv.each0 oOc) ?_
  refine postF_conv3 (Conv.nil0 slT none) ?_
  rename_i g
  have hH : wst g gd ⟨k, none, 0, 0, [], 0, 0, none, 0, 0, [], false, -1, 0, some ⟨g2, 0, none⟩, 2 * k + 1, 2 * k + 1, ss⟩ = [blk g 107 [.pointer (some ⟨gd, 0, none⟩), .int .i64 (k : Int), .slice none 0 0, .int .i64 0, .int .i64 0, .slice none 0 0], own slT none 0 0 [], each oOc [], own octT none 0 0 [], dsk gd true false (-1) 0 (some ⟨g2, 0, none⟩) (2 * k + 1) (2 * k + 1), own secT (some ⟨g2, 0, none⟩) (2 * k + 1) (2 * k + 1) ss] := rfl
  refine postF_conv3 (H1 := wst g gd ⟨k, none, 0, 0, [], 0, 0, none, 0, 0, [], false, -1, 0, some ⟨g2, 0, none⟩, 2 * k + 1, 2 * k + 1, ss⟩) (by rw [hH]; exact sConv) ?_
  exact ret1 rfl sRet sConv (⟨g, gd, ⟨k, none, 0, 0, [], 0, 0, none, 0, 0, [], false, -1, 0, some ⟨g2, 0, none⟩, 2 * k + 1, 2 * k + 1, ss⟩, rfl, ⟨rfl, rfl, hlr.symm, hk2.1, hk2.2, rfl, by dsimp only; omega, by dsimp only; omega, Int.le_refl _, by show 0 + 0 ≤ _; omega, Nat.zero_le _, Nat.le_refl _, fun x hx => (List.not_mem_nil hx).elim⟩, by unfold WL.s LS.new; dsimp only; rw [← hss, flat_zeros]; rfl, rfl, rfl, rfl⟩)
theorem wsync (h : w.ok) (hwr : w.wr ≤ 900000) : Tri Try.prog E 34 #[.pointer (some ⟨g, 0, none⟩)] (wst g gd w) (WPost g gd w w.s.sync 2048) := by
  have hmax : maxLen = 9223372036854775807 := rfl
  have hn0 := h.n0
  have hn1 := h.n1
  have hlen := h.len
  have hfit := h.fit
  have hdur := h.dur
  have hrecs := h.recs
  have hwm := h.hm
  have hwp := h.hp
  have hwk := h.hk
  have hn256 : w.k ≤ 256 := by omega
  have hl0 : 0 < w.secs.length := by have := h.hk; omega
  have hfit2 : w.pos + w.pend.length ≤ 32 * w.N := by have := h.hp; omega
  have hplm : w.p ≤ maxLen := by omega
  have hrlm : w.m ≤ maxLen := by omega
  have hsy : w.s.sync = if w.dead = true then (19, w.s) else if lcut w.armed w.pos w.pend.length = true then (19, ⟨w.N, sp (flat w.secs) (hfrom w.N (hb (flat w.secs)) + w.pos) (w.pend.take (lq w.armed w.pos w.pend.length)), w.recs.map (·.b), w.dur, w.pos, w.pend, true, larm w.armed w.pos w.pend.length⟩)
    else (0, ⟨w.N, sp (flat w.secs) (hfrom w.N (hb (flat w.secs)) + w.pos) w.pend, w.recs.map (·.b), (w.recs.map (·.b)).length, w.pos + w.pend.length, [], false, larm w.armed w.pos w.pend.length⟩) := rfl
  rw [← h.hp, List.length_map, ← h.hm] at hsy
  rw [hsy]
  refine tri Try.func34 rfl Try.ntmps34 (by simp) ?_
  repeat (first | refine wWl1 ?_ | (refine kWl1 ?_; (first | rintro _ _ ⟨rfl, rfl⟩ | rintro _ _ ⟨_, rfl, rfl⟩ | rintro _ _ ⟨_, _, ⟨_, _⟩, rfl, rfl⟩); try refine ⟨sConv, ?_⟩) | refine Dr.two ?_ ?_)
  refine L.step (by decide) (S.call rfl rfl Try.func81 (by kernel_rfl) rfl sPicks (fun E' hE => wis E' g gd w) ?_)
  rintro e H' ⟨rfl, rfl⟩
  refine ⟨_, rfl, _, sCat, ?_⟩
  repeat (first | refine wWl1 ?_ | (refine kWl1 ?_; (first | rintro _ _ ⟨rfl, rfl⟩ | rintro _ _ ⟨_, rfl, rfl⟩ | rintro _ _ ⟨_, _, ⟨_, _⟩, rfl, rfl⟩); try refine ⟨sConv, ?_⟩) | refine Dr.two ?_ ?_)
  refine L.step (by decide) (S.call rfl rfl Try.func83 (by kernel_rfl) rfl sPicks (fun E' hE => dead_any E' gd true w.dead w.armed w.wr w.A w.k w.c) ?_)
  rcases Bool.eq_false_or_eq_true w.dead with hd | hd
  · rw [if_pos hd]
    have hpost : WPost g gd w (19, w.s) 2048 (.returned (.int .i64 19)) (wst g gd w) := ⟨w, rfl, h, rfl, by omega, by omega, rfl⟩
    rintro e H' ⟨rfl, rfl⟩
    refine ⟨_, rfl, _, sCat, ?_⟩
    repeat (first | refine wWl1 ?_ | (refine kWl1 ?_; (first | rintro _ _ ⟨rfl, rfl⟩ | rintro _ _ ⟨_, rfl, rfl⟩ | rintro _ _ ⟨_, _, ⟨_, _⟩, rfl, rfl⟩); try refine ⟨sConv, ?_⟩) | refine Dr.two ?_ ?_)
    exact ret1 rfl sRet sConv (hpost)
  rw [if_neg (by rw [hd]; exact Bool.false_ne_true)]
  rintro e H' ⟨rfl, rfl⟩
  rw [hd]
  refine ⟨_, rfl, _, sCat, ?_⟩
  repeat (first | refine wWl1 ?_ | (refine kWl1 ?_; (first | rintro _ _ ⟨rfl, rfl⟩ | rintro _ _ ⟨_, rfl, rfl⟩ | rintro _ _ ⟨_, _, ⟨_, _⟩, rfl, rfl⟩); try refine ⟨sConv, ?_⟩) | refine Dr.two ?_ ?_)
  refine C.regionA 100000 (.one 0 false (.one 1 false (.one 2 false (.one 3 false (.one 4 false (.one 5 false (.one 6 false (.one 7 false (.one 9 false (.one 10 false (.one 11 false (.one 12 false (.one 13 false (.one 14 false (.one 15 false (.one 16 false (.one 8 true (.one 17 true (.one 18 false (.one 19 false .nil)))))))))))))))))))) ([wlg g gd w]) (by kernel_rfl) (by kernel_rfl) sConv ?_
  repeat (first | refine wWl1 ?_ | (refine kWl1 ?_; (first | rintro _ _ ⟨rfl, rfl⟩ | rintro _ _ ⟨_, rfl, rfl⟩ | rintro _ _ ⟨_, _, ⟨_, _⟩, rfl, rfl⟩); try refine ⟨sConv, ?_⟩) | refine Dr.two ?_ ?_)
  refine Dr.go rfl (by rintro k ⟨⟩ <;> decide) sGon (S.call rfl rfl Try.func85 (by kernel_rfl) rfl sPicks (fun E' hE => whalf E' gd w.N w.armed w.wr w.A w.k w.c w.secs hn256 hl0 hwk) ?_)
  rintro e H' ⟨rfl, rfl⟩
  refine ⟨_, rfl, _, sCat, sConv, ?_⟩
  repeat (first | refine wWl1 ?_ | (refine kWl1 ?_; (first | rintro _ _ ⟨rfl, rfl⟩ | rintro _ _ ⟨_, rfl, rfl⟩ | rintro _ _ ⟨_, _, ⟨_, _⟩, rfl, rfl⟩); try refine ⟨sConv, ?_⟩) | refine Dr.two ?_ ?_)
  refine Dr.go rfl (by rintro k ⟨⟩ <;> decide) sGon (S.call rfl rfl Try.func84 (by kernel_rfl) rfl sPicks (fun E' hE => wlay E' gd w.N w.armed w.wr w.A w.k w.c w.secs (hb (flat w.secs)) w.pos w.P w.p w.pc w.pend (Sub.own hE sHas) hn256 hwk (hb_le _) hlen hn1 h.a0 h.a1 h.w0 hwr hfit2) ?_)
  unfold LayPost
  rw [← hwp]
  rintro e H' ⟨l', wr', rfl, hl', hfl', hw1, hw2, rfl⟩
  refine ⟨_, rfl, _, sCat, sConv, ?_⟩
  have hge := larm_ge h.a0 w.pos w.p
  have hle : larm w.armed w.pos w.p ≤ 9223372036854775807 := by have := h.a1; unfold larm; split; omega; split <;> omega
  rcases Bool.eq_false_or_eq_true (lcut w.armed w.pos w.p) with hc | hc
  · rw [if_pos hc, hc]
    repeat (first | refine wWl1 ?_ | (refine kWl1 ?_; (first | rintro _ _ ⟨rfl, rfl⟩ | rintro _ _ ⟨_, rfl, rfl⟩ | rintro _ _ ⟨_, _, ⟨_, _⟩, rfl, rfl⟩); try refine ⟨sConv, ?_⟩) | refine Dr.two ?_ ?_)
    exact ret1 rfl sRet sConv (⟨⟨w.N, w.R, w.m, w.rc, w.recs, w.dur, w.pos, w.P, w.p, w.pc, w.pend, true, larm w.armed w.pos w.p, wr', w.A, w.k, w.c, l'⟩, rfl, ⟨hwm, hwp, hwk.trans hl'.symm, hn0, hn1, hlen, hge, hle, by have := h.w0; dsimp only; omega, hfit, hrecs, hdur, h.wide⟩, by unfold WL.s; dsimp only; rw [hfl'], hw2, by dsimp only; omega, rfl⟩)
  · rw [if_neg (by rw [hc]; exact Bool.false_ne_true), hc]
    have hq := lq_all hc
    rw [hq, List.take_of_length_le (by omega)] at hfl'
    have hpl : IntKind.i64.wrap ((w.pos : Int) + (w.p : Int)) = ((w.pos + w.p : Nat) : Int) := by rw [IntWalk.i64_in _ (by omega)]; omega
    repeat (first | refine wWl1 ?_ | (refine kWl1 ?_; (first | rintro _ _ ⟨rfl, rfl⟩ | rintro _ _ ⟨_, rfl, rfl⟩ | rintro _ _ ⟨_, _, ⟨_, _⟩, rfl, rfl⟩); try refine ⟨sConv, ?_⟩) | refine Dr.two ?_ ?_)
    refine C.regionA 12 (.one 0 false (.one 1 false (.one 2 false (.one 3 false (.one 4 false (.one 5 false (.one 6 false (.one 7 false (.one 8 false (.one 9 false (.one 10 false (.one 11 false (.one 12 true .nil))))))))))))) _ (by kernel_rfl) (by kernel_rfl) Conv.refl ?_
    repeat (first | refine wWl1 ?_ | (refine kWl1 ?_; (first | rintro _ _ ⟨rfl, rfl⟩ | rintro _ _ ⟨_, rfl, rfl⟩ | rintro _ _ ⟨_, _, ⟨_, _⟩, rfl, rfl⟩); try refine ⟨sConv, ?_⟩) | refine Dr.two ?_ ?_)
    refine postF_conv3 (Conv.nil0 octT none) ?_
    exact ret1 rfl sRet sConv (⟨⟨w.N, w.R, w.m, w.rc, w.recs, w.m, w.pos + w.p, none, 0, 0, [], false, larm w.armed w.pos w.p, wr', w.A, w.k, w.c, l'⟩, rfl, ⟨hwm, rfl, hwk.trans hl'.symm, hn0, hn1, hlen, hge, hle, by have := h.w0; dsimp only; omega, by show w.pos + w.p + 0 ≤ _; omega, hrecs, Nat.le_refl _, h.wide⟩, by unfold WL.s; dsimp only; rw [hfl'], hw2, by dsimp only; omega, rfl⟩)
end
end Go.Proofs.Ytkhmplaocfjpjaa.Sep
