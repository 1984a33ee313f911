/- the law WalTwice, by parts of memory. -/
import Derived.Test.YtkhmplaocfjpjaaWalA
namespace Go.Proofs.Ytkhmplaocfjpjaa.Sep
open Go.RowKit Go.Proofs.Ytkhmplaocfjpjaa.Reg
open Go.Proofs.Ytkhmplaocfjpjaa.Mem hiding Rd Own
set_option maxRecDepth 100000
-- types: octT secT slT
-- recs: rec_Disk plate_rec log_rec
set_option maxRecDepth 100000
set_option maxHeartbeats 6000000
theorem append_code (s : LS) (b : List UInt8) : ((s.append b).1 ≠ 0 ∧ (s.append b).2 = s) ∨ ((s.append b).1 = 0 ∧ (s.append b).2 = ⟨s.N, s.D, s.recs ++ [b], s.dur, s.pos, s.pend ++ Frm.fr b, s.dead, s.armed⟩) := by
  unfold LS.append
  split
  · exact .inl ⟨by dsimp only; omega, rfl⟩
  · split
    · exact .inl ⟨by dsimp only; omega, rfl⟩
    · split
      · exact .inl ⟨by dsimp only; omega, rfl⟩
      · exact .inr ⟨rfl, rfl⟩
theorem Ins.snoc {E : Env} {l : List Oc} {x : Oc} (h : Ins E l) (hx : Rd E octT x.A x.n x.c x.b) : Ins E (l ++ [x]) := fun y hy => by
  rcases List.mem_append.1 hy with hy | hy
  · exact h y hy
  · rw [List.mem_singleton] at hy; subst hy; exact hx
theorem twice12 (E : Env) (n : Int) (A : Option Addr) (na ca : Nat) (la : List Oc) (hra : Rd E slT A na ca la) (hia : Ins E la) (arm : Int) (B : Option Addr) (nb cb : Nat) (b : List UInt8) (hrb : Rd E octT B nb cb b) :
    Tri Try.prog E 8 #[.int .i64 n, .slice A na ca, .int .i64 arm, .slice B nb cb] [] fun e _ => e = .returned (.bool true) := by
  have hmax : maxLen = 9223372036854775807 := rfl
  have hlna := hra.len
  have hca := hra.cap
  obtain ⟨k, hk, hk0, hk1⟩ := near_k n
  obtain ⟨c9, hc9⟩ := near_9k arm
  have hc1 : -1 ≤ (c9 : Int) := by omega
  have hc2 : (c9 : Int) ≤ 9223372036854775807 := by split at hc9 <;> (try split at hc9) <;> omega
  refine tri Try.func8 rfl Try.ntmps8 (by simp) ?_
  repeat (first | refine wWl1 ?_ | (refine kWl1 ?_; (first | rintro _ _ ⟨rfl, rfl⟩ | rintro _ _ ⟨_, rfl, rfl⟩ | rintro _ _ ⟨_, _, ⟨_, _⟩, rfl, rfl⟩); try refine ⟨sConv, ?_⟩) | refine Dr.two ?_ ?_)
  refine L.step (by decide) (S.call rfl rfl Try.func31 (by kernel_rfl) rfl sPicks (fun E' hE => alive12 E') ?_)
  rintro e H' ⟨rfl, rfl⟩
  refine ⟨_, rfl, _, sCat, ?_⟩
  repeat (first | refine wWl1 ?_ | (refine kWl1 ?_; (first | rintro _ _ ⟨rfl, rfl⟩ | rintro _ _ ⟨_, rfl, rfl⟩ | rintro _ _ ⟨_, _, ⟨_, _⟩, rfl, rfl⟩); try refine ⟨sConv, ?_⟩) | refine Dr.two ?_ ?_)
  refine L.step (by decide) (S.call rfl rfl Try.func32 (by kernel_rfl) rfl sPicks (fun E' hE => wnew E' n k hk) ?_)
  rintro e H' ⟨g, gd, w0, rfl, h0, hs0, hwr0, hr0, rfl⟩
  have i0 : Inv w0.s := by rw [hs0]; exact Inv.new hk0 hk1
  have d0 : w0.dead = false := by have : w0.s.dead = false := by rw [hs0]; rfl
                                  exact this
  refine ⟨_, rfl, _, sCat, ?_⟩
  repeat (first | refine wWl1 ?_ | (refine kWl1 ?_; (first | rintro _ _ ⟨rfl, rfl⟩ | rintro _ _ ⟨_, rfl, rfl⟩ | rintro _ _ ⟨_, _, ⟨_, _⟩, rfl, rfl⟩); try refine ⟨sConv, ?_⟩) | refine Dr.two ?_ ?_)
  refine L.step (by decide) (S.call rfl rfl Try.func37 (by kernel_rfl) rfl sPicks (fun E' hE => wdisk E' g gd w0 h0) ?_)
  rintro e H' ⟨g', A', c', rfl, rfl⟩
  rw [d0]
  refine ⟨_, rfl, _, sCat, ?_⟩
  repeat (first | refine wWl1 ?_ | (refine kWl1 ?_; (first | rintro _ _ ⟨rfl, rfl⟩ | rintro _ _ ⟨_, rfl, rfl⟩ | rintro _ _ ⟨_, _, ⟨_, _⟩, rfl, rfl⟩); try refine ⟨sConv, ?_⟩) | refine Dr.two ?_ ?_)
  refine L.step (by decide) (S.call rfl rfl Try.func39 (by kernel_rfl) rfl sPicks (fun E' hE => near12 E' arm 0 9000) ?_)
  rw [← hc9]
  rintro e H' ⟨rfl, rfl⟩
  refine ⟨_, rfl, _, sCat, ?_⟩
  repeat (first | refine wWl1 ?_ | (refine kWl1 ?_; (first | rintro _ _ ⟨rfl, rfl⟩ | rintro _ _ ⟨_, rfl, rfl⟩ | rintro _ _ ⟨_, _, ⟨_, _⟩, rfl, rfl⟩); try refine ⟨sConv, ?_⟩) | refine Dr.two ?_ ?_)
  refine L.step (by decide) (S.call rfl rfl Try.func38 (by kernel_rfl) rfl sPicks (fun E' hE => arm_any E' g' false w0.armed w0.wr A' w0.k c' (c9 : Int)) ?_)
  rw [if_neg Bool.false_ne_true, show max (c9 : Int) (-1) = (c9 : Int) by omega]
  rintro e H' ⟨rfl, rfl⟩
  refine ⟨_, rfl, _, sCat, ?_⟩
  have oc0 := open_clean i0 (c9 : Int)
  have hcut : lcut (c9 : Int) (Frm.upto (hocts (flat w0.secs) w0.N (hb (flat w0.secs)))) (otail (flat w0.secs) w0.N) = false := by
    rw [show otail (flat w0.secs) w0.N = 0 from oc0.1]; exact lcut_none _ _
  have hlen0 := h0.len
  have v0 : w0.wr ≤ 900000 := by omega
  repeat (first | refine wWl1 ?_ | (refine kWl1 ?_; (first | rintro _ _ ⟨rfl, rfl⟩ | rintro _ _ ⟨_, rfl, rfl⟩ | rintro _ _ ⟨_, _, ⟨_, _⟩, rfl, rfl⟩); try refine ⟨sConv, ?_⟩) | refine Dr.two ?_ ?_)
  refine L.step (by decide) (S.call rfl rfl Try.func40 (by kernel_rfl) rfl sPicks (fun E' hE => wopen E' g' w0.N (c9 : Int) w0.wr A' w0.k c' w0.secs h0.hk hlen0 h0.n0 h0.n1 hc1 hc2 h0.w0 v0 hcut) ?_)
  rintro e H' ⟨gx, wx, rfl, hx, hsx, hwrx, hmx, rfl⟩
  have ix : Inv wx.s := by rw [hsx]; exact Inv.open i0.len i0.n0 i0.n1
  have hn0 := h0.n1
  have dx : wx.s.dead = false := by rw [hsx]; rfl
  refine ⟨_, rfl, _, sCat, ?_⟩
  repeat ((fail_if_success (refine C.seq (x := Code.region 9 _ _) ?_)); first | refine vWl1 ?_ | (refine kWl1 ?_; (first | rintro _ _ ⟨rfl, rfl⟩ | rintro _ _ ⟨_, rfl, rfl⟩ | rintro _ _ ⟨_, _, ⟨_, _⟩, rfl, rfl⟩); try refine ⟨sConv, ?_⟩) | refine Dr.two ?_ ?_)
  refine C.mid (X := WL) (fun _ => [(3, .slice B nb cb), (10, .pointer (some ⟨g', 0, none⟩)), (11, .pointer (some ⟨gx, 0, none⟩))]) (fun x => wst gx g' x) (fun x => x.ok ∧ Inv x.s ∧ Like wx.s x.s ∧ x.wr ≤ 2048 ∧ x.m ≤ 300) ?_ ?_
  · repeat (first | refine wWl1 ?_ | (refine kWl1 ?_; (first | rintro _ _ ⟨rfl, rfl⟩ | rintro _ _ ⟨_, rfl, rfl⟩ | rintro _ _ ⟨_, _, ⟨_, _⟩, rfl, rfl⟩); try refine ⟨sConv, ?_⟩) | refine Dr.two ?_ ?_)
    refine C.loop (X := Nat × WL) (fun x => [(1, .slice A na ca), (3, .slice B nb cb), (10, .pointer (some ⟨g', 0, none⟩)), (11, .pointer (some ⟨gx, 0, none⟩)), (13, .int .i64 x.1)])
      (fun x => wst gx g' x.2) (fun x => x.1 ≤ 20 ∧ x.2.ok ∧ Inv x.2.s ∧ Like wx.s x.2.s ∧ x.2.wr ≤ 2048 ∧ x.2.m ≤ 260 + x.1) (fun x => 20 - x.1) (0, wx) sHolds sConv ⟨Nat.zero_le _, hx, ix, Like.refl _, by dsimp only; omega, by dsimp only; omega⟩ ?_
    rintro ⟨i, w⟩ F ⟨hi, hok, hin, hlk, hwr, hm⟩
    dsimp only at hi hok hin hlk hwr hm ⊢
    by_cases hlt : i < na
    · by_cases hl20 : i < 20
      · obtain ⟨x, hx⟩ : ∃ x, la[i]? = some x := ⟨_, List.getElem?_eq_getElem (by omega)⟩
        have hxr := hia.at_ hx
        have hrl : w.m + 1 ≤ 100000 := by omega
        repeat (first | refine wWl1 ?_ | (refine kWl1 ?_; (first | rintro _ _ ⟨rfl, rfl⟩ | rintro _ _ ⟨_, rfl, rfl⟩ | rintro _ _ ⟨_, _, ⟨_, _⟩, rfl, rfl⟩); try refine ⟨sConv, ?_⟩) | refine Dr.two ?_ ?_)
        refine L.step (by decide) (S.call rfl rfl Try.func33 (by kernel_rfl) rfl sPicks (fun E' hE => wappend E' gx g' w hok hrl x.A x.n x.c x.b (hxr.sub hE)) ?_)
        unfold WPost
        rintro e H' ⟨w', rfl, hok', hs', hwr', hm', rfl⟩
        refine ⟨_, rfl, _, sCat, ?_⟩
        repeat (first | refine wWl1 ?_ | (refine kWl1 ?_; (first | rintro _ _ ⟨rfl, rfl⟩ | rintro _ _ ⟨_, rfl, rfl⟩ | rintro _ _ ⟨_, _, ⟨_, _⟩, rfl, rfl⟩); try refine ⟨sConv, ?_⟩) | refine Dr.two ?_ ?_)
        exact ⟨(i + 1, w'), sHolds, Conv.refl, ⟨by dsimp only; omega, hok', by rw [hs']; exact hin.append _, by rw [hs']; exact hlk.append hin _, by dsimp only; omega, by dsimp only; omega⟩, by dsimp only; omega⟩
      · repeat (first | refine wWl1 ?_ | (refine kWl1 ?_; (first | rintro _ _ ⟨rfl, rfl⟩ | rintro _ _ ⟨_, rfl, rfl⟩ | rintro _ _ ⟨_, _, ⟨_, _⟩, rfl, rfl⟩); try refine ⟨sConv, ?_⟩) | refine Dr.two ?_ ?_)
        exact ⟨w, sHolds, Conv.refl, ⟨hok, hin, hlk, hwr, by omega⟩⟩
    · repeat (first | refine wWl1 ?_ | (refine kWl1 ?_; (first | rintro _ _ ⟨rfl, rfl⟩ | rintro _ _ ⟨_, rfl, rfl⟩ | rintro _ _ ⟨_, _, ⟨_, _⟩, rfl, rfl⟩); try refine ⟨sConv, ?_⟩) | refine Dr.two ?_ ?_)
      exact ⟨w, sHolds, Conv.refl, ⟨hok, hin, hlk, hwr, by omega⟩⟩
  rintro w4 F4 ⟨h4, i4, k4, v4, m4⟩
  have v4' : w4.wr ≤ 900000 := by omega
  obtain ⟨z, q, du, po, pe, de, F5, hsy, hq, hz, hz0, hz19⟩ := sync_any (s := w4.s) (by rw [k4.dead]; exact dx)
  obtain ⟨hla1, hla2, hla3⟩ := laid i4 q hq
  repeat (first | refine wWl1 ?_ | (refine kWl1 ?_; (first | rintro _ _ ⟨rfl, rfl⟩ | rintro _ _ ⟨_, rfl, rfl⟩ | rintro _ _ ⟨_, _, ⟨_, _⟩, rfl, rfl⟩); try refine ⟨sConv, ?_⟩) | refine Dr.two ?_ ?_)
  refine L.step (by decide) (S.call rfl rfl Try.func34 (by kernel_rfl) rfl sPicks (fun E' hE => wsync E' gx g' w4 h4 v4') ?_)
  unfold WPost
  rw [hsy]
  rintro e H' ⟨w5, rfl, h5, hs5, hwr5, hm5, rfl⟩
  dsimp only at hs5 ⊢
  refine ⟨_, rfl, _, sCat, ?_⟩
  repeat (first | refine wWl1 ?_ | (refine kWl1 ?_; (first | rintro _ _ ⟨rfl, rfl⟩ | rintro _ _ ⟨_, rfl, rfl⟩ | rintro _ _ ⟨_, _, ⟨_, _⟩, rfl, rfl⟩); try refine ⟨sConv, ?_⟩) | refine Dr.two ?_ ?_)
  refine L.step (by decide) (S.call rfl rfl Try.func41 (by kernel_rfl) rfl sPicks (fun E' hE => revive_any E' g' w5.dead w5.armed w5.wr w5.A w5.k w5.c) ?_)
  rintro e H' ⟨rfl, rfl⟩
  refine ⟨_, rfl, _, sCat, ?_⟩
  have v5' : w5.wr ≤ 900000 := by omega
  have hlen5 := h5.len
  have hk5 := h5.hk
  have hf5 : (flat w5.secs).length = 32 * (2 * w5.N + 1) := by rw [flat_length]; omega
  repeat (first | refine wWl1 ?_ | (refine kWl1 ?_; (first | rintro _ _ ⟨rfl, rfl⟩ | rintro _ _ ⟨_, rfl, rfl⟩ | rintro _ _ ⟨_, _, ⟨_, _⟩, rfl, rfl⟩); try refine ⟨sConv, ?_⟩) | refine Dr.two ?_ ?_)
  refine L.step (by decide) (S.call rfl rfl Try.func40 (by kernel_rfl) rfl sPicks (fun E' hE => wopen E' g' w5.N (-1) w5.wr w5.A w5.k w5.c w5.secs h5.hk hlen5 h5.n0 h5.n1 (by omega) (by omega) h5.w0 v5' (lcut_free _ _)) ?_)
  rintro e H' ⟨gy, wy, rfl, hy, hsy2, hwry, hmy, rfl⟩
  have iy : Inv wy.s := by rw [hsy2]; exact Inv.open hf5 h5.n0 h5.n1
  have dy : wy.dead = false := by have : wy.s.dead = false := by rw [hsy2]; rfl
                                  exact this
  have ay : wy.armed = -1 := by have : wy.s.armed = -1 := by rw [hsy2]; show larm (-1) (Frm.upto (hocts (flat w5.secs) w5.N (hb (flat w5.secs)))) (otail (flat w5.secs) w5.N) = -1; exact larm_free _ _
                                exact this
  have uy : wy.s.recs.take wy.s.dur = wy.s.recs := by rw [hsy2]; exact List.take_length
  have qy : wy.s.pend = [] := by rw [hsy2]; rfl
  have hlen6 := hy.len
  have hn6 := hy.n1
  have hk6 := hy.hk
  have hky : wy.k ≤ 256 := by omega
  have v6' : wy.wr ≤ 900000 := by omega
  refine ⟨_, rfl, _, sCat, ?_⟩
  repeat (first | refine wWl1 ?_ | (refine kWl1 ?_; (first | rintro _ _ ⟨rfl, rfl⟩ | rintro _ _ ⟨_, rfl, rfl⟩ | rintro _ _ ⟨_, _, ⟨_, _⟩, rfl, rfl⟩); try refine ⟨sConv, ?_⟩) | refine Dr.two ?_ ?_)
  refine L.step (by decide) (S.call rfl rfl Try.func50 (by kernel_rfl) rfl sPicks (fun E' hE => all_any E' g' true wy.dead wy.armed wy.wr wy.A wy.k wy.c wy.secs hky hk6) ?_)
  rintro e H' ⟨O1, o1, rfl, rfl⟩
  rw [dy, ay]
  refine ⟨_, rfl, _, sCat, ?_⟩
  have oc6 := open_clean iy (-1)
  repeat (first | refine wWl1 ?_ | (refine kWl1 ?_; (first | rintro _ _ ⟨rfl, rfl⟩ | rintro _ _ ⟨_, rfl, rfl⟩ | rintro _ _ ⟨_, _, ⟨_, _⟩, rfl, rfl⟩); try refine ⟨sConv, ?_⟩) | refine Dr.two ?_ ?_)
  refine L.step (by decide) (S.call rfl rfl Try.func40 (by kernel_rfl) rfl sPicks (fun E' hE => wopen E' g' wy.N (-1) wy.wr wy.A wy.k wy.c wy.secs hk6 hlen6 hy.n0 hy.n1 (by omega) (by omega) hy.w0 v6' (lcut_free _ _)) ?_)
  rintro e H' ⟨gz, wz, rfl, hzk, hsz, hwrz, hmz, rfl⟩
  have hsz2 := hsz.trans oc6.2.2.2
  rw [larm_free, uy] at hsz2
  have iz : Inv wz.s := by
    rw [hsz2]
    exact ⟨iy.len, iy.n0, iy.n1, iy.oks, iy.dur, iy.pos, by rw [← iy.pend, qy], iy.half, by have := iy.fit; rw [qy] at this; exact this⟩
  have dz : wz.s.dead = false := by rw [hsz2]
  have az : wz.s.armed = -1 := by rw [hsz2]
  have hDz : flat wz.secs = flat wy.secs := congrArg LS.D hsz2
  have hRz : wz.recs.map (·.b) = wy.recs.map (·.b) := congrArg LS.recs hsz2
  have hlen7 := hzk.len
  have hn7 := hzk.n1
  have hk7 := hzk.hk
  have hkz : wz.k ≤ 256 := by omega
  refine ⟨_, rfl, _, sCat, ?_⟩
  repeat (first | refine wWl1 ?_ | (refine kWl1 ?_; (first | rintro _ _ ⟨rfl, rfl⟩ | rintro _ _ ⟨_, rfl, rfl⟩ | rintro _ _ ⟨_, _, ⟨_, _⟩, rfl, rfl⟩); try refine ⟨sConv, ?_⟩) | refine Dr.two ?_ ?_)
  refine L.step (by decide) (S.call rfl rfl Try.func50 (by kernel_rfl) rfl sPicks (fun E' hE => all_any E' g' true wz.dead wz.armed wz.wr wz.A wz.k wz.c wz.secs hkz hk7) ?_)
  rw [hDz]
  rintro e H' ⟨O2, o2, rfl, rfl⟩
  refine ⟨_, rfl, _, sCat, ?_⟩
  have hdd : decide (flat wy.secs ≠ flat wy.secs) = false := by simp
  repeat (first | refine wWl1 ?_ | (refine kWl1 ?_; (first | rintro _ _ ⟨rfl, rfl⟩ | rintro _ _ ⟨_, rfl, rfl⟩ | rintro _ _ ⟨_, _, ⟨_, _⟩, rfl, rfl⟩); try refine ⟨sConv, ?_⟩) | refine Dr.two ?_ ?_)
  refine L.step (by decide) (S.call rfl rfl Try.func35 (by kernel_rfl) rfl sPicks (fun E' hE => wrecords E' gy g' wy hy) ?_)
  rintro e H' ⟨O3, o3, ys, rfl, hys1, hys2, hoc3, hyw, rfl⟩
  refine ⟨_, rfl, _, sCat, ?_⟩
  repeat (first | refine wWl1 ?_ | (refine kWl1 ?_; (first | rintro _ _ ⟨rfl, rfl⟩ | rintro _ _ ⟨_, rfl, rfl⟩ | rintro _ _ ⟨_, _, ⟨_, _⟩, rfl, rfl⟩); try refine ⟨sConv, ?_⟩) | refine Dr.two ?_ ?_)
  refine L.step (by decide) (S.call rfl rfl Try.func35 (by kernel_rfl) rfl sPicks (fun E' hE => wrecords E' gz g' wz hzk) ?_)
  rintro e H' ⟨O4, o4, zs, rfl, hzs1, hzs2, hoc4, hzw, rfl⟩
  refine ⟨_, rfl, _, sCat, ?_⟩
  have hyz : decide (ys.map (·.b) = zs.map (·.b)) = true := decide_eq_true (by show ys.map Oc.b = zs.map Oc.b; rw [hys2, hzs2]; exact hRz.symm)
  repeat (first | refine wWl1 ?_ | (refine kWl1 ?_; (first | rintro _ _ ⟨rfl, rfl⟩ | rintro _ _ ⟨_, rfl, rfl⟩ | rintro _ _ ⟨_, _, ⟨_, _⟩, rfl, rfl⟩); try refine ⟨sConv, ?_⟩) | refine Dr.two ?_ ?_)
  refine L.step (by decide) (S.call rfl rfl Try.func51 (by kernel_rfl) rfl sPicks (fun E' hE => octets_any E' O3 wy.m o3 ys O4 wz.m o4 zs sRd (Ins.each (l := ys) hE sHas) sRd (Ins.each (l := zs) hE sHas)) ?_)
  rw [hyz]
  rintro e H' ⟨rfl, rfl⟩
  refine ⟨_, rfl, _, sCat, ?_⟩
  have hrz : wz.m + 1 ≤ 100000 := by omega
  repeat (first | refine wWl1 ?_ | (refine kWl1 ?_; (first | rintro _ _ ⟨rfl, rfl⟩ | rintro _ _ ⟨_, rfl, rfl⟩ | rintro _ _ ⟨_, _, ⟨_, _⟩, rfl, rfl⟩); try refine ⟨sConv, ?_⟩) | refine Dr.two ?_ ?_)
  refine L.step (by decide) (S.call rfl rfl Try.func33 (by kernel_rfl) rfl sPicks (fun E' hE => wappend E' gz g' wz hzk hrz B nb cb b (hrb.sub hE)) ?_)
  have hac := append_code wz.s b
  have i8 := iz.append b
  have l8 := (Like.refl wz.s).append iz b
  unfold WPost
  revert hac i8 l8
  generalize wz.s.append b = zz
  obtain ⟨z8, s8⟩ := zz
  intro hac i8 l8
  dsimp only at hac i8 l8
  rintro e H' ⟨w8, rfl, h8, hs8, hwr8, hm8, rfl⟩
  dsimp only at hs8 ⊢
  refine ⟨_, rfl, _, sCat, ?_⟩
  have i8' : Inv w8.s := by rw [hs8]; exact i8
  have a8 : w8.s.armed = -1 := by rw [hs8, l8.armed]; exact az
  have e9 := sync_ok (s := w8.s) (by rw [hs8, l8.dead]; exact dz) (by rw [a8]; exact lcut_free _ _)
  have i9 := i8'.synced (larm w8.s.armed w8.s.pos w8.s.pend.length)
  have r9a : larm w8.s.armed w8.s.pos w8.s.pend.length = -1 := by rw [a8]; exact larm_free _ _
  rw [r9a] at e9 i9
  have v8' : w8.wr ≤ 900000 := by omega
  repeat (first | refine wWl1 ?_ | (refine kWl1 ?_; (first | rintro _ _ ⟨rfl, rfl⟩ | rintro _ _ ⟨_, rfl, rfl⟩ | rintro _ _ ⟨_, _, ⟨_, _⟩, rfl, rfl⟩); try refine ⟨sConv, ?_⟩) | refine Dr.two ?_ ?_)
  refine L.step (by decide) (S.call rfl rfl Try.func34 (by kernel_rfl) rfl sPicks (fun E' hE => wsync E' gz g' w8 h8 v8') ?_)
  unfold WPost
  rw [e9]
  rintro e H' ⟨w9, rfl, h9, hs9, hwr9, hm9, rfl⟩
  dsimp only at hs9 ⊢
  have i9' : Inv w9.s := by rw [hs9]; exact i9
  have d9 : w9.dead = false := by have : w9.s.dead = false := by rw [hs9]
                                  exact this
  have a9 : w9.armed = -1 := by have : w9.s.armed = -1 := by rw [hs9]
                                exact this
  have u9 : w9.s.recs.take w9.s.dur = s8.recs := by rw [hs9]; dsimp only; rw [List.take_length, hs8]
  refine ⟨_, rfl, _, sCat, ?_⟩
  repeat (first | refine wWl1 ?_ | (refine kWl1 ?_; (first | rintro _ _ ⟨rfl, rfl⟩ | rintro _ _ ⟨_, rfl, rfl⟩ | rintro _ _ ⟨_, _, ⟨_, _⟩, rfl, rfl⟩); try refine ⟨sConv, ?_⟩) | refine Dr.two ?_ ?_)
  refine L.step (by decide) (S.call rfl rfl Try.func37 (by kernel_rfl) rfl sPicks (fun E' hE => wdisk E' gz g' w9 h9) ?_)
  rintro e H' ⟨g9, A9, c9', rfl, rfl⟩
  rw [d9, a9]
  refine ⟨_, rfl, _, sCat, ?_⟩
  have oc9 := open_clean i9' (-1)
  have hlen9 := h9.len
  have v9' : w9.wr ≤ 900000 := by omega
  repeat (first | refine wWl1 ?_ | (refine kWl1 ?_; (first | rintro _ _ ⟨rfl, rfl⟩ | rintro _ _ ⟨_, rfl, rfl⟩ | rintro _ _ ⟨_, _, ⟨_, _⟩, rfl, rfl⟩); try refine ⟨sConv, ?_⟩) | refine Dr.two ?_ ?_)
  refine L.step (by decide) (S.call rfl rfl Try.func40 (by kernel_rfl) rfl sPicks (fun E' hE => wopen E' g9 w9.N (-1) w9.wr A9 w9.k c9' w9.secs h9.hk hlen9 h9.n0 h9.n1 (by omega) (by omega) h9.w0 v9' (lcut_free _ _)) ?_)
  rintro e H' ⟨gv, wv, rfl, hv, hsv, hwrv, hmv, rfl⟩
  have hvR : wv.recs.map Oc.b = s8.recs := by
    show wv.s.recs = _
    rw [hsv]
    show Frm.frames (hocts w9.s.D w9.s.N (hb w9.s.D)) = _
    rw [oc9.2.2.1, u9]
  have hzR : wz.s.recs = ys.map Oc.b := by rw [hys2]; exact hRz
  refine ⟨_, rfl, _, sCat, ?_⟩
  repeat (first | refine wWl1 ?_ | (refine kWl1 ?_; (first | rintro _ _ ⟨rfl, rfl⟩ | rintro _ _ ⟨_, rfl, rfl⟩ | rintro _ _ ⟨_, _, ⟨_, _⟩, rfl, rfl⟩); try refine ⟨sConv, ?_⟩) | refine Dr.two ?_ ?_)
  refine L.step (by decide) (S.call rfl rfl Try.func35 (by kernel_rfl) rfl sPicks (fun E' hE => wrecords E' gy g' wy hy) ?_)
  rintro e H' ⟨O5, o5, y5, rfl, hy51, hy52, hoc5, hy5w, rfl⟩
  refine ⟨_, rfl, _, sCat, ?_⟩
  have hn5 := h5.n1
  have hmy2 : wy.m ≤ 300 := by omega
  have hyl : wy.m ≤ maxLen := by omega
  repeat (first | refine wWl1 ?_ | (refine kWl1 ?_; (first | rintro _ _ ⟨rfl, rfl⟩ | rintro _ _ ⟨_, rfl, rfl⟩ | rintro _ _ ⟨_, _, ⟨_, _⟩, rfl, rfl⟩); try refine ⟨sConv, ?_⟩) | refine Dr.two ?_ ?_)
  rename_i O6 c6 k61 k62
  rcases hac with ⟨hz8, hs8'⟩ | ⟨hz8, hs8'⟩
  · have ht : decide (z8 = 0) = false := decide_eq_false hz8
    repeat (first | refine wWl1 ?_ | (refine kWl1 ?_; (first | rintro _ _ ⟨rfl, rfl⟩ | rintro _ _ ⟨_, rfl, rfl⟩ | rintro _ _ ⟨_, _, ⟨_, _⟩, rfl, rfl⟩); try refine ⟨sConv, ?_⟩) | refine Dr.two ?_ ?_)
    refine L.step (by decide) (S.call rfl rfl Try.func35 (by kernel_rfl) rfl sPicks (fun E' hE => wrecords E' gv g9 wv hv) ?_)
    rintro e H' ⟨O7, o7, y7, rfl, hy71, hy72, hoc7, hy7w, rfl⟩
    refine ⟨_, rfl, _, sCat, ?_⟩
    have hfin : decide (y7.map (·.b) = y5.map (·.b)) = true := decide_eq_true (by show y7.map Oc.b = y5.map Oc.b; rw [hy72, hvR, hs8', hzR, hys2, hy52])
    repeat (first | refine wWl1 ?_ | (refine kWl1 ?_; (first | rintro _ _ ⟨rfl, rfl⟩ | rintro _ _ ⟨_, rfl, rfl⟩ | rintro _ _ ⟨_, _, ⟨_, _⟩, rfl, rfl⟩); try refine ⟨sConv, ?_⟩) | refine Dr.two ?_ ?_)
    refine L.step (by decide) (S.call rfl rfl Try.func51 (by kernel_rfl) rfl sPicks (fun E' hE => octets_any E' O7 wv.m o7 y7 O6 wy.m c6 y5 sRd (Ins.each (l := y7) hE sHas) sRd (Ins.each (l := y5) hE sHas)) ?_)
    rw [hfin]
    rintro e H' ⟨rfl, rfl⟩
    refine ⟨_, rfl, _, sCat, ?_⟩
    repeat (first | refine wWl1 ?_ | (refine kWl1 ?_; (first | rintro _ _ ⟨rfl, rfl⟩ | rintro _ _ ⟨_, rfl, rfl⟩ | rintro _ _ ⟨_, _, ⟨_, _⟩, rfl, rfl⟩); try refine ⟨sConv, ?_⟩) | refine Dr.two ?_ ?_)
    exact ret1 rfl sRet sConv (rfl)
  · subst hz8
    repeat (first | refine wWl1 ?_ | (refine kWl1 ?_; (first | rintro _ _ ⟨rfl, rfl⟩ | rintro _ _ ⟨_, rfl, rfl⟩ | rintro _ _ ⟨_, _, ⟨_, _⟩, rfl, rfl⟩); try refine ⟨sConv, ?_⟩) | refine Dr.two ?_ ?_)
    refine L.stepK (by decide) (S.buildSlice1K (T := slT) (e := (⟨B, nb, cb, b⟩ : Oc)) rfl rfl rfl rfl (by decide)) ?_; rintro _ _ ⟨_, rfl, rfl⟩
    repeat (first | refine wWl1 ?_ | (refine kWl1 ?_; (first | rintro _ _ ⟨rfl, rfl⟩ | rintro _ _ ⟨_, rfl, rfl⟩ | rintro _ _ ⟨_, _, ⟨_, _⟩, rfl, rfl⟩); try refine ⟨sConv, ?_⟩) | refine Dr.two ?_ ?_)
    rename_i O8 c8 k81 k82
    refine L.step (by decide) (S.call rfl rfl Try.func35 (by kernel_rfl) rfl sPicks (fun E' hE => wrecords E' gv g9 wv hv) ?_)
    rintro e H' ⟨O7, o7, y7, rfl, hy71, hy72, hoc7, hy7w, rfl⟩
    refine ⟨_, rfl, _, sCat, ?_⟩
    have hfin : decide (y7.map (·.b) = (y5 ++ [(⟨B, nb, cb, b⟩ : Oc)]).map (·.b)) = true := decide_eq_true (by
      show y7.map Oc.b = (y5 ++ [(⟨B, nb, cb, b⟩ : Oc)]).map Oc.b
      rw [hy72, hvR, hs8', List.map_append]
      dsimp only
      rw [hzR, hys2, hy52]
      rfl)
    repeat (first | refine wWl1 ?_ | (refine kWl1 ?_; (first | rintro _ _ ⟨rfl, rfl⟩ | rintro _ _ ⟨_, rfl, rfl⟩ | rintro _ _ ⟨_, _, ⟨_, _⟩, rfl, rfl⟩); try refine ⟨sConv, ?_⟩) | refine Dr.two ?_ ?_)
    refine L.step (by decide) (S.call rfl rfl Try.func51 (by kernel_rfl) rfl sPicks (fun E' hE => octets_any E' O7 wv.m o7 y7 O8 (wy.m + 1) c8 (y5 ++ [(⟨B, nb, cb, b⟩ : Oc)]) sRd (Ins.each (l := y7) hE sHas) sRd ((Ins.each (l := y5) hE sHas).snoc (hrb.sub hE))) ?_)
    rw [hfin]
    rintro e H' ⟨rfl, rfl⟩
    refine ⟨_, rfl, _, sCat, ?_⟩
    repeat (first | refine wWl1 ?_ | (refine kWl1 ?_; (first | rintro _ _ ⟨rfl, rfl⟩ | rintro _ _ ⟨_, rfl, rfl⟩ | rintro _ _ ⟨_, _, ⟨_, _⟩, rfl, rfl⟩); try refine ⟨sConv, ?_⟩) | refine Dr.two ?_ ?_)
    exact ret1 rfl sRet sConv (rfl)
end Go.Proofs.Ytkhmplaocfjpjaa.Sep
