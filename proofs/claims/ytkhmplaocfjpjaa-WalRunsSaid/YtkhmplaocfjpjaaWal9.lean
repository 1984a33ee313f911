/- the law WalKeeps, by parts of memory. -/
import Derived.Test.YtkhmplaocfjpjaaWal8
namespace Go.Proofs.Ytkhmplaocfjpjaa.Sep
open Go.RowKit Go.Proofs.Ytkhmplaocfjpjaa.Reg
open Go.Proofs.Ytkhmplaocfjpjaa.Mem hiding Rd Own
set_option maxRecDepth 100000
-- types: octT secT slT
-- recs: rec_Disk plate_rec log_rec
set_option maxRecDepth 100000
set_option maxHeartbeats 6000000
theorem near_k (n : Int) : ∃ k : Nat, (k : Int) = (if n < 1 then 1 else if 64 < n then 64 else n) ∧ 1 ≤ k ∧ k ≤ 64 := by
  by_cases h1 : n < 1
  · exact ⟨1, by rw [if_pos h1]; rfl, by omega, by omega⟩
  · by_cases h2 : 64 < n
    · exact ⟨64, by rw [if_neg h1, if_pos h2]; rfl, by omega, by omega⟩
    · exact ⟨n.toNat, by rw [if_neg h1, if_neg h2]; omega, by omega, by omega⟩
theorem near_9k (n : Int) : ∃ c : Nat, (c : Int) = (if n < 0 then 0 else if 9000 < n then 9000 else n) := by
  by_cases h1 : n < 0
  · exact ⟨0, by rw [if_pos h1]; rfl⟩
  · by_cases h2 : 9000 < n
    · exact ⟨9000, by rw [if_neg h1, if_pos h2]; rfl⟩
    · exact ⟨n.toNat, by rw [if_neg h1, if_neg h2]; omega⟩
/-- what an answer leaves -/
theorem sync_any {s : LS} (hd : s.dead = false) : ∃ (z : Int) (q : Nat) (du po : Nat) (pe : List UInt8) (de : Bool) (F : Int), s.sync = (z, ⟨s.N, sp s.D (hfrom s.N (hb s.D) + s.pos) (s.pend.take q), s.recs, du, po, pe, de, F⟩) ∧ q ≤ s.pend.length ∧ (z = 0 ∨ z = 19) ∧ (z = 0 → q = s.pend.length ∧ du = s.recs.length) ∧ (z = 19 → du = s.dur ∧ s.pend ≠ []) := by
  cases hc : lcut s.armed s.pos s.pend.length
  · rw [sync_ok hd hc]
    exact ⟨0, s.pend.length, _, _, _, _, _, by rw [List.take_length], Nat.le_refl _, .inl rfl, fun _ => ⟨rfl, rfl⟩, fun h => absurd h (by decide)⟩
  · rw [sync_cut hd hc]
    refine ⟨19, lq s.armed s.pos s.pend.length, _, _, _, _, _, rfl, lq_le _ _ _, .inr rfl, fun h => absurd h (by decide), fun _ => ⟨rfl, fun hp => ?_⟩⟩
    rw [hp, List.length_nil, lcut_none] at hc
    cases hc
theorem keeps12 (E : Env) (n : Int) (A : Option Addr) (na ca : Nat) (la : List Oc) (hra : Rd E slT A na ca la) (hia : Ins E la) (B : Option Addr) (nb cb : Nat) (lb : List Oc) (hrb : Rd E slT B nb cb lb) (hib : Ins E lb) (arm : Int) :
    Tri Try.prog E 6 #[.int .i64 n, .slice A na ca, .slice B nb cb, .int .i64 arm] [] fun e _ => e = .returned (.bool true) := by
  have hmax : maxLen = 9223372036854775807 := rfl
  have hlna := hra.len
  have hca := hra.cap
  have hlnb := hrb.len
  have hcb := hrb.cap
  obtain ⟨k, hk, hk0, hk1⟩ := near_k n
  obtain ⟨c9, hc9⟩ := near_9k arm
  refine tri Try.func6 rfl Try.ntmps6 (by simp) ?_
  repeat (first | refine wWl1 ?_ | (refine kWl1 ?_; (first | rintro _ _ ⟨rfl, rfl⟩ | rintro _ _ ⟨_, rfl, rfl⟩ | rintro _ _ ⟨_, _, ⟨_, _⟩, rfl, rfl⟩); try refine ⟨sConv, ?_⟩) | refine Dr.two ?_ ?_)
  refine L.step (by decide) (S.call rfl rfl Try.func31 (by kernel_rfl) rfl sPicks (fun E' hE => alive12 E') ?_)
  rintro e H' ⟨rfl, rfl⟩
  refine ⟨_, rfl, _, sCat, ?_⟩
  repeat (first | refine wWl1 ?_ | (refine kWl1 ?_; (first | rintro _ _ ⟨rfl, rfl⟩ | rintro _ _ ⟨_, rfl, rfl⟩ | rintro _ _ ⟨_, _, ⟨_, _⟩, rfl, rfl⟩); try refine ⟨sConv, ?_⟩) | refine Dr.two ?_ ?_)
  refine L.step (by decide) (S.call rfl rfl Try.func32 (by kernel_rfl) rfl sPicks (fun E' hE => wnew E' n k hk) ?_)
  rintro e H' ⟨g, gd, w0, rfl, h0, hs0, hwr0, hr0, rfl⟩
  have hm0 : w0.m = 0 := by rw [h0.hm, hr0]; rfl
  have i0 : Inv w0.s := by rw [hs0]; exact Inv.new hk0 hk1
  refine ⟨_, rfl, _, sCat, ?_⟩
  repeat ((fail_if_success (refine C.seq (x := Code.region 4 _ _) ?_)); first | refine vWl1 ?_ | (refine kWl1 ?_; (first | rintro _ _ ⟨rfl, rfl⟩ | rintro _ _ ⟨_, rfl, rfl⟩ | rintro _ _ ⟨_, _, ⟨_, _⟩, rfl, rfl⟩); try refine ⟨sConv, ?_⟩) | refine Dr.two ?_ ?_)
  refine C.mid (X := WL) (fun _ => [(2, .slice B nb cb), (3, .int .i64 arm), (9, .pointer (some ⟨g, 0, none⟩))]) (fun x => wst g gd x) (fun x => x.ok ∧ Inv x.s ∧ Like w0.s x.s ∧ x.wr ≤ 0 ∧ x.m ≤ 20) ?_ ?_
  · repeat (first | refine wWl1 ?_ | (refine kWl1 ?_; (first | rintro _ _ ⟨rfl, rfl⟩ | rintro _ _ ⟨_, rfl, rfl⟩ | rintro _ _ ⟨_, _, ⟨_, _⟩, rfl, rfl⟩); try refine ⟨sConv, ?_⟩) | refine Dr.two ?_ ?_)
    refine C.loop (X := Nat × WL) (fun x => [(1, .slice A na ca), (2, .slice B nb cb), (3, .int .i64 arm), (9, .pointer (some ⟨g, 0, none⟩)), (10, .int .i64 x.1)])
      (fun x => wst g gd x.2) (fun x => x.1 ≤ 20 ∧ x.2.ok ∧ Inv x.2.s ∧ Like w0.s x.2.s ∧ x.2.wr ≤ 0 ∧ x.2.m ≤ x.1) (fun x => 20 - x.1) (0, w0) sHolds Conv.refl ⟨Nat.zero_le _, h0, i0, Like.refl _, by dsimp only; omega, by dsimp only; omega⟩ ?_
    rintro ⟨i, w⟩ F ⟨hi, hok, hin, hlk, hwr, hm⟩
    dsimp only at hi hok hin hlk hwr hm ⊢
    by_cases hlt : i < na
    · by_cases hl20 : i < 20
      · obtain ⟨x, hx⟩ : ∃ x, la[i]? = some x := ⟨_, List.getElem?_eq_getElem (by omega)⟩
        have hxr := hia.at_ hx
        have hrl : w.m + 1 ≤ 100000 := by omega
        repeat (first | refine wWl1 ?_ | (refine kWl1 ?_; (first | rintro _ _ ⟨rfl, rfl⟩ | rintro _ _ ⟨_, rfl, rfl⟩ | rintro _ _ ⟨_, _, ⟨_, _⟩, rfl, rfl⟩); try refine ⟨sConv, ?_⟩) | refine Dr.two ?_ ?_)
        refine L.step (by decide) (S.call rfl rfl Try.func33 (by kernel_rfl) rfl sPicks (fun E' hE => wappend E' g gd w hok hrl x.A x.n x.c x.b (hxr.sub hE)) ?_)
        unfold WPost
        rintro e H' ⟨w', rfl, hok', hs', hwr', hm', rfl⟩
        refine ⟨_, rfl, _, sCat, ?_⟩
        repeat (first | refine wWl1 ?_ | (refine kWl1 ?_; (first | rintro _ _ ⟨rfl, rfl⟩ | rintro _ _ ⟨_, rfl, rfl⟩ | rintro _ _ ⟨_, _, ⟨_, _⟩, rfl, rfl⟩); try refine ⟨sConv, ?_⟩) | refine Dr.two ?_ ?_)
        exact ⟨(i + 1, w'), sHolds, Conv.refl, ⟨by dsimp only; omega, hok', by rw [hs']; exact hin.append _, by rw [hs']; exact hlk.append hin _, by dsimp only; omega, by dsimp only; omega⟩, by dsimp only; omega⟩
      · repeat (first | refine wWl1 ?_ | (refine kWl1 ?_; (first | rintro _ _ ⟨rfl, rfl⟩ | rintro _ _ ⟨_, rfl, rfl⟩ | rintro _ _ ⟨_, _, ⟨_, _⟩, rfl, rfl⟩); try refine ⟨sConv, ?_⟩) | refine Dr.two ?_ ?_)
        exact ⟨w, sHolds, Conv.refl, ⟨hok, hin, hlk, hwr, by omega⟩⟩
    · repeat (first | refine wWl1 ?_ | (refine kWl1 ?_; (first | rintro _ _ ⟨rfl, rfl⟩ | rintro _ _ ⟨_, rfl, rfl⟩ | rintro _ _ ⟨_, _, ⟨_, _⟩, rfl, rfl⟩); try refine ⟨sConv, ?_⟩) | refine Dr.two ?_ ?_)
      exact ⟨w, sHolds, Conv.refl, ⟨hok, hin, hlk, hwr, by omega⟩⟩
  rintro w1 F1 ⟨h1, i1, k1, v1, m1⟩
  have a0 : w0.s.armed = -1 := by rw [hs0]; rfl
  have d0 : w0.s.dead = false := by rw [hs0]; rfl
  have v1' : w1.wr ≤ 900000 := by omega
  have e2 := sync_ok (s := w1.s) (by rw [k1.dead]; exact d0) (by rw [k1.armed, a0]; exact lcut_free _ _)
  have i2 := i1.synced (larm w1.s.armed w1.s.pos w1.s.pend.length)
  have r2a : larm w1.s.armed w1.s.pos w1.s.pend.length = -1 := by rw [k1.armed, a0]; exact larm_free _ _
  rw [r2a] at e2 i2
  repeat (first | refine wWl1 ?_ | (refine kWl1 ?_; (first | rintro _ _ ⟨rfl, rfl⟩ | rintro _ _ ⟨_, rfl, rfl⟩ | rintro _ _ ⟨_, _, ⟨_, _⟩, rfl, rfl⟩); try refine ⟨sConv, ?_⟩) | refine Dr.two ?_ ?_)
  refine L.step (by decide) (S.call rfl rfl Try.func34 (by kernel_rfl) rfl sPicks (fun E' hE => wsync E' g gd w1 h1 v1') ?_)
  unfold WPost
  rw [e2]
  rintro e H' ⟨w2, rfl, h2, hs2, hwr2, hm2, rfl⟩
  dsimp only at hs2 ⊢
  have i2' : Inv w2.s := by rw [hs2]; exact i2
  refine ⟨_, rfl, _, sCat, ?_⟩
  repeat ((fail_if_success (refine C.seq (x := Code.region 9 _ _) ?_)); first | refine vWl1 ?_ | (refine kWl1 ?_; (first | rintro _ _ ⟨rfl, rfl⟩ | rintro _ _ ⟨_, rfl, rfl⟩ | rintro _ _ ⟨_, _, ⟨_, _⟩, rfl, rfl⟩); try refine ⟨sConv, ?_⟩) | refine Dr.two ?_ ?_)
  refine C.mid (X := WL) (fun _ => [(3, .int .i64 arm), (9, .pointer (some ⟨g, 0, none⟩))]) (fun x => wst g gd x) (fun x => x.ok ∧ Inv x.s ∧ Like w2.s x.s ∧ x.wr ≤ 2048 ∧ x.m ≤ 41) ?_ ?_
  · repeat (first | refine wWl1 ?_ | (refine kWl1 ?_; (first | rintro _ _ ⟨rfl, rfl⟩ | rintro _ _ ⟨_, rfl, rfl⟩ | rintro _ _ ⟨_, _, ⟨_, _⟩, rfl, rfl⟩); try refine ⟨sConv, ?_⟩) | refine Dr.two ?_ ?_)
    refine C.loop (X := Nat × WL) (fun x => [(2, .slice B nb cb), (3, .int .i64 arm), (9, .pointer (some ⟨g, 0, none⟩)), (11, .int .i64 x.1)])
      (fun x => wst g gd x.2) (fun x => x.1 ≤ 20 ∧ x.2.ok ∧ Inv x.2.s ∧ Like w2.s x.2.s ∧ x.2.wr ≤ 2048 ∧ x.2.m ≤ 21 + x.1) (fun x => 20 - x.1) (0, w2) sHolds Conv.refl ⟨Nat.zero_le _, h2, i2', Like.refl _, by dsimp only; omega, by dsimp only; omega⟩ ?_
    rintro ⟨i, w⟩ F ⟨hi, hok, hin, hlk, hwr, hm⟩
    dsimp only at hi hok hin hlk hwr hm ⊢
    by_cases hlt : i < nb
    · by_cases hl20 : i < 20
      · obtain ⟨x, hx⟩ : ∃ x, lb[i]? = some x := ⟨_, List.getElem?_eq_getElem (by omega)⟩
        have hxr := hib.at_ hx
        have hrl : w.m + 1 ≤ 100000 := by omega
        repeat (first | refine wWl1 ?_ | (refine kWl1 ?_; (first | rintro _ _ ⟨rfl, rfl⟩ | rintro _ _ ⟨_, rfl, rfl⟩ | rintro _ _ ⟨_, _, ⟨_, _⟩, rfl, rfl⟩); try refine ⟨sConv, ?_⟩) | refine Dr.two ?_ ?_)
        refine L.step (by decide) (S.call rfl rfl Try.func33 (by kernel_rfl) rfl sPicks (fun E' hE => wappend E' g gd w hok hrl x.A x.n x.c x.b (hxr.sub hE)) ?_)
        unfold WPost
        rintro e H' ⟨w', rfl, hok', hs', hwr', hm', rfl⟩
        refine ⟨_, rfl, _, sCat, ?_⟩
        repeat (first | refine wWl1 ?_ | (refine kWl1 ?_; (first | rintro _ _ ⟨rfl, rfl⟩ | rintro _ _ ⟨_, rfl, rfl⟩ | rintro _ _ ⟨_, _, ⟨_, _⟩, rfl, rfl⟩); try refine ⟨sConv, ?_⟩) | refine Dr.two ?_ ?_)
        exact ⟨(i + 1, w'), sHolds, Conv.refl, ⟨by dsimp only; omega, hok', by rw [hs']; exact hin.append _, by rw [hs']; exact hlk.append hin _, by dsimp only; omega, by dsimp only; omega⟩, by dsimp only; omega⟩
      · repeat (first | refine wWl1 ?_ | (refine kWl1 ?_; (first | rintro _ _ ⟨rfl, rfl⟩ | rintro _ _ ⟨_, rfl, rfl⟩ | rintro _ _ ⟨_, _, ⟨_, _⟩, rfl, rfl⟩); try refine ⟨sConv, ?_⟩) | refine Dr.two ?_ ?_)
        exact ⟨w, sHolds, Conv.refl, ⟨hok, hin, hlk, hwr, by omega⟩⟩
    · repeat (first | refine wWl1 ?_ | (refine kWl1 ?_; (first | rintro _ _ ⟨rfl, rfl⟩ | rintro _ _ ⟨_, rfl, rfl⟩ | rintro _ _ ⟨_, _, ⟨_, _⟩, rfl, rfl⟩); try refine ⟨sConv, ?_⟩) | refine Dr.two ?_ ?_)
      exact ⟨w, sHolds, Conv.refl, ⟨hok, hin, hlk, hwr, by omega⟩⟩
  rintro w3 F3 ⟨h3, i3, k3, v3, m3⟩
  have d3 : w3.dead = false := by have : w3.s.dead = false := by rw [k3.dead, hs2]
                                  exact this
  have a3 : w3.armed = -1 := by have : w3.s.armed = -1 := by rw [k3.armed, hs2]
                                exact this
  repeat (first | refine wWl1 ?_ | (refine kWl1 ?_; (first | rintro _ _ ⟨rfl, rfl⟩ | rintro _ _ ⟨_, rfl, rfl⟩ | rintro _ _ ⟨_, _, ⟨_, _⟩, rfl, rfl⟩); try refine ⟨sConv, ?_⟩) | refine Dr.two ?_ ?_)
  refine L.step (by decide) (S.call rfl rfl Try.func35 (by kernel_rfl) rfl sPicks (fun E' hE => wrecords E' g gd w3 h3) ?_)
  rintro e H' ⟨O, oc, xs, rfl, hxs1, hxs2, hoc, hxw, rfl⟩
  refine ⟨_, rfl, _, sCat, ?_⟩
  repeat (first | refine wWl1 ?_ | (refine kWl1 ?_; (first | rintro _ _ ⟨rfl, rfl⟩ | rintro _ _ ⟨_, rfl, rfl⟩ | rintro _ _ ⟨_, _, ⟨_, _⟩, rfl, rfl⟩); try refine ⟨sConv, ?_⟩) | refine Dr.two ?_ ?_)
  refine L.step (by decide) (S.call rfl rfl Try.func36 (by kernel_rfl) rfl sPicks (fun E' hE => wdurable E' g gd w3) ?_)
  rintro e H' ⟨rfl, rfl⟩
  refine ⟨_, rfl, _, sCat, ?_⟩
  repeat (first | refine wWl1 ?_ | (refine kWl1 ?_; (first | rintro _ _ ⟨rfl, rfl⟩ | rintro _ _ ⟨_, rfl, rfl⟩ | rintro _ _ ⟨_, _, ⟨_, _⟩, rfl, rfl⟩); try refine ⟨sConv, ?_⟩) | refine Dr.two ?_ ?_)
  refine L.step (by decide) (S.call rfl rfl Try.func37 (by kernel_rfl) rfl sPicks (fun E' hE => wdisk E' g gd w3 h3) ?_)
  rintro e H' ⟨g', A', c', rfl, rfl⟩
  rw [d3, a3]
  refine ⟨_, rfl, _, sCat, ?_⟩
  repeat (first | refine wWl1 ?_ | (refine kWl1 ?_; (first | rintro _ _ ⟨rfl, rfl⟩ | rintro _ _ ⟨_, rfl, rfl⟩ | rintro _ _ ⟨_, _, ⟨_, _⟩, rfl, rfl⟩); try refine ⟨sConv, ?_⟩) | refine Dr.two ?_ ?_)
  refine L.step (by decide) (S.call rfl rfl Try.func39 (by kernel_rfl) rfl sPicks (fun E' hE => near12 E' arm 0 9000) ?_)
  rw [← hc9]
  rintro e H' ⟨rfl, rfl⟩
  refine ⟨_, rfl, _, sCat, ?_⟩
  repeat (first | refine wWl1 ?_ | (refine kWl1 ?_; (first | rintro _ _ ⟨rfl, rfl⟩ | rintro _ _ ⟨_, rfl, rfl⟩ | rintro _ _ ⟨_, _, ⟨_, _⟩, rfl, rfl⟩); try refine ⟨sConv, ?_⟩) | refine Dr.two ?_ ?_)
  refine L.step (by decide) (S.call rfl rfl Try.func38 (by kernel_rfl) rfl sPicks (fun E' hE => arm_any E' g' false (-1) w3.wr A' w3.k c' (c9 : Int)) ?_)
  rw [if_neg Bool.false_ne_true, show max (c9 : Int) (-1) = (c9 : Int) by omega]
  rintro e H' ⟨rfl, rfl⟩
  refine ⟨_, rfl, _, sCat, ?_⟩
  have oc3 := open_clean i3 (c9 : Int)
  have hc1 : -1 ≤ (c9 : Int) := by omega
  have hc2 : (c9 : Int) ≤ 9223372036854775807 := by split at hc9 <;> (try split at hc9) <;> omega
  have hcut : lcut (c9 : Int) (Frm.upto (hocts (flat w3.secs) w3.N (hb (flat w3.secs)))) (otail (flat w3.secs) w3.N) = false := by
    rw [show otail (flat w3.secs) w3.N = 0 from oc3.1]; exact lcut_none _ _
  have hlen3 := h3.len
  have v3' : w3.wr ≤ 900000 := by omega
  repeat (first | refine wWl1 ?_ | (refine kWl1 ?_; (first | rintro _ _ ⟨rfl, rfl⟩ | rintro _ _ ⟨_, rfl, rfl⟩ | rintro _ _ ⟨_, _, ⟨_, _⟩, rfl, rfl⟩); try refine ⟨sConv, ?_⟩) | refine Dr.two ?_ ?_)
  refine L.step (by decide) (S.call rfl rfl Try.func40 (by kernel_rfl) rfl sPicks (fun E' hE => wopen E' g' w3.N (c9 : Int) w3.wr A' w3.k c' w3.secs h3.hk hlen3 h3.n0 h3.n1 hc1 hc2 h3.w0 v3' hcut) ?_)
  rintro e H' ⟨gx, wx, rfl, hx, hsx, hwrx, hmx, rfl⟩
  have hsx2 := hsx.trans oc3.2.2.2
  obtain ⟨R, hR⟩ : ∃ R, w3.s.recs = R := ⟨_, rfl⟩
  obtain ⟨D, hD⟩ : ∃ D, w3.s.D = D := ⟨_, rfl⟩
  obtain ⟨P, hP⟩ : ∃ P, w3.s.pos = P := ⟨_, rfl⟩
  obtain ⟨Fx, hFx⟩ : ∃ F, larm (c9 : Int) P 0 = F := ⟨_, rfl⟩
  have e3N : w3.s.N = w3.N := rfl
  have e3d : w3.s.dur = w3.dur := rfl
  have hRm : w3.m = R.length := by rw [← hR, h3.hm]; exact (List.length_map _).symm
  have hxR : xs.map Oc.b = R := by rw [hxs2, ← hR]; rfl
  have hdur3 := i3.dur
  rw [e3d, hR] at hdur3
  have hin : Inv ⟨w3.N, D, R, w3.dur, P, cat (R.drop w3.dur), false, Fx⟩ := by
    rw [← hD, ← hR, ← hP]
    refine ⟨i3.len, i3.n0, i3.n1, i3.oks, i3.dur, i3.pos, rfl, i3.half, ?_⟩
    have h1 := i3.fit
    rw [i3.pend] at h1
    exact h1
  rw [hR, hD, hP, hFx, e3N, e3d] at hsx2
  refine ⟨_, rfl, _, sCat, ?_⟩
  repeat ((fail_if_success (refine C.seq (x := Code.region 19 _ _) ?_)); first | refine vWl1 ?_ | (refine kWl1 ?_; (first | rintro _ _ ⟨rfl, rfl⟩ | rintro _ _ ⟨_, rfl, rfl⟩ | rintro _ _ ⟨_, _, ⟨_, _⟩, rfl, rfl⟩); try refine ⟨sConv, ?_⟩) | refine Dr.two ?_ ?_)
  refine C.mid (X := WL) (fun _ => [(12, .slice O w3.m oc), (13, .int .i64 (w3.dur : Int)), (14, .pointer (some ⟨g', 0, none⟩)), (15, .pointer (some ⟨gx, 0, none⟩))]) (fun x => own slT O w3.m oc xs :: each oOc xs :: wst gx g' x) (fun x => x.ok ∧ x.s = ⟨w3.N, D, R, w3.dur, P, cat (R.drop w3.dur), false, Fx⟩ ∧ x.wr ≤ 10000) ?_ ?_
  · have hxl : w3.m ≤ maxLen := by omega
    repeat (first | refine wWl1 ?_ | (refine kWl1 ?_; (first | rintro _ _ ⟨rfl, rfl⟩ | rintro _ _ ⟨_, rfl, rfl⟩ | rintro _ _ ⟨_, _, ⟨_, _⟩, rfl, rfl⟩); try refine ⟨sConv, ?_⟩) | refine Dr.two ?_ ?_)
    refine C.loop (X := Nat × WL) (fun x => [(12, .slice O w3.m oc), (13, .int .i64 (w3.dur : Int)), (14, .pointer (some ⟨g', 0, none⟩)), (15, .pointer (some ⟨gx, 0, none⟩)), (17, .int .i64 x.1)])
      (fun x => own slT O w3.m oc xs :: each oOc xs :: wst gx g' x.2) (fun x => w3.dur ≤ x.1 ∧ x.1 ≤ w3.m ∧ x.2.ok ∧ x.2.s = ⟨w3.N, D, R.take x.1, w3.dur, P, cat ((R.take x.1).drop w3.dur), false, Fx⟩ ∧ x.2.wr ≤ 10000) (fun x => w3.m - x.1) (w3.dur, wx) sHolds sConv ⟨Nat.le_refl _, by dsimp only; omega, hx, by dsimp only; rw [hsx2, List.drop_of_length_le (by rw [List.length_take]; omega)]; rfl, by dsimp only; omega⟩ ?_
    rintro ⟨i, w⟩ F ⟨hi0, hi, hok, hsw, hwr⟩
    dsimp only at hi0 hi hok hsw hwr ⊢
    by_cases hlt : i < w3.m
    · obtain ⟨y, hy⟩ : ∃ y, xs[i]? = some y := ⟨_, List.getElem?_eq_getElem (by omega)⟩
      have hyR : R[i]? = some y.b := by rw [← hxR, List.getElem?_map, hy]; rfl
      have htk : R.take (i + 1) = R.take i ++ [y.b] := by rw [List.take_add_one, hyR]; rfl
      have hdt : (R.take (i + 1)).drop w3.dur = (R.take i).drop w3.dur ++ [y.b] := by rw [htk, List.drop_append_of_le_length (by rw [List.length_take]; omega)]
      have hok2 := hin.oks y.b (List.mem_of_getElem? hyR)
      have hwm : w.m = i := by
        have h1 : w.s.recs.length = i := by rw [hsw]; dsimp only; rw [List.length_take]; omega
        rw [hok.hm, ← h1]; exact (List.length_map _).symm
      have hrl : w.m + 1 ≤ 100000 := by omega
      have hfit := hin.fit
      dsimp only at hfit
      have hcm : (cat ((R.take (i + 1)).drop w3.dur)).length ≤ (cat (R.drop w3.dur)).length := by
        rw [List.drop_take]
        have h1 := cat_take_mono (R.drop w3.dur) (show i + 1 - w3.dur ≤ (R.drop w3.dur).length by rw [List.length_drop]; omega)
        rw [List.take_length] at h1
        exact h1
      rw [hdt, cat_append, List.length_append, cat_one, Frm.fr_length] at hcm
      have eap := append_ok (s := w.s) (b := y.b) hok2.1 hok2.2 (by rw [hsw]; dsimp only; omega)
      repeat (first | refine wWl1 ?_ | (refine kWl1 ?_; (first | rintro _ _ ⟨rfl, rfl⟩ | rintro _ _ ⟨_, rfl, rfl⟩ | rintro _ _ ⟨_, _, ⟨_, _⟩, rfl, rfl⟩); try refine ⟨sConv, ?_⟩) | refine Dr.two ?_ ?_)
      refine L.step (by decide) (S.call rfl rfl Try.func33 (by kernel_rfl) rfl sPicks (fun E' hE => wappend E' gx g' w hok hrl y.A y.n y.c y.b (Sub.each (f := oOc) hE sHas hy rfl)) ?_)
      unfold WPost
      rw [eap]
      rintro e H' ⟨w', rfl, hok', hs', hwr', hm', rfl⟩
      refine ⟨_, rfl, _, sCat, ?_⟩
      repeat (first | refine wWl1 ?_ | (refine kWl1 ?_; (first | rintro _ _ ⟨rfl, rfl⟩ | rintro _ _ ⟨_, rfl, rfl⟩ | rintro _ _ ⟨_, _, ⟨_, _⟩, rfl, rfl⟩); try refine ⟨sConv, ?_⟩) | refine Dr.two ?_ ?_)
      refine ⟨(i + 1, w'), sHolds, sConv, ⟨by dsimp only; omega, by dsimp only; omega, hok', ?_, by dsimp only; omega⟩, by dsimp only; omega⟩
      dsimp only
      rw [hs', hsw]
      dsimp only
      rw [hdt, htk, cat_append, cat_one]
    · obtain rfl : i = w3.m := by omega
      rw [List.take_of_length_le (by omega)] at hsw
      repeat (first | refine wWl1 ?_ | (refine kWl1 ?_; (first | rintro _ _ ⟨rfl, rfl⟩ | rintro _ _ ⟨_, rfl, rfl⟩ | rintro _ _ ⟨_, _, ⟨_, _⟩, rfl, rfl⟩); try refine ⟨sConv, ?_⟩) | refine Dr.two ?_ ?_)
      exact ⟨w, sHolds, sConv, ⟨hok, hsw, hwr⟩⟩
  rintro w4 F4 ⟨h4, hs4, v4⟩
  have v4' : w4.wr ≤ 900000 := by omega
  obtain ⟨z, q, du, po, pe, de, F5, hsy, hq, hz, hz0, hz19⟩ := sync_any (s := w4.s) (by rw [hs4])
  rw [hs4] at hsy hq hz0 hz19
  dsimp only at hsy hq hz0 hz19
  repeat (first | refine wWl1 ?_ | (refine kWl1 ?_; (first | rintro _ _ ⟨rfl, rfl⟩ | rintro _ _ ⟨_, rfl, rfl⟩ | rintro _ _ ⟨_, _, ⟨_, _⟩, rfl, rfl⟩); try refine ⟨sConv, ?_⟩) | refine Dr.two ?_ ?_)
  refine L.step (by decide) (S.call rfl rfl Try.func34 (by kernel_rfl) rfl sPicks (fun E' hE => wsync E' gx g' w4 h4 v4') ?_)
  unfold WPost
  rw [hs4, hsy]
  rintro e H' ⟨w5, rfl, h5, hs5, hwr5, hm5, rfl⟩
  dsimp only at hs5 ⊢
  refine ⟨_, rfl, _, sCat, ?_⟩
  repeat (first | refine wWl1 ?_ | (refine kWl1 ?_; (first | rintro _ _ ⟨rfl, rfl⟩ | rintro _ _ ⟨_, rfl, rfl⟩ | rintro _ _ ⟨_, _, ⟨_, _⟩, rfl, rfl⟩); try refine ⟨sConv, ?_⟩) | refine Dr.two ?_ ?_)
  refine L.step (by decide) (S.call rfl rfl Try.func41 (by kernel_rfl) rfl sPicks (fun E' hE => revive_any E' g' w5.dead w5.armed w5.wr w5.A w5.k w5.c) ?_)
  rintro e H' ⟨rfl, rfl⟩
  refine ⟨_, rfl, _, sCat, ?_⟩
  have v5' : w5.wr ≤ 900000 := by omega
  have hlen5 := h5.len
  repeat (first | refine wWl1 ?_ | (refine kWl1 ?_; (first | rintro _ _ ⟨rfl, rfl⟩ | rintro _ _ ⟨_, rfl, rfl⟩ | rintro _ _ ⟨_, _, ⟨_, _⟩, rfl, rfl⟩); try refine ⟨sConv, ?_⟩) | refine Dr.two ?_ ?_)
  refine L.step (by decide) (S.call rfl rfl Try.func40 (by kernel_rfl) rfl sPicks (fun E' hE => wopen E' g' w5.N (-1) w5.wr w5.A w5.k w5.c w5.secs h5.hk hlen5 h5.n0 h5.n1 (by omega) (by omega) h5.w0 v5' (lcut_free _ _)) ?_)
  rintro e H' ⟨gy, wy, rfl, hy, hsy2, hwry, hmy, rfl⟩
  refine ⟨_, rfl, _, sCat, ?_⟩
  obtain ⟨kk, hkk1, hkk2, hkk3, hkk4⟩ := found hin q hq
  obtain ⟨hla1, hla2, hla3⟩ := laid hin q hq
  dsimp only at hkk1 hkk2 hkk3 hkk4 hla1 hla2 hla3
  have hD5 : flat w5.secs = sp D (hfrom w3.N (hb D) + P) ((cat (R.drop w3.dur)).take q) := congrArg LS.D hs5
  have hN5 : w5.N = w3.N := congrArg LS.N hs5
  have hyR : wy.recs.map Oc.b = R.take kk := by
    show wy.s.recs = _
    rw [hsy2]
    show Frm.frames (hocts (flat w5.secs) w5.N (hb (flat w5.secs))) = _
    rw [hN5, hD5, hla1, hla3]
    exact hkk4
  have hym : wy.m = kk := by rw [hy.hm, ← List.length_map (f := Oc.b), hyR, List.length_take]; omega
  have hyd : wy.dur = kk := by
    have h1 : wy.s.dur = wy.s.recs.length := by rw [hsy2]; rfl
    have h2 : wy.s.recs = R.take kk := hyR
    rw [h2, List.length_take] at h1
    show wy.s.dur = kk
    omega
  have h5m : w5.m = R.length := by
    have h1 : w5.s.recs.length = R.length := by rw [hs5]
    rw [h5.hm, ← h1]; exact (List.length_map _).symm
  have h5d : w5.dur = du := congrArg LS.dur hs5
  have h3l : w3.m ≤ maxLen := by omega
  have hyl : wy.m ≤ maxLen := by omega
  have hpend : z = 19 → w3.dur < R.length := by
    intro h
    have h1 := (hz19 h).2
    by_cases h2 : w3.dur < R.length
    · exact h2
    · rw [List.drop_of_length_le (by omega)] at h1
      exact absurd rfl h1
  repeat (first | refine wWl1 ?_ | (refine kWl1 ?_; (first | rintro _ _ ⟨rfl, rfl⟩ | rintro _ _ ⟨_, rfl, rfl⟩ | rintro _ _ ⟨_, _, ⟨_, _⟩, rfl, rfl⟩); try refine ⟨sConv, ?_⟩) | refine Dr.two ?_ ?_)
  refine L.step (by decide) (S.call rfl rfl Try.func42 (by kernel_rfl) rfl sPicks (fun E' hE => wpending E' gx g' w5 h5) ?_)
  rw [h5m, h5d]
  rintro e H' ⟨rfl, rfl⟩
  refine ⟨_, rfl, _, sCat, ?_⟩
  have hpre : ∀ ys : List Oc, ys.map Oc.b = wy.recs.map Oc.b → ys.map Oc.b = (xs.take wy.m).map Oc.b := fun ys h => by rw [h, hyR, List.map_take, hxR, hym]
  have hkd : w3.dur ≤ wy.m := by omega
  have hkm : wy.m ≤ w3.m := by omega
  rcases hz with rfl | rfl
  · obtain ⟨hq2, hdu⟩ := hz0 rfl
    have hp0 : R.length - du = 0 := by omega
    have hkR : wy.m = w3.m := by rw [hym, hkk3 hq2, hRm]
    rw [hp0]
    repeat (first | refine wWl1 ?_ | (refine kWl1 ?_; (first | rintro _ _ ⟨rfl, rfl⟩ | rintro _ _ ⟨_, rfl, rfl⟩ | rintro _ _ ⟨_, _, ⟨_, _⟩, rfl, rfl⟩); try refine ⟨sConv, ?_⟩) | refine Dr.two ?_ ?_)
    refine L.step (by decide) (S.call rfl rfl Try.func35 (by kernel_rfl) rfl sPicks (fun E' hE => wrecords E' gy g' wy hy) ?_)
    rintro e H' ⟨O2, oc2, ys, rfl, hys1, hys2, hoc2, hyw, rfl⟩
    refine ⟨_, rfl, _, sCat, ?_⟩
    repeat (first | refine wWl1 ?_ | (refine kWl1 ?_; (first | rintro _ _ ⟨rfl, rfl⟩ | rintro _ _ ⟨_, rfl, rfl⟩ | rintro _ _ ⟨_, _, ⟨_, _⟩, rfl, rfl⟩); try refine ⟨sConv, ?_⟩) | refine Dr.two ?_ ?_)
    refine L.step (by decide) (S.call rfl rfl Try.func43 (by kernel_rfl) rfl sPicks (fun E' hE => prefix12 E' O2 wy.m oc2 ys O w3.m oc xs w3.dur sRd (Ins.each (l := ys) hE sHas) sRd (Ins.each (l := xs) hE sHas) hkd hkm (hpre ys hys2)) ?_)
    rintro e H' ⟨rfl, rfl⟩
    refine ⟨_, rfl, _, sCat, ?_⟩
    repeat (first | refine wWl1 ?_ | (refine kWl1 ?_; (first | rintro _ _ ⟨rfl, rfl⟩ | rintro _ _ ⟨_, rfl, rfl⟩ | rintro _ _ ⟨_, _, ⟨_, _⟩, rfl, rfl⟩); try refine ⟨sConv, ?_⟩) | refine Dr.two ?_ ?_)
    refine L.step (by decide) (S.call rfl rfl Try.func35 (by kernel_rfl) rfl sPicks (fun E' hE => wrecords E' gy g' wy hy) ?_)
    rintro e H' ⟨O4, oc4, zs, rfl, hzs1, hzs2, hoc4, hzw, rfl⟩
    refine ⟨_, rfl, _, sCat, ?_⟩
    repeat (first | refine wWl1 ?_ | (refine kWl1 ?_; (first | rintro _ _ ⟨rfl, rfl⟩ | rintro _ _ ⟨_, rfl, rfl⟩ | rintro _ _ ⟨_, _, ⟨_, _⟩, rfl, rfl⟩); try refine ⟨sConv, ?_⟩) | refine Dr.two ?_ ?_)
    refine L.step (by decide) (S.call rfl rfl Try.func42 (by kernel_rfl) rfl sPicks (fun E' hE => wpending E' gy g' wy hy) ?_)
    rw [hyd, hym, Nat.sub_self]
    rintro e H' ⟨rfl, rfl⟩
    refine ⟨_, rfl, _, sCat, ?_⟩
    repeat (first | refine wWl1 ?_ | (refine kWl1 ?_; (first | rintro _ _ ⟨rfl, rfl⟩ | rintro _ _ ⟨_, rfl, rfl⟩ | rintro _ _ ⟨_, _, ⟨_, _⟩, rfl, rfl⟩); try refine ⟨sConv, ?_⟩) | refine Dr.two ?_ ?_)
    exact ret1 rfl sRet sConv (rfl)
  · obtain ⟨hdu, _⟩ := hz19 rfl
    have hpd := hpend rfl
    have ht : decide (((R.length - du : Nat) : Int) = 0) = false := decide_eq_false (by omega)
    have ht2 : (!(decide ((19 : Int) = 0) == decide (((R.length - du : Nat) : Int) = 0))) = false := by rw [ht]; rfl
    repeat (first | refine wWl1 ?_ | (refine kWl1 ?_; (first | rintro _ _ ⟨rfl, rfl⟩ | rintro _ _ ⟨_, rfl, rfl⟩ | rintro _ _ ⟨_, _, ⟨_, _⟩, rfl, rfl⟩); try refine ⟨sConv, ?_⟩) | refine Dr.two ?_ ?_)
    refine L.step (by decide) (S.call rfl rfl Try.func35 (by kernel_rfl) rfl sPicks (fun E' hE => wrecords E' gy g' wy hy) ?_)
    rintro e H' ⟨O2, oc2, ys, rfl, hys1, hys2, hoc2, hyw, rfl⟩
    refine ⟨_, rfl, _, sCat, ?_⟩
    repeat (first | refine wWl1 ?_ | (refine kWl1 ?_; (first | rintro _ _ ⟨rfl, rfl⟩ | rintro _ _ ⟨_, rfl, rfl⟩ | rintro _ _ ⟨_, _, ⟨_, _⟩, rfl, rfl⟩); try refine ⟨sConv, ?_⟩) | refine Dr.two ?_ ?_)
    refine L.step (by decide) (S.call rfl rfl Try.func43 (by kernel_rfl) rfl sPicks (fun E' hE => prefix12 E' O2 wy.m oc2 ys O w3.m oc xs w3.dur sRd (Ins.each (l := ys) hE sHas) sRd (Ins.each (l := xs) hE sHas) hkd hkm (hpre ys hys2)) ?_)
    rintro e H' ⟨rfl, rfl⟩
    refine ⟨_, rfl, _, sCat, ?_⟩
    repeat (first | refine wWl1 ?_ | (refine kWl1 ?_; (first | rintro _ _ ⟨rfl, rfl⟩ | rintro _ _ ⟨_, rfl, rfl⟩ | rintro _ _ ⟨_, _, ⟨_, _⟩, rfl, rfl⟩); try refine ⟨sConv, ?_⟩) | refine Dr.two ?_ ?_)
    refine L.step (by decide) (S.call rfl rfl Try.func42 (by kernel_rfl) rfl sPicks (fun E' hE => wpending E' gy g' wy hy) ?_)
    rw [hyd, hym, Nat.sub_self]
    rintro e H' ⟨rfl, rfl⟩
    refine ⟨_, rfl, _, sCat, ?_⟩
    repeat (first | refine wWl1 ?_ | (refine kWl1 ?_; (first | rintro _ _ ⟨rfl, rfl⟩ | rintro _ _ ⟨_, rfl, rfl⟩ | rintro _ _ ⟨_, _, ⟨_, _⟩, rfl, rfl⟩); try refine ⟨sConv, ?_⟩) | refine Dr.two ?_ ?_)
    exact ret1 rfl sRet sConv (rfl)
end Go.Proofs.Ytkhmplaocfjpjaa.Sep
