/- the law of the log: near, prefix, one log alive; by parts of memory. -/
import Derived.Test.YtkhmplaocfjpjaaWalInv
namespace Go.Proofs.Ytkhmplaocfjpjaa.Sep
open Go.RowKit Go.Proofs.Ytkhmplaocfjpjaa.Reg
open Go.Proofs.Ytkhmplaocfjpjaa.Mem hiding Rd Own
set_option maxRecDepth 100000
-- types: octT secT slT
-- recs: rec_Disk plate_rec log_rec
set_option maxRecDepth 100000
set_option maxHeartbeats 3000000
theorem near12 (E : Env) (n lo hi : Int) : Tri Try.prog E 39 #[.int .i64 n, .int .i64 lo, .int .i64 hi] [] fun e H' => e = .returned (.int .i64 (if n < lo then lo else if hi < n then hi else n)) ∧ H' = [] := by
  refine tri Try.func39 rfl Try.ntmps39 (by simp) ?_
  by_cases h1 : n < lo
  · rw [if_pos h1]
    repeat (first | refine wWl1 ?_ | (refine kWl1 ?_; (first | rintro _ _ ⟨rfl, rfl⟩ | rintro _ _ ⟨_, rfl, rfl⟩ | rintro _ _ ⟨_, _, ⟨_, _⟩, rfl, rfl⟩); try refine ⟨sConv, ?_⟩) | refine Dr.two ?_ ?_)
    exact ret1 rfl sRet sConv (⟨rfl, rfl⟩)
  · rw [if_neg h1]
    by_cases h2 : hi < n
    · rw [if_pos h2]
      repeat (first | refine wWl1 ?_ | (refine kWl1 ?_; (first | rintro _ _ ⟨rfl, rfl⟩ | rintro _ _ ⟨_, rfl, rfl⟩ | rintro _ _ ⟨_, _, ⟨_, _⟩, rfl, rfl⟩); try refine ⟨sConv, ?_⟩) | refine Dr.two ?_ ?_)
      exact ret1 rfl sRet sConv (⟨rfl, rfl⟩)
    · rw [if_neg h2]
      repeat (first | refine wWl1 ?_ | (refine kWl1 ?_; (first | rintro _ _ ⟨rfl, rfl⟩ | rintro _ _ ⟨_, rfl, rfl⟩ | rintro _ _ ⟨_, _, ⟨_, _⟩, rfl, rfl⟩); try refine ⟨sConv, ?_⟩) | refine Dr.two ?_ ?_)
      exact ret1 rfl sRet sConv (⟨rfl, rfl⟩)
theorem append_ok {s : LS} {b : List UInt8} (h1 : 1 ≤ b.length) (h2 : b.length ≤ 4096) (h3 : s.pos + s.pend.length + (b.length + 7) ≤ 32 * s.N) : s.append b = (0, ⟨s.N, s.D, s.recs ++ [b], s.dur, s.pos, s.pend ++ Frm.fr b, s.dead, s.armed⟩) := by
  unfold LS.append
  rw [if_neg (by omega), if_neg (by omega), if_neg (by omega)]
theorem lcut_none (F : Int) (a : Nat) : lcut F a 0 = false := by unfold lcut cnt; rw [if_pos rfl]; exact decide_eq_false (by omega)
theorem Inv.synced {s : LS} (h : Inv s) (F : Int) : Inv ⟨s.N, sp s.D (hfrom s.N (hb s.D) + s.pos) s.pend, s.recs, s.recs.length, s.pos + s.pend.length, [], false, F⟩ := by
  obtain ⟨h1, h2, h3⟩ := laid h s.pend.length (Nat.le_refl _)
  rw [List.take_length] at h1 h2 h3
  have hcl : (cat s.recs).length = s.pos + s.pend.length := by rw [cat_all h, List.length_append, ← h.pos, ← h.pend]
  refine ⟨h2, h.n0, h.n1, h.oks, Nat.le_refl _, by dsimp only; rw [List.take_length]; exact hcl.symm, by dsimp only; rw [List.drop_length]; rfl, ?_, by dsimp only [List.length_nil]; exact h.fit⟩
  dsimp only
  rw [h1, h3, List.take_of_length_le (by omega), List.take_length]
theorem Ins.one {E : Env} {x : Oc} (h : Rd E octT x.A x.n x.c x.b) : Ins E [x] := fun y hy => by rw [List.mem_singleton] at hy; subst hy; exact h
section
variable (E : Env)
theorem prefix12 (A : Option Addr) (n c : Nat) (xs : List Oc) (B : Option Addr) (m d : Nat) (ys : List Oc) (k : Nat) (hx : Rd E slT A n c xs) (hxi : Ins E xs) (hy : Rd E slT B m d ys) (hyi : Ins E ys) (hk : k ≤ n) (hnm : n ≤ m) (he : xs.map Oc.b = (ys.take n).map Oc.b) :
    Tri Try.prog E 43 #[.slice A n c, .slice B m d, .int .i64 (k : Int)] [] fun e H' => e = .returned (.bool true) ∧ H' = [] := by
  have hmax : maxLen = 9223372036854775807 := rfl
  have hcx := hx.cap
  have hcy := hy.cap
  have hy2 := hy.upto (k := n) (m := d) hnm (by omega) (Nat.le_refl _)
  have hyi2 : Ins E (ys.take n) := fun y h => hyi y (List.mem_of_mem_take h)
  refine tri Try.func43 rfl Try.ntmps43 (by simp) ?_
  repeat (first | refine wWl1 ?_ | (refine kWl1 ?_; (first | rintro _ _ ⟨rfl, rfl⟩ | rintro _ _ ⟨_, rfl, rfl⟩ | rintro _ _ ⟨_, _, ⟨_, _⟩, rfl, rfl⟩); try refine ⟨sConv, ?_⟩) | refine Dr.two ?_ ?_)
  refine L.step (by decide) (S.call rfl rfl Try.func51 (by kernel_rfl) rfl sPicks (fun E' hE => octets_any E' A n c xs B n d (ys.take n) sRd (hxi.sub hE) sRd (hyi2.sub hE)) ?_)
  rw [decide_eq_true he]
  rintro e H' ⟨rfl, rfl⟩
  refine ⟨_, rfl, _, sCat, ?_⟩
  repeat (first | refine wWl1 ?_ | (refine kWl1 ?_; (first | rintro _ _ ⟨rfl, rfl⟩ | rintro _ _ ⟨_, rfl, rfl⟩ | rintro _ _ ⟨_, _, ⟨_, _⟩, rfl, rfl⟩); try refine ⟨sConv, ?_⟩) | refine Dr.two ?_ ?_)
  exact ret1 rfl sRet sConv (⟨rfl, rfl⟩)
theorem alive12 : Tri Try.prog E 31 #[] [] fun e H' => e = .returned (.bool true) ∧ H' = [] := by
  have hmax : maxLen = 9223372036854775807 := rfl
  refine tri Try.func31 rfl Try.ntmps31 (by simp) ?_
  repeat (first | refine wWl1 ?_ | (refine kWl1 ?_; (first | rintro _ _ ⟨rfl, rfl⟩ | rintro _ _ ⟨_, rfl, rfl⟩ | rintro _ _ ⟨_, _, ⟨_, _⟩, rfl, rfl⟩); try refine ⟨sConv, ?_⟩) | refine Dr.two ?_ ?_)
  refine L.step (by decide) (S.call rfl rfl Try.func32 (by kernel_rfl) rfl sPicks (fun E' hE => wnew E' 2 2 rfl) ?_)
  rintro e H' ⟨g, gd, w0, rfl, h0, hs0, hwr0, hr0, rfl⟩
  have hm0 : w0.m = 0 := by rw [h0.hm, hr0]; rfl
  refine ⟨_, rfl, _, sCat, ?_⟩
  repeat (first | refine wWl1 ?_ | (refine kWl1 ?_; (first | rintro _ _ ⟨rfl, rfl⟩ | rintro _ _ ⟨_, rfl, rfl⟩ | rintro _ _ ⟨_, _, ⟨_, _⟩, rfl, rfl⟩); try refine ⟨sConv, ?_⟩) | refine Dr.two ?_ ?_)
  rw [show UInt8.ofNat (Int.toNat 1) = 1 from rfl]
  rename_i gA
  have i0 : Inv w0.s := by rw [hs0]; exact Inv.new (by omega) (by omega)
  have e1 := append_ok (s := w0.s) (b := [1]) (Nat.le_refl _) (by show 1 ≤ 4096; omega) (by rw [hs0]; show 0 + 0 + (1 + 7) ≤ 32 * 2; omega)
  have hl0 : w0.m + 1 ≤ 100000 := by omega
  refine L.step (by decide) (S.call rfl rfl Try.func33 (by kernel_rfl) rfl sPicks (fun E' hE => wappend E' g gd w0 h0 hl0 (some ⟨gA, 0, none⟩) 1 1 [1] sRd) ?_)
  have i1 := i0.append [1]
  unfold WPost
  rw [e1] at i1 ⊢
  rintro e H' ⟨w1, rfl, h1, hs1, hwr1, hm1, rfl⟩
  dsimp only at hs1 ⊢
  refine ⟨_, rfl, _, sCat, ?_⟩
  have p0 : w0.s.pos = 0 := by rw [hs0]; rfl
  have q0 : w0.s.pend = [] := by rw [hs0]; rfl
  have a0 : w0.s.armed = -1 := by rw [hs0]; rfl
  have d0 : w0.s.dead = false := by rw [hs0]; rfl
  have n0 : w0.s.N = 2 := by rw [hs0]; rfl
  have r0 : w0.s.recs = [] := by rw [hs0]; rfl
  have hwr1' : w1.wr ≤ 900000 := by omega
  repeat (first | refine wWl1 ?_ | (refine kWl1 ?_; (first | rintro _ _ ⟨rfl, rfl⟩ | rintro _ _ ⟨_, rfl, rfl⟩ | rintro _ _ ⟨_, _, ⟨_, _⟩, rfl, rfl⟩); try refine ⟨sConv, ?_⟩) | refine Dr.two ?_ ?_)
  refine L.step (by decide) (S.call rfl rfl Try.func34 (by kernel_rfl) rfl sPicks (fun E' hE => wsync E' g gd w1 h1 hwr1') ?_)
  have e2 := sync_ok (s := w1.s) (by rw [hs1]; exact d0) (by rw [hs1]; dsimp only; rw [a0]; exact lcut_free _ _)
  have i1' : Inv w1.s := by rw [hs1]; exact i1
  have i2 := i1'.synced (larm w1.s.armed w1.s.pos w1.s.pend.length)
  unfold WPost
  rw [e2]
  rintro e H' ⟨w2, rfl, h2, hs2, hwr2, hm2, rfl⟩
  dsimp only at hs2 ⊢
  refine ⟨_, rfl, _, sCat, ?_⟩
  have i2' : Inv w2.s := by rw [hs2]; exact i2
  repeat (first | refine wWl1 ?_ | (refine kWl1 ?_; (first | rintro _ _ ⟨rfl, rfl⟩ | rintro _ _ ⟨_, rfl, rfl⟩ | rintro _ _ ⟨_, _, ⟨_, _⟩, rfl, rfl⟩); try refine ⟨sConv, ?_⟩) | refine Dr.two ?_ ?_)
  rw [show UInt8.ofNat (Int.toNat 2) = 2 from rfl]
  rename_i gB
  have hl2 : w2.m + 1 ≤ 100000 := by omega
  have p2 : w2.s.pos = 8 := by rw [hs2, hs1]; dsimp only; rw [p0, q0]; rfl
  have q2 : w2.s.pend = [] := by rw [hs2]
  have n2 : w2.s.N = 2 := by rw [hs2, hs1]; exact n0
  have u2 : w2.s.dur = 1 := by rw [hs2, hs1]; dsimp only; rw [r0]; rfl
  have r2 : w2.s.recs = [[1]] := by rw [hs2, hs1]; dsimp only; rw [r0]; rfl
  have dd2 : w2.s.dead = false := by rw [hs2]
  have e3 := append_ok (s := w2.s) (b := [2]) (Nat.le_refl _) (by show 1 ≤ 4096; omega) (by rw [p2, q2, n2]; show 8 + 0 + (1 + 7) ≤ 32 * 2; omega)
  refine L.step (by decide) (S.call rfl rfl Try.func33 (by kernel_rfl) rfl sPicks (fun E' hE => wappend E' g gd w2 h2 hl2 (some ⟨gB, 0, none⟩) 1 1 [2] sRd) ?_)
  have i3 := i2'.append [2]
  unfold WPost
  rw [e3] at i3 ⊢
  rintro e H' ⟨w3, rfl, h3, hs3, hwr3, hm3, rfl⟩
  dsimp only at hs3 ⊢
  refine ⟨_, rfl, _, sCat, ?_⟩
  have i3' : Inv w3.s := by rw [hs3]; exact i3
  have hdead3 : w3.dead = false := by have : w3.s.dead = false := by rw [hs3]; exact dd2
                                      exact this
  repeat (first | refine wWl1 ?_ | (refine kWl1 ?_; (first | rintro _ _ ⟨rfl, rfl⟩ | rintro _ _ ⟨_, rfl, rfl⟩ | rintro _ _ ⟨_, _, ⟨_, _⟩, rfl, rfl⟩); try refine ⟨sConv, ?_⟩) | refine Dr.two ?_ ?_)
  refine L.step (by decide) (S.call rfl rfl Try.func37 (by kernel_rfl) rfl sPicks (fun E' hE => wdisk E' g gd w3 h3) ?_)
  rintro e H' ⟨g', A', c', rfl, rfl⟩
  rw [hdead3]
  refine ⟨_, rfl, _, sCat, ?_⟩
  have oc := open_clean i3' w3.armed
  have hwr3' : w3.wr ≤ 900000 := by omega
  have hcut : lcut w3.armed (Frm.upto (hocts (flat w3.secs) w3.N (hb (flat w3.secs)))) (otail (flat w3.secs) w3.N) = false := by
    rw [show otail (flat w3.secs) w3.N = 0 from oc.1]; exact lcut_none _ _
  have hlen3 := h3.len
  repeat (first | refine wWl1 ?_ | (refine kWl1 ?_; (first | rintro _ _ ⟨rfl, rfl⟩ | rintro _ _ ⟨_, rfl, rfl⟩ | rintro _ _ ⟨_, _, ⟨_, _⟩, rfl, rfl⟩); try refine ⟨sConv, ?_⟩) | refine Dr.two ?_ ?_)
  refine L.step (by decide) (S.call rfl rfl Try.func40 (by kernel_rfl) rfl sPicks (fun E' hE => wopen E' g' w3.N w3.armed w3.wr A' w3.k c' w3.secs h3.hk hlen3 h3.n0 h3.n1 h3.a0 h3.a1 h3.w0 hwr3' hcut) ?_)
  rintro e H' ⟨gx, wx, rfl, hx, hsx, hwrx, hmx, rfl⟩
  refine ⟨_, rfl, _, sCat, ?_⟩
  have rx : wx.recs.map Oc.b = [[1]] := by
    show wx.s.recs = _
    rw [hsx]
    show Frm.frames (hocts w3.s.D w3.s.N (hb w3.s.D)) = _
    rw [oc.2.2.1, hs3]
    dsimp only
    rw [r2, u2]; rfl
  have lx : wx.m = 1 := by rw [hx.hm, ← List.length_map (f := Oc.b), rx]; rfl
  have u3 : w3.dur = 1 := by show w3.s.dur = 1; rw [hs3]; exact u2
  have r3 : w3.recs.map Oc.b = [[1], [2]] := by show w3.s.recs = _; rw [hs3]; dsimp only; rw [r2]; rfl
  have m3 : w3.m = 2 := by rw [h3.hm, ← List.length_map (f := Oc.b), r3]; rfl
  have rm3 : 32 * w3.N - w3.pos - w3.p = 48 := by
    have a1 : w3.N = 2 := by show w3.s.N = 2; rw [hs3]; exact n2
    have a2 : w3.pos = 8 := by show w3.s.pos = 8; rw [hs3]; exact p2
    have a3 : w3.p = 8 := by rw [h3.hp]; show w3.s.pend.length = 8; rw [hs3]; dsimp only; rw [q2, List.nil_append, Frm.fr_length]; rfl
    omega
  repeat (first | refine wWl1 ?_ | (refine kWl1 ?_; (first | rintro _ _ ⟨rfl, rfl⟩ | rintro _ _ ⟨_, rfl, rfl⟩ | rintro _ _ ⟨_, _, ⟨_, _⟩, rfl, rfl⟩); try refine ⟨sConv, ?_⟩) | refine Dr.two ?_ ?_)
  refine L.step (by decide) (S.call rfl rfl Try.func36 (by kernel_rfl) rfl sPicks (fun E' hE => wdurable E' g gd w3) ?_)
  rw [u3]
  rintro e H' ⟨rfl, rfl⟩
  refine ⟨_, rfl, _, sCat, ?_⟩
  repeat (first | refine wWl1 ?_ | (refine kWl1 ?_; (first | rintro _ _ ⟨rfl, rfl⟩ | rintro _ _ ⟨_, rfl, rfl⟩ | rintro _ _ ⟨_, _, ⟨_, _⟩, rfl, rfl⟩); try refine ⟨sConv, ?_⟩) | refine Dr.two ?_ ?_)
  refine L.step (by decide) (S.call rfl rfl Try.func42 (by kernel_rfl) rfl sPicks (fun E' hE => wpending E' g gd w3 h3) ?_)
  rw [u3, m3]
  rintro e H' ⟨rfl, rfl⟩
  refine ⟨_, rfl, _, sCat, ?_⟩
  repeat (first | refine wWl1 ?_ | (refine kWl1 ?_; (first | rintro _ _ ⟨rfl, rfl⟩ | rintro _ _ ⟨_, rfl, rfl⟩ | rintro _ _ ⟨_, _, ⟨_, _⟩, rfl, rfl⟩); try refine ⟨sConv, ?_⟩) | refine Dr.two ?_ ?_)
  refine L.step (by decide) (S.call rfl rfl Try.func55 (by kernel_rfl) rfl sPicks (fun E' hE => wroom E' g gd w3 h3) ?_)
  rw [rm3]
  rintro e H' ⟨rfl, rfl⟩
  refine ⟨_, rfl, _, sCat, ?_⟩
  repeat (first | refine wWl1 ?_ | (refine kWl1 ?_; (first | rintro _ _ ⟨rfl, rfl⟩ | rintro _ _ ⟨_, rfl, rfl⟩ | rintro _ _ ⟨_, _, ⟨_, _⟩, rfl, rfl⟩); try refine ⟨sConv, ?_⟩) | refine Dr.two ?_ ?_)
  refine L.step (by decide) (S.call rfl rfl Try.func35 (by kernel_rfl) rfl sPicks (fun E' hE => wrecords E' gx g' wx hx) ?_)
  rintro e H' ⟨O, oc2, xs, rfl, hxs1, hxs2, hoc2, hxw, rfl⟩
  refine ⟨_, rfl, _, sCat, ?_⟩
  repeat (first | refine wWl1 ?_ | (refine kWl1 ?_; (first | rintro _ _ ⟨rfl, rfl⟩ | rintro _ _ ⟨_, rfl, rfl⟩ | rintro _ _ ⟨_, _, ⟨_, _⟩, rfl, rfl⟩); try refine ⟨sConv, ?_⟩) | refine Dr.two ?_ ?_)
  rw [show UInt8.ofNat (Int.toNat 1) = 1 from rfl]
  rename_i gC
  refine L.stepK (by decide) (S.buildSlice1K (T := slT) (e := (⟨some ⟨gC, 0, none⟩, 1, 1, [1]⟩ : Oc)) rfl rfl rfl rfl (by decide)) ?_; rintro _ _ ⟨_, rfl, rfl⟩
  rename_i gD
  have hxd : decide (xs.map (·.b) = [(⟨some ⟨gC, 0, none⟩, 1, 1, [1]⟩ : Oc)].map (·.b)) = true := decide_eq_true (by rw [show xs.map (·.b) = xs.map Oc.b from rfl, hxs2, rx]; rfl)
  have hxm : wx.m = xs.length := by rw [hxs1]
  repeat (first | refine wWl1 ?_ | (refine kWl1 ?_; (first | rintro _ _ ⟨rfl, rfl⟩ | rintro _ _ ⟨_, rfl, rfl⟩ | rintro _ _ ⟨_, _, ⟨_, _⟩, rfl, rfl⟩); try refine ⟨sConv, ?_⟩) | refine Dr.two ?_ ?_)
  refine L.step (by decide) (S.call rfl rfl Try.func51 (by kernel_rfl) rfl sPicks (fun E' hE => octets_any E' O wx.m oc2 xs (some ⟨gD, 0, none⟩) 1 1 [(⟨some ⟨gC, 0, none⟩, 1, 1, [1]⟩ : Oc)] sRd (Ins.each hE sHas) sRd (Ins.one (Sub.own hE sHas))) ?_)
  rw [hxd]
  rintro e H' ⟨rfl, rfl⟩
  refine ⟨_, rfl, _, sCat, ?_⟩
  repeat (first | refine wWl1 ?_ | (refine kWl1 ?_; (first | rintro _ _ ⟨rfl, rfl⟩ | rintro _ _ ⟨_, rfl, rfl⟩ | rintro _ _ ⟨_, _, ⟨_, _⟩, rfl, rfl⟩); try refine ⟨sConv, ?_⟩) | refine Dr.two ?_ ?_)
  exact ret1 rfl sRet sConv (⟨rfl, rfl⟩)
end
end Go.Proofs.Ytkhmplaocfjpjaa.Sep
