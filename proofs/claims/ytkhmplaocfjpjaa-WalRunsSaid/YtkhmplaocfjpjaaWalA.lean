/- the law WalSwaps, by parts of memory. -/
import Derived.Test.YtkhmplaocfjpjaaWal9
namespace Go.Proofs.Ytkhmplaocfjpjaa.Sep
open Go.RowKit Go.Proofs.Ytkhmplaocfjpjaa.Reg
open Go.Proofs.Ytkhmplaocfjpjaa.Mem hiding Rd Own
set_option maxRecDepth 100000
-- types: octT secT slT
-- recs: rec_Disk plate_rec log_rec
set_option maxRecDepth 100000
set_option maxHeartbeats 6000000
theorem turn_bit (x : UInt8) : (x ^^^ 1).toNat % 2 = 1 - x.toNat % 2 := by
  have h : ∀ y : Fin 256, (UInt8.ofNat y.1 ^^^ 1).toNat % 2 = 1 - y.1 % 2 := by decide +kernel
  have h2 := h ⟨x.toNat, x.toNat_lt⟩
  rw [UInt8.ofNat_toNat] at h2
  exact h2
theorem hb_turned {D : List UInt8} {x : UInt8} : hb (sp D 0 [x]) = x.toNat % 2 := by
  unfold hb sp
  rw [List.take_zero]
  rfl
/-- of a swap: what stands then is found again, or the one -/
theorem swap_found {s : LS} (h : Inv s) (hd : s.dead = false) (b : List UInt8) : (s.swap b).2.N = s.N ∧ (s.swap b).2.D.length = s.D.length ∧
    ((Frm.frames (hocts (s.swap b).2.D s.N (hb (s.swap b).2.D)) = s.recs.take s.dur ∧ (s.swap b).1 ≠ 0) ∨ (Frm.frames (hocts (s.swap b).2.D s.N (hb (s.swap b).2.D)) = [b] ∧ ((s.swap b).1 = 0 ∨ (s.swap b).1 = 19))) := by
  have hl := h.len
  have hold : ∀ D' : List UInt8, hb D' = hb s.D → hocts D' s.N (hb s.D) = hocts s.D s.N (hb s.D) → Frm.frames (hocts D' s.N (hb D')) = s.recs.take s.dur := by
    intro D' h1 h2
    rw [h1, h2, h.half]
    exact (frames_cat (fun x hx => h.oks x (List.mem_of_mem_take hx)) _).1
  have hsame : Frm.frames (hocts s.D s.N (hb s.D)) = s.recs.take s.dur := hold s.D rfl rfl
  unfold LS.swap
  by_cases c1 : b.length = 0
  · rw [if_pos c1]; exact ⟨rfl, rfl, .inl ⟨hsame, by dsimp only; omega⟩⟩
  rw [if_neg c1]
  by_cases c2 : 4096 < b.length
  · rw [if_pos c2]; exact ⟨rfl, rfl, .inl ⟨hsame, by dsimp only; omega⟩⟩
  rw [if_neg c2]
  by_cases c3 : 32 * s.N < b.length + 7
  · rw [if_pos c3]; exact ⟨rfl, rfl, .inl ⟨hsame, by dsimp only; omega⟩⟩
  rw [if_neg c3, if_neg (by rw [hd]; exact Bool.false_ne_true)]
  have hbl := hb_le s.D
  have hq1 : 1 - hb s.D ≤ 1 := by omega
  have hf := hfrom_le (N := s.N) hq1
  have hfh := hfrom_le (N := s.N) hbl
  have haway : hfrom s.N (1 - hb s.D) + 32 * s.N ≤ hfrom s.N (hb s.D) ∨ hfrom s.N (hb s.D) + 32 * s.N ≤ hfrom s.N (1 - hb s.D) := by
    have : hb s.D = 0 ∨ hb s.D = 1 := by omega
    rcases this with e | e <;> rw [e] <;> unfold hfrom <;> omega
  have z1 : ((List.replicate (32 * s.N) (0 : UInt8)).take (lq s.armed 0 (32 * s.N))).length ≤ 32 * s.N := by rw [List.length_take, List.length_replicate]; omega
  have in1 : hfrom s.N (1 - hb s.D) + 0 + ((List.replicate (32 * s.N) (0 : UInt8)).take (lq s.armed 0 (32 * s.N))).length ≤ s.D.length := by omega
  have len1 : (swD1 s).length = s.D.length := sp_length in1
  have hb1 : hb (swD1 s) = hb s.D := hb_sp (by omega) in1
  have half1 : hocts (swD1 s) s.N (hb s.D) = hocts s.D s.N (hb s.D) := hocts_away hl hbl in1 (by omega)
  by_cases k1 : lcut s.armed 0 (32 * s.N) = true
  · rw [if_pos k1]; exact ⟨rfl, len1, .inl ⟨hold _ hb1 half1, by dsimp only; omega⟩⟩
  rw [if_neg k1]
  have l2 : ((Frm.fr b).take (lq (swF1 s) 0 (b.length + 7))).length ≤ b.length + 7 := by rw [List.length_take, Frm.fr_length]; omega
  have in2 : hfrom s.N (1 - hb s.D) + 0 + ((Frm.fr b).take (lq (swF1 s) 0 (b.length + 7))).length ≤ (swD1 s).length := by omega
  have len2 : (swD2 s b).length = s.D.length := by rw [← len1]; exact sp_length in2
  have hb2 : hb (swD2 s b) = hb s.D := by rw [← hb1]; exact hb_sp (by omega) in2
  have half2 : hocts (swD2 s b) s.N (hb s.D) = hocts s.D s.N (hb s.D) := by rw [← half1]; exact hocts_away (by omega) hbl in2 (by omega)
  by_cases k2 : lcut (swF1 s) 0 (b.length + 7) = true
  · rw [if_pos k2]; exact ⟨rfl, len2, .inl ⟨hold _ hb2 half2, by dsimp only; omega⟩⟩
  rw [if_neg k2]
  by_cases kz : wk (swF2 s b) = 0
  · have hdd : wdead (swF2 s b) = true := by
      unfold wk at kz
      unfold wdead
      split at kz
      · rename_i hh; exact decide_eq_true hh
      · omega
    have hD3 : swD3 s b = swD2 s b := by unfold swD3; rw [if_pos kz, sp_nil]
    rw [if_pos hdd, hD3]
    exact ⟨rfl, len2, .inl ⟨hold _ hb2 half2, by dsimp only; omega⟩⟩
  · have hD3 : swD3 s b = sp (swD2 s b) 0 [tx s.D] := by unfold swD3; rw [if_neg kz]
    have in3 : 0 + [tx s.D].length ≤ (swD2 s b).length := by show 0 + 1 ≤ _; omega
    have hb3 : hb (swD3 s b) = 1 - hb s.D := by
      rw [hD3, hb_turned]
      exact turn_bit _
    have len3 : (swD3 s b).length = s.D.length := by rw [hD3, ← len2]; exact sp_length in3
    have half3 : hocts (swD3 s b) s.N (1 - hb s.D) = Frm.fr b ++ List.replicate (32 * s.N - (b.length + 7)) 0 := by
      rw [hD3, hocts_away (by omega) hq1 in3 (.inl (by show 0 + 1 ≤ _; omega))]
      have e2 : lq (swF1 s) 0 (b.length + 7) = b.length + 7 := lq_all (by cases hh : lcut (swF1 s) 0 (b.length + 7); rfl; exact absurd hh k2)
      have e1 : lq s.armed 0 (32 * s.N) = 32 * s.N := lq_all (by cases hh : lcut s.armed 0 (32 * s.N); rfl; exact absurd hh k1)
      have f2 : (Frm.fr b).take (lq (swF1 s) 0 (b.length + 7)) = Frm.fr b := by rw [e2]; exact List.take_of_length_le (by rw [Frm.fr_length]; exact Nat.le_refl _)
      have f1 : (List.replicate (32 * s.N) (0 : UInt8)).take (lq s.armed 0 (32 * s.N)) = List.replicate (32 * s.N) 0 := by rw [e1]; exact List.take_of_length_le (by rw [List.length_replicate]; exact Nat.le_refl _)
      have g2 : hocts (swD2 s b) s.N (1 - hb s.D) = sp (hocts (swD1 s) s.N (1 - hb s.D)) 0 (Frm.fr b) := by
        unfold swD2
        rw [f2]
        exact hocts_sp (by omega) hq1 (by rw [Frm.fr_length]; omega)
      have g1 : hocts (swD1 s) s.N (1 - hb s.D) = sp (hocts s.D s.N (1 - hb s.D)) 0 (List.replicate (32 * s.N) 0) := by
        unfold swD1
        rw [f1]
        exact hocts_sp hl hq1 (by rw [List.length_replicate]; omega)
      have g0 : sp (hocts s.D s.N (1 - hb s.D)) 0 (List.replicate (32 * s.N) 0) = List.replicate (32 * s.N) 0 := by
        unfold sp
        rw [List.take_zero, List.nil_append, List.drop_of_length_le (by rw [hocts_length hl hq1, List.length_replicate]; omega), List.append_nil]
      rw [g2, g1, g0]
      have g3 := sp_zeros (c := []) (x := Frm.fr b) (z := 32 * s.N) (by rw [Frm.fr_length]; omega)
      rw [List.nil_append, List.nil_append, List.length_nil, Frm.fr_length] at g3
      exact g3
    have hfound : Frm.frames (hocts (swD3 s b) s.N (hb (swD3 s b))) = [b] := by
      rw [hb3, half3]
      have g4 := (frames_cat (ls := [b]) (fun x hx => by rw [List.mem_singleton] at hx; subst hx; exact ⟨by omega, by omega⟩) (32 * s.N - (b.length + 7))).1
      rw [cat_one] at g4
      exact g4
    by_cases k3 : wdead (swF2 s b) = true
    · rw [if_pos k3]; exact ⟨rfl, len3, .inr ⟨hfound, .inr rfl⟩⟩
    · rw [if_neg k3]; exact ⟨rfl, len3, .inr ⟨hfound, .inl rfl⟩⟩
theorem swaps12 (E : Env) (n : Int) (A : Option Addr) (na ca : Nat) (la : List Oc) (hra : Rd E slT A na ca la) (hia : Ins E la) (B : Option Addr) (nb cb : Nat) (b : List UInt8) (hrb : Rd E octT B nb cb b) (arm : Int) :
    Tri Try.prog E 10 #[.int .i64 n, .slice A na ca, .slice B nb cb, .int .i64 arm] [] fun e _ => e = .returned (.bool true) := by
  have hmax : maxLen = 9223372036854775807 := rfl
  have hlna := hra.len
  have hca := hra.cap
  obtain ⟨k, hk, hk0, hk1⟩ := near_k n
  obtain ⟨c9, hc9⟩ := near_9k arm
  have hc1 : -1 ≤ (c9 : Int) := by omega
  have hc2 : (c9 : Int) ≤ 9223372036854775807 := by split at hc9 <;> (try split at hc9) <;> omega
  refine tri Try.func10 rfl Try.ntmps10 (by simp) ?_
  repeat (first | refine wWl1 ?_ | (refine kWl1 ?_; (first | rintro _ _ ⟨rfl, rfl⟩ | rintro _ _ ⟨_, rfl, rfl⟩ | rintro _ _ ⟨_, _, ⟨_, _⟩, rfl, rfl⟩); try refine ⟨sConv, ?_⟩) | refine Dr.two ?_ ?_)
  refine L.step (by decide) (S.call rfl rfl Try.func31 (by kernel_rfl) rfl sPicks (fun E' hE => alive12 E') ?_)
  rintro e H' ⟨rfl, rfl⟩
  refine ⟨_, rfl, _, sCat, ?_⟩
  repeat (first | refine wWl1 ?_ | (refine kWl1 ?_; (first | rintro _ _ ⟨rfl, rfl⟩ | rintro _ _ ⟨_, rfl, rfl⟩ | rintro _ _ ⟨_, _, ⟨_, _⟩, rfl, rfl⟩); try refine ⟨sConv, ?_⟩) | refine Dr.two ?_ ?_)
  refine L.step (by decide) (S.call rfl rfl Try.func32 (by kernel_rfl) rfl sPicks (fun E' hE => wnew E' n k hk) ?_)
  rintro e H' ⟨g, gd, w0, rfl, h0, hs0, hwr0, hr0, rfl⟩
  have hm0 : w0.m = 0 := by rw [h0.hm, hr0]; rfl
  have i0 : Inv w0.s := by rw [hs0]; exact Inv.new hk0 hk1
  refine ⟨_, rfl, _, sCat, ?_⟩
  repeat ((fail_if_success (refine C.seq (x := Code.region 4 _ _) ?_)); first | refine vWl1 ?_ | (refine kWl1 ?_; (first | rintro _ _ ⟨rfl, rfl⟩ | rintro _ _ ⟨_, rfl, rfl⟩ | rintro _ _ ⟨_, _, ⟨_, _⟩, rfl, rfl⟩); try refine ⟨sConv, ?_⟩) | refine Dr.two ?_ ?_)
  refine C.mid (X := WL) (fun _ => [(2, .slice B nb cb), (3, .int .i64 arm), (9, .pointer (some ⟨g, 0, none⟩))]) (fun x => wst g gd x) (fun x => x.ok ∧ Inv x.s ∧ Like w0.s x.s ∧ x.wr ≤ 0 ∧ x.m ≤ 20) ?_ ?_
  · repeat (first | refine wWl1 ?_ | (refine kWl1 ?_; (first | rintro _ _ ⟨rfl, rfl⟩ | rintro _ _ ⟨_, rfl, rfl⟩ | rintro _ _ ⟨_, _, ⟨_, _⟩, rfl, rfl⟩); try refine ⟨sConv, ?_⟩) | refine Dr.two ?_ ?_)
    refine C.loop (X := Nat × WL) (fun x => [(1, .slice A na ca), (2, .slice B nb cb), (3, .int .i64 arm), (9, .pointer (some ⟨g, 0, none⟩)), (10, .int .i64 x.1)])
      (fun x => wst g gd x.2) (fun x => x.1 ≤ 20 ∧ x.2.ok ∧ Inv x.2.s ∧ Like w0.s x.2.s ∧ x.2.wr ≤ 0 ∧ x.2.m ≤ x.1) (fun x => 20 - x.1) (0, w0) sHolds Conv.refl ⟨Nat.zero_le _, h0, i0, Like.refl _, by dsimp only; omega, by dsimp only; omega⟩ ?_
    rintro ⟨i, w⟩ F ⟨hi, hok, hin, hlk, hwr, hm⟩
    dsimp only at hi hok hin hlk hwr hm ⊢
    by_cases hlt : i < na
    · by_cases hl20 : i < 20
      · obtain ⟨x, hx⟩ : ∃ x, la[i]? = some x := ⟨_, List.getElem?_eq_getElem (by omega)⟩
        have hxr := hia.at_ hx
        have hrl : w.m + 1 ≤ 100000 := by omega
        repeat (first | refine wWl1 ?_ | (refine kWl1 ?_; (first | rintro _ _ ⟨rfl, rfl⟩ | rintro _ _ ⟨_, rfl, rfl⟩ | rintro _ _ ⟨_, _, ⟨_, _⟩, rfl, rfl⟩); try refine ⟨sConv, ?_⟩) | refine Dr.two ?_ ?_)
        refine L.step (by decide) (S.call rfl rfl Try.func33 (by kernel_rfl) rfl sPicks (fun E' hE => wappend E' g gd w hok hrl x.A x.n x.c x.b (hxr.sub hE)) ?_)
        unfold WPost
        rintro e H' ⟨w', rfl, hok', hs', hwr', hm', rfl⟩
        refine ⟨_, rfl, _, sCat, ?_⟩
        repeat (first | refine wWl1 ?_ | (refine kWl1 ?_; (first | rintro _ _ ⟨rfl, rfl⟩ | rintro _ _ ⟨_, rfl, rfl⟩ | rintro _ _ ⟨_, _, ⟨_, _⟩, rfl, rfl⟩); try refine ⟨sConv, ?_⟩) | refine Dr.two ?_ ?_)
        exact ⟨(i + 1, w'), sHolds, Conv.refl, ⟨by dsimp only; omega, hok', by rw [hs']; exact hin.append _, by rw [hs']; exact hlk.append hin _, by dsimp only; omega, by dsimp only; omega⟩, by dsimp only; omega⟩
      · repeat (first | refine wWl1 ?_ | (refine kWl1 ?_; (first | rintro _ _ ⟨rfl, rfl⟩ | rintro _ _ ⟨_, rfl, rfl⟩ | rintro _ _ ⟨_, _, ⟨_, _⟩, rfl, rfl⟩); try refine ⟨sConv, ?_⟩) | refine Dr.two ?_ ?_)
        exact ⟨w, sHolds, Conv.refl, ⟨hok, hin, hlk, hwr, by omega⟩⟩
    · repeat (first | refine wWl1 ?_ | (refine kWl1 ?_; (first | rintro _ _ ⟨rfl, rfl⟩ | rintro _ _ ⟨_, rfl, rfl⟩ | rintro _ _ ⟨_, _, ⟨_, _⟩, rfl, rfl⟩); try refine ⟨sConv, ?_⟩) | refine Dr.two ?_ ?_)
      exact ⟨w, sHolds, Conv.refl, ⟨hok, hin, hlk, hwr, by omega⟩⟩
  rintro w1 F1 ⟨h1, i1, k1, v1, m1⟩
  have a0 : w0.s.armed = -1 := by rw [hs0]; rfl
  have d0 : w0.s.dead = false := by rw [hs0]; rfl
  have v1' : w1.wr ≤ 900000 := by omega
  have e2 := sync_ok (s := w1.s) (by rw [k1.dead]; exact d0) (by rw [k1.armed, a0]; exact lcut_free _ _)
  have i2 := i1.synced (larm w1.s.armed w1.s.pos w1.s.pend.length)
  have r2a : larm w1.s.armed w1.s.pos w1.s.pend.length = -1 := by rw [k1.armed, a0]; exact larm_free _ _
  rw [r2a] at e2 i2
  repeat (first | refine wWl1 ?_ | (refine kWl1 ?_; (first | rintro _ _ ⟨rfl, rfl⟩ | rintro _ _ ⟨_, rfl, rfl⟩ | rintro _ _ ⟨_, _, ⟨_, _⟩, rfl, rfl⟩); try refine ⟨sConv, ?_⟩) | refine Dr.two ?_ ?_)
  refine L.step (by decide) (S.call rfl rfl Try.func34 (by kernel_rfl) rfl sPicks (fun E' hE => wsync E' g gd w1 h1 v1') ?_)
  unfold WPost
  rw [e2]
  rintro e H' ⟨w2, rfl, h2, hs2, hwr2, hm2, rfl⟩
  dsimp only at hs2 ⊢
  have i2' : Inv w2.s := by rw [hs2]; exact i2
  have d2 : w2.dead = false := by have : w2.s.dead = false := by rw [hs2]
                                  exact this
  have a2 : w2.armed = -1 := by have : w2.s.armed = -1 := by rw [hs2]
                                exact this
  have u2 : w2.s.recs.take w2.s.dur = w2.s.recs := by rw [hs2]; exact List.take_length
  refine ⟨_, rfl, _, sCat, ?_⟩
  repeat (first | refine wWl1 ?_ | (refine kWl1 ?_; (first | rintro _ _ ⟨rfl, rfl⟩ | rintro _ _ ⟨_, rfl, rfl⟩ | rintro _ _ ⟨_, _, ⟨_, _⟩, rfl, rfl⟩); try refine ⟨sConv, ?_⟩) | refine Dr.two ?_ ?_)
  refine L.step (by decide) (S.call rfl rfl Try.func35 (by kernel_rfl) rfl sPicks (fun E' hE => wrecords E' g gd w2 h2) ?_)
  rintro e H' ⟨O, oc, xs, rfl, hxs1, hxs2, hoc, hxw, rfl⟩
  refine ⟨_, rfl, _, sCat, ?_⟩
  repeat (first | refine wWl1 ?_ | (refine kWl1 ?_; (first | rintro _ _ ⟨rfl, rfl⟩ | rintro _ _ ⟨_, rfl, rfl⟩ | rintro _ _ ⟨_, _, ⟨_, _⟩, rfl, rfl⟩); try refine ⟨sConv, ?_⟩) | refine Dr.two ?_ ?_)
  refine L.step (by decide) (S.call rfl rfl Try.func37 (by kernel_rfl) rfl sPicks (fun E' hE => wdisk E' g gd w2 h2) ?_)
  rintro e H' ⟨g', A', c', rfl, rfl⟩
  rw [d2, a2]
  refine ⟨_, rfl, _, sCat, ?_⟩
  have oc2 := open_clean i2' (-1)
  have hlen2 := h2.len
  have v2' : w2.wr ≤ 900000 := by omega
  repeat (first | refine wWl1 ?_ | (refine kWl1 ?_; (first | rintro _ _ ⟨rfl, rfl⟩ | rintro _ _ ⟨_, rfl, rfl⟩ | rintro _ _ ⟨_, _, ⟨_, _⟩, rfl, rfl⟩); try refine ⟨sConv, ?_⟩) | refine Dr.two ?_ ?_)
  refine L.step (by decide) (S.call rfl rfl Try.func40 (by kernel_rfl) rfl sPicks (fun E' hE => wopen E' g' w2.N (-1) w2.wr A' w2.k c' w2.secs h2.hk hlen2 h2.n0 h2.n1 (by omega) (by omega) h2.w0 v2' (lcut_free _ _)) ?_)
  rintro e H' ⟨gx, wx, rfl, hx, hsx, hwrx, hmx, rfl⟩
  have hsx2 := hsx.trans oc2.2.2.2
  rw [larm_free, u2] at hsx2
  have dx : wx.dead = false := by have : wx.s.dead = false := by rw [hsx2]
                                  exact this
  refine ⟨_, rfl, _, sCat, ?_⟩
  repeat (first | refine wWl1 ?_ | (refine kWl1 ?_; (first | rintro _ _ ⟨rfl, rfl⟩ | rintro _ _ ⟨_, rfl, rfl⟩ | rintro _ _ ⟨_, _, ⟨_, _⟩, rfl, rfl⟩); try refine ⟨sConv, ?_⟩) | refine Dr.two ?_ ?_)
  refine L.step (by decide) (S.call rfl rfl Try.func39 (by kernel_rfl) rfl sPicks (fun E' hE => near12 E' arm 0 9000) ?_)
  rw [← hc9]
  rintro e H' ⟨rfl, rfl⟩
  refine ⟨_, rfl, _, sCat, ?_⟩
  repeat (first | refine wWl1 ?_ | (refine kWl1 ?_; (first | rintro _ _ ⟨rfl, rfl⟩ | rintro _ _ ⟨_, rfl, rfl⟩ | rintro _ _ ⟨_, _, ⟨_, _⟩, rfl, rfl⟩); try refine ⟨sConv, ?_⟩) | refine Dr.two ?_ ?_)
  refine L.step (by decide) (S.call rfl rfl Try.func38 (by kernel_rfl) rfl sPicks (fun E' hE => arm_any E' g' wx.dead wx.armed wx.wr wx.A wx.k wx.c (c9 : Int)) ?_)
  rw [dx, if_neg Bool.false_ne_true, show max (c9 : Int) (-1) = (c9 : Int) by omega]
  rintro e H' ⟨rfl, rfl⟩
  refine ⟨_, rfl, _, sCat, ?_⟩
  obtain ⟨w6, hw6⟩ : ∃ w6 : WL, w6 = ⟨wx.N, wx.R, wx.m, wx.rc, wx.recs, wx.dur, wx.pos, wx.P, wx.p, wx.pc, wx.pend, false, (c9 : Int), wx.wr, wx.A, wx.k, wx.c, wx.secs⟩ := ⟨_, rfl⟩
  have hs6 : w6.s = ⟨w2.s.N, w2.s.D, w2.s.recs, w2.s.dur, w2.s.pos, [], false, (c9 : Int)⟩ := by
    rw [hw6]
    have e1 : wx.N = w2.s.N := congrArg LS.N hsx2
    have e2' : flat wx.secs = w2.s.D := congrArg LS.D hsx2
    have e3 : wx.recs.map (·.b) = w2.s.recs := congrArg LS.recs hsx2
    have e4 : wx.dur = w2.s.dur := congrArg LS.dur hsx2
    have e5 : wx.pos = w2.s.pos := congrArg LS.pos hsx2
    have e6 : wx.pend = [] := congrArg LS.pend hsx2
    unfold WL.s at *
    dsimp only at *
    rw [e1, e2', e3, e4, e5, e6]
  have h6 : w6.ok := by
    rw [hw6]
    exact ⟨hx.hm, hx.hp, hx.hk, hx.n0, hx.n1, hx.len, hc1, hc2, hx.w0, hx.fit, hx.recs, hx.dur, hx.wide⟩
  have i6 : Inv w6.s := by
    rw [hs6]
    have q2 : w2.s.pend = [] := by rw [hs2]
    exact ⟨i2'.len, i2'.n0, i2'.n1, i2'.oks, i2'.dur, i2'.pos, by rw [← i2'.pend, q2], i2'.half, by have := i2'.fit; rw [q2] at this; exact this⟩
  have v6 : w6.wr ≤ 890000 := by rw [hw6]; dsimp only; omega
  have hcv : wst gx g' w6 = [wlg gx g' wx, own slT wx.R wx.m wx.rc wx.recs, each oOc wx.recs, own octT wx.P wx.p wx.pc wx.pend, dsk g' true false (c9 : Int) wx.wr wx.A wx.k wx.c, own secT wx.A wx.k wx.c wx.secs] := by rw [hw6]
  refine L.conv (H' := own slT O w2.m oc xs :: each oOc xs :: wst gx g' w6) (by rw [hcv]; exact sConv) ?_
  obtain ⟨f1, f2, f3⟩ := swap_found i6 (by rw [hs6]) b
  have f0 : w6.s.recs.take w6.s.dur = w2.s.recs := by rw [hs6]; exact u2
  rw [f0] at f3
  repeat (first | refine wWl1 ?_ | (refine kWl1 ?_; (first | rintro _ _ ⟨rfl, rfl⟩ | rintro _ _ ⟨_, rfl, rfl⟩ | rintro _ _ ⟨_, _, ⟨_, _⟩, rfl, rfl⟩); try refine ⟨sConv, ?_⟩) | refine Dr.two ?_ ?_)
  refine L.step (by decide) (S.call rfl rfl Try.func54 (by kernel_rfl) rfl sPicks (fun E' hE => wswap E' gx g' w6 h6 v6 B nb cb b (hrb.sub hE)) ?_)
  unfold WPost
  revert f1 f2 f3
  generalize w6.s.swap b = zz
  obtain ⟨z, s7⟩ := zz
  intro f1 f2 f3
  dsimp only at f1 f2 f3
  rintro e H' ⟨w7, rfl, h7, hs7, hwr7, hm7, rfl⟩
  dsimp only at hs7 ⊢
  refine ⟨_, rfl, _, sCat, ?_⟩
  repeat (first | refine wWl1 ?_ | (refine kWl1 ?_; (first | rintro _ _ ⟨rfl, rfl⟩ | rintro _ _ ⟨_, rfl, rfl⟩ | rintro _ _ ⟨_, _, ⟨_, _⟩, rfl, rfl⟩); try refine ⟨sConv, ?_⟩) | refine Dr.two ?_ ?_)
  refine L.step (by decide) (S.call rfl rfl Try.func41 (by kernel_rfl) rfl sPicks (fun E' hE => revive_any E' g' w7.dead w7.armed w7.wr w7.A w7.k w7.c) ?_)
  rintro e H' ⟨rfl, rfl⟩
  refine ⟨_, rfl, _, sCat, ?_⟩
  have v7' : w7.wr ≤ 900000 := by omega
  have hlen7 := h7.len
  repeat (first | refine wWl1 ?_ | (refine kWl1 ?_; (first | rintro _ _ ⟨rfl, rfl⟩ | rintro _ _ ⟨_, rfl, rfl⟩ | rintro _ _ ⟨_, _, ⟨_, _⟩, rfl, rfl⟩); try refine ⟨sConv, ?_⟩) | refine Dr.two ?_ ?_)
  refine L.step (by decide) (S.call rfl rfl Try.func40 (by kernel_rfl) rfl sPicks (fun E' hE => wopen E' g' w7.N (-1) w7.wr w7.A w7.k w7.c w7.secs h7.hk hlen7 h7.n0 h7.n1 (by omega) (by omega) h7.w0 v7' (lcut_free _ _)) ?_)
  rintro e H' ⟨gy, wy, rfl, hy, hsy2, hwry, hmy, rfl⟩
  refine ⟨_, rfl, _, sCat, ?_⟩
  have hyR : wy.recs.map Oc.b = Frm.frames (hocts s7.D w6.s.N (hb s7.D)) := by
    show wy.s.recs = _
    rw [hsy2]
    show Frm.frames (hocts (flat w7.secs) w7.N (hb (flat w7.secs))) = _
    have e1 : flat w7.secs = s7.D := congrArg LS.D hs7
    have e2' : w7.N = w6.s.N := (congrArg LS.N hs7).trans f1
    rw [e1, e2']
  repeat (first | refine wWl1 ?_ | (refine kWl1 ?_; (first | rintro _ _ ⟨rfl, rfl⟩ | rintro _ _ ⟨_, rfl, rfl⟩ | rintro _ _ ⟨_, _, ⟨_, _⟩, rfl, rfl⟩); try refine ⟨sConv, ?_⟩) | refine Dr.two ?_ ?_)
  refine L.step (by decide) (S.call rfl rfl Try.func35 (by kernel_rfl) rfl sPicks (fun E' hE => wrecords E' gy g' wy hy) ?_)
  rintro e H' ⟨O2, oc3, ys, rfl, hys1, hys2, hoc3, hyw, rfl⟩
  refine ⟨_, rfl, _, sCat, ?_⟩
  repeat (first | refine wWl1 ?_ | (refine kWl1 ?_; (first | rintro _ _ ⟨rfl, rfl⟩ | rintro _ _ ⟨_, rfl, rfl⟩ | rintro _ _ ⟨_, _, ⟨_, _⟩, rfl, rfl⟩); try refine ⟨sConv, ?_⟩) | refine Dr.two ?_ ?_)
  refine L.step (by decide) (S.call rfl rfl Try.func51 (by kernel_rfl) rfl sPicks (fun E' hE => octets_any E' O2 wy.m oc3 ys O w2.m oc xs sRd (Ins.each (l := ys) hE sHas) sRd (Ins.each (l := xs) hE sHas)) ?_)
  rintro e H' ⟨rfl, rfl⟩
  refine ⟨_, rfl, _, sCat, ?_⟩
  repeat (first | refine wWl1 ?_ | (refine kWl1 ?_; (first | rintro _ _ ⟨rfl, rfl⟩ | rintro _ _ ⟨_, rfl, rfl⟩ | rintro _ _ ⟨_, _, ⟨_, _⟩, rfl, rfl⟩); try refine ⟨sConv, ?_⟩) | refine Dr.two ?_ ?_)
  refine L.step (by decide) (S.call rfl rfl Try.func35 (by kernel_rfl) rfl sPicks (fun E' hE => wrecords E' gy g' wy hy) ?_)
  rintro e H' ⟨O4, oc4, zs, rfl, hzs1, hzs2, hoc4, hzw, rfl⟩
  refine ⟨_, rfl, _, sCat, ?_⟩
  repeat (first | refine wWl1 ?_ | (refine kWl1 ?_; (first | rintro _ _ ⟨rfl, rfl⟩ | rintro _ _ ⟨_, rfl, rfl⟩ | rintro _ _ ⟨_, _, ⟨_, _⟩, rfl, rfl⟩); try refine ⟨sConv, ?_⟩) | refine Dr.two ?_ ?_)
  refine L.stepK (by decide) (S.buildSlice1K (T := slT) (e := (⟨B, nb, cb, b⟩ : Oc)) rfl rfl rfl rfl (by decide)) ?_; rintro _ _ ⟨_, rfl, rfl⟩
  rename_i gD
  repeat (first | refine wWl1 ?_ | (refine kWl1 ?_; (first | rintro _ _ ⟨rfl, rfl⟩ | rintro _ _ ⟨_, rfl, rfl⟩ | rintro _ _ ⟨_, _, ⟨_, _⟩, rfl, rfl⟩); try refine ⟨sConv, ?_⟩) | refine Dr.two ?_ ?_)
  refine L.step (by decide) (S.call rfl rfl Try.func51 (by kernel_rfl) rfl sPicks (fun E' hE => octets_any E' O4 wy.m oc4 zs (some ⟨gD, 0, none⟩) 1 1 [(⟨B, nb, cb, b⟩ : Oc)] sRd (Ins.each (l := zs) hE sHas) sRd (Ins.one (hrb.sub hE))) ?_)
  obtain ⟨ob, hob⟩ : ∃ v, decide (ys.map (·.b) = xs.map (·.b)) = v := ⟨_, rfl⟩
  obtain ⟨on, hon⟩ : ∃ v, decide (zs.map (·.b) = [(⟨B, nb, cb, b⟩ : Oc)].map (·.b)) = v := ⟨_, rfl⟩
  rw [hob, hon]
  rintro e H' ⟨rfl, rfl⟩
  refine ⟨_, rfl, _, sCat, ?_⟩
  rcases f3 with ⟨f3, fz⟩ | ⟨f3, fz⟩
  · have hob2 : ob = true := by
      rw [← hob]
      exact decide_eq_true (by show ys.map Oc.b = xs.map Oc.b; rw [hys2, hyR, f3, hxs2]; rfl)
    subst hob2
    have hz0 : decide (z = 0) = false := decide_eq_false fz
    repeat (first | refine wWl1 ?_ | (refine kWl1 ?_; (first | rintro _ _ ⟨rfl, rfl⟩ | rintro _ _ ⟨_, rfl, rfl⟩ | rintro _ _ ⟨_, _, ⟨_, _⟩, rfl, rfl⟩); try refine ⟨sConv, ?_⟩) | refine Dr.two ?_ ?_)
    exact ret1 rfl sRet sConv (rfl)
  · have hon2 : on = true := by
      rw [← hon]
      exact decide_eq_true (by show zs.map Oc.b = [b]; rw [hzs2, hyR, f3])
    subst hon2
    rcases fz with rfl | rfl
    · repeat (first | refine wWl1 ?_ | (refine kWl1 ?_; (first | rintro _ _ ⟨rfl, rfl⟩ | rintro _ _ ⟨_, rfl, rfl⟩ | rintro _ _ ⟨_, _, ⟨_, _⟩, rfl, rfl⟩); try refine ⟨sConv, ?_⟩) | refine Dr.two ?_ ?_)
      exact ret1 rfl sRet sConv (rfl)
    · cases ob
      · repeat (first | refine wWl1 ?_ | (refine kWl1 ?_; (first | rintro _ _ ⟨rfl, rfl⟩ | rintro _ _ ⟨_, rfl, rfl⟩ | rintro _ _ ⟨_, _, ⟨_, _⟩, rfl, rfl⟩); try refine ⟨sConv, ?_⟩) | refine Dr.two ?_ ?_)
        exact ret1 rfl sRet sConv (rfl)
      · repeat (first | refine wWl1 ?_ | (refine kWl1 ?_; (first | rintro _ _ ⟨rfl, rfl⟩ | rintro _ _ ⟨_, rfl, rfl⟩ | rintro _ _ ⟨_, _, ⟨_, _⟩, rfl, rfl⟩); try refine ⟨sConv, ?_⟩) | refine Dr.two ?_ ?_)
        exact ret1 rfl sRet sConv (rfl)
end Go.Proofs.Ytkhmplaocfjpjaa.Sep
