/- the document's log: one record alone; by parts of memory. -/
import Derived.Test.YtkhmplaocfjpjaaRef12c
namespace Go.Proofs.Ytkhmplaocfjpjaa.Sep
open Go.RowKit Go.Proofs.Ytkhmplaocfjpjaa.Reg
open Go.Proofs.Ytkhmplaocfjpjaa.Mem hiding Rd Own
set_option maxRecDepth 100000
-- types: octT slT op12T
-- recs: rec_Disk plate_rec log_rec rdisk_rec rlog_rec op12_rec
set_option maxRecDepth 100000
set_option maxHeartbeats 6000000
theorem xor1 (x : UInt8) : Go.bits .xor .u8 (x.toNat : Int) 1 = ((x ^^^ 1).toNat : Int) := by
  have h : ∀ y : Fin 256, Go.bits .xor .u8 (y.1 : Int) 1 = ((UInt8.ofNat y.1 ^^^ 1).toNat : Int) := by decide +kernel
  have h2 := h ⟨x.toNat, x.toNat_lt⟩
  rw [UInt8.ofNat_toNat] at h2
  exact h2
/-- sector 0, its first octet turned, or its front -/
theorem sp_first {D : List UInt8} {x : UInt8} {j : Nat} (hD : 32 ≤ D.length) (hj : j ≤ 32) (hx : D[0]? = some x) : sp D 0 (((D.take 32).set 0 (x ^^^ 1)).take j) = sp D 0 (if j = 0 then [] else [tx D]) := by
  have htx : tx D = x ^^^ 1 := by
    unfold tx
    cases hf : D with
    | nil => rw [hf] at hx; cases hx
    | cons y t => rw [hf] at hx; injection hx with hx; rw [hx]; rfl
  have hsl : ((D.take 32).set 0 (x ^^^ 1)).length = 32 := by rw [List.length_set, List.length_take]; omega
  rw [htx]
  by_cases hz : j = 0
  · rw [hz, List.take_zero, if_pos rfl]
  · rw [if_neg hz]
    have l1 : (((D.take 32).set 0 (x ^^^ 1)).take j).length = j := by rw [List.length_take, hsl]; omega
    apply List.ext_getElem?
    intro p
    rw [sp_get (by rw [l1]; omega), sp_get (by show 0 + 1 ≤ _; omega), l1]
    rw [if_neg (Nat.not_lt_zero p), List.length_singleton]
    try rw [if_neg (Nat.not_lt_zero p)]
    by_cases hp : p = 0
    · subst hp
      rw [if_pos (by omega), if_pos (by omega), take_get, if_pos (by omega), List.getElem?_set_self (by rw [List.length_take]; omega)]
      rfl
    · by_cases hp2 : p < j
      · rw [if_pos (by omega), if_neg (by omega), take_get, if_pos (by omega), Nat.sub_zero, List.getElem?_set_ne (by omega), take_get, if_pos (by omega)]
      · rw [if_neg (by omega), if_neg (by omega)]
theorem take_sp {D x : List UInt8} {o : Nat} (ho : 32 ≤ o) (hD : o ≤ D.length) : (sp D o x).take 32 = D.take 32 := by
  unfold sp
  rw [List.append_assoc, List.take_append_of_le_length (by rw [List.length_take]; omega), List.take_take, Nat.min_eq_left ho]
section
variable (E : Env) (g e : Nat) (w : RL)
theorem rswap (h : w.ok) (hwr : w.wr ≤ 890000) (X : Option Addr) (nx cx : Nat) (b : List UInt8) (hr : Rd E octT X nx cx b) :
    Tri Try.prog E 99 #[.pointer (some ⟨g, 0, none⟩), .slice X nx cx] (rst g e w) (RPost g e w (w.s.swap b) 4128) := by
  have hmax : maxLen = 9223372036854775807 := rfl
  have hnx := hr.len
  have hcx := hr.cap
  have hn0 := h.n0
  have hn1 := h.n1
  have hlen := h.len
  have hfit := h.fit
  have hdur := h.dur
  have hrecs := h.recs
  have hwm := h.hm
  have hwp := h.hp
  have hwk := h.hk
  have hk1 : 32 ≤ w.k := by omega
  have hk2 : w.k ≤ 10000 := by omega
  have hsame : ∀ z : Int, RPost g e w (z, w.s) 4128 (.returned (.int .i64 z)) (rst g e w) := fun z => ⟨w, rfl, h, rfl, by omega, by omega, rfl⟩
  unfold LS.swap
  have esN : w.s.N = w.N := rfl
  have esd : w.s.dead = w.dead := rfl
  rw [esN, esd]
  have eN : IntKind.i64.wrap (32 * (w.N : Int)) = ((32 * w.N : Nat) : Int) := by rw [IntWalk.i64_in _ (by omega)]; omega
  refine tri Try.func99 rfl Try.ntmps99 (by simp) ?_
  by_cases h0 : b.length = 0
  · rw [if_pos h0]
    repeat (first | refine wRf12 ?_ | (refine kRf12 ?_; (first | rintro _ _ ⟨rfl, rfl⟩ | rintro _ _ ⟨_, rfl, rfl⟩ | rintro _ _ ⟨_, _, ⟨_, _⟩, rfl, rfl⟩); try refine ⟨sConv, ?_⟩) | refine Dr.two ?_ ?_)
    exact ret1 rfl sRet sConv (hsame 4)
  rw [if_neg h0]
  by_cases h5 : 4096 < b.length
  · rw [if_pos h5]
    repeat (first | refine wRf12 ?_ | (refine kRf12 ?_; (first | rintro _ _ ⟨rfl, rfl⟩ | rintro _ _ ⟨_, rfl, rfl⟩ | rintro _ _ ⟨_, _, ⟨_, _⟩, rfl, rfl⟩); try refine ⟨sConv, ?_⟩) | refine Dr.two ?_ ?_)
    exact ret1 rfl sRet sConv (hsame 5)
  rw [if_neg h5]
  repeat (first | refine wRf12 ?_ | (refine kRf12 ?_; (first | rintro _ _ ⟨rfl, rfl⟩ | rintro _ _ ⟨_, rfl, rfl⟩ | rintro _ _ ⟨_, _, ⟨_, _⟩, rfl, rfl⟩); try refine ⟨sConv, ?_⟩) | refine Dr.two ?_ ?_)
  refine L.step (by decide) (S.call rfl rfl Try.func124 (by kernel_rfl) rfl sPicks (fun E' hE => rputf E' X nx cx b sRd (by omega)) ?_)
  rintro r H' ⟨A1, c1, rfl, rfl⟩
  refine ⟨_, rfl, _, sCat, ?_⟩
  have hn7 : nx + 7 ≤ maxLen := by omega
  by_cases hrm : 32 * w.N < b.length + 7
  · rw [if_pos hrm]
    have ht : decide (((32 * w.N : Nat) : Int) < ((nx + 7 : Nat) : Int)) = true := decide_eq_true (by omega)
    repeat (first | refine wRf12 ?_ | (refine kRf12 ?_; (first | rintro _ _ ⟨rfl, rfl⟩ | rintro _ _ ⟨_, rfl, rfl⟩ | rintro _ _ ⟨_, _, ⟨_, _⟩, rfl, rfl⟩); try refine ⟨sConv, ?_⟩) | refine Dr.two ?_ ?_)
    exact ret1 rfl sRet sConv (hsame 10)
  rw [if_neg hrm]
  have ht : decide (((32 * w.N : Nat) : Int) < ((nx + 7 : Nat) : Int)) = false := decide_eq_false (by omega)
  rcases Bool.eq_false_or_eq_true w.dead with hd | hd
  · rw [if_pos hd]
    repeat (first | refine wRf12 ?_ | (refine kRf12 ?_; (first | rintro _ _ ⟨rfl, rfl⟩ | rintro _ _ ⟨_, rfl, rfl⟩ | rintro _ _ ⟨_, _, ⟨_, _⟩, rfl, rfl⟩); try refine ⟨sConv, ?_⟩) | refine Dr.two ?_ ?_)
    exact ret1 rfl sRet sConv (hsame 19)
  rw [if_neg (by rw [hd]; exact Bool.false_ne_true)]
  have hst : ∀ H, own octT A1 (nx + 7) c1 (Frm.fr b) :: rst g e w = H → H = [own octT A1 (nx + 7) c1 (Frm.fr b), rlg g e w, own slT w.R w.m w.rc w.recs, each oOc w.recs, own octT w.P w.p w.pc w.pend, rdk e w.B w.k w.bc w.F false w.wr, own octT w.B w.k w.bc w.D] := by
    intro H hH
    rw [← hH]
    show [_, _, _, _, _, rdk e w.B w.k w.bc w.F w.dead w.wr, _] = _
    rw [hd]
  refine L.conv (H' := [own octT A1 (nx + 7) c1 (Frm.fr b), rlg g e w, own slT w.R w.m w.rc w.recs, each oOc w.recs, own octT w.P w.p w.pc w.pend, rdk e w.B w.k w.bc w.F false w.wr, own octT w.B w.k w.bc w.D]) (by rw [← hst _ rfl]; exact sConv) ?_
  obtain ⟨x, hx⟩ : ∃ x, w.D[0]? = some x := ⟨_, List.getElem?_eq_getElem (i := 0) (by omega)⟩
  have hx32 : (w.D.take 32)[0]? = some x := by rw [take_get, if_pos (by omega)]; exact hx
  have hxor := xor1 x
  have hbl := hb_le w.D
  obtain ⟨q, hq⟩ : ∃ q, 1 - hb w.D = q := ⟨_, rfl⟩
  have hq1 : q ≤ 1 := by omega
  have hfo := hfrom_le (N := w.N) hq1
  have hDl : w.D.length = 32 * (2 * w.N + 1) := by omega
  repeat (first | refine wRf12 ?_ | (refine kRf12 ?_; (first | rintro _ _ ⟨rfl, rfl⟩ | rintro _ _ ⟨_, rfl, rfl⟩ | rintro _ _ ⟨_, _, ⟨_, _⟩, rfl, rfl⟩); try refine ⟨sConv, ?_⟩) | refine Dr.two ?_ ?_)
  refine L.step (by decide) (S.call rfl rfl Try.func126 (by kernel_rfl) rfl sPicks (fun E' hE => rhalf E' g e w true hwk.symm hk1 hk2 hn1 false w.F w.wr) ?_)
  rw [if_pos rfl, hq]
  rintro r H' ⟨rfl, rfl⟩
  refine ⟨_, rfl, _, sCat, ?_⟩
  repeat (first | refine wRf12 ?_ | (refine kRf12 ?_; (first | rintro _ _ ⟨rfl, rfl⟩ | rintro _ _ ⟨_, rfl, rfl⟩ | rintro _ _ ⟨_, _, ⟨_, _⟩, rfl, rfl⟩); try refine ⟨sConv, ?_⟩) | refine Dr.two ?_ ?_)
  rename_i A7 c7 k71 k72 gz
  have hoz : List.replicate (32 * w.N) octT_z = List.replicate (32 * w.N) (0 : UInt8) := rfl
  have hzl : (List.replicate (32 * w.N) (0 : UInt8)).length = 32 * w.N := List.length_replicate
  have hz : 0 + (List.replicate (32 * w.N) octT_z).length ≤ 32 * w.N := by rw [List.length_replicate]; omega
  have hwr1 : w.wr ≤ 900000 := by omega
  refine L.step (by decide) (S.call rfl rfl Try.func125 (by kernel_rfl) rfl sPicks (fun E' hE => rlay E' g e w w.F w.wr w.D q 0 (some ⟨gz, 0, none⟩) (32 * w.N) (32 * w.N) (List.replicate (32 * w.N) octT_z) (Sub.own hE sHas) hwk.symm hlen hq1 hn1 h.a0 h.a1 h.w0 hwr1 hz) ?_)
  unfold RLayPost
  rw [hoz, hzl]
  have eD1 : swD1 w.s = sp w.D (hfrom w.N q + 0) ((List.replicate (32 * w.N) 0).take (lq w.F 0 (32 * w.N))) := by rw [← hq]; rfl
  have eF1 : swF1 w.s = larm w.F 0 (32 * w.N) := rfl
  have eA : w.s.armed = w.F := rfl
  have hF1a := larm_ge h.a0 0 (32 * w.N)
  have hF1b := larm_le h.a1 0 (32 * w.N)
  have z1 : ((List.replicate (32 * w.N) (0 : UInt8)).take (lq w.F 0 (32 * w.N))).length ≤ 32 * w.N := by rw [List.length_take, List.length_replicate]; omega
  have in1 : hfrom w.N q + 0 + ((List.replicate (32 * w.N) (0 : UInt8)).take (lq w.F 0 (32 * w.N))).length ≤ w.D.length := by omega
  rw [← eD1]
  have len1 : (swD1 w.s).length = w.k := by rw [eD1, sp_length in1]; omega
  have tk1 : (swD1 w.s).take 32 = w.D.take 32 := by rw [eD1]; exact take_sp (by omega) (by omega)
  have tx1 : tx (swD1 w.s) = tx w.D := by rw [eD1]; exact tx_sp (by omega) in1
  rintro r H' ⟨wr1, rfl, hv1, hv2, rfl⟩
  refine ⟨_, rfl, _, sCat, ?_⟩
  rw [eA]
  rcases Bool.eq_false_or_eq_true (lcut w.F 0 (32 * w.N)) with hc | hc
  · rw [if_pos hc, hc]
    repeat (first | refine wRf12 ?_ | (refine kRf12 ?_; (first | rintro _ _ ⟨rfl, rfl⟩ | rintro _ _ ⟨_, rfl, rfl⟩ | rintro _ _ ⟨_, _, ⟨_, _⟩, rfl, rfl⟩); try refine ⟨sConv, ?_⟩) | refine Dr.two ?_ ?_)
    exact ret1 rfl sRet sConv (⟨⟨w.N, w.pos, w.R, w.m, w.rc, w.recs, w.dur, w.P, w.p, w.pc, w.pend, w.B, w.k, w.bc, swD1 w.s, larm w.F 0 (32 * w.N), true, wr1⟩, rfl, ⟨hwm, hwp, len1.symm, hn0, hn1, hlen, hF1a, hF1b, by have := h.w0; dsimp only; omega, hfit, hrecs, hdur, h.wide⟩, rfl, by dsimp only; omega, by dsimp only; omega, rfl⟩)
  rw [if_neg (by rw [hc]; exact Bool.false_ne_true), hc]
  rw [eF1]
  have eF2 : swF2 w.s b = larm (larm w.F 0 (32 * w.N)) 0 (b.length + 7) := rfl
  have eD2 : swD2 w.s b = sp (swD1 w.s) (hfrom w.N q + 0) ((Frm.fr b).take (lq (larm w.F 0 (32 * w.N)) 0 (b.length + 7))) := by rw [← hq]; rfl
  have hv0 : 0 ≤ wr1 := by have := h.w0; omega
  generalize larm w.F 0 (32 * w.N) = F1 at *
  rw [eF2]
  have hz2 : 0 + (Frm.fr b).length ≤ 32 * w.N := by rw [Frm.fr_length]; omega
  have hwr2 : wr1 ≤ 900000 := by omega
  have l2 : ((Frm.fr b).take (lq F1 0 (b.length + 7))).length ≤ b.length + 7 := by rw [List.length_take, Frm.fr_length]; omega
  have in2 : hfrom w.N q + 0 + ((Frm.fr b).take (lq F1 0 (b.length + 7))).length ≤ (swD1 w.s).length := by omega
  have len2 : (swD2 w.s b).length = w.k := by rw [eD2, sp_length in2]; exact len1
  have tk2 : (swD2 w.s b).take 32 = w.D.take 32 := by rw [eD2, take_sp (by omega) (by omega)]; exact tk1
  have tx2 : tx (swD2 w.s b) = tx w.D := by rw [eD2, tx_sp (by omega) in2]; exact tx1
  repeat (first | refine wRf12 ?_ | (refine kRf12 ?_; (first | rintro _ _ ⟨rfl, rfl⟩ | rintro _ _ ⟨_, rfl, rfl⟩ | rintro _ _ ⟨_, _, ⟨_, _⟩, rfl, rfl⟩); try refine ⟨sConv, ?_⟩) | refine Dr.two ?_ ?_)
  refine L.step (by decide) (S.call rfl rfl Try.func125 (by kernel_rfl) rfl sPicks (fun E' hE => rlay E' g e w F1 wr1 (swD1 w.s) q 0 A1 (nx + 7) c1 (Frm.fr b) (Sub.own hE sHas) len1 hlen hq1 hn1 hF1a hF1b hv0 hwr2 hz2) ?_)
  unfold RLayPost
  rw [Frm.fr_length, ← eD2]
  have hF2a := larm_ge hF1a 0 (b.length + 7)
  have hF2b := larm_le hF1b 0 (b.length + 7)
  rintro r H' ⟨wr2, rfl, hv3, hv4, rfl⟩
  refine ⟨_, rfl, _, sCat, ?_⟩
  rcases Bool.eq_false_or_eq_true (lcut F1 0 (b.length + 7)) with hc2 | hc2
  · rw [if_pos hc2, hc2]
    repeat (first | refine wRf12 ?_ | (refine kRf12 ?_; (first | rintro _ _ ⟨rfl, rfl⟩ | rintro _ _ ⟨_, rfl, rfl⟩ | rintro _ _ ⟨_, _, ⟨_, _⟩, rfl, rfl⟩); try refine ⟨sConv, ?_⟩) | refine Dr.two ?_ ?_)
    exact ret1 rfl sRet sConv (⟨⟨w.N, w.pos, w.R, w.m, w.rc, w.recs, w.dur, w.P, w.p, w.pc, w.pend, w.B, w.k, w.bc, swD2 w.s b, larm F1 0 (b.length + 7), true, wr2⟩, rfl, ⟨hwm, hwp, len2.symm, hn0, hn1, hlen, hF2a, hF2b, by dsimp only; omega, hfit, hrecs, hdur, h.wide⟩, rfl, by dsimp only; omega, by dsimp only; omega, rfl⟩)
  rw [if_neg (by rw [hc2]; exact Bool.false_ne_true), hc2]
  generalize larm F1 0 (b.length + 7) = F2 at *
  have hx2 : (swD2 w.s b)[0]? = some x := by
    have h1 : ((swD2 w.s b).take 32)[0]? = some x := by rw [tk2]; exact hx32
    rw [take_get, if_pos (by omega)] at h1
    exact h1
  have hS0 : ((w.D.take 32).set 0 (x ^^^ 1)).length = 32 := by rw [List.length_set, List.length_take]; omega
  have hsp : sp (swD2 w.s b) (32 * 0) (((w.D.take 32).set 0 (x ^^^ 1)).take (wk F2)) = swD3 w.s b := by
    rw [Nat.mul_zero, ← tk2, sp_first (by omega) (wk_le F2) hx2, tx2]
    unfold swD3
    rw [eF2]
    rfl
  have len3 : (swD3 w.s b).length = w.k := by rw [← hsp, sp_length (by rw [List.length_take, hS0]; omega)]; exact len2
  have hv5 : 0 ≤ wr2 := by omega
  have hwr3 : wr2 ≤ 1000000 := by omega
  have hi0 : 32 * 0 + 32 ≤ w.k := by omega
  repeat (first | refine wRf12 ?_ | (refine kRf12 ?_; (first | rintro _ _ ⟨rfl, rfl⟩ | rintro _ _ ⟨_, rfl, rfl⟩ | rintro _ _ ⟨_, _, ⟨_, _⟩, rfl, rfl⟩); try refine ⟨sConv, ?_⟩) | refine Dr.two ?_ ?_)
  refine L.step (by decide) (S.call rfl rfl Try.func127 (by kernel_rfl) rfl sPicks (fun E' hE => rwrite E' e w.B w.k w.bc F2 wr2 (swD2 w.s b) A7 c7 ((w.D.take 32).set 0 (x ^^^ 1)) 0 hS0 (Sub.own hE sHas) len2.symm hk2 hi0 hF2a hF2b hv5 hwr3) ?_)
  rw [hsp]
  have hF3 := warmed_ok hF2a hF2b
  have hwkl := wk_le F2
  rintro r H' ⟨rfl, rfl⟩
  refine ⟨_, rfl, _, sCat, ?_⟩
  rcases Bool.eq_false_or_eq_true (wdead F2) with hc3 | hc3
  · rw [if_pos hc3, hc3]
    repeat (first | refine wRf12 ?_ | (refine kRf12 ?_; (first | rintro _ _ ⟨rfl, rfl⟩ | rintro _ _ ⟨_, rfl, rfl⟩ | rintro _ _ ⟨_, _, ⟨_, _⟩, rfl, rfl⟩); try refine ⟨sConv, ?_⟩) | refine Dr.two ?_ ?_)
    exact ret1 rfl sRet sConv (⟨⟨w.N, w.pos, w.R, w.m, w.rc, w.recs, w.dur, w.P, w.p, w.pc, w.pend, w.B, w.k, w.bc, swD3 w.s b, warmed F2, true, wr2 + (wk F2 : Nat)⟩, rfl, ⟨hwm, hwp, len3.symm, hn0, hn1, hlen, hF3.1, hF3.2, by dsimp only; omega, hfit, hrecs, hdur, h.wide⟩, rfl, by dsimp only; omega, by dsimp only; omega, rfl⟩)
  rw [if_neg (by rw [hc3]; exact Bool.false_ne_true), hc3]
  repeat (first | refine wRf12 ?_ | (refine kRf12 ?_; (first | rintro _ _ ⟨rfl, rfl⟩ | rintro _ _ ⟨_, rfl, rfl⟩ | rintro _ _ ⟨_, _, ⟨_, _⟩, rfl, rfl⟩); try refine ⟨sConv, ?_⟩) | refine Dr.two ?_ ?_)
  rename_i A4 c4 k1 k2
  refine L.stepK (by decide) (S.buildSlice1K (T := slT) (e := (⟨A4, nx, c4, b⟩ : Oc)) rfl rfl rfl rfl (by decide)) ?_; rintro _ _ ⟨_, rfl, rfl⟩
  repeat (first | refine wRf12 ?_ | (refine kRf12 ?_; (first | rintro _ _ ⟨rfl, rfl⟩ | rintro _ _ ⟨_, rfl, rfl⟩ | rintro _ _ ⟨_, _, ⟨_, _⟩, rfl, rfl⟩); try refine ⟨sConv, ?_⟩) | refine Dr.two ?_ ?_)
  rename_i g6
  refine postF_conv3 (Conv.nil0 octT none) ?_
  refine postF_conv3 (Conv.each0 oOc) ?_
  refine postF_conv3 (Conv.push (f := oOc) (l := []) (x := ⟨A4, nx, c4, b⟩) sPicks) ?_
  have hWH : rst g e ⟨w.N, nx + 7, some ⟨g6, 0, none⟩, 1, 1, [(⟨A4, nx, c4, b⟩ : Oc)], 1, none, 0, 0, [], w.B, w.k, w.bc, swD3 w.s b, warmed F2, false, wr2 + (wk F2 : Nat)⟩ = [blk g 159 [.pointer (some ⟨e, 0, none⟩), .int .i64 (w.N : Int), .int .i64 ((nx + 7 : Nat) : Int), .slice (some ⟨g6, 0, none⟩) 1 1, .int .i64 1, .slice none 0 0], own slT (some ⟨g6, 0, none⟩) 1 1 [(⟨A4, nx, c4, b⟩ : Oc)], each oOc ([] ++ [(⟨A4, nx, c4, b⟩ : Oc)]), own octT none 0 0 [], rdk e w.B w.k w.bc (warmed F2) false (wr2 + (wk F2 : Nat)), own octT w.B w.k w.bc (swD3 w.s b)] := rfl
  refine postF_conv3 (H1 := rst g e ⟨w.N, nx + 7, some ⟨g6, 0, none⟩, 1, 1, [(⟨A4, nx, c4, b⟩ : Oc)], 1, none, 0, 0, [], w.B, w.k, w.bc, swD3 w.s b, warmed F2, false, wr2 + (wk F2 : Nat)⟩) (by rw [hWH]; exact sConv) ?_
  have hwide : ∀ x ∈ [(⟨A4, nx, c4, b⟩ : Oc)], x.n = x.b.length ∧ x.b.length ≤ 4096 := by
    intro x hx
    rw [List.mem_singleton] at hx
    subst hx
    exact ⟨hnx, by dsimp only; omega⟩
  exact ret1 rfl sRet sConv (⟨⟨w.N, nx + 7, some ⟨g6, 0, none⟩, 1, 1, [(⟨A4, nx, c4, b⟩ : Oc)], 1, none, 0, 0, [], w.B, w.k, w.bc, swD3 w.s b, warmed F2, false, wr2 + (wk F2 : Nat)⟩, rfl, ⟨rfl, rfl, len3.symm, hn0, hn1, hlen, hF3.1, hF3.2, by dsimp only; omega, by dsimp only [List.length_nil]; omega, by dsimp only; omega, Nat.le_refl _, hwide⟩, by unfold RL.s; dsimp only; rw [hnx]; rfl, by dsimp only; omega, by dsimp only; omega, rfl⟩)
end
end Go.Proofs.Ytkhmplaocfjpjaa.Sep
