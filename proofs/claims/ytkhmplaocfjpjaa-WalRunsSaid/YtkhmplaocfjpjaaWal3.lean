/- wal's log: the other half counts; what a log is; by parts of memory. -/
import Derived.Test.YtkhmplaocfjpjaaWal2
namespace Go.Proofs.Ytkhmplaocfjpjaa.Sep
open Go.RowKit Go.Proofs.Ytkhmplaocfjpjaa.Reg
open Go.Proofs.Ytkhmplaocfjpjaa.Mem hiding Rd Own
set_option maxRecDepth 100000
-- types: octT secT slT
-- recs: rec_Disk plate_rec log_rec
set_option maxRecDepth 100000
set_option maxHeartbeats 3000000
theorem turn1 (x : UInt8) : Go.bits .andNot .u8 (x.toNat : Int) 1 = ((x.toNat / 2 * 2 : Nat) : Int) := by
  have h : ∀ y : Fin 256, Go.bits .andNot .u8 (y.1 : Int) 1 = ((y.1 / 2 * 2 : Nat) : Int) := by decide +kernel
  exact h ⟨x.toNat, x.toNat_lt⟩
theorem turn2 (x : UInt8) : Go.bits .or .u8 ((x.toNat / 2 * 2 : Nat) : Int) ((1 - x.toNat % 2 : Nat) : Int) = ((x ^^^ 1).toNat : Int) := by
  have h : ∀ y : Fin 256, Go.bits .or .u8 ((y.1 / 2 * 2 : Nat) : Int) ((1 - y.1 % 2 : Nat) : Int) = ((UInt8.ofNat y.1 ^^^ 1).toNat : Int) := by decide +kernel
  have h2 := h ⟨x.toNat, x.toNat_lt⟩
  rw [UInt8.ofNat_toNat] at h2
  exact h2
def tx (D : List UInt8) : UInt8 := D.headD 0 ^^^ 1
section
variable (E : Env) (gd N : Nat) (armed wr : Int) (A : Option Addr) (n c : Nat) (l : List Sec)
theorem wturn (hn : n ≤ 256) (hl : 0 < l.length) (hnl : n = l.length) (ha : -1 ≤ armed) (ha2 : armed ≤ 9223372036854775807) (hw : 0 ≤ wr) (hw2 : wr ≤ 1000000) :
    Tri Try.prog E 96 #[plt gd N, .int .i64 ((1 - hb (flat l) : Nat) : Int)] (dks gd true false armed wr A n c l) fun e H' => ∃ l' wr', e = .returned (.bool (!wdead armed)) ∧ l'.length = l.length ∧ flat l' = sp (flat l) 0 (if wk armed = 0 then [] else [tx (flat l)]) ∧ wr ≤ wr' ∧ wr' ≤ wr + 32 ∧ H' = dks gd true (wdead armed) (warmed armed) wr' A n c l' := by
  obtain ⟨x, hx⟩ : ∃ x, l[0].1[0]? = some x := ⟨_, List.getElem?_eq_getElem (i := 0) (by rw [l[0].2]; omega)⟩
  have hsec := flat_sec hl
  rw [Nat.mul_zero, List.drop_zero] at hsec
  have h1 : (flat l)[0]? = some x := by
    rw [hsec, take_get, if_pos (by omega)] at hx
    exact hx
  have hhd : (flat l).headD 0 = x := by
    cases hf : flat l with
    | nil => rw [hf] at h1; cases h1
    | cons y t => rw [hf] at h1; injection h1
  have hbx : hb (flat l) = x.toNat % 2 := by unfold hb; rw [hhd]
  have htx : tx (flat l) = x ^^^ 1 := by unfold tx; rw [hhd]
  have t1 := turn1 x
  have t2 := turn2 x
  have hw8 : IntKind.u8.wrap ((1 - x.toNat % 2 : Nat) : Int) = ((1 - x.toNat % 2 : Nat) : Int) := IntWalk.u8_in _ (by omega)
  have hb32 : (l[0].1.set 0 (x ^^^ 1)).length = 32 := by rw [List.length_set]; exact l[0].2
  have hfl : flat (l.set 0 (front (wk armed) (l[0].1.set 0 (x ^^^ 1)) hb32 (wk_le _) l[0])) = sp (flat l) 0 (if wk armed = 0 then [] else [tx (flat l)]) := by
    rw [flat_set hb32 (wk_le _) hl, Nat.mul_zero, htx]
    have hll : 32 ≤ (flat l).length := by rw [flat_length]; omega
    have hk := wk_le armed
    by_cases hz : wk armed = 0
    · rw [hz, List.take_zero, if_pos rfl]
    · rw [if_neg hz]
      apply List.ext_getElem?
      intro j
      have l1 : ((l[0].1.set 0 (x ^^^ 1)).take (wk armed)).length = wk armed := by rw [List.length_take, hb32]; omega
      rw [sp_get (by rw [l1]; omega), sp_get (by show 0 + 1 ≤ _; omega), l1]
      rw [if_neg (Nat.not_lt_zero j), List.length_singleton]
      try rw [if_neg (Nat.not_lt_zero j)]
      by_cases hj : j = 0
      · subst hj
        rw [if_pos (by omega), if_pos (by omega), take_get, if_pos (by omega), List.getElem?_set_self (by rw [l[0].2]; omega)]
        rfl
      · by_cases hj2 : j < wk armed
        · rw [if_pos (by omega), if_neg (by omega), take_get, if_pos (by omega), Nat.sub_zero, List.getElem?_set_ne (by omega), hsec, take_get, if_pos (by omega)]
        · rw [if_neg (by omega), if_neg (by omega)]
  rw [hbx]
  refine tri Try.func96 rfl Try.ntmps96 (by simp) ?_
  repeat (first | refine wWl1 ?_ | (refine kWl1 ?_; (first | rintro _ _ ⟨rfl, rfl⟩ | rintro _ _ ⟨_, rfl, rfl⟩ | rintro _ _ ⟨_, _, ⟨_, _⟩, rfl, rfl⟩); try refine ⟨sConv, ?_⟩) | refine Dr.two ?_ ?_)
  refine L.step (by decide) (S.call rfl rfl Try.func117 (by kernel_rfl) rfl sPicks (fun E' hE => read_yes E' gd true armed wr A n c l 0 hn hl hnl) ?_)
  rintro e H' ⟨B, d, rfl, h3, h4, rfl⟩
  refine ⟨_, rfl, _, sCat, ?_⟩
  repeat (first | refine wWl1 ?_ | (refine kWl1 ?_; (first | rintro _ _ ⟨rfl, rfl⟩ | rintro _ _ ⟨_, rfl, rfl⟩ | rintro _ _ ⟨_, _, ⟨_, _⟩, rfl, rfl⟩); try refine ⟨sConv, ?_⟩) | refine Dr.two ?_ ?_)
  refine L.step (by decide) (S.call rfl rfl Try.func53 (by kernel_rfl) rfl sPicks (fun E' hE => write_yes E' gd true armed wr A n c l B d _ 0 hb32 sRd hn hl ha ha2 hw hw2) ?_)
  rintro e H' ⟨rfl, rfl⟩
  refine ⟨_, rfl, _, sCat, ?_⟩
  repeat (first | refine wWl1 ?_ | (refine kWl1 ?_; (first | rintro _ _ ⟨rfl, rfl⟩ | rintro _ _ ⟨_, rfl, rfl⟩ | rintro _ _ ⟨_, _, ⟨_, _⟩, rfl, rfl⟩); try refine ⟨sConv, ?_⟩) | refine Dr.two ?_ ?_)
  have hk := wk_le armed
  exact ret1 rfl sRet sConv (⟨_, _, rfl, by rw [List.length_set], hfl, by omega, by omega, rfl⟩)
end
/-! ### a log -/
structure WL where
  N : Nat
  R : Option Addr
  m : Nat
  rc : Nat
  recs : List Oc
  dur : Nat
  pos : Nat
  P : Option Addr
  p : Nat
  pc : Nat
  pend : List UInt8
  dead : Bool
  armed : Int
  wr : Int
  A : Option Addr
  k : Nat
  c : Nat
  secs : List Sec
abbrev wlg (g gd : Nat) (w : WL) : Asn := blk g 107 [.pointer (some ⟨gd, 0, none⟩), .int .i64 (w.N : Int), .slice w.R w.m w.rc, .int .i64 (w.dur : Int), .int .i64 (w.pos : Int), .slice w.P w.p w.pc]
abbrev wst (g gd : Nat) (w : WL) : List Asn := [wlg g gd w, own slT w.R w.m w.rc w.recs, each oOc w.recs, own octT w.P w.p w.pc w.pend, dsk gd true w.dead w.armed w.wr w.A w.k w.c, own secT w.A w.k w.c w.secs]
/-- what a log is, plainly -/
structure LS where
  N : Nat
  D : List UInt8
  recs : List (List UInt8)
  dur : Nat
  pos : Nat
  pend : List UInt8
  dead : Bool
  armed : Int
def WL.s (w : WL) : LS := ⟨w.N, flat w.secs, w.recs.map (·.b), w.dur, w.pos, w.pend, w.dead, w.armed⟩
structure WL.ok (w : WL) : Prop where
  hm : w.m = w.recs.length
  hp : w.p = w.pend.length
  hk : w.k = w.secs.length
  n0 : 1 ≤ w.N
  n1 : w.N ≤ 64
  len : w.k = 2 * w.N + 1
  a0 : -1 ≤ w.armed
  a1 : w.armed ≤ 9223372036854775807
  w0 : 0 ≤ w.wr
  fit : w.pos + w.p ≤ 32 * w.N
  recs : w.m ≤ 100000
  dur : w.dur ≤ w.m
  wide : ∀ x ∈ w.recs, x.n = x.b.length ∧ x.b.length ≤ 4096
section
variable (E : Env) (g gd : Nat) (w : WL)
theorem wis : Tri Try.prog E 81 #[.pointer (some ⟨g, 0, none⟩)] [wlg g gd w] fun e H' => e = .returned (.bool true) ∧ H' = [wlg g gd w] := by
  refine tri Try.func81 rfl Try.ntmps81 (by simp) ?_
  repeat (first | refine wWl1 ?_ | (refine kWl1 ?_; (first | rintro _ _ ⟨rfl, rfl⟩ | rintro _ _ ⟨_, rfl, rfl⟩ | rintro _ _ ⟨_, _, ⟨_, _⟩, rfl, rfl⟩); try refine ⟨sConv, ?_⟩) | refine Dr.two ?_ ?_)
  exact ret1 rfl sRet sConv (⟨rfl, rfl⟩)
abbrev oddw (g : Nat) : Asn := blk g 107 [.pointer none, .int .i64 0, .slice none 0 0, .int .i64 0, .int .i64 0, .slice none 0 0]
theorem wis_odd : Tri Try.prog E 81 #[.pointer (some ⟨g, 0, none⟩)] [oddw g] fun e H' => e = .returned (.bool false) ∧ H' = [oddw g] := by
  refine tri Try.func81 rfl Try.ntmps81 (by simp) ?_
  repeat (first | refine wWl1 ?_ | (refine kWl1 ?_; (first | rintro _ _ ⟨rfl, rfl⟩ | rintro _ _ ⟨_, rfl, rfl⟩ | rintro _ _ ⟨_, _, ⟨_, _⟩, rfl, rfl⟩); try refine ⟨sConv, ?_⟩) | refine Dr.two ?_ ?_)
  exact ret1 rfl sRet sConv (⟨rfl, rfl⟩)
theorem wis_nil : Tri Try.prog E 81 #[.pointer none] [] fun e H' => e = .returned (.bool false) ∧ H' = [] := by
  refine tri Try.func81 rfl Try.ntmps81 (by simp) ?_
  repeat (first | refine wWl1 ?_ | (refine kWl1 ?_; (first | rintro _ _ ⟨rfl, rfl⟩ | rintro _ _ ⟨_, rfl, rfl⟩ | rintro _ _ ⟨_, _, ⟨_, _⟩, rfl, rfl⟩); try refine ⟨sConv, ?_⟩) | refine Dr.two ?_ ?_)
  exact ret1 rfl sRet sConv (⟨rfl, rfl⟩)
theorem wroom (h : w.ok) : Tri Try.prog E 55 #[.pointer (some ⟨g, 0, none⟩)] [wlg g gd w] fun e H' => e = .returned (.int .i64 ((32 * w.N - w.pos - w.p : Nat) : Int)) ∧ H' = [wlg g gd w] := by
  have hmax : maxLen = 9223372036854775807 := rfl
  have h1 := h.n1
  have h2 := h.fit
  have e1 : IntKind.i64.wrap ((w.N : Int) * 32) = (w.N : Int) * 32 := IntWalk.i64_in _ (by omega)
  have e2 : IntKind.i64.wrap ((w.N : Int) * 32 - (w.pos : Int)) = (w.N : Int) * 32 - (w.pos : Int) := IntWalk.i64_in _ (by omega)
  have e3 : IntKind.i64.wrap ((w.N : Int) * 32 - (w.pos : Int) - (w.p : Int)) = ((32 * w.N - w.pos - w.p : Nat) : Int) := by rw [IntWalk.i64_in _ (by omega)]; omega
  have hp : w.p ≤ maxLen := by omega
  refine tri Try.func55 rfl Try.ntmps55 (by simp) ?_
  repeat (first | refine wWl1 ?_ | (refine kWl1 ?_; (first | rintro _ _ ⟨rfl, rfl⟩ | rintro _ _ ⟨_, rfl, rfl⟩ | rintro _ _ ⟨_, _, ⟨_, _⟩, rfl, rfl⟩); try refine ⟨sConv, ?_⟩) | refine Dr.two ?_ ?_)
  refine L.step (by decide) (S.call rfl rfl Try.func81 (by kernel_rfl) rfl sPicks (fun E' hE => wis E' g gd w) ?_)
  rintro e H' ⟨rfl, rfl⟩
  refine ⟨_, rfl, _, sCat, ?_⟩
  repeat (first | refine wWl1 ?_ | (refine kWl1 ?_; (first | rintro _ _ ⟨rfl, rfl⟩ | rintro _ _ ⟨_, rfl, rfl⟩ | rintro _ _ ⟨_, _, ⟨_, _⟩, rfl, rfl⟩); try refine ⟨sConv, ?_⟩) | refine Dr.two ?_ ?_)
  refine C.regionA 100000 (.one 0 false (.one 1 false (.one 2 false (.one 3 false (.one 4 false (.one 5 false (.one 6 false (.one 7 false (.one 8 false (.one 9 false (.one 10 false (.one 11 false (.one 12 false (.one 13 false (.one 14 false (.one 15 false (.one 16 false (.one 17 false .nil)))))))))))))))))) _ (by kernel_rfl) (by kernel_rfl) Conv.refl ?_
  repeat (first | refine wWl1 ?_ | (refine kWl1 ?_; (first | rintro _ _ ⟨rfl, rfl⟩ | rintro _ _ ⟨_, rfl, rfl⟩ | rintro _ _ ⟨_, _, ⟨_, _⟩, rfl, rfl⟩); try refine ⟨sConv, ?_⟩) | refine Dr.two ?_ ?_)
  exact ret1 rfl sRet sConv (⟨rfl, rfl⟩)
theorem wdurable : Tri Try.prog E 36 #[.pointer (some ⟨g, 0, none⟩)] [wlg g gd w] fun e H' => e = .returned (.int .i64 (w.dur : Int)) ∧ H' = [wlg g gd w] := by
  refine tri Try.func36 rfl Try.ntmps36 (by simp) ?_
  repeat (first | refine wWl1 ?_ | (refine kWl1 ?_; (first | rintro _ _ ⟨rfl, rfl⟩ | rintro _ _ ⟨_, rfl, rfl⟩ | rintro _ _ ⟨_, _, ⟨_, _⟩, rfl, rfl⟩); try refine ⟨sConv, ?_⟩) | refine Dr.two ?_ ?_)
  refine L.step (by decide) (S.call rfl rfl Try.func81 (by kernel_rfl) rfl sPicks (fun E' hE => wis E' g gd w) ?_)
  rintro e H' ⟨rfl, rfl⟩
  refine ⟨_, rfl, _, sCat, ?_⟩
  repeat (first | refine wWl1 ?_ | (refine kWl1 ?_; (first | rintro _ _ ⟨rfl, rfl⟩ | rintro _ _ ⟨_, rfl, rfl⟩ | rintro _ _ ⟨_, _, ⟨_, _⟩, rfl, rfl⟩); try refine ⟨sConv, ?_⟩) | refine Dr.two ?_ ?_)
  exact ret1 rfl sRet sConv (⟨rfl, rfl⟩)
theorem wpending (h : w.ok) : Tri Try.prog E 42 #[.pointer (some ⟨g, 0, none⟩)] [wlg g gd w] fun e H' => e = .returned (.int .i64 ((w.m - w.dur : Nat) : Int)) ∧ H' = [wlg g gd w] := by
  have hmax : maxLen = 9223372036854775807 := rfl
  have h1 := h.recs
  have h2 := h.dur
  have e1 : IntKind.i64.wrap ((w.m : Int) - (w.dur : Int)) = ((w.m - w.dur : Nat) : Int) := by rw [IntWalk.i64_in _ (by omega)]; omega
  have hp : w.m ≤ maxLen := by omega
  refine tri Try.func42 rfl Try.ntmps42 (by simp) ?_
  repeat (first | refine wWl1 ?_ | (refine kWl1 ?_; (first | rintro _ _ ⟨rfl, rfl⟩ | rintro _ _ ⟨_, rfl, rfl⟩ | rintro _ _ ⟨_, _, ⟨_, _⟩, rfl, rfl⟩); try refine ⟨sConv, ?_⟩) | refine Dr.two ?_ ?_)
  refine L.step (by decide) (S.call rfl rfl Try.func81 (by kernel_rfl) rfl sPicks (fun E' hE => wis E' g gd w) ?_)
  rintro e H' ⟨rfl, rfl⟩
  refine ⟨_, rfl, _, sCat, ?_⟩
  repeat (first | refine wWl1 ?_ | (refine kWl1 ?_; (first | rintro _ _ ⟨rfl, rfl⟩ | rintro _ _ ⟨_, rfl, rfl⟩ | rintro _ _ ⟨_, _, ⟨_, _⟩, rfl, rfl⟩); try refine ⟨sConv, ?_⟩) | refine Dr.two ?_ ?_)
  refine C.regionA 100000 (.one 0 false (.one 1 false (.one 2 false (.one 3 false (.one 4 false (.one 5 false (.one 6 false (.one 7 false (.one 8 false (.one 9 false (.one 10 false .nil))))))))))) _ (by kernel_rfl) (by kernel_rfl) Conv.refl ?_
  repeat (first | refine wWl1 ?_ | (refine kWl1 ?_; (first | rintro _ _ ⟨rfl, rfl⟩ | rintro _ _ ⟨_, rfl, rfl⟩ | rintro _ _ ⟨_, _, ⟨_, _⟩, rfl, rfl⟩); try refine ⟨sConv, ?_⟩) | refine Dr.two ?_ ?_)
  exact ret1 rfl sRet sConv (⟨rfl, rfl⟩)
theorem wdisk (h : w.ok) : Tri Try.prog E 37 #[.pointer (some ⟨g, 0, none⟩)] [wlg g gd w, dsk gd true w.dead w.armed w.wr w.A w.k w.c, own secT w.A w.k w.c w.secs] fun e H' => ∃ g' A' c', e = .returned (.pointer (some ⟨g', 0, none⟩)) ∧ H' = [dsk g' true w.dead w.armed w.wr A' w.k c', own secT A' w.k c' w.secs, wlg g gd w, dsk gd true w.dead w.armed w.wr w.A w.k w.c, own secT w.A w.k w.c w.secs] := by
  have hn : w.k ≤ 256 := by have h1 := h.n1; have h2 := h.len; omega
  refine tri Try.func37 rfl Try.ntmps37 (by simp) ?_
  repeat (first | refine wWl1 ?_ | (refine kWl1 ?_; (first | rintro _ _ ⟨rfl, rfl⟩ | rintro _ _ ⟨_, rfl, rfl⟩ | rintro _ _ ⟨_, _, ⟨_, _⟩, rfl, rfl⟩); try refine ⟨sConv, ?_⟩) | refine Dr.two ?_ ?_)
  refine L.step (by decide) (S.call rfl rfl Try.func81 (by kernel_rfl) rfl sPicks (fun E' hE => wis E' g gd w) ?_)
  rintro e H' ⟨rfl, rfl⟩
  refine ⟨_, rfl, _, sCat, ?_⟩
  repeat (first | refine wWl1 ?_ | (refine kWl1 ?_; (first | rintro _ _ ⟨rfl, rfl⟩ | rintro _ _ ⟨_, rfl, rfl⟩ | rintro _ _ ⟨_, _, ⟨_, _⟩, rfl, rfl⟩); try refine ⟨sConv, ?_⟩) | refine Dr.two ?_ ?_)
  refine L.step (by decide) (S.call rfl rfl Try.func86 (by kernel_rfl) rfl sPicks (fun E' hE => clone_disk E' gd w.dead w.armed w.wr w.A w.k w.c w.secs hn) ?_)
  rintro e H' ⟨g', A', c', rfl, rfl⟩
  refine ⟨_, rfl, _, sCat, ?_⟩
  repeat (first | refine wWl1 ?_ | (refine kWl1 ?_; (first | rintro _ _ ⟨rfl, rfl⟩ | rintro _ _ ⟨_, rfl, rfl⟩ | rintro _ _ ⟨_, _, ⟨_, _⟩, rfl, rfl⟩); try refine ⟨sConv, ?_⟩) | refine Dr.two ?_ ?_)
  exact ret1 rfl sRet sConv (⟨_, _, _, rfl, rfl⟩)
end
end Go.Proofs.Ytkhmplaocfjpjaa.Sep
