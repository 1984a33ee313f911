/- wal's log: records told, appended, synced; by parts of memory. -/
import Derived.Test.YtkhmplaocfjpjaaWal3
namespace Go.Proofs.Ytkhmplaocfjpjaa.Sep
open Go.RowKit Go.Proofs.Ytkhmplaocfjpjaa.Reg
open Go.Proofs.Ytkhmplaocfjpjaa.Mem hiding Rd Own
set_option maxRecDepth 100000
-- types: octT secT slT
-- recs: rec_Disk plate_rec log_rec
set_option maxRecDepth 100000
set_option maxHeartbeats 3000000
def LS.append (s : LS) (b : List UInt8) : Int × LS :=
  if b.length = 0 then (4, s) else if 4096 < b.length then (5, s) else if 32 * s.N - s.pos - s.pend.length < b.length + 7 then (10, s) else (0, ⟨s.N, s.D, s.recs ++ [b], s.dur, s.pos, s.pend ++ Frm.fr b, s.dead, s.armed⟩)
/-- what a call leaves -/
def WPost (g gd : Nat) (w : WL) (z : Int × LS) (K : Int) : Ending → List Asn → Prop := fun e H' =>
  ∃ w' : WL, e = .returned (.int .i64 z.1) ∧ w'.ok ∧ w'.s = z.2 ∧ w'.wr ≤ w.wr + K ∧ w'.m ≤ w.m + 1 ∧ H' = wst g gd w'
theorem postF_conv3 {P : Program} {E : Env} {fn : Func} {R : Ending → List Asn → Prop} {F : Nat → Value} {H H1 : List Asn} {e : Ex} (hc : Conv E H H1) (h : postF P E fn R e F H1) : postF P E fn R e F H := by
  cases e with
  | normal => obtain ⟨v, H', h1, h2, h3⟩ := h; exact ⟨v, H', fun w hw => h1 w (hc w hw), hc.trans h2, h3⟩
  | ret => obtain ⟨v, H', h1, h2, h3⟩ := h; exact ⟨v, H', fun w hw => h1 w (hc w hw), hc.trans h2, h3⟩
  | exit => exact h.elim
section
variable (E : Env) (g gd : Nat) (w : WL)
theorem wrecords (h : w.ok) : Tri Try.prog E 35 #[.pointer (some ⟨g, 0, none⟩)] [wlg g gd w, own slT w.R w.m w.rc w.recs, each oOc w.recs] fun e H' => ∃ O oc xs, e = .returned (.slice O w.m oc) ∧ xs.length = w.m ∧ xs.map Oc.b = w.recs.map Oc.b ∧ (w.m ≤ oc ∧ oc ≤ maxLen) ∧ (∀ x ∈ xs, x.n = x.b.length ∧ x.b.length ≤ 4096) ∧ H' = [own slT O w.m oc xs, each oOc xs, wlg g gd w, own slT w.R w.m w.rc w.recs, each oOc w.recs] := by
  have hmax : maxLen = 9223372036854775807 := rfl
  have h1 := h.recs
  have hwm := h.hm
  have hlm : w.m ≤ maxLen := by omega
  refine tri Try.func35 rfl Try.ntmps35 (by simp) ?_
  repeat (first | refine wWl1 ?_ | (refine kWl1 ?_; (first | rintro _ _ ⟨rfl, rfl⟩ | rintro _ _ ⟨_, rfl, rfl⟩ | rintro _ _ ⟨_, _, ⟨_, _⟩, rfl, rfl⟩); try refine ⟨sConv, ?_⟩) | refine Dr.two ?_ ?_)
  refine L.step (by decide) (S.call rfl rfl Try.func81 (by kernel_rfl) rfl sPicks (fun E' hE => wis E' g gd w) ?_)
  rintro e H' ⟨rfl, rfl⟩
  refine ⟨_, rfl, _, sCat, ?_⟩
  repeat (first | refine wWl1 ?_ | (refine kWl1 ?_; (first | rintro _ _ ⟨rfl, rfl⟩ | rintro _ _ ⟨_, rfl, rfl⟩ | rintro _ _ ⟨_, _, ⟨_, _⟩, rfl, rfl⟩); try refine ⟨sConv, ?_⟩) | refine Dr.two ?_ ?_)
  refine C.loop (X := Nat × Option Addr × Nat × List Oc) (fun x => [(3, .slice x.2.1 x.1 x.2.2.1), (12, .slice w.R w.m w.rc), (13, .int .i64 (w.m : Nat)), (14, .int .i64 x.1)])
    (fun x => [own slT x.2.1 x.1 x.2.2.1 x.2.2.2, each oOc x.2.2.2, wlg g gd w, own slT w.R w.m w.rc w.recs, each oOc w.recs]) (fun x => x.1 ≤ w.m ∧ x.2.2.2.length = x.1 ∧ x.2.2.2.map Oc.b = (w.recs.take x.1).map Oc.b ∧ (x.1 ≤ x.2.2.1 ∧ x.2.2.1 ≤ maxLen) ∧ ∀ y ∈ x.2.2.2, y.n = y.b.length ∧ y.b.length ≤ 4096) (fun x => w.m - x.1) (0, none, 0, []) sHolds ((Conv.each0 oOc).trans ((Conv.nil0 slT none).trans sConv)) ⟨Nat.zero_le _, rfl, rfl, ⟨Nat.le_refl _, Nat.zero_le _⟩, fun y hy => (List.not_mem_nil hy).elim⟩ ?_
  rintro ⟨i, O, oc, xs⟩ F ⟨hi, hxl, hxm, hoc, hxw⟩
  dsimp only at hi hxl hxm hoc hxw ⊢
  by_cases hlt : i < w.m
  · obtain ⟨x, hx⟩ : ∃ x, w.recs[i]? = some x := ⟨_, List.getElem?_eq_getElem (by omega)⟩
    have hst : (w.recs.take (i + 1)).map Oc.b = (w.recs.take i).map Oc.b ++ [x.b] := by rw [List.take_succ_eq_append_getElem (by omega), List.map_append, (List.getElem?_eq_some_iff.1 hx).2]; rfl
    have hxwd := h.wide x (List.mem_of_getElem? hx)
    repeat (first | refine wWl1 ?_ | (refine kWl1 ?_; (first | rintro _ _ ⟨rfl, rfl⟩ | rintro _ _ ⟨_, rfl, rfl⟩ | rintro _ _ ⟨_, _, ⟨_, _⟩, rfl, rfl⟩); try refine ⟨sConv, ?_⟩) | refine Dr.two ?_ ?_)
    refine L.stepK (by decide) (S.appendK (T := octT) (l2 := x.b) rfl rfl rfl (n' := x.n) (Nat.zero_add _) (fun _ _ => sRepl) (RdH.each (f := oOc) sHas hx rfl) (List.nil_append _) rfl (by_ := 1) rfl sOm sOm) ?_
    rintro _ _ ⟨A', c', ⟨k1, k2⟩, rfl, rfl⟩
    repeat (first | refine wWl1 ?_ | (refine kWl1 ?_; (first | rintro _ _ ⟨rfl, rfl⟩ | rintro _ _ ⟨_, rfl, rfl⟩ | rintro _ _ ⟨_, _, ⟨_, _⟩, rfl, rfl⟩); try refine ⟨sConv, ?_⟩) | refine Dr.two ?_ ?_)
    refine L.stepK (by decide) (S.buildSlice1K (T := slT) (e := (⟨A', x.n, c', x.b⟩ : Oc)) rfl rfl rfl rfl (by decide)) ?_; rintro _ _ ⟨_, rfl, rfl⟩
    repeat (first | refine wWl1 ?_ | (refine kWl1 ?_; (first | rintro _ _ ⟨rfl, rfl⟩ | rintro _ _ ⟨_, rfl, rfl⟩ | rintro _ _ ⟨_, _, ⟨_, _⟩, rfl, rfl⟩); try refine ⟨sConv, ?_⟩) | refine Dr.two ?_ ?_)
    rename_i O2 c2 k3 k4
    refine ⟨(i + 1, O2, c2, xs ++ [(⟨A', x.n, c', x.b⟩ : Oc)]), sHolds, Conv.trans (Conv.push (f := oOc) (l := xs) (x := ⟨A', x.n, c', x.b⟩) sPicks) sConv, ⟨by dsimp only; omega, by dsimp only; rw [List.length_append, hxl]; rfl, by dsimp only; rw [hst, List.map_append, hxm]; rfl, ⟨k3, k4⟩, fun y hy => ?_⟩, by dsimp only; omega⟩
    rcases List.mem_append.1 hy with hy | hy
    · exact hxw y hy
    · rw [List.mem_singleton] at hy
      subst hy
      exact hxwd
  obtain rfl : i = w.m := by omega
  rw [List.take_of_length_le (by omega)] at hxm
  repeat (first | refine wWl1 ?_ | (refine kWl1 ?_; (first | rintro _ _ ⟨rfl, rfl⟩ | rintro _ _ ⟨_, rfl, rfl⟩ | rintro _ _ ⟨_, _, ⟨_, _⟩, rfl, rfl⟩); try refine ⟨sConv, ?_⟩) | refine Dr.two ?_ ?_)
  exact ret1 rfl sRet sConv (⟨O, oc, xs, rfl, hxl, hxm, hoc, hxw, rfl⟩)
theorem wappend (h : w.ok) (hrl : w.m + 1 ≤ 100000) (X : Option Addr) (nx cx : Nat) (b : List UInt8) (hr : Rd E octT X nx cx b) :
    Tri Try.prog E 33 #[.pointer (some ⟨g, 0, none⟩), .slice X nx cx] (wst g gd w) (WPost g gd w (w.s.append b) 0) := by
  have hmax : maxLen = 9223372036854775807 := rfl
  have hnx := hr.len
  have hcx := hr.cap
  have hn1' := h.n0
  have hn1 := h.n1
  have hfit := h.fit
  have hdur := h.dur
  have hwm := h.hm
  have hwp := h.hp
  have hplm : w.p ≤ maxLen := by omega
  have hap : w.s.append b = if b.length = 0 then (4, w.s) else if 4096 < b.length then (5, w.s) else if 32 * w.N - w.pos - w.pend.length < b.length + 7 then (10, w.s) else (0, ⟨w.N, flat w.secs, w.recs.map (·.b) ++ [b], w.dur, w.pos, w.pend ++ Frm.fr b, w.dead, w.armed⟩) := rfl
  have hsame : ∀ z : Int, WPost g gd w (z, w.s) 0 (.returned (.int .i64 z)) (wst g gd w) := fun z => ⟨w, rfl, h, rfl, by omega, by omega, rfl⟩
  rw [hap]
  refine tri Try.func33 rfl Try.ntmps33 (by simp) ?_
  repeat (first | refine wWl1 ?_ | (refine kWl1 ?_; (first | rintro _ _ ⟨rfl, rfl⟩ | rintro _ _ ⟨_, rfl, rfl⟩ | rintro _ _ ⟨_, _, ⟨_, _⟩, rfl, rfl⟩); try refine ⟨sConv, ?_⟩) | refine Dr.two ?_ ?_)
  refine L.step (by decide) (S.call rfl rfl Try.func81 (by kernel_rfl) rfl sPicks (fun E' hE => wis E' g gd w) ?_)
  rintro e H' ⟨rfl, rfl⟩
  refine ⟨_, rfl, _, sCat, ?_⟩
  repeat (first | refine wWl1 ?_ | (refine kWl1 ?_; (first | rintro _ _ ⟨rfl, rfl⟩ | rintro _ _ ⟨_, rfl, rfl⟩ | rintro _ _ ⟨_, _, ⟨_, _⟩, rfl, rfl⟩); try refine ⟨sConv, ?_⟩) | refine Dr.two ?_ ?_)
  by_cases h0 : b.length = 0
  · rw [if_pos h0]
    obtain rfl : nx = 0 := by omega
    refine L.step (by decide) (S.call rfl rfl Try.func82 (by kernel_rfl) rfl sPicks (fun E' hE => putf_0 E' X cx) ?_)
    rintro e H' ⟨rfl, rfl⟩
    refine ⟨_, rfl, _, sCat, ?_⟩
    repeat (first | refine wWl1 ?_ | (refine kWl1 ?_; (first | rintro _ _ ⟨rfl, rfl⟩ | rintro _ _ ⟨_, rfl, rfl⟩ | rintro _ _ ⟨_, _, ⟨_, _⟩, rfl, rfl⟩); try refine ⟨sConv, ?_⟩) | refine Dr.two ?_ ?_)
    exact ret1 rfl sRet sConv (hsame 4)
  rw [if_neg h0]
  by_cases h5 : 4096 < b.length
  · rw [if_pos h5]
    refine L.step (by decide) (S.call rfl rfl Try.func82 (by kernel_rfl) rfl sPicks (fun E' hE => putf_long E' X nx cx b sRd (by omega)) ?_)
    rintro e H' ⟨rfl, rfl⟩
    refine ⟨_, rfl, _, sCat, ?_⟩
    repeat (first | refine wWl1 ?_ | (refine kWl1 ?_; (first | rintro _ _ ⟨rfl, rfl⟩ | rintro _ _ ⟨_, rfl, rfl⟩ | rintro _ _ ⟨_, _, ⟨_, _⟩, rfl, rfl⟩); try refine ⟨sConv, ?_⟩) | refine Dr.two ?_ ?_)
    exact ret1 rfl sRet sConv (hsame 5)
  rw [if_neg h5]
  refine L.step (by decide) (S.call rfl rfl Try.func82 (by kernel_rfl) rfl sPicks (fun E' hE => putf_ok E' X nx cx b sRd (by omega) (by omega)) ?_)
  rintro e H' ⟨A1, c1, rfl, rfl⟩
  refine ⟨_, rfl, _, sCat, ?_⟩
  have hn7 : nx + 7 ≤ maxLen := by omega
  repeat (first | refine wWl1 ?_ | (refine kWl1 ?_; (first | rintro _ _ ⟨rfl, rfl⟩ | rintro _ _ ⟨_, rfl, rfl⟩ | rintro _ _ ⟨_, _, ⟨_, _⟩, rfl, rfl⟩); try refine ⟨sConv, ?_⟩) | refine Dr.two ?_ ?_)
  refine L.step (by decide) (S.call rfl rfl Try.func55 (by kernel_rfl) rfl sPicks (fun E' hE => wroom E' g gd w h) ?_)
  rintro e H' ⟨rfl, rfl⟩
  refine ⟨_, rfl, _, sCat, ?_⟩
  rw [← hwp]
  by_cases hrm : 32 * w.N - w.pos - w.p < b.length + 7
  · rw [if_pos hrm]
    have ht : decide (((32 * w.N - w.pos - w.p : Nat) : Int) < ((nx + 7 : Nat) : Int)) = true := decide_eq_true (by omega)
    repeat (first | refine wWl1 ?_ | (refine kWl1 ?_; (first | rintro _ _ ⟨rfl, rfl⟩ | rintro _ _ ⟨_, rfl, rfl⟩ | rintro _ _ ⟨_, _, ⟨_, _⟩, rfl, rfl⟩); try refine ⟨sConv, ?_⟩) | refine Dr.two ?_ ?_)
    exact ret1 rfl sRet sConv (hsame 10)
  rw [if_neg hrm]
  have ht : decide (((32 * w.N - w.pos - w.p : Nat) : Int) < ((nx + 7 : Nat) : Int)) = false := decide_eq_false (by omega)
  repeat (first | refine wWl1 ?_ | (refine kWl1 ?_; (first | rintro _ _ ⟨rfl, rfl⟩ | rintro _ _ ⟨_, rfl, rfl⟩ | rintro _ _ ⟨_, _, ⟨_, _⟩, rfl, rfl⟩); try refine ⟨sConv, ?_⟩) | refine Dr.two ?_ ?_)
  rename_i P2 pc2 k1 k2
  have hrm2 : w.m ≤ maxLen := by omega
  refine C.regionA 12 (.one 0 false (.one 1 false (.one 2 false (.one 3 false (.one 4 false (.one 6 false (.one 5 true (.one 7 true (.one 8 true (.one 9 true (.one 10 false (.one 11 false (.one 12 true .nil))))))))))))) ([blk g 107 [.pointer (some ⟨gd, 0, none⟩), .int .i64 (w.N : Int), .slice w.R w.m w.rc, .int .i64 (w.dur : Int), .int .i64 (w.pos : Int), .slice P2 (w.p + (nx + 7)) pc2]]) (by kernel_rfl) (by kernel_rfl) sConv ?_
  repeat (first | refine wWl1 ?_ | (refine kWl1 ?_; (first | rintro _ _ ⟨rfl, rfl⟩ | rintro _ _ ⟨_, rfl, rfl⟩ | rintro _ _ ⟨_, _, ⟨_, _⟩, rfl, rfl⟩); try refine ⟨sConv, ?_⟩) | refine Dr.two ?_ ?_)
  rename_i A3 c3 k3 k4
  refine Dr.goK rfl (by rintro k ⟨⟩ <;> decide) sGon (S.buildSlice1K (T := slT) (e := (⟨A3, nx, c3, b⟩ : Oc)) rfl rfl rfl rfl (by decide)) ?_; rintro _ _ ⟨_, rfl, rfl⟩; refine ⟨sConv, ?_⟩
  repeat (first | refine wWl1 ?_ | (refine kWl1 ?_; (first | rintro _ _ ⟨rfl, rfl⟩ | rintro _ _ ⟨_, rfl, rfl⟩ | rintro _ _ ⟨_, _, ⟨_, _⟩, rfl, rfl⟩); try refine ⟨sConv, ?_⟩) | refine Dr.two ?_ ?_)
  rename_i R2 rc2 k5 k6
  have hwide : ∀ x ∈ w.recs ++ [(⟨A3, nx, c3, b⟩ : Oc)], x.n = x.b.length ∧ x.b.length ≤ 4096 := by
    intro x hx
    rcases List.mem_append.1 hx with hx | hx
    · exact h.wide x hx
    · rw [List.mem_singleton] at hx
      subst hx
      exact ⟨hnx, by dsimp only; omega⟩
  refine postF_conv3 (Conv.push (f := oOc) (l := w.recs) (x := ⟨A3, nx, c3, b⟩) sPicks) ?_
  exact ret1 rfl sRet sConv (⟨⟨w.N, R2, w.m + 1, rc2, w.recs ++ [(⟨A3, nx, c3, b⟩ : Oc)], w.dur, w.pos, P2, w.p + (nx + 7), pc2, w.pend ++ Frm.fr b, w.dead, w.armed, w.wr, w.A, w.k, w.c, w.secs⟩, rfl, ⟨by dsimp only; rw [List.length_append, hwm]; rfl, by dsimp only; rw [List.length_append, Frm.fr_length, hwp, hnx], h.hk, hn1', hn1, h.len, h.a0, h.a1, h.w0, by dsimp only; omega, by dsimp only; omega, by dsimp only; omega, hwide⟩, by unfold WL.s; dsimp only; rw [List.map_append]; rfl, by dsimp only; omega, by dsimp only; omega, rfl⟩)
end
end Go.Proofs.Ytkhmplaocfjpjaa.Sep
