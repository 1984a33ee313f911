/- the document's log: made, room, appended, synced; by parts of memory. -/
import Derived.Test.YtkhmplaocfjpjaaRef12b
namespace Go.Proofs.Ytkhmplaocfjpjaa.Sep
open Go.RowKit Go.Proofs.Ytkhmplaocfjpjaa.Reg
open Go.Proofs.Ytkhmplaocfjpjaa.Mem hiding Rd Own
set_option maxRecDepth 100000
-- types: octT slT op12T
-- recs: rec_Disk plate_rec log_rec rdisk_rec rlog_rec op12_rec
set_option maxRecDepth 100000
set_option maxHeartbeats 6000000
def RPost (g e : Nat) (w : RL) (z : Int × LS) (K : Int) : Ending → List Asn → Prop := fun r H' =>
  ∃ w' : RL, r = .returned (.int .i64 z.1) ∧ w'.ok ∧ w'.s = z.2 ∧ w'.wr ≤ w.wr + K ∧ w'.m ≤ w.m + 1 ∧ H' = rst g e w'
theorem Dr.goZc {P : Program} {N : Nat} {E : Env} {z : Nat} {Q : QF} {F : Nat → Value} {H : List Asn} {todo : Td} {l : List Oper} {Hk : List Asn} {d : Option Nat} {op : Op} {ty : TypeId} {pos : String} {af : Array Edge} {gd : Option (Nat × Bool)} (hi : nth l z = some ⟨d, op, ty, pos, af, gd⟩) (hd : ∀ k, d = some k → k < N) (hg : Grd l N F true gd)
    (h : Stp P N E F H ⟨d, op, ty, pos, af, gd⟩ fun v H' => DrA P N E z l Q todo (updo F d v) H') : Dr P N E z l Q Hk (.one z true todo) F H := Dr.goZs hi hd hg h fun _ _ hk => hk
section
variable (E : Env) (g e : Nat) (w : RL)
theorem rnew (k : Nat) (hk0 : 1 ≤ k) (hk1 : k ≤ 64) : Tri Try.prog E 56 #[.int .i64 (k : Int)] [] fun r H' => ∃ (g e : Nat) (w : RL), r = .returned (.pointer (some ⟨g, 0, none⟩)) ∧ w.ok ∧ w.s = LS.new k ∧ w.wr = 0 ∧ w.m = 0 ∧ H' = rst g e w := by
  have e1 : IntKind.i64.wrap (2 * (k : Int)) = 2 * (k : Int) := IntWalk.i64_in _ (by omega)
  have e2 : IntKind.i64.wrap (2 * (k : Int) + 1) = 2 * (k : Int) + 1 := IntWalk.i64_in _ (by omega)
  have e3 : IntKind.i64.wrap (32 * (2 * (k : Int) + 1)) = ((32 * (2 * k + 1) : Nat) : Int) := by rw [IntWalk.i64_in _ (by omega)]; omega
  refine tri Try.func56 rfl Try.ntmps56 (by simp) ?_
  repeat (first | refine wRf12 ?_ | (refine kRf12 ?_; (first | rintro _ _ ⟨rfl, rfl⟩ | rintro _ _ ⟨_, rfl, rfl⟩ | rintro _ _ ⟨_, _, ⟨_, _⟩, rfl, rfl⟩); try refine ⟨sConv, ?_⟩) | refine Dr.two ?_ ?_)
  rename_i gB ge gg
  have hW : rst gg ge ⟨k, 0, none, 0, 0, [], 0, none, 0, 0, [], some ⟨gB, 0, none⟩, 32 * (2 * k + 1), 32 * (2 * k + 1), List.replicate (32 * (2 * k + 1)) octT_z, -1, false, 0⟩ = [blk gg 159 [.pointer (some ⟨ge, 0, none⟩), .int .i64 (k : Int), .int .i64 0, .slice none 0 0, .int .i64 0, .slice none 0 0], own slT none 0 0 [], each oOc [], own octT none 0 0 [], blk ge 157 [.slice (some ⟨gB, 0, none⟩) (32 * (2 * k + 1)) (32 * (2 * k + 1)), .int .i64 (-1), .bool false, .int .i64 0], own octT (some ⟨gB, 0, none⟩) (32 * (2 * k + 1)) (32 * (2 * k + 1)) (List.replicate (32 * (2 * k + 1)) octT_z)] := rfl
  refine postF_conv3 (Conv.nil0 octT none) ?_
  refine postF_conv3 (Conv.each0 oOc) ?_
  refine postF_conv3 (Conv.nil0 slT none) ?_
  refine postF_conv3 (H1 := rst gg ge ⟨k, 0, none, 0, 0, [], 0, none, 0, 0, [], some ⟨gB, 0, none⟩, 32 * (2 * k + 1), 32 * (2 * k + 1), List.replicate (32 * (2 * k + 1)) octT_z, -1, false, 0⟩) (by rw [hW]; exact sConv) ?_
  exact ret1 rfl sRet sConv (⟨gg, ge, ⟨k, 0, none, 0, 0, [], 0, none, 0, 0, [], some ⟨gB, 0, none⟩, 32 * (2 * k + 1), 32 * (2 * k + 1), List.replicate (32 * (2 * k + 1)) octT_z, -1, false, 0⟩, rfl, ⟨rfl, rfl, List.length_replicate.symm, hk0, hk1, rfl, by dsimp only; omega, by dsimp only; omega, Int.le_refl _, by show 0 + 0 ≤ _; omega, Nat.zero_le _, Nat.le_refl _, fun x hx => (List.not_mem_nil hx).elim⟩, rfl, rfl, rfl, rfl⟩)
theorem rroom (h : w.ok) : Tri Try.prog E 101 #[.pointer (some ⟨g, 0, none⟩)] [rlg g e w] fun r H' => r = .returned (.int .i64 ((32 * w.N - w.pos - w.p : Nat) : Int)) ∧ H' = [rlg g e w] := by
  have hmax : maxLen = 9223372036854775807 := rfl
  have h1 := h.n1
  have h2 := h.fit
  have h3 := h.hp
  have e1 : IntKind.i64.wrap (32 * (w.N : Int)) = 32 * (w.N : Int) := IntWalk.i64_in _ (by omega)
  have e2 : IntKind.i64.wrap (32 * (w.N : Int) - (w.pos : Int)) = 32 * (w.N : Int) - (w.pos : Int) := IntWalk.i64_in _ (by omega)
  have e3 : IntKind.i64.wrap (32 * (w.N : Int) - (w.pos : Int) - (w.p : Int)) = ((32 * w.N - w.pos - w.p : Nat) : Int) := by rw [IntWalk.i64_in _ (by omega)]; omega
  have hp : w.p ≤ maxLen := by omega
  refine tri Try.func101 rfl Try.ntmps101 (by simp) ?_
  repeat (first | refine wRf12 ?_ | (refine kRf12 ?_; (first | rintro _ _ ⟨rfl, rfl⟩ | rintro _ _ ⟨_, rfl, rfl⟩ | rintro _ _ ⟨_, _, ⟨_, _⟩, rfl, rfl⟩); try refine ⟨sConv, ?_⟩) | refine Dr.two ?_ ?_)
  refine C.regionA 100000 (.one 0 false (.one 1 false (.one 2 false (.one 3 false (.one 4 false (.one 5 false (.one 6 false (.one 7 false (.one 8 false (.one 9 false (.one 10 false (.one 11 false (.one 12 false (.one 13 false (.one 14 false (.one 15 false (.one 16 false .nil))))))))))))))))) _ (by kernel_rfl) (by kernel_rfl) Conv.refl ?_
  repeat (first | refine wRf12 ?_ | (refine kRf12 ?_; (first | rintro _ _ ⟨rfl, rfl⟩ | rintro _ _ ⟨_, rfl, rfl⟩ | rintro _ _ ⟨_, _, ⟨_, _⟩, rfl, rfl⟩); try refine ⟨sConv, ?_⟩) | refine Dr.two ?_ ?_)
  exact ret1 rfl sRet sConv (⟨rfl, rfl⟩)
theorem rappend (h : w.ok) (hrl : w.m + 1 ≤ 100000) (X : Option Addr) (nx cx : Nat) (b : List UInt8) (hr : Rd E octT X nx cx b) :
    Tri Try.prog E 97 #[.pointer (some ⟨g, 0, none⟩), .slice X nx cx] (rst g e w) (RPost g e w (w.s.append b) 0) := by
  have hmax : maxLen = 9223372036854775807 := rfl
  have hnx := hr.len
  have hcx := hr.cap
  have hn1' := h.n0
  have hn1 := h.n1
  have hfit := h.fit
  have hdur := h.dur
  have hwm := h.hm
  have hwp := h.hp
  have hplm : w.p ≤ maxLen := by omega
  have hap : w.s.append b = if b.length = 0 then (4, w.s) else if 4096 < b.length then (5, w.s) else if 32 * w.N - w.pos - w.pend.length < b.length + 7 then (10, w.s) else (0, ⟨w.N, w.D, w.recs.map (·.b) ++ [b], w.dur, w.pos, w.pend ++ Frm.fr b, w.dead, w.F⟩) := rfl
  have hsame : ∀ z : Int, RPost g e w (z, w.s) 0 (.returned (.int .i64 z)) (rst g e w) := fun z => ⟨w, rfl, h, rfl, by omega, by omega, rfl⟩
  rw [hap]
  refine tri Try.func97 rfl Try.ntmps97 (by simp) ?_
  by_cases h0 : b.length = 0
  · rw [if_pos h0]
    repeat (first | refine wRf12 ?_ | (refine kRf12 ?_; (first | rintro _ _ ⟨rfl, rfl⟩ | rintro _ _ ⟨_, rfl, rfl⟩ | rintro _ _ ⟨_, _, ⟨_, _⟩, rfl, rfl⟩); try refine ⟨sConv, ?_⟩) | refine Dr.two ?_ ?_)
    exact ret1 rfl sRet sConv (hsame 4)
  rw [if_neg h0]
  by_cases h5 : 4096 < b.length
  · rw [if_pos h5]
    repeat (first | refine wRf12 ?_ | (refine kRf12 ?_; (first | rintro _ _ ⟨rfl, rfl⟩ | rintro _ _ ⟨_, rfl, rfl⟩ | rintro _ _ ⟨_, _, ⟨_, _⟩, rfl, rfl⟩); try refine ⟨sConv, ?_⟩) | refine Dr.two ?_ ?_)
    exact ret1 rfl sRet sConv (hsame 5)
  rw [if_neg h5]
  repeat (first | refine wRf12 ?_ | (refine kRf12 ?_; (first | rintro _ _ ⟨rfl, rfl⟩ | rintro _ _ ⟨_, rfl, rfl⟩ | rintro _ _ ⟨_, _, ⟨_, _⟩, rfl, rfl⟩); try refine ⟨sConv, ?_⟩) | refine Dr.two ?_ ?_)
  refine L.step (by decide) (S.call rfl rfl Try.func124 (by kernel_rfl) rfl sPicks (fun E' hE => rputf E' X nx cx b sRd (by omega)) ?_)
  rintro r H' ⟨A1, c1, rfl, rfl⟩
  refine ⟨_, rfl, _, sCat, ?_⟩
  have hn7 : nx + 7 ≤ maxLen := by omega
  repeat (first | refine wRf12 ?_ | (refine kRf12 ?_; (first | rintro _ _ ⟨rfl, rfl⟩ | rintro _ _ ⟨_, rfl, rfl⟩ | rintro _ _ ⟨_, _, ⟨_, _⟩, rfl, rfl⟩); try refine ⟨sConv, ?_⟩) | refine Dr.two ?_ ?_)
  refine L.step (by decide) (S.call rfl rfl Try.func101 (by kernel_rfl) rfl sPicks (fun E' hE => rroom E' g e w h) ?_)
  rintro r H' ⟨rfl, rfl⟩
  refine ⟨_, rfl, _, sCat, ?_⟩
  rw [← hwp]
  by_cases hrm : 32 * w.N - w.pos - w.p < b.length + 7
  · rw [if_pos hrm]
    have ht : decide (((32 * w.N - w.pos - w.p : Nat) : Int) < ((nx + 7 : Nat) : Int)) = true := decide_eq_true (by omega)
    repeat (first | refine wRf12 ?_ | (refine kRf12 ?_; (first | rintro _ _ ⟨rfl, rfl⟩ | rintro _ _ ⟨_, rfl, rfl⟩ | rintro _ _ ⟨_, _, ⟨_, _⟩, rfl, rfl⟩); try refine ⟨sConv, ?_⟩) | refine Dr.two ?_ ?_)
    exact ret1 rfl sRet sConv (hsame 10)
  rw [if_neg hrm]
  have ht : decide (((32 * w.N - w.pos - w.p : Nat) : Int) < ((nx + 7 : Nat) : Int)) = false := decide_eq_false (by omega)
  repeat (first | refine wRf12 ?_ | (refine kRf12 ?_; (first | rintro _ _ ⟨rfl, rfl⟩ | rintro _ _ ⟨_, rfl, rfl⟩ | rintro _ _ ⟨_, _, ⟨_, _⟩, rfl, rfl⟩); try refine ⟨sConv, ?_⟩) | refine Dr.two ?_ ?_)
  rename_i P2 pc2 k1 k2
  have hrm2 : w.m ≤ maxLen := by omega
  refine C.regionA 12 (.one 0 false (.one 1 false (.one 2 false (.one 3 false (.one 4 false (.one 6 false (.one 5 true (.one 7 true (.one 8 true (.one 9 true (.one 10 false (.one 11 false (.one 12 true .nil))))))))))))) ([blk g 159 [.pointer (some ⟨e, 0, none⟩), .int .i64 (w.N : Int), .int .i64 (w.pos : Int), .slice w.R w.m w.rc, .int .i64 (w.dur : Int), .slice P2 (w.p + (nx + 7)) pc2]]) (by kernel_rfl) (by kernel_rfl) sConv ?_
  repeat (first | refine wRf12 ?_ | (refine kRf12 ?_; (first | rintro _ _ ⟨rfl, rfl⟩ | rintro _ _ ⟨_, rfl, rfl⟩ | rintro _ _ ⟨_, _, ⟨_, _⟩, rfl, rfl⟩); try refine ⟨sConv, ?_⟩) | refine Dr.two ?_ ?_)
  rename_i A3 c3 k3 k4
  refine Dr.goK rfl (by rintro k ⟨⟩ <;> decide) sGon (S.buildSlice1K (T := slT) (e := (⟨A3, nx, c3, b⟩ : Oc)) rfl rfl rfl rfl (by decide)) ?_; rintro _ _ ⟨_, rfl, rfl⟩; refine ⟨sConv, ?_⟩
  repeat (first | refine wRf12 ?_ | (refine kRf12 ?_; (first | rintro _ _ ⟨rfl, rfl⟩ | rintro _ _ ⟨_, rfl, rfl⟩ | rintro _ _ ⟨_, _, ⟨_, _⟩, rfl, rfl⟩); try refine ⟨sConv, ?_⟩) | refine Dr.two ?_ ?_)
  rename_i R2 rc2 k5 k6
  have hwide : ∀ x ∈ w.recs ++ [(⟨A3, nx, c3, b⟩ : Oc)], x.n = x.b.length ∧ x.b.length ≤ 4096 := by
    intro x hx
    rcases List.mem_append.1 hx with hx | hx
    · exact h.wide x hx
    · rw [List.mem_singleton] at hx
      subst hx
      exact ⟨hnx, by dsimp only; omega⟩
  refine postF_conv3 (Conv.push (f := oOc) (l := w.recs) (x := ⟨A3, nx, c3, b⟩) sPicks) ?_
  exact ret1 rfl sRet sConv (⟨⟨w.N, w.pos, R2, w.m + 1, rc2, w.recs ++ [(⟨A3, nx, c3, b⟩ : Oc)], w.dur, P2, w.p + (nx + 7), pc2, w.pend ++ Frm.fr b, w.B, w.k, w.bc, w.D, w.F, w.dead, w.wr⟩, rfl, ⟨by dsimp only; rw [List.length_append, hwm]; rfl, by dsimp only; rw [List.length_append, Frm.fr_length, hwp, hnx], h.hk, hn1', hn1, h.len, h.a0, h.a1, h.w0, by dsimp only; rw [List.length_append, Frm.fr_length]; omega, by dsimp only; omega, by dsimp only; omega, hwide⟩, by unfold RL.s; dsimp only; rw [List.map_append]; rfl, by dsimp only; omega, by dsimp only; omega, rfl⟩)
theorem rsync (h : w.ok) (hwr : w.wr ≤ 900000) : Tri Try.prog E 98 #[.pointer (some ⟨g, 0, none⟩)] (rst g e w) (RPost g e w w.s.sync 2048) := by
  have hmax : maxLen = 9223372036854775807 := rfl
  have hn0 := h.n0
  have hn1 := h.n1
  have hlen := h.len
  have hfit := h.fit
  have hdur := h.dur
  have hrecs := h.recs
  have hwm := h.hm
  have hwp := h.hp
  have hwk := h.hk
  have hk1 : 32 ≤ w.k := by omega
  have hk2 : w.k ≤ 10000 := by omega
  have hplm : w.p ≤ maxLen := by omega
  have hrlm : w.m ≤ maxLen := by omega
  have hge := larm_ge h.a0 w.pos w.p
  have hle := larm_le h.a1 w.pos w.p
  have hin : hfrom w.N (hb w.D) + w.pos + w.pend.length ≤ w.D.length := by have := hfrom_le (N := w.N) (hb_le w.D); omega
  have hsy : w.s.sync = if w.dead = true then (19, w.s) else if lcut w.F w.pos w.pend.length = true then (19, ⟨w.N, sp w.D (hfrom w.N (hb w.D) + w.pos) (w.pend.take (lq w.F w.pos w.pend.length)), w.recs.map (·.b), w.dur, w.pos, w.pend, true, larm w.F w.pos w.pend.length⟩)
    else (0, ⟨w.N, sp w.D (hfrom w.N (hb w.D) + w.pos) w.pend, w.recs.map (·.b), (w.recs.map (·.b)).length, w.pos + w.pend.length, [], false, larm w.F w.pos w.pend.length⟩) := rfl
  rw [← hwp, List.length_map, ← hwm] at hsy
  rw [hsy]
  refine tri Try.func98 rfl Try.ntmps98 (by simp) ?_
  rcases Bool.eq_false_or_eq_true w.dead with hd | hd
  · rw [if_pos hd]
    have hpost : RPost g e w (19, w.s) 2048 (.returned (.int .i64 19)) (rst g e w) := ⟨w, rfl, h, rfl, by omega, by omega, rfl⟩
    repeat (first | refine wRf12 ?_ | (refine kRf12 ?_; (first | rintro _ _ ⟨rfl, rfl⟩ | rintro _ _ ⟨_, rfl, rfl⟩ | rintro _ _ ⟨_, _, ⟨_, _⟩, rfl, rfl⟩); try refine ⟨sConv, ?_⟩) | refine Dr.two ?_ ?_)
    refine C.regionA 100000 (.one 0 false (.one 1 false (.one 2 false (.one 3 false (.one 4 false (.one 5 false (.one 6 false (.one 7 false (.one 8 false (.one 9 false (.one 11 false (.one 12 false (.one 13 false (.one 14 false (.one 15 false (.one 16 false (.one 17 false (.one 18 false (.one 10 true (.one 19 true (.one 20 false (.one 21 false .nil)))))))))))))))))))))) ([rlg g e w, rdk e w.B w.k w.bc w.F w.dead w.wr]) (by kernel_rfl) (by kernel_rfl) sConv ?_
    repeat (first | refine wRf12 ?_ | (refine kRf12 ?_; (first | rintro _ _ ⟨rfl, rfl⟩ | rintro _ _ ⟨_, rfl, rfl⟩ | rintro _ _ ⟨_, _, ⟨_, _⟩, rfl, rfl⟩); try refine ⟨sConv, ?_⟩) | refine Dr.two ?_ ?_)
    exact ret1 rfl sRet sConv (hpost)
  rw [if_neg (by rw [hd]; exact Bool.false_ne_true)]
  have hst : rst g e w = [rlg g e w, own slT w.R w.m w.rc w.recs, each oOc w.recs, own octT w.P w.p w.pc w.pend, rdk e w.B w.k w.bc w.F false w.wr, own octT w.B w.k w.bc w.D] := by
    show [_, _, _, _, rdk e w.B w.k w.bc w.F w.dead w.wr, _] = _
    rw [hd]
  rw [hst]
  repeat (first | refine wRf12 ?_ | (refine kRf12 ?_; (first | rintro _ _ ⟨rfl, rfl⟩ | rintro _ _ ⟨_, rfl, rfl⟩ | rintro _ _ ⟨_, _, ⟨_, _⟩, rfl, rfl⟩); try refine ⟨sConv, ?_⟩) | refine Dr.two ?_ ?_)
  refine C.regionA 19 (.one 0 false (.one 1 false (.one 2 false (.one 3 false (.one 4 false (.one 5 false (.one 6 false (.one 7 false (.one 8 false (.one 9 false (.one 11 false (.one 12 false (.one 13 false (.one 14 false (.one 15 false (.one 16 false (.one 17 false (.one 18 false (.one 10 true (.one 19 true (.one 20 true (.one 21 true .nil)))))))))))))))))))))) _ (by kernel_rfl) (by kernel_rfl) Conv.refl ?_
  repeat (first | refine wRf12 ?_ | (refine kRf12 ?_; (first | rintro _ _ ⟨rfl, rfl⟩ | rintro _ _ ⟨_, rfl, rfl⟩ | rintro _ _ ⟨_, _, ⟨_, _⟩, rfl, rfl⟩); try refine ⟨sConv, ?_⟩) | refine Dr.two ?_ ?_)
  refine Dr.go rfl (by rintro k ⟨⟩ <;> decide) sGon (S.call rfl rfl Try.func126 (by kernel_rfl) rfl sPicks (fun E' hE => rhalf E' g e w false hwk.symm hk1 hk2 hn1 false w.F w.wr) ?_)
  rw [if_neg Bool.false_ne_true]
  rintro r H' ⟨rfl, rfl⟩
  refine ⟨_, rfl, _, sCat, sConv, ?_⟩
  repeat (first | refine wRf12 ?_ | (refine kRf12 ?_; (first | rintro _ _ ⟨rfl, rfl⟩ | rintro _ _ ⟨_, rfl, rfl⟩ | rintro _ _ ⟨_, _, ⟨_, _⟩, rfl, rfl⟩); try refine ⟨sConv, ?_⟩) | refine Dr.two ?_ ?_)
  refine Dr.goZc rfl (by rintro k ⟨⟩ <;> decide) sGon (S.call rfl rfl Try.func125 (by kernel_rfl) rfl sPicks (fun E' hE => rlay E' g e w w.F w.wr w.D (hb w.D) w.pos w.P w.p w.pc w.pend (Sub.own hE sHas) hwk.symm hlen (hb_le _) hn1 h.a0 h.a1 h.w0 hwr hfit) ?_)
  unfold RLayPost
  rw [← hwp]
  rintro r H' ⟨wr', rfl, hw1, hw2, rfl⟩
  refine ⟨_, rfl, _, sCat, ?_⟩
  rcases Bool.eq_false_or_eq_true (lcut w.F w.pos w.p) with hc | hc
  · rw [if_pos hc, hc]
    repeat (first | refine wRf12 ?_ | (refine kRf12 ?_; (first | rintro _ _ ⟨rfl, rfl⟩ | rintro _ _ ⟨_, rfl, rfl⟩ | rintro _ _ ⟨_, _, ⟨_, _⟩, rfl, rfl⟩); try refine ⟨sConv, ?_⟩) | refine Dr.two ?_ ?_)
    exact ret1 rfl sRet sConv (⟨⟨w.N, w.pos, w.R, w.m, w.rc, w.recs, w.dur, w.P, w.p, w.pc, w.pend, w.B, w.k, w.bc, sp w.D (hfrom w.N (hb w.D) + w.pos) (w.pend.take (lq w.F w.pos w.p)), larm w.F w.pos w.p, true, wr'⟩, rfl, ⟨hwm, hwp, by dsimp only; rw [sp_length (by rw [List.length_take]; omega)]; exact hwk, hn0, hn1, hlen, hge, hle, by have := h.w0; dsimp only; omega, hfit, hrecs, hdur, h.wide⟩, rfl, hw2, by dsimp only; omega, rfl⟩)
  · rw [if_neg (by rw [hc]; exact Bool.false_ne_true), hc]
    have hq := lq_all hc
    rw [hq, List.take_of_length_le (by omega)]
    have hpl : IntKind.i64.wrap ((w.pos : Int) + (w.p : Int)) = ((w.pos + w.p : Nat) : Int) := by rw [IntWalk.i64_in _ (by omega)]; omega
    repeat (first | refine wRf12 ?_ | (refine kRf12 ?_; (first | rintro _ _ ⟨rfl, rfl⟩ | rintro _ _ ⟨_, rfl, rfl⟩ | rintro _ _ ⟨_, _, ⟨_, _⟩, rfl, rfl⟩); try refine ⟨sConv, ?_⟩) | refine Dr.two ?_ ?_)
    refine C.regionA 13 (.one 0 false (.one 1 false (.one 2 false (.one 3 false (.one 4 false (.one 5 false (.one 6 false (.one 7 false (.one 8 false (.one 9 false (.one 10 false (.one 11 false (.one 12 false (.one 13 true .nil)))))))))))))) _ (by kernel_rfl) (by kernel_rfl) Conv.refl ?_
    repeat (first | refine wRf12 ?_ | (refine kRf12 ?_; (first | rintro _ _ ⟨rfl, rfl⟩ | rintro _ _ ⟨_, rfl, rfl⟩ | rintro _ _ ⟨_, _, ⟨_, _⟩, rfl, rfl⟩); try refine ⟨sConv, ?_⟩) | refine Dr.two ?_ ?_)
    refine postF_conv3 (Conv.nil0 octT none) ?_
    exact ret1 rfl sRet sConv (⟨⟨w.N, w.pos + w.p, w.R, w.m, w.rc, w.recs, w.m, none, 0, 0, [], w.B, w.k, w.bc, sp w.D (hfrom w.N (hb w.D) + w.pos) w.pend, larm w.F w.pos w.p, false, wr'⟩, rfl, ⟨hwm, rfl, by dsimp only; rw [sp_length hin]; exact hwk, hn0, hn1, hlen, hge, hle, by have := h.w0; dsimp only; omega, by show w.pos + w.p + 0 ≤ 32 * w.N; omega, hrecs, Nat.le_refl _, h.wide⟩, rfl, hw2, by dsimp only; omega, rfl⟩)
end
end Go.Proofs.Ytkhmplaocfjpjaa.Sep
