/- the document's log: opened; by parts of memory. -/
import Derived.Test.YtkhmplaocfjpjaaRef12d
namespace Go.Proofs.Ytkhmplaocfjpjaa.Sep
open Go.RowKit Go.Proofs.Ytkhmplaocfjpjaa.Reg
open Go.Proofs.Ytkhmplaocfjpjaa.Mem hiding Rd Own
set_option maxRecDepth 100000
-- types: octT slT op12T
-- recs: rec_Disk plate_rec log_rec rdisk_rec rlog_rec op12_rec
set_option maxRecDepth 100000
set_option maxHeartbeats 6000000
theorem RdH.of_sub {α : Type} {T : Ty α} {E : Env} {H : List Asn} {A : Option Addr} {n c : Nat} {l : List α} (h : ∀ E', Sub E H E' → Rd E' T A n c l) : RdH E H T A n c l := fun w hw => by
  obtain ⟨E', _, hE, hst, _⟩ := St.enter (Hp := []) (R := H) hw
  exact RdH.rd (h E' hE) w hst
section
variable (E : Env) (e N : Nat) (B : Option Addr) (k bc : Nat) (D : List UInt8) (wr : Int)
theorem ropen (hk : k = D.length) (hkN : k = 32 * (2 * N + 1)) (hN0 : 1 ≤ N) (hN1 : N ≤ 64) (hbc : k ≤ bc ∧ bc ≤ maxLen) (hw : 0 ≤ wr) (hwr : wr ≤ 900000) :
    Tri Try.prog E 128 #[.pointer (some ⟨e, 0, none⟩)] [rdk e B k bc (-1) false wr, own octT B k bc D] fun r H' => ∃ (g : Nat) (w : RL), r = .returned (.tuple #[.pointer (some ⟨g, 0, none⟩), .bool true]) ∧ w.ok ∧ w.s = LS.open N D (-1) ∧ w.wr ≤ wr + 2048 ∧ w.m ≤ 4 * N ∧ H' = rst g e w := by
  have hmax : maxLen = 9223372036854775807 := rfl
  have hD : D.length = 32 * (2 * N + 1) := by omega
  unfold LS.open
  obtain ⟨h, hh⟩ : ∃ h, hb D = h := ⟨_, rfl⟩
  have hh1 : h ≤ 1 := by rw [← hh]; exact hb_le _
  have hot : otail D N = tend (hocts D N h) (Frm.upto (hocts D N h)) (32 * N) - Frm.upto (hocts D N h) := by unfold otail; rw [hh]
  have hXl := hocts_length (D := D) hD hh1
  have hf := hfrom_le (N := N) hh1
  rw [hh]
  obtain ⟨fo, hfo⟩ : ∃ fo, hfrom N h = fo := ⟨_, rfl⟩
  have hXcut : ((D.take (fo + 32 * N)).drop fo) = hocts D N h := by
    unfold hocts
    rw [hfo, List.drop_take, show fo + 32 * N - fo = 32 * N by omega]
  obtain ⟨X, hX⟩ : ∃ X, hocts D N h = X := ⟨_, rfl⟩
  rw [hX] at hot hXl hXcut ⊢
  have hff := frames_front X
  have hfc := Frm.frames_count X
  obtain ⟨p, hp⟩ : ∃ p, Frm.upto X = p := ⟨_, rfl⟩
  rw [hp] at hot hff ⊢
  obtain ⟨e0, he0⟩ : ∃ e, tend X p (32 * N) = e := ⟨_, rfl⟩
  rw [he0] at hot
  rw [hot, larm_free]
  have hpe : p ≤ e0 := by rw [← he0]; exact tend_ge (by have := hff.2.2; omega)
  have heN : e0 ≤ 32 * N := by rw [← he0]; exact tend_le _ _ _
  have q1 : IntKind.i64.wrap ((k : Int).tdiv 32) = ((2 * N + 1 : Nat) : Int) := by rw [Int.tdiv_eq_ediv_of_nonneg (by omega), IntWalk.i64_in _ (by omega)]; omega
  have q2 : IntKind.i64.wrap (((2 * N + 1 : Nat) : Int) - 1) = ((2 * N : Nat) : Int) := by rw [IntWalk.i64_in _ (by omega)]; omega
  have q3 : IntKind.i64.wrap (((2 * N : Nat) : Int).tdiv 2) = (N : Int) := by rw [Int.tdiv_eq_ediv_of_nonneg (by omega), IntWalk.i64_in _ (by omega)]; omega
  have q4 : IntKind.i64.wrap (32 * (N : Int)) = ((32 * N : Nat) : Int) := by rw [IntWalk.i64_in _ (by omega)]; omega
  have q5 : IntKind.i64.wrap ((fo : Int) + ((32 * N : Nat) : Int)) = ((fo + 32 * N : Nat) : Int) := by rw [IntWalk.i64_in _ (by omega)]; omega
  have hkm : k ≤ maxLen := by omega
  refine tri Try.func128 rfl Try.ntmps128 (by simp) ?_
  repeat (first | refine wRf12 ?_ | (refine kRf12 ?_; (first | rintro _ _ ⟨rfl, rfl⟩ | rintro _ _ ⟨_, rfl, rfl⟩ | rintro _ _ ⟨_, _, ⟨_, _⟩, rfl, rfl⟩); try refine ⟨sConv, ?_⟩) | refine Dr.two ?_ ?_)
  rename_i gg
  have hW0 : rlg gg e ⟨N, 0, none, 0, 0, [], 0, none, 0, 0, [], B, k, bc, D, -1, false, wr⟩ = blk gg 159 [.pointer (some ⟨e, 0, none⟩), .int .i64 (N : Int), .int .i64 0, .slice none 0 0, .int .i64 0, .slice none 0 0] := rfl
  refine L.conv (H' := [rlg gg e ⟨N, 0, none, 0, 0, [], 0, none, 0, 0, [], B, k, bc, D, -1, false, wr⟩, rdk e B k bc (-1) false wr, own octT B k bc D]) (by rw [hW0]; exact sConv) ?_
  refine L.step (by decide) (S.call rfl rfl Try.func126 (by kernel_rfl) rfl sPicks (fun E' hE => rhalf E' gg e ⟨N, 0, none, 0, 0, [], 0, none, 0, 0, [], B, k, bc, D, -1, false, wr⟩ false hk.symm (by show 32 ≤ k; omega) (by show k ≤ 10000; omega) hN1 false (-1) wr) ?_)
  dsimp only
  rw [if_neg Bool.false_ne_true, hh, hfo, hW0]
  rintro r H' ⟨rfl, rfl⟩
  refine ⟨_, rfl, _, sCat, ?_⟩
  repeat (first | refine wRf12 ?_ | (refine kRf12 ?_; (first | rintro _ _ ⟨rfl, rfl⟩ | rintro _ _ ⟨_, rfl, rfl⟩ | rintro _ _ ⟨_, _, ⟨_, _⟩, rfl, rfl⟩); try refine ⟨sConv, ?_⟩) | refine Dr.two ?_ ?_)
  refine C.regionA 100000 (.one 0 false (.one 1 false (.one 2 false (.one 3 false (.one 4 false (.one 5 false (.one 6 false (.one 7 false (.one 8 false (.one 9 false (.one 10 false (.one 11 false (.one 12 false (.one 13 false .nil)))))))))))))) _ (by kernel_rfl) (by kernel_rfl) Conv.refl ?_
  repeat (first | refine wRf12 ?_ | (refine kRf12 ?_; (first | rintro _ _ ⟨rfl, rfl⟩ | rintro _ _ ⟨_, rfl, rfl⟩ | rintro _ _ ⟨_, _, ⟨_, _⟩, rfl, rfl⟩); try refine ⟨sConv, ?_⟩) | refine Dr.two ?_ ?_)
  have hsub : fo + 32 * N - fo = 32 * N := by omega
  refine L.step (by decide) (S.call rfl rfl Try.func143 (by kernel_rfl) rfl sPicks (fun E' hE => rallf E' (if bc = fo then B else B.map (·.add (fo * octT.size))) (fo + 32 * N - fo) (bc - fo) ((D.take (fo + 32 * N)).drop fo) (Rd.cut (Sub.own hE sHas) (by omega) (by omega)) (by omega)) ?_)
  rw [hXcut, hp, hsub]
  rintro r H' ⟨O, co, xs, rfl, rfl, hxs, hins⟩
  refine ⟨_, rfl, _, sCat, ?_⟩
  have hcv : ∀ E2, Rd E2 octT B k bc D → Ins E2 xs := fun E2 h2 => hins E2 (by
    have h3 := Rd.cut h2 (j := fo) (m := fo + 32 * N) (by omega) (by omega)
    rw [hsub, hXcut] at h3
    exact h3)
  have hrX : ∀ E2, Rd E2 octT B k bc D → Rd E2 octT (if bc = fo then B else B.map (·.add (fo * octT.size))) (32 * N) (bc - fo) X := fun E2 h2 => by
    have h3 := Rd.cut h2 (j := fo) (m := fo + 32 * N) (by omega) (by omega)
    rw [hsub, hXcut] at h3
    exact h3
  refine L.fact (p := ∀ x ∈ xs, x.n = x.b.length) (fun w hw x hx => ((RdH.of_sub fun E2 hE2 => hcv E2 (Sub.own hE2 sHas) x hx) w hw).1) fun hxn => ?_
  have hxl : xs.length = (Frm.frames X).length := by rw [← hxs, List.length_map]
  have hxm : xs.length ≤ maxLen := by omega
  have hox : ∀ x ∈ xs, 1 ≤ x.b.length ∧ x.b.length ≤ 4096 := fun x hx => hff.2.1 x.b (by rw [← hxs]; exact List.mem_map_of_mem hx)
  repeat ((fail_if_success (refine C.seq (x := Code.region 5 _ _) ?_)); first | refine vRf12 ?_ | (refine kRf12 ?_; (first | rintro _ _ ⟨rfl, rfl⟩ | rintro _ _ ⟨_, rfl, rfl⟩ | rintro _ _ ⟨_, _, ⟨_, _⟩, rfl, rfl⟩); try refine ⟨sConv, ?_⟩) | refine Dr.two ?_ ?_)
  refine C.mid (X := Option Addr × Nat × List Oc) (fun x => [(4, .pointer (some ⟨gg, 0, none⟩)), (5, .int .i64 (fo : Int)), (6, .slice (if bc = fo then B else B.map (·.add (fo * octT.size))) (32 * N) (bc - fo)), (7, .slice O xs.length co), (8, .int .i64 (p : Int))])
    (fun x => [blk gg 159 [.pointer (some ⟨e, 0, none⟩), .int .i64 (N : Int), .int .i64 0, .slice x.1 xs.length x.2.1, .int .i64 0, .slice none 0 0], own slT x.1 xs.length x.2.1 x.2.2, each oOc x.2.2, rdk e B k bc (-1) false wr, own octT B k bc D]) (fun x => x.2.2.length = xs.length ∧ x.2.2.map Oc.b = xs.map Oc.b ∧ ∀ y ∈ x.2.2, y.n = y.b.length ∧ y.b.length ≤ 4096) ?_ ?_
  · repeat (first | refine wRf12 ?_ | (refine kRf12 ?_; (first | rintro _ _ ⟨rfl, rfl⟩ | rintro _ _ ⟨_, rfl, rfl⟩ | rintro _ _ ⟨_, _, ⟨_, _⟩, rfl, rfl⟩); try refine ⟨sConv, ?_⟩) | refine Dr.two ?_ ?_)
    refine C.loop (X := Nat × Option Addr × Nat × List Oc) (fun x => [(4, .pointer (some ⟨gg, 0, none⟩)), (5, .int .i64 (fo : Int)), (6, .slice (if bc = fo then B else B.map (·.add (fo * octT.size))) (32 * N) (bc - fo)), (7, .slice O xs.length co), (8, .int .i64 (p : Int)), (9, .int .i64 x.1)])
      (fun x => [blk gg 159 [.pointer (some ⟨e, 0, none⟩), .int .i64 (N : Int), .int .i64 0, .slice x.2.1 x.1 x.2.2.1, .int .i64 0, .slice none 0 0], own slT O xs.length co xs, own slT x.2.1 x.1 x.2.2.1 x.2.2.2, each oOc x.2.2.2, rdk e B k bc (-1) false wr, own octT B k bc D]) (fun x => x.1 ≤ xs.length ∧ x.2.2.2.length = x.1 ∧ x.2.2.2.map Oc.b = (xs.take x.1).map Oc.b ∧ ∀ y ∈ x.2.2.2, y.n = y.b.length ∧ y.b.length ≤ 4096) (fun x => xs.length - x.1) (0, none, 0, []) sHolds ((Conv.each0 oOc).trans ((Conv.nil0 slT none).trans sConv)) ⟨Nat.zero_le _, rfl, rfl, fun y hy => (List.not_mem_nil hy).elim⟩ ?_
    rintro ⟨i, R, rc, rs⟩ G ⟨hi, hrl, hrm, hrw⟩
    dsimp only at hi hrl hrm hrw ⊢
    by_cases hlt : i < xs.length
    · obtain ⟨x, hx⟩ : ∃ x, xs[i]? = some x := ⟨_, List.getElem?_eq_getElem (by omega)⟩
      have hst : (xs.take (i + 1)).map Oc.b = (xs.take i).map Oc.b ++ [x.b] := by rw [List.take_succ_eq_append_getElem (by omega), List.map_append, (List.getElem?_eq_some_iff.1 hx).2]; rfl
      have hxb := hox x (List.mem_of_getElem? hx)
      have him : i ≤ maxLen := by omega
      repeat (first | refine wRf12 ?_ | (refine kRf12 ?_; (first | rintro _ _ ⟨rfl, rfl⟩ | rintro _ _ ⟨_, rfl, rfl⟩ | rintro _ _ ⟨_, _, ⟨_, _⟩, rfl, rfl⟩); try refine ⟨sConv, ?_⟩) | refine Dr.two ?_ ?_)
      refine C.regionA 15 (.one 0 false (.one 1 false (.one 2 false (.one 3 false (.one 4 false (.one 6 false (.one 7 false (.one 8 false (.one 9 false (.one 5 true (.one 10 true (.one 11 true (.one 12 true (.one 13 false (.one 14 false (.one 15 true .nil)))))))))))))))) ([blk gg 159 [.pointer (some ⟨e, 0, none⟩), .int .i64 (N : Int), .int .i64 0, .slice R i rc, .int .i64 0, .slice none 0 0], own slT O xs.length co xs]) (by kernel_rfl) (by kernel_rfl) sConv ?_
      repeat (first | refine wRf12 ?_ | (refine kRf12 ?_; (first | rintro _ _ ⟨rfl, rfl⟩ | rintro _ _ ⟨_, rfl, rfl⟩ | rintro _ _ ⟨_, _, ⟨_, _⟩, rfl, rfl⟩); try refine ⟨sConv, ?_⟩) | refine Dr.two ?_ ?_)
      have hxn2 := hxn x (List.mem_of_getElem? hx)
      refine Dr.goK rfl (by rintro k ⟨⟩ <;> decide) sGon (S.appendK (T := octT) (X := x.A) (nx := x.n) (cx := x.c) (l2 := x.b) rfl rfl rfl (n' := x.n) (Nat.zero_add _) (fun _ _ => sRepl) (RdH.of_sub fun E2 hE2 => (hcv E2 (Sub.own hE2 sHas)).at_ hx) (List.nil_append _) rfl (by_ := 1) rfl sOm sOm) ?_
      rintro _ _ ⟨A3, c3, ⟨k1, k2⟩, rfl, rfl⟩
      refine ⟨sConv, ?_⟩
      repeat (first | refine wRf12 ?_ | (refine kRf12 ?_; (first | rintro _ _ ⟨rfl, rfl⟩ | rintro _ _ ⟨_, rfl, rfl⟩ | rintro _ _ ⟨_, _, ⟨_, _⟩, rfl, rfl⟩); try refine ⟨sConv, ?_⟩) | refine Dr.two ?_ ?_)
      refine Dr.goK rfl (by rintro k ⟨⟩ <;> decide) sGon (S.buildSlice1K (T := slT) (e := (⟨A3, x.n, c3, x.b⟩ : Oc)) rfl rfl rfl rfl (by decide)) ?_; rintro _ _ ⟨_, rfl, rfl⟩; refine ⟨sConv, ?_⟩
      repeat (first | refine wRf12 ?_ | (refine kRf12 ?_; (first | rintro _ _ ⟨rfl, rfl⟩ | rintro _ _ ⟨_, rfl, rfl⟩ | rintro _ _ ⟨_, _, ⟨_, _⟩, rfl, rfl⟩); try refine ⟨sConv, ?_⟩) | refine Dr.two ?_ ?_)
      rename_i R2 rc2 k5 k6
      refine ⟨(i + 1, R2, rc2, rs ++ [(⟨A3, x.n, c3, x.b⟩ : Oc)]), sHolds, Conv.trans (Conv.push (f := oOc) (l := rs) (x := ⟨A3, x.n, c3, x.b⟩) sPicks) sConv, ⟨by dsimp only; omega, by dsimp only; rw [List.length_append, hrl]; rfl, by dsimp only; rw [hst, List.map_append, hrm]; rfl, fun y hy => ?_⟩, by dsimp only; omega⟩
      rcases List.mem_append.1 hy with hy | hy
      · exact hrw y hy
      · rw [List.mem_singleton] at hy
        subst hy
        exact ⟨hxn2, hxb.2⟩
    obtain rfl : i = xs.length := by omega
    rw [List.take_length] at hrm
    repeat (first | refine wRf12 ?_ | (refine kRf12 ?_; (first | rintro _ _ ⟨rfl, rfl⟩ | rintro _ _ ⟨_, rfl, rfl⟩ | rintro _ _ ⟨_, _, ⟨_, _⟩, rfl, rfl⟩); try refine ⟨sConv, ?_⟩) | refine Dr.two ?_ ?_)
    exact ⟨(R, rc, rs), sHolds, sConv, ⟨hrl, hrm, hrw⟩⟩
  rintro ⟨R, rc, rs⟩ G ⟨hrl, hrm, hrw⟩
  dsimp only at hrl hrm hrw ⊢
  have hXm : 32 * N ≤ maxLen := by omega
  repeat ((fail_if_success (refine C.seq (x := Code.region 11 _ _) ?_)); first | refine vRf12 ?_ | (refine kRf12 ?_; (first | rintro _ _ ⟨rfl, rfl⟩ | rintro _ _ ⟨_, rfl, rfl⟩ | rintro _ _ ⟨_, _, ⟨_, _⟩, rfl, rfl⟩); try refine ⟨sConv, ?_⟩) | refine Dr.two ?_ ?_)
  refine C.cut (X := Unit) (fun _ => [(4, .pointer (some ⟨gg, 0, none⟩)), (5, .int .i64 (fo : Int)), (6, .slice (if bc = fo then B else B.map (·.add (fo * octT.size))) (32 * N) (bc - fo)), (8, .int .i64 (p : Int)), (10, .int .i64 ((32 * N : Nat) : Int))]) (fun _ => [blk gg 159 [.pointer (some ⟨e, 0, none⟩), .int .i64 (N : Int), .int .i64 (p : Int), .slice R xs.length rc, .int .i64 (xs.length : Int), .slice none 0 0], own slT R xs.length rc rs, each oOc rs, rdk e B k bc (-1) false wr, own octT B k bc D]) (fun _ => True) ?_ ?_
  · repeat (first | refine wRf12 ?_ | (refine kRf12 ?_; (first | rintro _ _ ⟨rfl, rfl⟩ | rintro _ _ ⟨_, rfl, rfl⟩ | rintro _ _ ⟨_, _, ⟨_, _⟩, rfl, rfl⟩); try refine ⟨sConv, ?_⟩) | refine Dr.two ?_ ?_)
    exact ⟨(), sHolds, sConv, trivial⟩
  rintro - F0 -
  refine C.cut (X := Unit) (fun _ => [(4, .pointer (some ⟨gg, 0, none⟩)), (5, .int .i64 (fo : Int)), (6, .slice (if bc = fo then B else B.map (·.add (fo * octT.size))) (32 * N) (bc - fo)), (8, .int .i64 (p : Int)), (10, .int .i64 (e0 : Int))]) (fun _ => [blk gg 159 [.pointer (some ⟨e, 0, none⟩), .int .i64 (N : Int), .int .i64 (p : Int), .slice R xs.length rc, .int .i64 (xs.length : Int), .slice none 0 0], own slT R xs.length rc rs, each oOc rs, rdk e B k bc (-1) false wr, own octT B k bc D]) (fun _ => True) ?_ ?_
  · repeat (first | refine wRf12 ?_ | (refine kRf12 ?_; (first | rintro _ _ ⟨rfl, rfl⟩ | rintro _ _ ⟨_, rfl, rfl⟩ | rintro _ _ ⟨_, _, ⟨_, _⟩, rfl, rfl⟩); try refine ⟨sConv, ?_⟩) | refine Dr.two ?_ ?_)
    refine C.loop (X := Nat) (fun k' => [(4, .pointer (some ⟨gg, 0, none⟩)), (5, .int .i64 (fo : Int)), (6, .slice (if bc = fo then B else B.map (·.add (fo * octT.size))) (32 * N) (bc - fo)), (8, .int .i64 (p : Int)), (10, .int .i64 (k' : Int))])
      (fun _ => [blk gg 159 [.pointer (some ⟨e, 0, none⟩), .int .i64 (N : Int), .int .i64 (p : Int), .slice R xs.length rc, .int .i64 (xs.length : Int), .slice none 0 0], own slT R xs.length rc rs, each oOc rs, rdk e B k bc (-1) false wr, own octT B k bc D]) (fun k' => p ≤ k' ∧ k' ≤ 32 * N ∧ tend X p k' = e0) (fun k' => k') (32 * N) sHolds sConv ⟨by have := hff.2.2; omega, Nat.le_refl _, he0⟩ ?_
    rintro kk F ⟨hk0, hk1, hk2⟩
    by_cases hlt : p < kk
    · obtain ⟨k', rfl⟩ : ∃ k', kk = k' + 1 := ⟨kk - 1, by omega⟩
      obtain ⟨x, hx⟩ : ∃ x, X[k']? = some x := ⟨_, List.getElem?_eq_getElem (by omega)⟩
      have hxD : D[fo + k']? = some x := by
        rw [← hX, hocts_get (by omega), hfo] at hx
        exact hx
      have hxc : ((D.take (fo + 32 * N)).drop fo)[k']? = some x := by rw [hXcut]; exact hx
      have hs1 : IntKind.i64.wrap (((k' + 1 : Nat) : Int) - 1) = (k' : Int) := by rw [IntWalk.i64_in _ (by omega)]; omega
      by_cases hz : x = 0
      · have ht : decide ((x.toNat : Int) = 0) = true := by rw [hz]; rfl
        have hte : tend X p k' = e0 := by rw [← hk2]; conv => rhs; unfold tend; rw [if_pos ⟨hlt, by rw [hx, hz]⟩]
        repeat (first | refine wRf12 ?_ | (refine kRf12 ?_; (first | rintro _ _ ⟨rfl, rfl⟩ | rintro _ _ ⟨_, rfl, rfl⟩ | rintro _ _ ⟨_, _, ⟨_, _⟩, rfl, rfl⟩); try refine ⟨sConv, ?_⟩) | refine Dr.two ?_ ?_)
        try (apply L.on; (· exact rfl); (· decide); (· exact rfl); (· exact sTst))
        apply L.val; (· decide); (· exact Y.indexAddr (T := octT) (l := X) rfl rfl rfl (RdH.of_sub fun E2 hE2 => hrX E2 (Sub.own hE2 sHas)) sJ sOm hx sRfl sRfl)
        try (apply L.on; (· exact rfl); (· decide); (· exact rfl); (· exact sTst))
        apply L.val; (· decide); (· exact Y.loadElem (T := octT) (l := X) (e := x) rfl rfl (RdH.of_sub fun E2 hE2 => hrX E2 (Sub.own hE2 sHas)) hx sRfl sRfl)
        repeat (first | refine wRf12 ?_ | (refine kRf12 ?_; (first | rintro _ _ ⟨rfl, rfl⟩ | rintro _ _ ⟨_, rfl, rfl⟩ | rintro _ _ ⟨_, _, ⟨_, _⟩, rfl, rfl⟩); try refine ⟨sConv, ?_⟩) | refine Dr.two ?_ ?_)
        exact ⟨k', sHolds, sConv, ⟨by omega, by omega, hte⟩, by omega⟩
      · have hx0 : x.toNat ≠ 0 := fun h => hz (by rw [← UInt8.toNat_inj, h]; rfl)
        have ht : decide ((x.toNat : Int) = 0) = false := decide_eq_false (by omega)
        have hte : k' + 1 = e0 := by
          rw [← hk2]
          unfold tend
          rw [if_neg (fun h => hz (by have := h.2; rw [hx] at this; exact Option.some.inj this))]
        subst hte
        repeat (first | refine wRf12 ?_ | (refine kRf12 ?_; (first | rintro _ _ ⟨rfl, rfl⟩ | rintro _ _ ⟨_, rfl, rfl⟩ | rintro _ _ ⟨_, _, ⟨_, _⟩, rfl, rfl⟩); try refine ⟨sConv, ?_⟩) | refine Dr.two ?_ ?_)
        try (apply L.on; (· exact rfl); (· decide); (· exact rfl); (· exact sTst))
        apply L.val; (· decide); (· exact Y.indexAddr (T := octT) (l := X) rfl rfl rfl (RdH.of_sub fun E2 hE2 => hrX E2 (Sub.own hE2 sHas)) sJ sOm hx sRfl sRfl)
        try (apply L.on; (· exact rfl); (· decide); (· exact rfl); (· exact sTst))
        apply L.val; (· decide); (· exact Y.loadElem (T := octT) (l := X) (e := x) rfl rfl (RdH.of_sub fun E2 hE2 => hrX E2 (Sub.own hE2 sHas)) hx sRfl sRfl)
        repeat (first | refine wRf12 ?_ | (refine kRf12 ?_; (first | rintro _ _ ⟨rfl, rfl⟩ | rintro _ _ ⟨_, rfl, rfl⟩ | rintro _ _ ⟨_, _, ⟨_, _⟩, rfl, rfl⟩); try refine ⟨sConv, ?_⟩) | refine Dr.two ?_ ?_)
        exact ⟨(), sHolds, sConv, trivial⟩
    obtain rfl : kk = p := by omega
    have hte : kk = e0 := by
      rw [← hk2]
      cases kk with
      | zero => rfl
      | succ k => unfold tend; rw [if_neg (fun h => absurd h.1 (Nat.lt_irrefl _))]
    subst hte
    repeat (first | refine wRf12 ?_ | (refine kRf12 ?_; (first | rintro _ _ ⟨rfl, rfl⟩ | rintro _ _ ⟨_, rfl, rfl⟩ | rintro _ _ ⟨_, _, ⟨_, _⟩, rfl, rfl⟩); try refine ⟨sConv, ?_⟩) | refine Dr.two ?_ ?_)
    exact ⟨(), sHolds, sConv, trivial⟩
  rintro - F -
  have hsb : IntKind.i64.wrap ((e0 : Int) - (p : Int)) = ((e0 - p : Nat) : Int) := by rw [IntWalk.i64_in _ (by omega)]; omega
  repeat (first | refine wRf12 ?_ | (refine kRf12 ?_; (first | rintro _ _ ⟨rfl, rfl⟩ | rintro _ _ ⟨_, rfl, rfl⟩ | rintro _ _ ⟨_, _, ⟨_, _⟩, rfl, rfl⟩); try refine ⟨sConv, ?_⟩) | refine Dr.two ?_ ?_)
  rename_i gz
  rw [← hfo]
  have hoz : List.replicate (e0 - p) octT_z = List.replicate (e0 - p) (0 : UInt8) := rfl
  have hzl : (List.replicate (e0 - p) (0 : UInt8)).length = e0 - p := List.length_replicate
  have hz : p + (List.replicate (e0 - p) octT_z).length ≤ 32 * N := by rw [List.length_replicate]; omega
  have y1 : (-1 : Int) ≤ -1 := Int.le_refl _
  have y2 : (-1 : Int) ≤ 9223372036854775807 := by decide
  refine L.step (by decide) (S.call rfl rfl Try.func125 (by kernel_rfl) rfl sPicks (fun E' hE => rlay E' gg e ⟨N, p, R, xs.length, rc, rs, xs.length, none, 0, 0, [], B, k, bc, D, -1, false, wr⟩ (-1) wr D h p (some ⟨gz, 0, none⟩) (e0 - p) (e0 - p) (List.replicate (e0 - p) octT_z) (Sub.own hE sHas) hk.symm hkN hh1 hN1 y1 y2 hw hwr hz) ?_)
  unfold RLayPost
  rw [hoz, hzl, lcut_free, larm_free, lq_all (lcut_free p (e0 - p)), List.take_of_length_le (by rw [hzl]; exact Nat.le_refl _)]
  dsimp only
  rintro r H' ⟨wr', rfl, hv1, hv2, rfl⟩
  refine ⟨_, rfl, _, sCat, ?_⟩
  repeat (first | refine wRf12 ?_ | (refine kRf12 ?_; (first | rintro _ _ ⟨rfl, rfl⟩ | rintro _ _ ⟨_, rfl, rfl⟩ | rintro _ _ ⟨_, _, ⟨_, _⟩, rfl, rfl⟩); try refine ⟨sConv, ?_⟩) | refine Dr.two ?_ ?_)
  refine postF_conv3 (Conv.nil0 octT none) ?_
  have hin : hfrom N h + p + (List.replicate (e0 - p) (0 : UInt8)).length ≤ D.length := by rw [hzl]; omega
  exact ret2 rfl sRet sRet sConv (⟨gg, ⟨N, p, R, xs.length, rc, rs, xs.length, none, 0, 0, [], B, k, bc, sp D (hfrom N h + p) (List.replicate (e0 - p) 0), -1, false, wr'⟩, rfl, ⟨hrl.symm, rfl, by dsimp only; rw [sp_length hin]; exact hk, hN0, hN1, hkN, y1, y2, by dsimp only; omega, by dsimp only [List.length_nil]; omega, by dsimp only; omega, Nat.le_refl _, hrw⟩, by unfold RL.s; dsimp only; rw [show rs.map (·.b) = rs.map Oc.b from rfl, hrm, hxs, hxl], by dsimp only; omega, by dsimp only; omega, rfl⟩)
end
end Go.Proofs.Ytkhmplaocfjpjaa.Sep
