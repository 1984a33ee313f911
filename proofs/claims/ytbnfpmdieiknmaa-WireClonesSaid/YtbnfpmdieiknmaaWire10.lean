/- the law of the wire: a clone goes on by itself. By parts of memory. -/
import Derived.Test.YtbnfpmdieiknmaaWire9
namespace Go.Proofs.Ytbnfpmdieiknmaa.Sep
open Go.RowKit Go.Proofs.Ytbnfpmdieiknmaa.Reg
open Go.Proofs.Ytbnfpmdieiknmaa.Mem hiding Rd Own
-- types: octT letT pltT op29T
-- recs: letT_rec wire_rec pltT_rec op29T_rec
-- funcs
-- flds
set_option maxRecDepth 100000
set_option maxHeartbeats 8000000
theorem clones29 (E : Env) (A : Option Addr) (n c : Nat) (l : List Op29) (hr : Rd E op29T A n c l) (hb : Bs E l) (hok : ∀ x ∈ l, x.ok)
    (B : Option Addr) (m d : Nat) (k : List Op29) (hr2 : Rd E op29T B m d k) (hb2 : Bs E k) (hok2 : ∀ x ∈ k, x.ok)
    (D : Option Addr) (p q : Nat) (j : List Op29) (hr3 : Rd E op29T D p q j) (hb3 : Bs E j) (hok3 : ∀ x ∈ j, x.ok)
    (X : Option Addr) (nx cx : Nat) (b : List UInt8) (hrb : Rd E octT X nx cx b) (hnx : nx ≤ 140737488355300) :
    Tri Try.prog E 10 #[.slice A n c, .slice B m d, .slice D p q, .slice X nx cx] [] fun r _ => r = .returned (.bool true) := by
  have hmax : maxLen = 9223372036854775807 := rfl
  have hbl := hrb.len
  refine tri Try.func10 rfl Try.ntmps10 (by simp) ?_
  repeat (first | refine wW29 ?_ | (refine kW29 ?_; (first | rintro _ _ ⟨rfl, rfl⟩ | rintro _ _ ⟨_, rfl, rfl⟩ | rintro _ _ ⟨_, _, ⟨_, _⟩, rfl, rfl⟩); try refine ⟨sConv, ?_⟩) | refine Dr.two ?_ ?_)
  refine L.step (by decide) (S.call rfl rfl Try.func22 (by kernel_rfl) rfl sPicks (fun E' hE => alive29 E') ?_)
  rintro r H' ⟨rfl, rfl⟩
  refine ⟨_, rfl, _, sCat, ?_⟩
  repeat (first | refine wW29 ?_ | (refine kW29 ?_; (first | rintro _ _ ⟨rfl, rfl⟩ | rintro _ _ ⟨_, rfl, rfl⟩ | rintro _ _ ⟨_, _, ⟨_, _⟩, rfl, rfl⟩); try refine ⟨sConv, ?_⟩) | refine Dr.two ?_ ?_)
  rename_i g1
  refine L.step (by decide) (S.call rfl rfl Try.func24 (by kernel_rfl) rfl sPicks (fun E' hE => few29_any E' A n c l (hr.sub hE) (hb.sub hE)) ?_)
  rintro r H' ⟨A1, n1, c1, rfl, -, -, -, rfl⟩
  refine ⟨_, rfl, _, sCat, ?_⟩
  repeat (first | refine wW29 ?_ | (refine kW29 ?_; (first | rintro _ _ ⟨rfl, rfl⟩ | rintro _ _ ⟨_, rfl, rfl⟩ | rintro _ _ ⟨_, _, ⟨_, _⟩, rfl, rfl⟩); try refine ⟨sConv, ?_⟩) | refine Dr.two ?_ ?_)
  refine L.step (by decide) (S.call rfl rfl Try.func45 (by kernel_rfl) rfl sPicks (fun E' hE => run29_new E' g1 A1 n1 c1 (few29 l) sRd (hb.few.sub hE) (few29_ok hok) few29_m) ?_)
  rintro r H' ⟨A2, n2, c2, ls, P, mp, dp, ps, rfl, hs, rfl⟩
  refine ⟨_, rfl, _, sCat, ?_⟩
  have hmn := hs.mn
  have h128 := hs.h128
  have hcc := hs.hc
  repeat (first | refine wW29 ?_ | (refine kW29 ?_; (first | rintro _ _ ⟨rfl, rfl⟩ | rintro _ _ ⟨_, rfl, rfl⟩ | rintro _ _ ⟨_, _, ⟨_, _⟩, rfl, rfl⟩); try refine ⟨sConv, ?_⟩) | refine Dr.two ?_ ?_)
  refine L.step (by decide) (S.call rfl rfl Try.func46 (by kernel_rfl) rfl sPicks (fun E' hE => wclone E' g1 A2 n2 c2 ls (RdW.of hE sHas sHas sHas) h128 hs.ok) ?_)
  unfold Clone29
  rintro r H' ⟨g3, A3, c3, ls3, rfl, hp3, hok3', hc3, rfl⟩
  refine ⟨_, rfl, _, sCat, ?_⟩
  have hs3 : St29 n2 c3 ls3 mp dp ps := ⟨by have := congrArg List.length hp3; rw [List.length_map, List.length_map, ← hs.hn] at this; exact this.symm, h128, hc3, hok3', hp3.trans hs.hp, hs.hm, hs.hd⟩
  repeat (first | refine wW29 ?_ | (refine kW29 ?_; (first | rintro _ _ ⟨rfl, rfl⟩ | rintro _ _ ⟨_, rfl, rfl⟩ | rintro _ _ ⟨_, _, ⟨_, _⟩, rfl, rfl⟩); try refine ⟨sConv, ?_⟩) | refine Dr.two ?_ ?_)
  rename_i g7 A7 c7 k1 k2
  by_cases hlt : n2 < 128
  · refine L.step (by decide) (S.call rfl rfl Try.func23 (by kernel_rfl) rfl sPicks (fun E' hE => wput E' g1 A2 n2 c2 ls 7 A7 nx c7 b hlt hs.hn sRd hnx) ?_)
    unfold Post29
    rintro r H' ⟨A4, c4, O, co, rfl, hc4, rfl⟩
    refine ⟨_, rfl, _, sCat, ?_⟩
    repeat (first | refine wW29 ?_ | (refine kW29 ?_; (first | rintro _ _ ⟨rfl, rfl⟩ | rintro _ _ ⟨_, rfl, rfl⟩ | rintro _ _ ⟨_, _, ⟨_, _⟩, rfl, rfl⟩); try refine ⟨sConv, ?_⟩) | refine Dr.two ?_ ?_)
    refine C.loop (X := Nat × List UInt8) (fun x => [(1, .slice B m d), (2, .slice D p q), (3, .slice X nx cx), (9, .pointer (some ⟨g1, 0, none⟩)), (10, .slice P mp dp), (11, .bool true), (12, .pointer (some ⟨g3, 0, none⟩)), (13, .slice A7 nx c7), (14, .bool true), (15, .int .i64 x.1)])
      (fun x => [wr g1 A4 (n2 + 1) c4, own letT A4 (n2 + 1) c4 (ls ++ [⟨7, O, nx, co, b, false⟩]), each lOc (ls ++ [⟨7, O, nx, co, b, false⟩]), own octT A7 nx c7 x.2, wr g3 A3 n2 c3, own letT A3 n2 c3 ls3, each lOc ls3, own pltT P mp dp ps]) (fun x => x.1 ≤ nx ∧ x.2.length = nx) (fun x => nx - x.1) (0, b) sHolds sConv ⟨Nat.zero_le _, hbl.symm⟩ ?_
    rintro ⟨i, z⟩ F ⟨hi, hz⟩
    dsimp only at hi hz ⊢
    by_cases hin : i < nx
    · obtain ⟨y, hy⟩ : ∃ y, z[i]? = some y := ⟨_, List.getElem?_eq_getElem (by omega)⟩
      repeat (first | refine wW29 ?_ | (refine kW29 ?_; (first | rintro _ _ ⟨rfl, rfl⟩ | rintro _ _ ⟨_, rfl, rfl⟩ | rintro _ _ ⟨_, _, ⟨_, _⟩, rfl, rfl⟩); try refine ⟨sConv, ?_⟩) | refine Dr.two ?_ ?_)
      exact ⟨(i + 1, _), sHolds, sConv, ⟨by dsimp only; omega, by dsimp only; rw [List.length_set]; exact hz⟩, by dsimp only; omega⟩
    obtain rfl : i = nx := by omega
    repeat (first | refine wW29 ?_ | (refine kW29 ?_; (first | rintro _ _ ⟨rfl, rfl⟩ | rintro _ _ ⟨_, rfl, rfl⟩ | rintro _ _ ⟨_, _, ⟨_, _⟩, rfl, rfl⟩); try refine ⟨sConv, ?_⟩) | refine Dr.two ?_ ?_)
    refine L.stepK (by decide) (S.buildSlice1K (T := pltT) (e := ⟨7, b, false⟩) rfl rfl rfl rfl (by decide)) ?_; rintro _ _ ⟨_, rfl, rfl⟩
    repeat (first | refine wW29 ?_ | (refine kW29 ?_; (first | rintro _ _ ⟨rfl, rfl⟩ | rintro _ _ ⟨_, rfl, rfl⟩ | rintro _ _ ⟨_, _, ⟨_, _⟩, rfl, rfl⟩); try refine ⟨sConv, ?_⟩) | refine Dr.two ?_ ?_)
    rename_i A9 c9 k3 k4
    have hs4 := hs.push (e := (⟨7, O, i, co, b, false⟩ : Letv)) (by omega) hbl hnx hc4 (d' := c9) ⟨k3, k4⟩
    have hw1 : IntKind.i64.wrap (((mp + 1 : Nat) : Int) - 1) = (mp : Int) := by rw [IntWalk.i64_in _ (by omega)]; omega
    have hp1 : mp + 1 ≤ maxLen := by omega
    have htk : (ps ++ [(⟨7, b, false⟩ : Plt)]).take mp = ps := by rw [hs.hm, List.take_left' rfl]
    have hs5 : St29 n2 c3 ls3 mp c9 ps := ⟨hs3.hn, hs3.h128, hs3.hc, hs3.ok, hs3.hp, hs3.hm, by omega⟩
    refine L.step (by decide) (S.call rfl rfl Try.func24 (by kernel_rfl) rfl sPicks (fun E' hE => few29_any E' B m d k (hr2.sub hE) (hb2.sub hE)) ?_)
    rintro r H' ⟨A5, n5, c5, rfl, -, -, -, rfl⟩
    refine ⟨_, rfl, _, sCat, ?_⟩
    repeat (first | refine wW29 ?_ | (refine kW29 ?_; (first | rintro _ _ ⟨rfl, rfl⟩ | rintro _ _ ⟨_, rfl, rfl⟩ | rintro _ _ ⟨_, _, ⟨_, _⟩, rfl, rfl⟩); try refine ⟨sConv, ?_⟩) | refine Dr.two ?_ ?_)
    refine L.step (by decide) (S.call rfl rfl Try.func45 (by kernel_rfl) rfl sPicks (fun E' hE => run29_keep E' g1 A4 (n2 + 1) c4 (ls ++ [(⟨7, O, i, co, b, false⟩ : Letv)]) A9 (mp + 1) c9 (ps ++ [(⟨7, b, false⟩ : Plt)]) hs4 A5 n5 c5 (few29 k) sRd (hb2.few.sub hE) (few29_ok hok2) few29_m) ?_)
    rintro r H' ⟨Z1, z2, z3, rfl, rfl⟩
    refine ⟨_, rfl, _, sCat, ?_⟩
    repeat (first | refine wW29 ?_ | (refine kW29 ?_; (first | rintro _ _ ⟨rfl, rfl⟩ | rintro _ _ ⟨_, rfl, rfl⟩ | rintro _ _ ⟨_, _, ⟨_, _⟩, rfl, rfl⟩); try refine ⟨sConv, ?_⟩) | refine Dr.two ?_ ?_)
    apply L.conv; (· exact Conv.ownBack (T := pltT) (A := A9) (n := mp + 1) (c := c9) (k := mp) (l := ps ++ [(⟨7, b, false⟩ : Plt)]) (by omega) htk sRepl)
    refine L.step (by decide) (S.call rfl rfl Try.func24 (by kernel_rfl) rfl sPicks (fun E' hE => few29_any E' D p q j (hr3.sub hE) (hb3.sub hE)) ?_)
    rintro r H' ⟨A6, n6, c6, rfl, -, -, -, rfl⟩
    refine ⟨_, rfl, _, sCat, ?_⟩
    repeat (first | refine wW29 ?_ | (refine kW29 ?_; (first | rintro _ _ ⟨rfl, rfl⟩ | rintro _ _ ⟨_, rfl, rfl⟩ | rintro _ _ ⟨_, _, ⟨_, _⟩, rfl, rfl⟩); try refine ⟨sConv, ?_⟩) | refine Dr.two ?_ ?_)
    refine L.step (by decide) (S.call rfl rfl Try.func45 (by kernel_rfl) rfl sPicks (fun E' hE => run29_keep E' g3 A3 n2 c3 ls3 A9 mp c9 ps hs5 A6 n6 c6 (few29 j) sRd (hb3.few.sub hE) (few29_ok hok3) few29_m) ?_)
    rintro r H' ⟨Y1, y2, y3, rfl, rfl⟩
    refine ⟨_, rfl, _, sCat, ?_⟩
    repeat (first | refine wW29 ?_ | (refine kW29 ?_; (first | rintro _ _ ⟨rfl, rfl⟩ | rintro _ _ ⟨_, rfl, rfl⟩ | rintro _ _ ⟨_, _, ⟨_, _⟩, rfl, rfl⟩); try refine ⟨sConv, ?_⟩) | refine Dr.two ?_ ?_)
    refine L.step (by decide) (S.call rfl rfl Try.func29 (by kernel_rfl) rfl sPicks (fun E' hE => wtake_nil E' 0) ?_)
    rintro r H' ⟨rfl, rfl⟩
    refine ⟨_, rfl, _, sCat, ?_⟩
    repeat (first | refine wW29 ?_ | (refine kW29 ?_; (first | rintro _ _ ⟨rfl, rfl⟩ | rintro _ _ ⟨_, rfl, rfl⟩ | rintro _ _ ⟨_, _, ⟨_, _⟩, rfl, rfl⟩); try refine ⟨sConv, ?_⟩) | refine Dr.two ?_ ?_)
    refine L.step (by decide) (S.call rfl rfl Try.func23 (by kernel_rfl) rfl sPicks (fun E' hE => wput_nil E' 1 X i cx) ?_)
    rintro r H' ⟨rfl, rfl⟩
    refine ⟨_, rfl, _, sCat, ?_⟩
    repeat (first | refine wW29 ?_ | (refine kW29 ?_; (first | rintro _ _ ⟨rfl, rfl⟩ | rintro _ _ ⟨_, rfl, rfl⟩ | rintro _ _ ⟨_, _, ⟨_, _⟩, rfl, rfl⟩); try refine ⟨sConv, ?_⟩) | refine Dr.two ?_ ?_)
    refine L.step (by decide) (S.call rfl rfl Try.func25 (by kernel_rfl) rfl sPicks (fun E' hE => wcopy_nil E' 0) ?_)
    rintro r H' ⟨rfl, rfl⟩
    refine ⟨_, rfl, _, sCat, ?_⟩
    repeat (first | refine wW29 ?_ | (refine kW29 ?_; (first | rintro _ _ ⟨rfl, rfl⟩ | rintro _ _ ⟨_, rfl, rfl⟩ | rintro _ _ ⟨_, _, ⟨_, _⟩, rfl, rfl⟩); try refine ⟨sConv, ?_⟩) | refine Dr.two ?_ ?_)
    refine L.step (by decide) (S.call rfl rfl Try.func26 (by kernel_rfl) rfl sPicks (fun E' hE => wflip_nil E' 0 0) ?_)
    rintro r H' ⟨rfl, rfl⟩
    refine ⟨_, rfl, _, sCat, ?_⟩
    repeat (first | refine wW29 ?_ | (refine kW29 ?_; (first | rintro _ _ ⟨rfl, rfl⟩ | rintro _ _ ⟨_, rfl, rfl⟩ | rintro _ _ ⟨_, _, ⟨_, _⟩, rfl, rfl⟩); try refine ⟨sConv, ?_⟩) | refine Dr.two ?_ ?_)
    refine L.step (by decide) (S.call rfl rfl Try.func27 (by kernel_rfl) rfl sPicks (fun E' hE => wlen_nil E') ?_)
    rintro r H' ⟨rfl, rfl⟩
    refine ⟨_, rfl, _, sCat, ?_⟩
    repeat (first | refine wW29 ?_ | (refine kW29 ?_; (first | rintro _ _ ⟨rfl, rfl⟩ | rintro _ _ ⟨_, rfl, rfl⟩ | rintro _ _ ⟨_, _, ⟨_, _⟩, rfl, rfl⟩); try refine ⟨sConv, ?_⟩) | refine Dr.two ?_ ?_)
    refine L.step (by decide) (S.call rfl rfl Try.func47 (by kernel_rfl) rfl sPicks (fun E' hE => wto_nil E' 0) ?_)
    rintro r H' ⟨rfl, rfl⟩
    refine ⟨_, rfl, _, sCat, ?_⟩
    repeat (first | refine wW29 ?_ | (refine kW29 ?_; (first | rintro _ _ ⟨rfl, rfl⟩ | rintro _ _ ⟨_, rfl, rfl⟩ | rintro _ _ ⟨_, _, ⟨_, _⟩, rfl, rfl⟩); try refine ⟨sConv, ?_⟩) | refine Dr.two ?_ ?_)
    refine L.step (by decide) (S.call rfl rfl Try.func28 (by kernel_rfl) rfl sPicks (fun E' hE => wbroken_nil E' 0) ?_)
    rintro r H' ⟨rfl, rfl⟩
    refine ⟨_, rfl, _, sCat, ?_⟩
    repeat (first | refine wW29 ?_ | (refine kW29 ?_; (first | rintro _ _ ⟨rfl, rfl⟩ | rintro _ _ ⟨_, rfl, rfl⟩ | rintro _ _ ⟨_, _, ⟨_, _⟩, rfl, rfl⟩); try refine ⟨sConv, ?_⟩) | refine Dr.two ?_ ?_)
    refine L.step (by decide) (S.call rfl rfl Try.func46 (by kernel_rfl) rfl sPicks (fun E' hE => wclone_nil E') ?_)
    rintro r H' ⟨rfl, rfl⟩
    refine ⟨_, rfl, _, sCat, ?_⟩
    repeat (first | refine wW29 ?_ | (refine kW29 ?_; (first | rintro _ _ ⟨rfl, rfl⟩ | rintro _ _ ⟨_, rfl, rfl⟩ | rintro _ _ ⟨_, _, ⟨_, _⟩, rfl, rfl⟩); try refine ⟨sConv, ?_⟩) | refine Dr.two ?_ ?_)
    exact ret1 rfl sRet sConv (rfl)
  · have hfull : 128 ≤ n2 := by omega
    have hmx : n2 ≤ maxLen := by omega
    refine L.step (by decide) (S.call rfl rfl Try.func23 (by kernel_rfl) rfl sPicks (fun E' hE => wput_full E' g1 A2 n2 c2 7 A7 nx c7 hfull hmx) ?_)
    rintro r H' ⟨rfl, rfl⟩
    refine ⟨_, rfl, _, sCat, ?_⟩
    repeat (first | refine wW29 ?_ | (refine kW29 ?_; (first | rintro _ _ ⟨rfl, rfl⟩ | rintro _ _ ⟨_, rfl, rfl⟩ | rintro _ _ ⟨_, _, ⟨_, _⟩, rfl, rfl⟩); try refine ⟨sConv, ?_⟩) | refine Dr.two ?_ ?_)
    refine C.loop (X := Nat × List UInt8) (fun x => [(1, .slice B m d), (2, .slice D p q), (3, .slice X nx cx), (9, .pointer (some ⟨g1, 0, none⟩)), (10, .slice P mp dp), (11, .bool true), (12, .pointer (some ⟨g3, 0, none⟩)), (13, .slice A7 nx c7), (14, .bool false), (15, .int .i64 x.1)])
      (fun x => [wr g1 A2 n2 c2, own letT A2 n2 c2 ls, each lOc ls, own octT A7 nx c7 x.2, wr g3 A3 n2 c3, own letT A3 n2 c3 ls3, each lOc ls3, own pltT P mp dp ps]) (fun x => x.1 ≤ nx ∧ x.2.length = nx) (fun x => nx - x.1) (0, b) sHolds sConv ⟨Nat.zero_le _, hbl.symm⟩ ?_
    rintro ⟨i, z⟩ F ⟨hi, hz⟩
    dsimp only at hi hz ⊢
    by_cases hin : i < nx
    · obtain ⟨y, hy⟩ : ∃ y, z[i]? = some y := ⟨_, List.getElem?_eq_getElem (by omega)⟩
      repeat (first | refine wW29 ?_ | (refine kW29 ?_; (first | rintro _ _ ⟨rfl, rfl⟩ | rintro _ _ ⟨_, rfl, rfl⟩ | rintro _ _ ⟨_, _, ⟨_, _⟩, rfl, rfl⟩); try refine ⟨sConv, ?_⟩) | refine Dr.two ?_ ?_)
      exact ⟨(i + 1, _), sHolds, sConv, ⟨by dsimp only; omega, by dsimp only; rw [List.length_set]; exact hz⟩, by dsimp only; omega⟩
    obtain rfl : i = nx := by omega
    repeat (first | refine wW29 ?_ | (refine kW29 ?_; (first | rintro _ _ ⟨rfl, rfl⟩ | rintro _ _ ⟨_, rfl, rfl⟩ | rintro _ _ ⟨_, _, ⟨_, _⟩, rfl, rfl⟩); try refine ⟨sConv, ?_⟩) | refine Dr.two ?_ ?_)
    refine L.step (by decide) (S.call rfl rfl Try.func24 (by kernel_rfl) rfl sPicks (fun E' hE => few29_any E' B m d k (hr2.sub hE) (hb2.sub hE)) ?_)
    rintro r H' ⟨A5, n5, c5, rfl, -, -, -, rfl⟩
    refine ⟨_, rfl, _, sCat, ?_⟩
    repeat (first | refine wW29 ?_ | (refine kW29 ?_; (first | rintro _ _ ⟨rfl, rfl⟩ | rintro _ _ ⟨_, rfl, rfl⟩ | rintro _ _ ⟨_, _, ⟨_, _⟩, rfl, rfl⟩); try refine ⟨sConv, ?_⟩) | refine Dr.two ?_ ?_)
    refine L.step (by decide) (S.call rfl rfl Try.func45 (by kernel_rfl) rfl sPicks (fun E' hE => run29_keep E' g1 A2 n2 c2 ls P mp dp ps hs A5 n5 c5 (few29 k) sRd (hb2.few.sub hE) (few29_ok hok2) few29_m) ?_)
    rintro r H' ⟨Z1, z2, z3, rfl, rfl⟩
    refine ⟨_, rfl, _, sCat, ?_⟩
    repeat (first | refine wW29 ?_ | (refine kW29 ?_; (first | rintro _ _ ⟨rfl, rfl⟩ | rintro _ _ ⟨_, rfl, rfl⟩ | rintro _ _ ⟨_, _, ⟨_, _⟩, rfl, rfl⟩); try refine ⟨sConv, ?_⟩) | refine Dr.two ?_ ?_)
    refine L.step (by decide) (S.call rfl rfl Try.func24 (by kernel_rfl) rfl sPicks (fun E' hE => few29_any E' D p q j (hr3.sub hE) (hb3.sub hE)) ?_)
    rintro r H' ⟨A6, n6, c6, rfl, -, -, -, rfl⟩
    refine ⟨_, rfl, _, sCat, ?_⟩
    repeat (first | refine wW29 ?_ | (refine kW29 ?_; (first | rintro _ _ ⟨rfl, rfl⟩ | rintro _ _ ⟨_, rfl, rfl⟩ | rintro _ _ ⟨_, _, ⟨_, _⟩, rfl, rfl⟩); try refine ⟨sConv, ?_⟩) | refine Dr.two ?_ ?_)
    refine L.step (by decide) (S.call rfl rfl Try.func45 (by kernel_rfl) rfl sPicks (fun E' hE => run29_keep E' g3 A3 n2 c3 ls3 P mp dp ps hs3 A6 n6 c6 (few29 j) sRd (hb3.few.sub hE) (few29_ok hok3) few29_m) ?_)
    rintro r H' ⟨Y1, y2, y3, rfl, rfl⟩
    refine ⟨_, rfl, _, sCat, ?_⟩
    repeat (first | refine wW29 ?_ | (refine kW29 ?_; (first | rintro _ _ ⟨rfl, rfl⟩ | rintro _ _ ⟨_, rfl, rfl⟩ | rintro _ _ ⟨_, _, ⟨_, _⟩, rfl, rfl⟩); try refine ⟨sConv, ?_⟩) | refine Dr.two ?_ ?_)
    refine L.step (by decide) (S.call rfl rfl Try.func29 (by kernel_rfl) rfl sPicks (fun E' hE => wtake_nil E' 0) ?_)
    rintro r H' ⟨rfl, rfl⟩
    refine ⟨_, rfl, _, sCat, ?_⟩
    repeat (first | refine wW29 ?_ | (refine kW29 ?_; (first | rintro _ _ ⟨rfl, rfl⟩ | rintro _ _ ⟨_, rfl, rfl⟩ | rintro _ _ ⟨_, _, ⟨_, _⟩, rfl, rfl⟩); try refine ⟨sConv, ?_⟩) | refine Dr.two ?_ ?_)
    refine L.step (by decide) (S.call rfl rfl Try.func23 (by kernel_rfl) rfl sPicks (fun E' hE => wput_nil E' 1 X i cx) ?_)
    rintro r H' ⟨rfl, rfl⟩
    refine ⟨_, rfl, _, sCat, ?_⟩
    repeat (first | refine wW29 ?_ | (refine kW29 ?_; (first | rintro _ _ ⟨rfl, rfl⟩ | rintro _ _ ⟨_, rfl, rfl⟩ | rintro _ _ ⟨_, _, ⟨_, _⟩, rfl, rfl⟩); try refine ⟨sConv, ?_⟩) | refine Dr.two ?_ ?_)
    refine L.step (by decide) (S.call rfl rfl Try.func25 (by kernel_rfl) rfl sPicks (fun E' hE => wcopy_nil E' 0) ?_)
    rintro r H' ⟨rfl, rfl⟩
    refine ⟨_, rfl, _, sCat, ?_⟩
    repeat (first | refine wW29 ?_ | (refine kW29 ?_; (first | rintro _ _ ⟨rfl, rfl⟩ | rintro _ _ ⟨_, rfl, rfl⟩ | rintro _ _ ⟨_, _, ⟨_, _⟩, rfl, rfl⟩); try refine ⟨sConv, ?_⟩) | refine Dr.two ?_ ?_)
    refine L.step (by decide) (S.call rfl rfl Try.func26 (by kernel_rfl) rfl sPicks (fun E' hE => wflip_nil E' 0 0) ?_)
    rintro r H' ⟨rfl, rfl⟩
    refine ⟨_, rfl, _, sCat, ?_⟩
    repeat (first | refine wW29 ?_ | (refine kW29 ?_; (first | rintro _ _ ⟨rfl, rfl⟩ | rintro _ _ ⟨_, rfl, rfl⟩ | rintro _ _ ⟨_, _, ⟨_, _⟩, rfl, rfl⟩); try refine ⟨sConv, ?_⟩) | refine Dr.two ?_ ?_)
    refine L.step (by decide) (S.call rfl rfl Try.func27 (by kernel_rfl) rfl sPicks (fun E' hE => wlen_nil E') ?_)
    rintro r H' ⟨rfl, rfl⟩
    refine ⟨_, rfl, _, sCat, ?_⟩
    repeat (first | refine wW29 ?_ | (refine kW29 ?_; (first | rintro _ _ ⟨rfl, rfl⟩ | rintro _ _ ⟨_, rfl, rfl⟩ | rintro _ _ ⟨_, _, ⟨_, _⟩, rfl, rfl⟩); try refine ⟨sConv, ?_⟩) | refine Dr.two ?_ ?_)
    refine L.step (by decide) (S.call rfl rfl Try.func47 (by kernel_rfl) rfl sPicks (fun E' hE => wto_nil E' 0) ?_)
    rintro r H' ⟨rfl, rfl⟩
    refine ⟨_, rfl, _, sCat, ?_⟩
    repeat (first | refine wW29 ?_ | (refine kW29 ?_; (first | rintro _ _ ⟨rfl, rfl⟩ | rintro _ _ ⟨_, rfl, rfl⟩ | rintro _ _ ⟨_, _, ⟨_, _⟩, rfl, rfl⟩); try refine ⟨sConv, ?_⟩) | refine Dr.two ?_ ?_)
    refine L.step (by decide) (S.call rfl rfl Try.func28 (by kernel_rfl) rfl sPicks (fun E' hE => wbroken_nil E' 0) ?_)
    rintro r H' ⟨rfl, rfl⟩
    refine ⟨_, rfl, _, sCat, ?_⟩
    repeat (first | refine wW29 ?_ | (refine kW29 ?_; (first | rintro _ _ ⟨rfl, rfl⟩ | rintro _ _ ⟨_, rfl, rfl⟩ | rintro _ _ ⟨_, _, ⟨_, _⟩, rfl, rfl⟩); try refine ⟨sConv, ?_⟩) | refine Dr.two ?_ ?_)
    refine L.step (by decide) (S.call rfl rfl Try.func46 (by kernel_rfl) rfl sPicks (fun E' hE => wclone_nil E') ?_)
    rintro r H' ⟨rfl, rfl⟩
    refine ⟨_, rfl, _, sCat, ?_⟩
    repeat (first | refine wW29 ?_ | (refine kW29 ?_; (first | rintro _ _ ⟨rfl, rfl⟩ | rintro _ _ ⟨_, rfl, rfl⟩ | rintro _ _ ⟨_, _, ⟨_, _⟩, rfl, rfl⟩); try refine ⟨sConv, ?_⟩) | refine Dr.two ?_ ?_)
    exact ret1 rfl sRet sConv (rfl)
end Go.Proofs.Ytbnfpmdieiknmaa.Sep
