/- the law of the wire: one call that turns, or asks; by parts of memory. -/
import Derived.Test.YtbnfpmdieiknmaaWire6
namespace Go.Proofs.Ytbnfpmdieiknmaa.Sep
open Go.RowKit Go.Proofs.Ytbnfpmdieiknmaa.Reg
open Go.Proofs.Ytbnfpmdieiknmaa.Mem hiding Rd Own
-- types: octT letT pltT op29T
-- recs: letT_rec wire_rec pltT_rec op29T_rec
-- funcs
-- flds
set_option maxRecDepth 100000
set_option maxHeartbeats 8000000
section
variable (E : Env) (g : Nat) (A : Option Addr) (n c : Nat) (ls : List Letv) (B : Option Addr) (m d : Nat) (ps : List Plt)
theorem step29_0 (hs : St29 n c ls m d ps) (k : Int) (hk : ¬ (1 ≤ k ∧ k ≤ 4)) (i : Nat) (xn : Int) (X : Option Addr) (mx cx : Nat) (hi : i < m) :
    Tri Try.prog E 73 #[.pointer (some ⟨g, 0, none⟩), .slice B m d, .agg #[.int .i64 k, .int .i64 i, .int .i64 xn, .slice X mx cx]] [wr g A n c, own letT A n c ls, each lOc ls, own pltT B m d ps] (Step29 g B m d ps) := by
  have hmn := hs.mn
  have h128 := hs.h128
  have hnt : (!decide ((i : Int) < (m : Int))) = false := by rw [decide_eq_true (by omega)]; rfl
  have hmax : maxLen = 9223372036854775807 := rfl
  obtain ⟨e, he, hpe, he1, he2⟩ := hs.at_ hi
  have hi2 : i < n := by omega
  have hbb : (e.broken == e.p.broken) = true := by show (e.broken == e.broken) = true; cases e.broken <;> rfl
  unfold Step29
  refine tri Try.func73 rfl Try.ntmps73 (by simp) ?_
  repeat (first | refine wW29 ?_ | (refine kW29 ?_; (first | rintro _ _ ⟨rfl, rfl⟩ | rintro _ _ ⟨_, rfl, rfl⟩ | rintro _ _ ⟨_, _, ⟨_, _⟩, rfl, rfl⟩); try refine ⟨sConv, ?_⟩) | refine Dr.two ?_ ?_)
  rename_i g5
  refine C.regionA 100000 (.one 0 false (.one 1 false (.one 2 false (.one 3 false (.one 5 false (.one 4 true (.one 6 false (.one 7 false (.one 8 false (.one 9 false (.one 10 false (.one 11 false (.one 12 false (.one 13 false (.one 14 false (.one 15 false (.one 16 false .nil))))))))))))))))) ([blk g5 38 [.int .i64 k, .int .i64 i, .int .i64 xn, .slice X mx cx], own pltT B m d ps]) (by kernel_rfl) (by kernel_rfl) sConv ?_
  repeat (first | refine wW29 ?_ | (refine kW29 ?_; (first | rintro _ _ ⟨rfl, rfl⟩ | rintro _ _ ⟨_, rfl, rfl⟩ | rintro _ _ ⟨_, _, ⟨_, _⟩, rfl, rfl⟩); try refine ⟨sConv, ?_⟩) | refine Dr.two ?_ ?_)
  refine Dr.go rfl (by rintro k ⟨⟩ <;> decide) sGon (S.call rfl rfl Try.func28 (by kernel_rfl) rfl sPicks (fun E' hE => wbroken_yes E' g A n c ls i h128 hi2 he hs.hn) ?_)
  rintro r H' ⟨rfl, rfl⟩
  refine ⟨_, rfl, _, sCat, sConv, ?_⟩
  repeat (first | refine wW29 ?_ | (refine kW29 ?_; (first | rintro _ _ ⟨rfl, rfl⟩ | rintro _ _ ⟨_, rfl, rfl⟩ | rintro _ _ ⟨_, _, ⟨_, _⟩, rfl, rfl⟩); try refine ⟨sConv, ?_⟩) | refine Dr.two ?_ ?_)
  apply ret2; (· exact rfl); (· exact sRet); (· exact sRet); rotate_left; (· exact (⟨A, n, c, ls, B, m, d, ps, by first | rfl | rw [hbb] | simp [Letv.p], hs, .inl ⟨rfl, rfl, rfl, rfl, rfl⟩⟩)); (· exact sConv)
theorem step29_4n (hs : St29 n c ls m d ps) (i : Nat) (xn : Int) (X : Option Addr) (mx cx : Nat) (hi : i < m) {e : Letv} (he : ls[i]? = some e) (h : e.broken = true ∨ xn < 0 ∨ (e.n : Int) ≤ xn / 8) (hx : -9223372036854775808 ≤ xn ∧ xn ≤ 9223372036854775807) :
    Tri Try.prog E 73 #[.pointer (some ⟨g, 0, none⟩), .slice B m d, .agg #[.int .i64 4, .int .i64 i, .int .i64 xn, .slice X mx cx]] [wr g A n c, own letT A n c ls, each lOc ls, own pltT B m d ps] (Step29 g B m d ps) := by
  have hmn := hs.mn
  have h128 := hs.h128
  have hnt : (!decide ((i : Int) < (m : Int))) = false := by rw [decide_eq_true (by omega)]; rfl
  have hmax : maxLen = 9223372036854775807 := rfl
  obtain ⟨e', he', hpe, he1, he2⟩ := hs.at_ hi
  rw [he] at he'
  injection he' with he'
  subst he'
  have hen : e.n ≤ maxLen := by omega
  have hpb : e.p.b.length ≤ maxLen := by show e.b.length ≤ maxLen; omega
  have hpl : (e.p.b.length : Int) = e.n := by show (e.b.length : Int) = e.n; omega
  unfold Step29
  refine tri Try.func73 rfl Try.ntmps73 (by simp) ?_
  rcases Bool.eq_false_or_eq_true e.broken with hb | hb
  · have hb2 : e.p.broken = true := hb
    repeat (first | refine wW29 ?_ | (refine kW29 ?_; (first | rintro _ _ ⟨rfl, rfl⟩ | rintro _ _ ⟨_, rfl, rfl⟩ | rintro _ _ ⟨_, _, ⟨_, _⟩, rfl, rfl⟩); try refine ⟨sConv, ?_⟩) | refine Dr.two ?_ ?_)
    refine C.regionA 100000 (.one 0 false (.one 1 false (.one 2 false (.one 3 false (.one 4 false (.one 5 false (.one 6 false (.one 7 false (.one 8 false (.one 9 false (.one 10 false (.one 11 false (.one 12 false (.one 13 false (.one 14 false (.one 15 false (.one 16 false (.one 17 false (.one 18 false (.one 19 false (.one 20 false (.one 21 false (.one 22 false (.one 23 false (.one 24 false (.one 25 false (.one 26 false (.one 27 false .nil)))))))))))))))))))))))))))) _ (by kernel_rfl) (by kernel_rfl) Conv.refl ?_
    repeat (first | refine wW29 ?_ | (refine kW29 ?_; (first | rintro _ _ ⟨rfl, rfl⟩ | rintro _ _ ⟨_, rfl, rfl⟩ | rintro _ _ ⟨_, _, ⟨_, _⟩, rfl, rfl⟩); try refine ⟨sConv, ?_⟩) | refine Dr.two ?_ ?_)
    refine L.step (by decide) (S.call rfl rfl Try.func26 (by kernel_rfl) rfl sPicks (fun E' hE => wflip_not E' g A n c ls i xn h128 hs.hn he hen h hx) ?_)
    rintro r H' ⟨rfl, rfl⟩
    refine ⟨_, rfl, _, sCat, ?_⟩
    repeat (first | refine wW29 ?_ | (refine kW29 ?_; (first | rintro _ _ ⟨rfl, rfl⟩ | rintro _ _ ⟨_, rfl, rfl⟩ | rintro _ _ ⟨_, _, ⟨_, _⟩, rfl, rfl⟩); try refine ⟨sConv, ?_⟩) | refine Dr.two ?_ ?_)
    apply ret2; (· exact rfl); (· exact sRet); (· exact sRet); rotate_left; (· exact (⟨A, n, c, ls, B, m, d, ps, rfl, hs, .inl ⟨rfl, rfl, rfl, rfl, rfl⟩⟩)); (· exact sConv)
  have hb2 : e.p.broken = false := hb
  by_cases hx0 : xn < 0
  · repeat (first | refine wW29 ?_ | (refine kW29 ?_; (first | rintro _ _ ⟨rfl, rfl⟩ | rintro _ _ ⟨_, rfl, rfl⟩ | rintro _ _ ⟨_, _, ⟨_, _⟩, rfl, rfl⟩); try refine ⟨sConv, ?_⟩) | refine Dr.two ?_ ?_)
    refine C.regionA 100000 (.one 0 false (.one 1 false (.one 2 false (.one 3 false (.one 4 false (.one 5 false (.one 6 false (.one 7 false (.one 8 false (.one 9 false (.one 10 false (.one 11 false (.one 12 false (.one 13 false (.one 14 false (.one 15 false (.one 16 false (.one 17 false (.one 18 false (.one 19 false (.one 20 false (.one 21 false (.one 22 false (.one 23 false (.one 24 false (.one 25 false (.one 26 false (.one 27 false .nil)))))))))))))))))))))))))))) _ (by kernel_rfl) (by kernel_rfl) Conv.refl ?_
    repeat (first | refine wW29 ?_ | (refine kW29 ?_; (first | rintro _ _ ⟨rfl, rfl⟩ | rintro _ _ ⟨_, rfl, rfl⟩ | rintro _ _ ⟨_, _, ⟨_, _⟩, rfl, rfl⟩); try refine ⟨sConv, ?_⟩) | refine Dr.two ?_ ?_)
    refine L.step (by decide) (S.call rfl rfl Try.func26 (by kernel_rfl) rfl sPicks (fun E' hE => wflip_not E' g A n c ls i xn h128 hs.hn he hen h hx) ?_)
    rintro r H' ⟨rfl, rfl⟩
    refine ⟨_, rfl, _, sCat, ?_⟩
    repeat (first | refine wW29 ?_ | (refine kW29 ?_; (first | rintro _ _ ⟨rfl, rfl⟩ | rintro _ _ ⟨_, rfl, rfl⟩ | rintro _ _ ⟨_, _, ⟨_, _⟩, rfl, rfl⟩); try refine ⟨sConv, ?_⟩) | refine Dr.two ?_ ?_)
    apply ret2; (· exact rfl); (· exact sRet); (· exact sRet); rotate_left; (· exact (⟨A, n, c, ls, B, m, d, ps, rfl, hs, .inl ⟨rfl, rfl, rfl, rfl, rfl⟩⟩)); (· exact sConv)
  have hq : (e.n : Int) ≤ xn / 8 := by
    rcases h with h | h | h
    · rw [hb] at h; cases h
    · exact absurd h hx0
    · exact h
  have hw : IntKind.i64.wrap (xn.tdiv 8) = xn / 8 := by rw [Int.tdiv_eq_ediv_of_nonneg (by omega)]; exact IntWalk.i64_in _ (by omega)
  have hle : decide ((e.p.b.length : Int) ≤ xn / 8) = true := decide_eq_true (by omega)
  repeat (first | refine wW29 ?_ | (refine kW29 ?_; (first | rintro _ _ ⟨rfl, rfl⟩ | rintro _ _ ⟨_, rfl, rfl⟩ | rintro _ _ ⟨_, _, ⟨_, _⟩, rfl, rfl⟩); try refine ⟨sConv, ?_⟩) | refine Dr.two ?_ ?_)
  refine C.regionA 100000 (.one 0 false (.one 1 false (.one 2 false (.one 3 false (.one 4 false (.one 5 false (.one 6 false (.one 7 false (.one 8 false (.one 9 false (.one 10 false (.one 11 false (.one 12 false (.one 13 false (.one 14 false (.one 15 false (.one 16 false (.one 17 false (.one 18 false (.one 19 false (.one 20 false (.one 21 false (.one 22 false (.one 23 false (.one 24 false (.one 25 false (.one 26 false (.one 27 false .nil)))))))))))))))))))))))))))) _ (by kernel_rfl) (by kernel_rfl) Conv.refl ?_
  repeat (first | refine wW29 ?_ | (refine kW29 ?_; (first | rintro _ _ ⟨rfl, rfl⟩ | rintro _ _ ⟨_, rfl, rfl⟩ | rintro _ _ ⟨_, _, ⟨_, _⟩, rfl, rfl⟩); try refine ⟨sConv, ?_⟩) | refine Dr.two ?_ ?_)
  refine L.step (by decide) (S.call rfl rfl Try.func26 (by kernel_rfl) rfl sPicks (fun E' hE => wflip_not E' g A n c ls i xn h128 hs.hn he hen h hx) ?_)
  rintro r H' ⟨rfl, rfl⟩
  refine ⟨_, rfl, _, sCat, ?_⟩
  repeat (first | refine wW29 ?_ | (refine kW29 ?_; (first | rintro _ _ ⟨rfl, rfl⟩ | rintro _ _ ⟨_, rfl, rfl⟩ | rintro _ _ ⟨_, _, ⟨_, _⟩, rfl, rfl⟩); try refine ⟨sConv, ?_⟩) | refine Dr.two ?_ ?_)
  apply ret2; (· exact rfl); (· exact sRet); (· exact sRet); rotate_left; (· exact (⟨A, n, c, ls, B, m, d, ps, rfl, hs, .inl ⟨rfl, rfl, rfl, rfl, rfl⟩⟩)); (· exact sConv)
theorem step29_4 (hs : St29 n c ls m d ps) (i : Nat) (k : Nat) (X : Option Addr) (mx cx : Nat) (hi : i < m) {e : Letv} (he : ls[i]? = some e) (hb : e.broken = false) (hk : k / 8 < e.n) :
    Tri Try.prog E 73 #[.pointer (some ⟨g, 0, none⟩), .slice B m d, .agg #[.int .i64 4, .int .i64 i, .int .i64 k, .slice X mx cx]] [wr g A n c, own letT A n c ls, each lOc ls, own pltT B m d ps] (Step29 g B m d ps) := by
  have hmn := hs.mn
  have h128 := hs.h128
  have hnt : (!decide ((i : Int) < (m : Int))) = false := by rw [decide_eq_true (by omega)]; rfl
  have hmax : maxLen = 9223372036854775807 := rfl
  obtain ⟨e', he', hpe, he1, he2⟩ := hs.at_ hi
  rw [he] at he'
  injection he' with he'
  subst he'
  have hm := hs.hm
  have hpb : e.p.b.length ≤ maxLen := by show e.b.length ≤ maxLen; omega
  have hpl : (e.p.b.length : Int) = e.n := by show (e.b.length : Int) = e.n; omega
  have hb2 : e.p.broken = false := hb
  have hq : IntKind.i64.wrap ((k : Int).tdiv 8) = ((k / 8 : Nat) : Int) := by rw [IntWalk.i64_quo _ _ (by omega)]; omega
  have hr : (k : Int).tmod 8 = ((k % 8 : Nat) : Int) := by rw [Int.tmod_eq_emod_of_nonneg (by omega)]; omega
  have hle : decide ((e.p.b.length : Int) ≤ ((k / 8 : Nat) : Int)) = false := decide_eq_false (by omega)
  obtain ⟨x, hx⟩ : ∃ x, e.b[k / 8]? = some x := ⟨_, List.getElem?_eq_getElem (by omega)⟩
  have hfl : flipB e.b k = e.b.set (k / 8) (turn8 x (k % 8)) := by unfold flipB; rw [List.getD_eq_getElem?_getD, hx]; rfl
  have hx2 : e.p.b[k / 8]? = some x := hx
  have hz : IntKind.u8.wrap (1 * 2 ^ min ((k % 8 : Nat) : Int).toNat IntKind.u8.bits) = 2 ^ (k % 8) % 256 := by
    rw [Int.toNat_natCast, show min (k % 8) IntKind.u8.bits = k % 8 from Nat.min_eq_left (show k % 8 ≤ 8 by omega), Int.one_mul]
    exact IntKind.wrap_u8 _
  have hxor := xor8 x (k := k % 8) (by omega) rfl
  unfold Step29
  refine tri Try.func73 rfl Try.ntmps73 (by simp) ?_
  repeat (first | refine wW29 ?_ | (refine kW29 ?_; (first | rintro _ _ ⟨rfl, rfl⟩ | rintro _ _ ⟨_, rfl, rfl⟩ | rintro _ _ ⟨_, _, ⟨_, _⟩, rfl, rfl⟩); try refine ⟨sConv, ?_⟩) | refine Dr.two ?_ ?_)
  refine C.regionA 100000 (.one 0 false (.one 1 false (.one 2 false (.one 3 false (.one 4 false (.one 5 false (.one 6 false (.one 7 false (.one 8 false (.one 9 false (.one 10 false (.one 11 false (.one 12 false (.one 13 false (.one 14 false (.one 15 false (.one 16 false (.one 17 false (.one 18 false (.one 19 false (.one 20 false (.one 21 false (.one 22 false (.one 23 false (.one 24 false (.one 25 false (.one 26 false (.one 27 false .nil)))))))))))))))))))))))))))) _ (by kernel_rfl) (by kernel_rfl) Conv.refl ?_
  repeat (first | refine wW29 ?_ | (refine kW29 ?_; (first | rintro _ _ ⟨rfl, rfl⟩ | rintro _ _ ⟨_, rfl, rfl⟩ | rintro _ _ ⟨_, _, ⟨_, _⟩, rfl, rfl⟩); try refine ⟨sConv, ?_⟩) | refine Dr.two ?_ ?_)
  refine L.stepK (by decide) (S.toBytesK (l := e.p.b) rfl rfl hpb) ?_
  rintro _ _ ⟨O, co, ⟨ho1, ho2⟩, rfl, rfl⟩
  repeat (first | refine wW29 ?_ | (refine kW29 ?_; (first | rintro _ _ ⟨rfl, rfl⟩ | rintro _ _ ⟨_, rfl, rfl⟩ | rintro _ _ ⟨_, _, ⟨_, _⟩, rfl, rfl⟩); try refine ⟨sConv, ?_⟩) | refine Dr.two ?_ ?_)
  rename_i g5
  refine C.regionA 16 (.one 0 false (.one 1 false (.one 2 false (.one 3 false (.one 4 false (.one 5 false (.one 6 false (.one 7 false (.one 8 false (.one 9 false (.one 10 false (.one 11 false (.one 12 false (.one 13 false (.one 14 false (.one 15 false (.one 16 true .nil))))))))))))))))) _ (by kernel_rfl) (by kernel_rfl) Conv.refl ?_
  repeat (first | refine wW29 ?_ | (refine kW29 ?_; (first | rintro _ _ ⟨rfl, rfl⟩ | rintro _ _ ⟨_, rfl, rfl⟩ | rintro _ _ ⟨_, _, ⟨_, _⟩, rfl, rfl⟩); try refine ⟨sConv, ?_⟩) | refine Dr.two ?_ ?_)
  refine Dr.take rfl (by decide) sGon (Y.indexAddr (T := octT) (l := e.p.b) (m := k / 8) rfl rfl rfl (RdH.mk8 sHas) (Int.toNat_natCast _) (by omega) hx2 rfl rfl) ?_
  refine Dr.take rfl (by decide) sGon (Y.loadElem (T := octT) (k := k / 8) rfl rfl (RdH.mk8 sHas) hx2 rfl rfl) ?_
  repeat (first | refine wW29 ?_ | (refine kW29 ?_; (first | rintro _ _ ⟨rfl, rfl⟩ | rintro _ _ ⟨_, rfl, rfl⟩ | rintro _ _ ⟨_, _, ⟨_, _⟩, rfl, rfl⟩); try refine ⟨sConv, ?_⟩) | refine Dr.two ?_ ?_)
  refine Dr.take rfl (by decide) sGon (Y.indexAddr (T := octT) (l := e.p.b) (m := k / 8) rfl rfl rfl (RdH.mk8 sHas) (Int.toNat_natCast _) (by omega) hx2 rfl rfl) ?_
  repeat (first | refine wW29 ?_ | (refine kW29 ?_; (first | rintro _ _ ⟨rfl, rfl⟩ | rintro _ _ ⟨_, rfl, rfl⟩ | rintro _ _ ⟨_, _, ⟨_, _⟩, rfl, rfl⟩); try refine ⟨sConv, ?_⟩) | refine Dr.two ?_ ?_)
  refine Dr.goZ rfl (by rintro k ⟨⟩ <;> decide) sGon (S.store8K (A := O) (n := e.p.b.length) (c := co) (l := e.p.b) (k := k / 8) (e' := turn8 x (k % 8)) rfl rfl rfl rfl (by omega) sRepl) ?_
  rintro _ _ ⟨rfl, rfl⟩
  repeat (first | refine wW29 ?_ | (refine kW29 ?_; (first | rintro _ _ ⟨rfl, rfl⟩ | rintro _ _ ⟨_, rfl, rfl⟩ | rintro _ _ ⟨_, _, ⟨_, _⟩, rfl, rfl⟩); try refine ⟨sConv, ?_⟩) | refine Dr.two ?_ ?_)
  rename_i g7 A7 c7 k1 k2
  apply C.conv; (· exact Conv.mk8 (A := O) (n := e.p.b.length) (c := co) (l := e.p.b.set (k / 8) (turn8 x (k % 8))) sRepl)
  rw [show e.p.b.set (k / 8) (turn8 x (k % 8)) = flipB e.b k from hfl.symm]
  refine C.regionA 13 (.one 0 false (.one 1 false (.one 2 false (.one 3 false (.one 4 false (.one 5 false (.one 6 false (.one 7 false (.one 8 false (.one 9 false (.one 10 false (.one 11 false (.one 12 false (.one 13 true .nil)))))))))))))) _ (by kernel_rfl) (by kernel_rfl) Conv.refl ?_
  repeat (first | refine wW29 ?_ | (refine kW29 ?_; (first | rintro _ _ ⟨rfl, rfl⟩ | rintro _ _ ⟨_, rfl, rfl⟩ | rintro _ _ ⟨_, _, ⟨_, _⟩, rfl, rfl⟩); try refine ⟨sConv, ?_⟩) | refine Dr.two ?_ ?_)
  refine Dr.goZ rfl (by rintro k ⟨⟩ <;> decide) sGon (S.storeEK (T := pltT) (A := A7) (n := m) (c := c7) (l := ps) (k := i) (e := e.p) (e' := ⟨e.to, flipB e.b k, true⟩) rfl rfl rfl sRepl hpe rfl rfl rfl) ?_
  rintro _ _ ⟨rfl, rfl⟩
  repeat (first | refine wW29 ?_ | (refine kW29 ?_; (first | rintro _ _ ⟨rfl, rfl⟩ | rintro _ _ ⟨_, rfl, rfl⟩ | rintro _ _ ⟨_, _, ⟨_, _⟩, rfl, rfl⟩); try refine ⟨sConv, ?_⟩) | refine Dr.two ?_ ?_)
  refine L.step (by decide) (S.call rfl rfl Try.func26 (by kernel_rfl) rfl sPicks (fun E' hE => wflip E' g A n c ls i k h128 hs.hn he he1 he2 hb hk) ?_)
  rintro r H' ⟨rfl, rfl⟩
  refine ⟨_, rfl, _, sCat, ?_⟩
  repeat (first | refine wW29 ?_ | (refine kW29 ?_; (first | rintro _ _ ⟨rfl, rfl⟩ | rintro _ _ ⟨_, rfl, rfl⟩ | rintro _ _ ⟨_, _, ⟨_, _⟩, rfl, rfl⟩); try refine ⟨sConv, ?_⟩) | refine Dr.two ?_ ?_)
  apply ret2; (· exact rfl); (· exact sRet); (· exact sRet); rotate_left; (· exact (⟨A, n, c, ls.set i (e.mark (flipB e.b k)), A7, m, c7, ps.set i ⟨e.to, flipB e.b k, true⟩, rfl, hs.flip he ⟨k1, k2⟩, .inr rfl⟩)); (· exact sConv)
end
end Go.Proofs.Ytbnfpmdieiknmaa.Sep
