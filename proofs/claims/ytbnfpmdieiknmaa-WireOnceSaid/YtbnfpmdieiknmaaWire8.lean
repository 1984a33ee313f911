/- the law of the wire: any call, what is told, all calls; by parts of memory. -/
import Derived.Test.YtbnfpmdieiknmaaWire7
namespace Go.Proofs.Ytbnfpmdieiknmaa.Sep
open Go.RowKit Go.Proofs.Ytbnfpmdieiknmaa.Reg
open Go.Proofs.Ytbnfpmdieiknmaa.Mem hiding Rd Own
-- types: octT letT pltT op29T
-- recs: letT_rec wire_rec pltT_rec op29T_rec
-- funcs
-- flds
set_option maxRecDepth 100000
set_option maxHeartbeats 8000000
section
variable (E : Env) (g : Nat) (A : Option Addr) (n c : Nat) (ls : List Letv) (B : Option Addr) (m d : Nat) (ps : List Plt)
theorem step29_any (hs : St29 n c ls m d ps) (x : Op29) (hx : x.ok) (hw : Rd E octT x.A x.m x.c x.b) (h40 : x.m ≤ 40) :
    Tri Try.prog E 73 #[.pointer (some ⟨g, 0, none⟩), .slice B m d, .agg x.cs.toArray] [wr g A n c, own letT A n c ls, each lOc ls, own pltT B m d ps] (Step29 g B m d ps) := by
  by_cases h1 : x.kind = 1
  · by_cases hlt : m < 128
    · exact step29_1 E g A n c ls B m d ps hs x h1 hw h40 hlt
    · exact step29_1f E g A n c ls B m d ps hs x h1 (by omega)
  by_cases hin : 0 ≤ x.i ∧ x.i < m
  · obtain ⟨k, xi, xn, X, mx, cx, xb⟩ := x
    dsimp only at h1 hin
    unfold Op29.ok at hx
    dsimp only at hx
    obtain ⟨i, rfl⟩ : ∃ i : Nat, xi = i := ⟨xi.toNat, by omega⟩
    have hi : i < m := by omega
    by_cases h2 : k = 2
    · subst h2; exact step29_2 E g A n c ls B m d ps hs i xn X mx cx hi
    by_cases h3 : k = 3
    · subst h3
      by_cases hlt : m < 128
      · exact step29_3 E g A n c ls B m d ps hs i xn X mx cx hi hlt
      · exact step29_3f E g A n c ls B m d ps hs i xn X mx cx hi (by omega)
    by_cases h4 : k = 4
    · subst h4
      obtain ⟨e, he, hpe, he1, he2⟩ := hs.at_ hi
      by_cases hno : e.broken = true ∨ xn < 0 ∨ (e.n : Int) ≤ xn / 8
      · exact step29_4n E g A n c ls B m d ps hs i xn X mx cx hi he hno hx
      · have hb : e.broken = false := by
          cases hb : e.broken
          · rfl
          · exact absurd (.inl hb) hno
        have hx0 : ¬ xn < 0 := fun h => hno (.inr (.inl h))
        have hxq : ¬ (e.n : Int) ≤ xn / 8 := fun h => hno (.inr (.inr h))
        obtain ⟨q, rfl⟩ : ∃ q : Nat, xn = q := ⟨xn.toNat, by omega⟩
        exact step29_4 E g A n c ls B m d ps hs i q X mx cx hi he hb (by omega)
    exact step29_0 E g A n c ls B m d ps hs k (by omega) i xn X mx cx hi
  · exact step29_no E g A n c ls B m d ps hs x h1 (by omega)
theorem RdW.of {E E' : Env} {g : Nat} {A : Option Addr} {n c : Nat} {ls : List Letv} {R R1 R2 R3 : List Asn} (hE : Sub E R E') (h1 : Has (wr g A n c) R R1) (h2 : Has (own letT A n c ls) R R2) (h3 : Has (each lOc ls) R R3) : RdW E' g A n c ls :=
  ⟨KCell.blk hE h1 rfl, Sub.own hE h2, fun e he => by
    obtain ⟨i, hi, rfl⟩ := List.getElem_of_mem he
    exact Sub.each hE h3 (List.getElem?_eq_getElem hi) rfl⟩
theorem p_eq {ls ls' : List Letv} (h : ls'.map Letv.p = ls.map Letv.p) {i : Nat} {e e' : Letv} (he : ls[i]? = some e) (he' : ls'[i]? = some e') : e'.p = e.p := by
  have h1 : (ls'.map Letv.p)[i]? = (ls.map Letv.p)[i]? := by rw [h]
  rw [List.getElem?_map, List.getElem?_map, he, he'] at h1
  injection h1
theorem told29 (hs : St29 n c ls m d ps) (hr : Rd E pltT B m d ps) :
    Tri Try.prog E 74 #[.pointer (some ⟨g, 0, none⟩), .slice B m d] [wr g A n c, own letT A n c ls, each lOc ls] fun r H' => r = .returned (.bool true) ∧ H' = [wr g A n c, own letT A n c ls, each lOc ls] := by
  have hmn := hs.mn
  have h128 := hs.h128
  have hmax : maxLen = 9223372036854775807 := rfl
  obtain ⟨hc1, hc2⟩ := hs.hc
  have hnn : (n : Int) < 0 ∨ (n : Int) ≤ (n : Int) := by omega
  have hm1 : ((-1 : Int) < 0 ∨ (n : Int) ≤ -1) := by omega
  subst hmn
  refine tri Try.func74 rfl Try.ntmps74 (by simp) ?_
  repeat (first | refine wW29 ?_ | (refine kW29 ?_; (first | rintro _ _ ⟨rfl, rfl⟩ | rintro _ _ ⟨_, rfl, rfl⟩ | rintro _ _ ⟨_, _, ⟨_, _⟩, rfl, rfl⟩); try refine ⟨sConv, ?_⟩) | refine Dr.two ?_ ?_)
  refine L.step (by decide) (S.call rfl rfl Try.func46 (by kernel_rfl) rfl sPicks (fun E' hE => wclone E' g A m c ls (RdW.of hE sHas sHas sHas) h128 hs.ok) ?_)
  unfold Clone29
  rintro r H' ⟨g2, A2, c2, ls2, rfl, hp2, hok2, ⟨hc3, hc4⟩, rfl⟩
  refine ⟨_, rfl, _, sCat, ?_⟩
  have hl2 : ls2.length = m := by have := congrArg List.length hp2; rw [List.length_map, List.length_map] at this; rw [this, ← hs.hn]
  repeat (first | refine wW29 ?_ | (refine kW29 ?_; (first | rintro _ _ ⟨rfl, rfl⟩ | rintro _ _ ⟨_, rfl, rfl⟩ | rintro _ _ ⟨_, _, ⟨_, _⟩, rfl, rfl⟩); try refine ⟨sConv, ?_⟩) | refine Dr.two ?_ ?_)
  refine L.step (by decide) (S.call rfl rfl Try.func27 (by kernel_rfl) rfl sPicks (fun E' hE => wlen E' g A m c h128) ?_)
  rintro r H' ⟨rfl, rfl⟩
  refine ⟨_, rfl, _, sCat, ?_⟩
  repeat (first | refine wW29 ?_ | (refine kW29 ?_; (first | rintro _ _ ⟨rfl, rfl⟩ | rintro _ _ ⟨_, rfl, rfl⟩ | rintro _ _ ⟨_, _, ⟨_, _⟩, rfl, rfl⟩); try refine ⟨sConv, ?_⟩) | refine Dr.two ?_ ?_)
  refine L.step (by decide) (S.call rfl rfl Try.func47 (by kernel_rfl) rfl sPicks (fun E' hE => wto_no E' g A m c (-1) h128 hm1) ?_)
  rintro r H' ⟨rfl, rfl⟩
  refine ⟨_, rfl, _, sCat, ?_⟩
  repeat (first | refine wW29 ?_ | (refine kW29 ?_; (first | rintro _ _ ⟨rfl, rfl⟩ | rintro _ _ ⟨_, rfl, rfl⟩ | rintro _ _ ⟨_, _, ⟨_, _⟩, rfl, rfl⟩); try refine ⟨sConv, ?_⟩) | refine Dr.two ?_ ?_)
  refine L.step (by decide) (S.call rfl rfl Try.func47 (by kernel_rfl) rfl sPicks (fun E' hE => wto_no E' g A m c m h128 hnn) ?_)
  rintro r H' ⟨rfl, rfl⟩
  refine ⟨_, rfl, _, sCat, ?_⟩
  repeat (first | refine wW29 ?_ | (refine kW29 ?_; (first | rintro _ _ ⟨rfl, rfl⟩ | rintro _ _ ⟨_, rfl, rfl⟩ | rintro _ _ ⟨_, _, ⟨_, _⟩, rfl, rfl⟩); try refine ⟨sConv, ?_⟩) | refine Dr.two ?_ ?_)
  refine C.loop (X := Nat) (fun i => [(0, .pointer (some ⟨g, 0, none⟩)), (1, .slice B m d), (5, .pointer (some ⟨g2, 0, none⟩)), (6, .int .i64 i)])
    (fun i => [wr g A m c, own letT A m c ls, each lOc ls, wr g2 A2 (m - i) c2, own letT A2 (m - i) c2 (ls2.drop i), each lOc (ls2.drop i)]) (fun i => i ≤ m) (fun i => m - i) 0 sHolds (by show Conv _ _ [wr g A m c, own letT A m c ls, each lOc ls, wr g2 A2 m c2, own letT A2 m c2 ls2, each lOc ls2]; exact sConv) (Nat.zero_le _) ?_
  intro i F hi
  by_cases hlt : i < m
  · obtain ⟨e, he, hpe, he1, he2⟩ := hs.at_ hlt
    obtain ⟨e', he'⟩ : ∃ e', ls2[i]? = some e' := ⟨_, List.getElem?_eq_getElem (by omega)⟩
    have hpp := p_eq hp2 he he'
    have hd : (ls2.drop i)[0]? = some e' := by rw [List.getElem?_drop]; exact he'
    have hbr : (!(e.broken == e.p.broken)) = false := by show (!(e.broken == e.broken)) = false; cases e.broken <;> rfl
    have hto : decide (e.to ≠ e.p.to) = false := by show decide (e.to ≠ e.to) = false; simp
    have hb : decide (e'.b ≠ e.p.b) = false := by rw [show e'.b = e.p.b by rw [← hpp]; rfl]; simp
    have hln : m - i = (ls2.drop i).length := by rw [List.length_drop]; omega
    have hlc : m - i ≤ c2 := by omega
    have hl128 : m - i ≤ 128 := by omega
    have hdd : (ls2.drop i).eraseIdx 0 = ls2.drop (i + 1) := by rw [List.eraseIdx_zero, List.tail_drop]
    have hd2 : m - i - 1 = m - (i + 1) := by omega
    repeat (first | refine wW29 ?_ | (refine kW29 ?_; (first | rintro _ _ ⟨rfl, rfl⟩ | rintro _ _ ⟨_, rfl, rfl⟩ | rintro _ _ ⟨_, _, ⟨_, _⟩, rfl, rfl⟩); try refine ⟨sConv, ?_⟩) | refine Dr.two ?_ ?_)
    refine C.regionA 100000 (.one 0 false (.one 1 false (.one 3 false (.one 4 false (.one 5 false (.one 6 false (.one 7 false (.one 2 true (.one 8 false (.one 9 false (.one 10 false (.one 11 false (.one 13 false (.one 14 false (.one 15 false (.one 16 false (.one 17 false (.one 12 true (.one 18 false (.one 19 false .nil)))))))))))))))))))) _ (by kernel_rfl) (by kernel_rfl) Conv.refl ?_
    repeat (first | refine wW29 ?_ | (refine kW29 ?_; (first | rintro _ _ ⟨rfl, rfl⟩ | rintro _ _ ⟨_, rfl, rfl⟩ | rintro _ _ ⟨_, _, ⟨_, _⟩, rfl, rfl⟩); try refine ⟨sConv, ?_⟩) | refine Dr.two ?_ ?_)
    refine Dr.go rfl (by rintro k ⟨⟩ <;> decide) sGon (S.call rfl rfl Try.func47 (by kernel_rfl) rfl sPicks (fun E' hE => wto_yes E' g A m c ls i h128 hlt he hs.hn) ?_)
    rintro r H' ⟨rfl, rfl⟩
    refine ⟨_, rfl, _, sCat, sConv, ?_⟩
    repeat (first | refine wW29 ?_ | (refine kW29 ?_; (first | rintro _ _ ⟨rfl, rfl⟩ | rintro _ _ ⟨_, rfl, rfl⟩ | rintro _ _ ⟨_, _, ⟨_, _⟩, rfl, rfl⟩); try refine ⟨sConv, ?_⟩) | refine Dr.two ?_ ?_)
    refine Dr.go rfl (by rintro k ⟨⟩ <;> decide) sGon (S.call rfl rfl Try.func28 (by kernel_rfl) rfl sPicks (fun E' hE => wbroken_yes E' g A m c ls i h128 hlt he hs.hn) ?_)
    rintro r H' ⟨rfl, rfl⟩
    refine ⟨_, rfl, _, sCat, sConv, ?_⟩
    repeat (first | refine wW29 ?_ | (refine kW29 ?_; (first | rintro _ _ ⟨rfl, rfl⟩ | rintro _ _ ⟨_, rfl, rfl⟩ | rintro _ _ ⟨_, _, ⟨_, _⟩, rfl, rfl⟩); try refine ⟨sConv, ?_⟩) | refine Dr.two ?_ ?_)
    refine L.step (by decide) (S.call rfl rfl Try.func29 (by kernel_rfl) rfl sPicks (fun E' hE => wtake E' g2 A2 (m - i) c2 (ls2.drop i) 0 hl128 hln hlc hc4 hd) ?_)
    rw [hdd, hd2]
    rintro r H' ⟨rfl, rfl⟩
    refine ⟨_, rfl, _, sCat, ?_⟩
    repeat (first | refine wW29 ?_ | (refine kW29 ?_; (first | rintro _ _ ⟨rfl, rfl⟩ | rintro _ _ ⟨_, rfl, rfl⟩ | rintro _ _ ⟨_, _, ⟨_, _⟩, rfl, rfl⟩); try refine ⟨sConv, ?_⟩) | refine Dr.two ?_ ?_)
    refine C.regionA 100000 (.one 0 false (.one 1 false (.one 2 false (.one 3 false (.one 4 false (.one 5 false (.one 6 false (.one 7 false (.one 8 false (.one 9 false (.one 10 false (.one 11 false .nil)))))))))))) _ (by kernel_rfl) (by kernel_rfl) Conv.refl ?_
    repeat (first | refine wW29 ?_ | (refine kW29 ?_; (first | rintro _ _ ⟨rfl, rfl⟩ | rintro _ _ ⟨_, rfl, rfl⟩ | rintro _ _ ⟨_, _, ⟨_, _⟩, rfl, rfl⟩); try refine ⟨sConv, ?_⟩) | refine Dr.two ?_ ?_)
    exact ⟨i + 1, sHolds, sConv, by omega, by omega⟩
  · obtain rfl : i = m := by omega
    repeat (first | refine wW29 ?_ | (refine kW29 ?_; (first | rintro _ _ ⟨rfl, rfl⟩ | rintro _ _ ⟨_, rfl, rfl⟩ | rintro _ _ ⟨_, _, ⟨_, _⟩, rfl, rfl⟩); try refine ⟨sConv, ?_⟩) | refine Dr.two ?_ ?_)
    refine L.step (by decide) (S.call rfl rfl Try.func27 (by kernel_rfl) rfl sPicks (fun E' hE => wlen E' g A i c h128) ?_)
    rintro r H' ⟨rfl, rfl⟩
    refine ⟨_, rfl, _, sCat, ?_⟩
    have h0 : i - i ≤ 128 := by omega
    repeat (first | refine wW29 ?_ | (refine kW29 ?_; (first | rintro _ _ ⟨rfl, rfl⟩ | rintro _ _ ⟨_, rfl, rfl⟩ | rintro _ _ ⟨_, _, ⟨_, _⟩, rfl, rfl⟩); try refine ⟨sConv, ?_⟩) | refine Dr.two ?_ ?_)
    refine L.step (by decide) (S.call rfl rfl Try.func27 (by kernel_rfl) rfl sPicks (fun E' hE => wlen E' g2 A2 (i - i) c2 h0) ?_)
    rintro r H' ⟨rfl, rfl⟩
    refine ⟨_, rfl, _, sCat, ?_⟩
    repeat (first | refine wW29 ?_ | (refine kW29 ?_; (first | rintro _ _ ⟨rfl, rfl⟩ | rintro _ _ ⟨_, rfl, rfl⟩ | rintro _ _ ⟨_, _, ⟨_, _⟩, rfl, rfl⟩); try refine ⟨sConv, ?_⟩) | refine Dr.two ?_ ?_)
    exact ret1 rfl sRet sConv (⟨by simp, rfl⟩)
/-- the state within a run -/
structure Run29 where
  same : Bool
  i : Nat
  A : Option Addr
  n : Nat
  c : Nat
  ls : List Letv
  B : Option Addr
  m : Nat
  d : Nat
  ps : List Plt
def Run29.parts (g : Nat) (B : Option Addr) (m d : Nat) (ps : List Plt) : Run29 → List Asn
  | ⟨true, _, A, n, c, ls, _, _, _, _⟩ => [wr g A n c, own letT A n c ls, each lOc ls, own pltT B m d ps]
  | ⟨false, _, A, n, c, ls, B', m', d', ps'⟩ => [wr g A n c, own letT A n c ls, each lOc ls, own pltT B m d ps, own pltT B' m' d' ps']
def Run29.rel (B : Option Addr) (m d : Nat) (ps : List Plt) (q : Nat) (x : Run29) : Prop := St29 x.n x.c x.ls x.m x.d x.ps ∧ x.i ≤ q ∧ (x.same = true → x.B = B ∧ x.m = m ∧ x.d = d ∧ x.ps = ps)
theorem run29 (hs : St29 n c ls m d ps) (O : Option Addr) (q co : Nat) (xs : List Op29) (hr : Rd E op29T O q co xs) (hb : Bs E xs) (hok : ∀ x ∈ xs, x.ok) (h40 : ∀ x ∈ xs, x.m ≤ 40) :
    Tri Try.prog E 45 #[.pointer (some ⟨g, 0, none⟩), .slice B m d, .slice O q co] [wr g A n c, own letT A n c ls, each lOc ls, own pltT B m d ps] (Step29 g B m d ps) := by
  have hmax : maxLen = 9223372036854775807 := rfl
  have hql := hr.len
  have hqc := hr.cap
  unfold Step29
  refine tri Try.func45 rfl Try.ntmps45 (by simp) ?_
  repeat (first | refine wW29 ?_ | (refine kW29 ?_; (first | rintro _ _ ⟨rfl, rfl⟩ | rintro _ _ ⟨_, rfl, rfl⟩ | rintro _ _ ⟨_, _, ⟨_, _⟩, rfl, rfl⟩); try refine ⟨sConv, ?_⟩) | refine Dr.two ?_ ?_)
  refine C.loop (X := Run29) (fun x => [(0, .pointer (some ⟨g, 0, none⟩)), (1, .slice x.B x.m x.d), (2, .slice O q co), (8, .bool true), (9, .int .i64 x.i)])
    (Run29.parts g B m d ps) (Run29.rel B m d ps q) (fun x => q - x.i) ⟨true, 0, A, n, c, ls, B, m, d, ps⟩ sHolds sConv ⟨hs, Nat.zero_le _, fun _ => ⟨rfl, rfl, rfl, rfl⟩⟩ ?_
  rintro ⟨same, i, A1, n1, c1, l1, B1, m1, d1, p1⟩ F ⟨hs1, hi, hsame⟩
  dsimp only at hs1 hi hsame ⊢
  have hmn1 := hs1.mn
  have hn128 := hs1.h128
  have hmd := hs1.hd
  have hm1 : m1 ≤ maxLen := by omega
  cases same
  · unfold Run29.parts
    dsimp only
    by_cases hlt : i < q
    · obtain ⟨x, hx⟩ : ∃ x, xs[i]? = some x := ⟨_, List.getElem?_eq_getElem (by omega)⟩
      have hmem := List.mem_of_getElem? hx
      repeat (first | refine wW29 ?_ | (refine kW29 ?_; (first | rintro _ _ ⟨rfl, rfl⟩ | rintro _ _ ⟨_, rfl, rfl⟩ | rintro _ _ ⟨_, _, ⟨_, _⟩, rfl, rfl⟩); try refine ⟨sConv, ?_⟩) | refine Dr.two ?_ ?_)
      refine L.step (by decide) (S.call rfl rfl Try.func73 (by kernel_rfl) rfl sPicks (fun E' hE => step29_any E' g A1 n1 c1 l1 B1 m1 d1 p1 hs1 x (hok x hmem) ((hb x hmem).sub hE) (h40 x hmem)) ?_)
      unfold Step29
      rintro r H' ⟨A2, n2, c2, l2, B2, m2, d2, p2, rfl, hs2, ⟨rfl, rfl, rfl, rfl, rfl⟩ | rfl⟩
      · have hmn2 := hs2.mn
        subst hmn2
        have h128 := hs2.h128
        have hmd2 := hs2.hd
        have hmx : m2 ≤ maxLen := by omega
        refine ⟨_, rfl, _, sCat, ?_⟩
        repeat (first | refine wW29 ?_ | (refine kW29 ?_; (first | rintro _ _ ⟨rfl, rfl⟩ | rintro _ _ ⟨_, rfl, rfl⟩ | rintro _ _ ⟨_, _, ⟨_, _⟩, rfl, rfl⟩); try refine ⟨sConv, ?_⟩) | refine Dr.two ?_ ?_)
        refine L.step (by decide) (S.call rfl rfl Try.func27 (by kernel_rfl) rfl sPicks (fun E' hE => wlen E' g A2 m2 c2 h128) ?_)
        rintro r H' ⟨rfl, rfl⟩
        refine ⟨_, rfl, _, sCat, ?_⟩
        repeat (first | refine wW29 ?_ | (refine kW29 ?_; (first | rintro _ _ ⟨rfl, rfl⟩ | rintro _ _ ⟨_, rfl, rfl⟩ | rintro _ _ ⟨_, _, ⟨_, _⟩, rfl, rfl⟩); try refine ⟨sConv, ?_⟩) | refine Dr.two ?_ ?_)
        exact ⟨⟨false, i + 1, A2, m2, c2, l2, B2, m2, d2, p2⟩, sHolds, sConv, ⟨hs2, by dsimp only; omega, fun h => by cases h⟩, by dsimp only; omega⟩
      · have hmn2 := hs2.mn
        subst hmn2
        have h128 := hs2.h128
        have hmd2 := hs2.hd
        have hmx : m2 ≤ maxLen := by omega
        refine ⟨_, rfl, _, sCat, ?_⟩
        repeat (first | refine wW29 ?_ | (refine kW29 ?_; (first | rintro _ _ ⟨rfl, rfl⟩ | rintro _ _ ⟨_, rfl, rfl⟩ | rintro _ _ ⟨_, _, ⟨_, _⟩, rfl, rfl⟩); try refine ⟨sConv, ?_⟩) | refine Dr.two ?_ ?_)
        refine L.step (by decide) (S.call rfl rfl Try.func27 (by kernel_rfl) rfl sPicks (fun E' hE => wlen E' g A2 m2 c2 h128) ?_)
        rintro r H' ⟨rfl, rfl⟩
        refine ⟨_, rfl, _, sCat, ?_⟩
        repeat (first | refine wW29 ?_ | (refine kW29 ?_; (first | rintro _ _ ⟨rfl, rfl⟩ | rintro _ _ ⟨_, rfl, rfl⟩ | rintro _ _ ⟨_, _, ⟨_, _⟩, rfl, rfl⟩); try refine ⟨sConv, ?_⟩) | refine Dr.two ?_ ?_)
        exact ⟨⟨false, i + 1, A2, m2, c2, l2, B2, m2, d2, p2⟩, sHolds, sConv, ⟨hs2, by dsimp only; omega, fun h => by cases h⟩, by dsimp only; omega⟩
    · obtain rfl : i = q := by omega
      repeat (first | refine wW29 ?_ | (refine kW29 ?_; (first | rintro _ _ ⟨rfl, rfl⟩ | rintro _ _ ⟨_, rfl, rfl⟩ | rintro _ _ ⟨_, _, ⟨_, _⟩, rfl, rfl⟩); try refine ⟨sConv, ?_⟩) | refine Dr.two ?_ ?_)
      refine L.step (by decide) (S.call rfl rfl Try.func74 (by kernel_rfl) rfl sPicks (fun E' hE => told29 E' g A1 n1 c1 l1 B1 m1 d1 p1 hs1 sRd) ?_)
      rintro r H' ⟨rfl, rfl⟩
      refine ⟨_, rfl, _, sCat, ?_⟩
      repeat (first | refine wW29 ?_ | (refine kW29 ?_; (first | rintro _ _ ⟨rfl, rfl⟩ | rintro _ _ ⟨_, rfl, rfl⟩ | rintro _ _ ⟨_, _, ⟨_, _⟩, rfl, rfl⟩); try refine ⟨sConv, ?_⟩) | refine Dr.two ?_ ?_)
      exact ret2 rfl sRet sRet sConv (⟨A1, n1, c1, l1, B1, m1, d1, p1, rfl, hs1, .inr rfl⟩)
  · obtain ⟨rfl, rfl, rfl, rfl⟩ := hsame rfl
    unfold Run29.parts
    dsimp only
    by_cases hlt : i < q
    · obtain ⟨x, hx⟩ : ∃ x, xs[i]? = some x := ⟨_, List.getElem?_eq_getElem (by omega)⟩
      have hmem := List.mem_of_getElem? hx
      repeat (first | refine wW29 ?_ | (refine kW29 ?_; (first | rintro _ _ ⟨rfl, rfl⟩ | rintro _ _ ⟨_, rfl, rfl⟩ | rintro _ _ ⟨_, _, ⟨_, _⟩, rfl, rfl⟩); try refine ⟨sConv, ?_⟩) | refine Dr.two ?_ ?_)
      refine L.step (by decide) (S.call rfl rfl Try.func73 (by kernel_rfl) rfl sPicks (fun E' hE => step29_any E' g A1 n1 c1 l1 B1 m1 d1 p1 hs1 x (hok x hmem) ((hb x hmem).sub hE) (h40 x hmem)) ?_)
      unfold Step29
      rintro r H' ⟨A2, n2, c2, l2, B2, m2, d2, p2, rfl, hs2, ⟨rfl, rfl, rfl, rfl, rfl⟩ | rfl⟩
      · have hmn2 := hs2.mn
        subst hmn2
        have h128 := hs2.h128
        have hmd2 := hs2.hd
        have hmx : m2 ≤ maxLen := by omega
        refine ⟨_, rfl, _, sCat, ?_⟩
        repeat (first | refine wW29 ?_ | (refine kW29 ?_; (first | rintro _ _ ⟨rfl, rfl⟩ | rintro _ _ ⟨_, rfl, rfl⟩ | rintro _ _ ⟨_, _, ⟨_, _⟩, rfl, rfl⟩); try refine ⟨sConv, ?_⟩) | refine Dr.two ?_ ?_)
        refine L.step (by decide) (S.call rfl rfl Try.func27 (by kernel_rfl) rfl sPicks (fun E' hE => wlen E' g A2 m2 c2 h128) ?_)
        rintro r H' ⟨rfl, rfl⟩
        refine ⟨_, rfl, _, sCat, ?_⟩
        repeat (first | refine wW29 ?_ | (refine kW29 ?_; (first | rintro _ _ ⟨rfl, rfl⟩ | rintro _ _ ⟨_, rfl, rfl⟩ | rintro _ _ ⟨_, _, ⟨_, _⟩, rfl, rfl⟩); try refine ⟨sConv, ?_⟩) | refine Dr.two ?_ ?_)
        exact ⟨⟨true, i + 1, A2, m2, c2, l2, B2, m2, d2, p2⟩, sHolds, sConv, ⟨hs2, by dsimp only; omega, fun h => ⟨rfl, rfl, rfl, rfl⟩⟩, by dsimp only; omega⟩
      · have hmn2 := hs2.mn
        subst hmn2
        have h128 := hs2.h128
        have hmd2 := hs2.hd
        have hmx : m2 ≤ maxLen := by omega
        refine ⟨_, rfl, _, sCat, ?_⟩
        repeat (first | refine wW29 ?_ | (refine kW29 ?_; (first | rintro _ _ ⟨rfl, rfl⟩ | rintro _ _ ⟨_, rfl, rfl⟩ | rintro _ _ ⟨_, _, ⟨_, _⟩, rfl, rfl⟩); try refine ⟨sConv, ?_⟩) | refine Dr.two ?_ ?_)
        refine L.step (by decide) (S.call rfl rfl Try.func27 (by kernel_rfl) rfl sPicks (fun E' hE => wlen E' g A2 m2 c2 h128) ?_)
        rintro r H' ⟨rfl, rfl⟩
        refine ⟨_, rfl, _, sCat, ?_⟩
        repeat (first | refine wW29 ?_ | (refine kW29 ?_; (first | rintro _ _ ⟨rfl, rfl⟩ | rintro _ _ ⟨_, rfl, rfl⟩ | rintro _ _ ⟨_, _, ⟨_, _⟩, rfl, rfl⟩); try refine ⟨sConv, ?_⟩) | refine Dr.two ?_ ?_)
        exact ⟨⟨false, i + 1, A2, m2, c2, l2, B2, m2, d2, p2⟩, sHolds, sConv, ⟨hs2, by dsimp only; omega, fun h => by cases h⟩, by dsimp only; omega⟩
    · obtain rfl : i = q := by omega
      repeat (first | refine wW29 ?_ | (refine kW29 ?_; (first | rintro _ _ ⟨rfl, rfl⟩ | rintro _ _ ⟨_, rfl, rfl⟩ | rintro _ _ ⟨_, _, ⟨_, _⟩, rfl, rfl⟩); try refine ⟨sConv, ?_⟩) | refine Dr.two ?_ ?_)
      refine L.step (by decide) (S.call rfl rfl Try.func74 (by kernel_rfl) rfl sPicks (fun E' hE => told29 E' g A1 n1 c1 l1 B1 m1 d1 p1 hs1 sRd) ?_)
      rintro r H' ⟨rfl, rfl⟩
      refine ⟨_, rfl, _, sCat, ?_⟩
      repeat (first | refine wW29 ?_ | (refine kW29 ?_; (first | rintro _ _ ⟨rfl, rfl⟩ | rintro _ _ ⟨_, rfl, rfl⟩ | rintro _ _ ⟨_, _, ⟨_, _⟩, rfl, rfl⟩); try refine ⟨sConv, ?_⟩) | refine Dr.two ?_ ?_)
      exact ret2 rfl sRet sRet sConv (⟨A1, n1, c1, l1, B1, m1, d1, p1, rfl, hs1, .inl ⟨rfl, rfl, rfl, rfl, rfl⟩⟩)
end
end Go.Proofs.Ytbnfpmdieiknmaa.Sep
