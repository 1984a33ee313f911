/- the law of the wire: one call that puts, or copies; by parts of memory. -/
import Derived.Test.YtbnfpmdieiknmaaWire4
namespace Go.Proofs.Ytbnfpmdieiknmaa.Sep
open Go.RowKit Go.Proofs.Ytbnfpmdieiknmaa.Reg
open Go.Proofs.Ytbnfpmdieiknmaa.Mem hiding Rd Own
-- types: octT letT pltT op29T
-- recs: letT_rec wire_rec pltT_rec op29T_rec
-- funcs
-- flds
set_option maxRecDepth 100000
set_option maxHeartbeats 8000000
structure St29 (n c : Nat) (ls : List Letv) (m d : Nat) (ps : List Plt) : Prop where
  hn : n = ls.length
  h128 : n ≤ 128
  hc : n ≤ c ∧ c ≤ maxLen
  ok : wOk ls
  hp : ls.map Letv.p = ps
  hm : m = ps.length
  hd : m ≤ d ∧ d ≤ maxLen
theorem St29.mn {n c : Nat} {ls : List Letv} {m d : Nat} {ps : List Plt} (h : St29 n c ls m d ps) : m = n := by
  have := h.hp; rw [h.hm, ← this, List.length_map, ← h.hn]
theorem St29.push {n c : Nat} {ls : List Letv} {m d : Nat} {ps : List Plt} (h : St29 n c ls m d ps) (hlt : m < 128) {e : Letv} (h1 : e.n = e.b.length) (h2 : e.n ≤ 140737488355300) {c' d' : Nat} (hc : n + 1 ≤ c' ∧ c' ≤ maxLen) (hd : m + 1 ≤ d' ∧ d' ≤ maxLen) :
    St29 (n + 1) c' (ls ++ [e]) (m + 1) d' (ps ++ [e.p]) := by
  have hmn := h.mn
  refine ⟨by rw [List.length_append, ← h.hn]; rfl, by omega, hc, h.ok.add h1 h2, by rw [List.map_append, h.hp]; rfl, by rw [List.length_append, ← h.hm]; rfl, hd⟩
theorem St29.at_ {n c : Nat} {ls : List Letv} {m d : Nat} {ps : List Plt} (h : St29 n c ls m d ps) {i : Nat} (hi : i < m) : ∃ e, ls[i]? = some e ∧ ps[i]? = some e.p ∧ e.n = e.b.length ∧ e.n ≤ 140737488355300 := by
  have hmn := h.mn
  have hlt : i < ls.length := by rw [← h.hn]; omega
  refine ⟨ls[i], List.getElem?_eq_getElem hlt, ?_, h.ok _ (List.getElem_mem _)⟩
  rw [← h.hp, List.getElem?_map, List.getElem?_eq_getElem hlt]; rfl
/-- behind one call: all is as of a list, and the old list stays -/
def Step29 (g : Nat) (B : Option Addr) (m d : Nat) (ps : List Plt) : Ending → List Asn → Prop := fun r H' =>
  ∃ A' n' c' ls' B' m' d' ps', r = .returned (.tuple #[.slice B' m' d', .bool true]) ∧ St29 n' c' ls' m' d' ps' ∧
    ((B' = B ∧ m' = m ∧ d' = d ∧ ps' = ps ∧ H' = [wr g A' n' c', own letT A' n' c' ls', each lOc ls', own pltT B m d ps]) ∨
     H' = [wr g A' n' c', own letT A' n' c' ls', each lOc ls', own pltT B m d ps, own pltT B' m' d' ps'])
abbrev plt0 : Plt := ⟨0, [], false⟩
theorem without29_last (E : Env) (B : Option Addr) (m d : Nat) (ps : List Plt) (hm : m = ps.length) (hr : Rd E pltT B (m + 1) d (ps ++ [plt0])) (h128 : m < 128) :
    Tri Try.prog E 86 #[.slice B (m + 1) d, .int .i64 m] [] fun r H' => ∃ A' c', r = .returned (.slice A' m c') ∧ (m ≤ c' ∧ c' ≤ maxLen) ∧ H' = [own pltT A' m c' ps] := by
  have := without29 E B (m + 1) d (ps ++ [plt0]) m hr (by omega) (by omega)
  rw [show (ps ++ [plt0]).eraseIdx m = ps by rw [hm, List.eraseIdx_append_of_length_le (Nat.le_refl _)]; simp] at this
  exact this
section
variable (E : Env) (g : Nat) (A : Option Addr) (n c : Nat) (ls : List Letv) (B : Option Addr) (m d : Nat) (ps : List Plt)
theorem step29_1f (hs : St29 n c ls m d ps) (x : Op29) (hk : x.kind = 1) (hlt : 128 ≤ m) :
    Tri Try.prog E 73 #[.pointer (some ⟨g, 0, none⟩), .slice B m d, .agg x.cs.toArray] [wr g A n c, own letT A n c ls, each lOc ls, own pltT B m d ps] (Step29 g B m d ps) := by
  have hmn := hs.mn
  have hmax : maxLen = 9223372036854775807 := rfl
  have hn1 : 128 ≤ n := by omega
  have hn2 : n ≤ maxLen := by have := hs.hc; omega
  unfold Step29
  refine tri Try.func73 rfl Try.ntmps73 (by simp) ?_
  repeat (first | refine wW29 ?_ | (refine kW29 ?_; (first | rintro _ _ ⟨rfl, rfl⟩ | rintro _ _ ⟨_, rfl, rfl⟩ | rintro _ _ ⟨_, _, ⟨_, _⟩, rfl, rfl⟩); try refine ⟨sConv, ?_⟩) | refine Dr.two ?_ ?_)
  refine L.step (by decide) (S.call rfl rfl Try.func23 (by kernel_rfl) rfl sPicks (fun E' hE => wput_full E' g A n c x.n x.A x.m x.c hn1 hn2) ?_)
  rintro r H' ⟨rfl, rfl⟩
  refine ⟨_, rfl, _, sCat, ?_⟩
  repeat (first | refine wW29 ?_ | (refine kW29 ?_; (first | rintro _ _ ⟨rfl, rfl⟩ | rintro _ _ ⟨_, rfl, rfl⟩ | rintro _ _ ⟨_, _, ⟨_, _⟩, rfl, rfl⟩); try refine ⟨sConv, ?_⟩) | refine Dr.two ?_ ?_)
  exact ret2 rfl sRet sRet sConv (⟨A, n, c, ls, B, m, d, ps, rfl, hs, .inl ⟨rfl, rfl, rfl, rfl, rfl⟩⟩)
theorem step29_1 (hs : St29 n c ls m d ps) (x : Op29) (hk : x.kind = 1) (hw : Rd E octT x.A x.m x.c x.b) (hx : x.m ≤ 40) (hlt : m < 128) :
    Tri Try.prog E 73 #[.pointer (some ⟨g, 0, none⟩), .slice B m d, .agg x.cs.toArray] [wr g A n c, own letT A n c ls, each lOc ls, own pltT B m d ps] (Step29 g B m d ps) := by
  have hmn := hs.mn
  have hmax : maxLen = 9223372036854775807 := rfl
  have hn1 : n < 128 := by omega
  have hxn : x.m ≤ 140737488355300 := by omega
  have hxl := hw.len
  have hl := hs.hn
  have hm := hs.hm
  have htk : (ps ++ [plt0]).take m = ps := by rw [hm, List.take_left' rfl]
  obtain ⟨hd1, hd2⟩ := hs.hd
  unfold Step29
  obtain ⟨hpz, hcase⟩ : (m = 0 → ps = []) ∧ (m < d ∨ m = d ∧ 0 < m ∨ m = 0 ∧ d = 0) := ⟨fun h => List.eq_nil_of_length_eq_zero (by omega), by omega⟩
  refine tri Try.func73 rfl Try.ntmps73 (by simp) ?_
  repeat (first | refine wW29 ?_ | (refine kW29 ?_; (first | rintro _ _ ⟨rfl, rfl⟩ | rintro _ _ ⟨_, rfl, rfl⟩ | rintro _ _ ⟨_, _, ⟨_, _⟩, rfl, rfl⟩); try refine ⟨sConv, ?_⟩) | refine Dr.two ?_ ?_)
  rename_i g5
  rcases hcase with hcase | ⟨hcase, hpos⟩ | ⟨rfl, rfl⟩
  · skip
    refine C.regionA 100000 (.one 0 false (.one 1 false (.one 4 false (.one 5 false (.one 7 false (.one 8 false (.one 9 false (.one 10 false (.one 11 false (.one 12 false (.one 15 false (.one 16 false (.one 17 false (.one 18 false (.one 19 false (.two 2 (.two 3 (.two 6 (.one 13 true (.one 14 true (.one 20 true (.one 21 false (.one 22 false .nil))))) 13 (.one 6 true (.one 14 true (.one 20 true (.one 21 false (.one 22 false .nil)))))) 13 (.one 3 true (.one 6 true (.one 14 true (.one 20 true (.one 21 false (.one 22 false .nil))))))) 13 (.one 2 true (.one 3 true (.one 6 true (.one 14 true (.one 20 true (.one 21 false (.one 22 false .nil))))))))))))))))))))))) ([blk g5 38 x.cs, own pltT B m d ps]) (by kernel_rfl) (by kernel_rfl) sConv ?_
    repeat (first | refine vW29 ?_ | (refine kW29 ?_; (first | rintro _ _ ⟨rfl, rfl⟩ | rintro _ _ ⟨_, rfl, rfl⟩ | rintro _ _ ⟨_, _, ⟨_, _⟩, rfl, rfl⟩); try refine ⟨sConv, ?_⟩))
    refine Dr.two ?_ ?_
    · refine Go1.goK rfl (by rintro k ⟨⟩ <;> decide) sGon (S.buildSlice1K (T := pltT) (e := plt0) rfl rfl rfl rfl (by decide)) ?_; rintro _ _ ⟨_, rfl, rfl⟩; refine ⟨sConv, ?_⟩
      repeat (first | refine vW29 ?_ | (refine kW29 ?_; (first | rintro _ _ ⟨rfl, rfl⟩ | rintro _ _ ⟨_, rfl, rfl⟩ | rintro _ _ ⟨_, _, ⟨_, _⟩, rfl, rfl⟩); try refine ⟨sConv, ?_⟩))
      refine Dr.two ?_ ?_
      · refine Go1.goK rfl (by rintro k ⟨⟩ <;> decide) sGon (S.appendInK rfl rfl rfl sNN sRepl sRdH sNL rfl (by_ := 32) rfl sOm sOm sOm sOm) ?_; rintro _ _ ⟨rfl, rfl⟩; refine ⟨Conv.trans (Conv.ownBack (T := pltT) (A := B) (n := m + 1) (c := d) (k := m) (l := ps ++ [plt0]) (by omega) htk sRepl) sConv, ?_⟩
        repeat (first | refine vW29 ?_ | (refine kW29 ?_; (first | rintro _ _ ⟨rfl, rfl⟩ | rintro _ _ ⟨_, rfl, rfl⟩ | rintro _ _ ⟨_, _, ⟨_, _⟩, rfl, rfl⟩); try refine ⟨sConv, ?_⟩))
        refine Dr.two ?_ ?_
        · refine Go1.go rfl (by rintro k ⟨⟩ <;> decide) sGon (S.call rfl rfl Try.func86 (by kernel_rfl) rfl sPicks (fun E' hE => without29_last E' B m d ps hm sRd (by omega)) ?_)
          rintro r H' ⟨W, cw, rfl, ⟨k3, k4⟩, rfl⟩
          refine ⟨_, rfl, _, sCat, Conv.trans (Conv.ownBack (T := pltT) (A := B) (n := m + 1) (c := d) (k := m) (l := ps ++ [plt0]) (by omega) htk sRepl) sConv, ?_⟩
          apply Dr.conv; (· exact (Conv.ownBack (T := pltT) (A := B) (n := m + 1) (c := d) (k := m) (l := ps ++ [plt0]) (by omega) htk sRepl))
          repeat ((fail_if_success (refine Dr.all (i := 13) ?_)); first | refine vW29 ?_ | (refine kW29 ?_; (first | rintro _ _ ⟨rfl, rfl⟩ | rintro _ _ ⟨_, rfl, rfl⟩ | rintro _ _ ⟨_, _, ⟨_, _⟩, rfl, rfl⟩); try refine ⟨sConv, ?_⟩))
          refine Dr.goK rfl (by rintro k ⟨⟩ <;> decide) sGon (S.buildSlice1K (T := pltT) (e := ⟨x.n, x.b, false⟩) rfl rfl rfl rfl (by decide)) ?_; rintro _ _ ⟨_, rfl, rfl⟩; refine ⟨by first | exact sConv | exact Conv.trans (Conv.ownBack (T := pltT) (A := B) (n := m + 1) (c := d) (k := m) (l := ps ++ [plt0]) (by omega) htk sRepl) sConv, ?_⟩
          repeat (first | refine wW29 ?_ | (refine kW29 ?_; (first | rintro _ _ ⟨rfl, rfl⟩ | rintro _ _ ⟨_, rfl, rfl⟩ | rintro _ _ ⟨_, _, ⟨_, _⟩, rfl, rfl⟩); try refine ⟨sConv, ?_⟩) | refine Dr.two ?_ ?_)
          rename_i A5 c5 k5 k6
          refine Dr.go rfl (by rintro k ⟨⟩ <;> decide) sGon (S.call rfl rfl Try.func23 (by kernel_rfl) rfl sPicks (fun E' hE => wput E' g A n c ls x.n x.A x.m x.c x.b hn1 hl sRd hxn) ?_)
          unfold Post29
          rintro r H' ⟨A6, c6, O, co, rfl, k7, rfl⟩
          refine ⟨_, rfl, _, sCat, sConv, ?_⟩
          repeat (first | refine wW29 ?_ | (refine kW29 ?_; (first | rintro _ _ ⟨rfl, rfl⟩ | rintro _ _ ⟨_, rfl, rfl⟩ | rintro _ _ ⟨_, _, ⟨_, _⟩, rfl, rfl⟩); try refine ⟨sConv, ?_⟩) | refine Dr.two ?_ ?_)
          exact ret2 rfl sRet sRet sConv (⟨A6, n + 1, c6, ls ++ [⟨x.n, O, x.m, co, x.b, false⟩], A5, m + 1, c5, ps ++ [⟨x.n, x.b, false⟩], rfl, hs.push (e := ⟨x.n, O, x.m, co, x.b, false⟩) hlt hxl hxn k7 ⟨k5, k6⟩, .inr rfl⟩)
        · refine Go1.goK rfl (by rintro k ⟨⟩ <;> decide) sGon (S.buildSlice1K (T := pltT) (e := ⟨x.n, x.b, false⟩) rfl rfl rfl rfl (by decide)) ?_; rintro _ _ ⟨_, rfl, rfl⟩; refine ⟨by first | exact sConv | exact Conv.trans (Conv.ownBack (T := pltT) (A := B) (n := m + 1) (c := d) (k := m) (l := ps ++ [plt0]) (by omega) htk sRepl) sConv, ?_⟩
          repeat (first | refine vW29 ?_ | (refine kW29 ?_; (first | rintro _ _ ⟨rfl, rfl⟩ | rintro _ _ ⟨_, rfl, rfl⟩ | rintro _ _ ⟨_, _, ⟨_, _⟩, rfl, rfl⟩); try refine ⟨sConv, ?_⟩))
          refine Dr.go rfl (by rintro k ⟨⟩ <;> decide) sGon (S.call rfl rfl Try.func86 (by kernel_rfl) rfl sPicks (fun E' hE => without29_last E' B m d ps hm sRd (by omega)) ?_)
          rintro r H' ⟨W, cw, rfl, ⟨k3, k4⟩, rfl⟩
          refine ⟨_, rfl, _, sCat, Conv.trans (Conv.ownBack (T := pltT) (A := B) (n := m + 1) (c := d) (k := m) (l := ps ++ [plt0]) (by omega) htk sRepl) sConv, ?_⟩
          apply Dr.conv; (· exact (Conv.ownBack (T := pltT) (A := B) (n := m + 1) (c := d) (k := m) (l := ps ++ [plt0]) (by omega) htk sRepl))
          repeat (first | refine wW29 ?_ | (refine kW29 ?_; (first | rintro _ _ ⟨rfl, rfl⟩ | rintro _ _ ⟨_, rfl, rfl⟩ | rintro _ _ ⟨_, _, ⟨_, _⟩, rfl, rfl⟩); try refine ⟨sConv, ?_⟩) | refine Dr.two ?_ ?_)
          rename_i A5 c5 k5 k6
          refine Dr.go rfl (by rintro k ⟨⟩ <;> decide) sGon (S.call rfl rfl Try.func23 (by kernel_rfl) rfl sPicks (fun E' hE => wput E' g A n c ls x.n x.A x.m x.c x.b hn1 hl sRd hxn) ?_)
          unfold Post29
          rintro r H' ⟨A6, c6, O, co, rfl, k7, rfl⟩
          refine ⟨_, rfl, _, sCat, sConv, ?_⟩
          repeat (first | refine wW29 ?_ | (refine kW29 ?_; (first | rintro _ _ ⟨rfl, rfl⟩ | rintro _ _ ⟨_, rfl, rfl⟩ | rintro _ _ ⟨_, _, ⟨_, _⟩, rfl, rfl⟩); try refine ⟨sConv, ?_⟩) | refine Dr.two ?_ ?_)
          exact ret2 rfl sRet sRet sConv (⟨A6, n + 1, c6, ls ++ [⟨x.n, O, x.m, co, x.b, false⟩], A5, m + 1, c5, ps ++ [⟨x.n, x.b, false⟩], rfl, hs.push (e := ⟨x.n, O, x.m, co, x.b, false⟩) hlt hxl hxn k7 ⟨k5, k6⟩, .inr rfl⟩)
      · refine Go1.goK rfl (by rintro k ⟨⟩ <;> decide) sGon (S.buildSlice1K (T := pltT) (e := ⟨x.n, x.b, false⟩) rfl rfl rfl rfl (by decide)) ?_; rintro _ _ ⟨_, rfl, rfl⟩; refine ⟨by first | exact sConv | exact Conv.trans (Conv.ownBack (T := pltT) (A := B) (n := m + 1) (c := d) (k := m) (l := ps ++ [plt0]) (by omega) htk sRepl) sConv, ?_⟩
        repeat ((fail_if_success (refine Dr.all (i := 3) ?_)); first | refine vW29 ?_ | (refine kW29 ?_; (first | rintro _ _ ⟨rfl, rfl⟩ | rintro _ _ ⟨_, rfl, rfl⟩ | rintro _ _ ⟨_, _, ⟨_, _⟩, rfl, rfl⟩); try refine ⟨sConv, ?_⟩))
        refine Dr.goK rfl (by rintro k ⟨⟩ <;> decide) sGon (S.appendInK rfl rfl rfl sNN sRepl sRdH sNL rfl (by_ := 32) rfl sOm sOm sOm sOm) ?_; rintro _ _ ⟨rfl, rfl⟩; refine ⟨Conv.trans (Conv.ownBack (T := pltT) (A := B) (n := m + 1) (c := d) (k := m) (l := ps ++ [plt0]) (by omega) htk sRepl) sConv, ?_⟩
        repeat (first | refine vW29 ?_ | (refine kW29 ?_; (first | rintro _ _ ⟨rfl, rfl⟩ | rintro _ _ ⟨_, rfl, rfl⟩ | rintro _ _ ⟨_, _, ⟨_, _⟩, rfl, rfl⟩); try refine ⟨sConv, ?_⟩))
        refine Dr.go rfl (by rintro k ⟨⟩ <;> decide) sGon (S.call rfl rfl Try.func86 (by kernel_rfl) rfl sPicks (fun E' hE => without29_last E' B m d ps hm sRd (by omega)) ?_)
        rintro r H' ⟨W, cw, rfl, ⟨k3, k4⟩, rfl⟩
        refine ⟨_, rfl, _, sCat, Conv.trans (Conv.ownBack (T := pltT) (A := B) (n := m + 1) (c := d) (k := m) (l := ps ++ [plt0]) (by omega) htk sRepl) sConv, ?_⟩
        apply Dr.conv; (· exact (Conv.ownBack (T := pltT) (A := B) (n := m + 1) (c := d) (k := m) (l := ps ++ [plt0]) (by omega) htk sRepl))
        repeat (first | refine wW29 ?_ | (refine kW29 ?_; (first | rintro _ _ ⟨rfl, rfl⟩ | rintro _ _ ⟨_, rfl, rfl⟩ | rintro _ _ ⟨_, _, ⟨_, _⟩, rfl, rfl⟩); try refine ⟨sConv, ?_⟩) | refine Dr.two ?_ ?_)
        rename_i A5 c5 k5 k6
        refine Dr.go rfl (by rintro k ⟨⟩ <;> decide) sGon (S.call rfl rfl Try.func23 (by kernel_rfl) rfl sPicks (fun E' hE => wput E' g A n c ls x.n x.A x.m x.c x.b hn1 hl sRd hxn) ?_)
        unfold Post29
        rintro r H' ⟨A6, c6, O, co, rfl, k7, rfl⟩
        refine ⟨_, rfl, _, sCat, sConv, ?_⟩
        repeat (first | refine wW29 ?_ | (refine kW29 ?_; (first | rintro _ _ ⟨rfl, rfl⟩ | rintro _ _ ⟨_, rfl, rfl⟩ | rintro _ _ ⟨_, _, ⟨_, _⟩, rfl, rfl⟩); try refine ⟨sConv, ?_⟩) | refine Dr.two ?_ ?_)
        exact ret2 rfl sRet sRet sConv (⟨A6, n + 1, c6, ls ++ [⟨x.n, O, x.m, co, x.b, false⟩], A5, m + 1, c5, ps ++ [⟨x.n, x.b, false⟩], rfl, hs.push (e := ⟨x.n, O, x.m, co, x.b, false⟩) hlt hxl hxn k7 ⟨k5, k6⟩, .inr rfl⟩)
    · refine Go1.goK rfl (by rintro k ⟨⟩ <;> decide) sGon (S.buildSlice1K (T := pltT) (e := ⟨x.n, x.b, false⟩) rfl rfl rfl rfl (by decide)) ?_; rintro _ _ ⟨_, rfl, rfl⟩; refine ⟨by first | exact sConv | exact Conv.trans (Conv.ownBack (T := pltT) (A := B) (n := m + 1) (c := d) (k := m) (l := ps ++ [plt0]) (by omega) htk sRepl) sConv, ?_⟩
      repeat ((fail_if_success (refine Dr.all (i := 2) ?_)); first | refine vW29 ?_ | (refine kW29 ?_; (first | rintro _ _ ⟨rfl, rfl⟩ | rintro _ _ ⟨_, rfl, rfl⟩ | rintro _ _ ⟨_, _, ⟨_, _⟩, rfl, rfl⟩); try refine ⟨sConv, ?_⟩))
      refine Dr.goK rfl (by rintro k ⟨⟩ <;> decide) sGon (S.buildSlice1K (T := pltT) (e := plt0) rfl rfl rfl rfl (by decide)) ?_; rintro _ _ ⟨_, rfl, rfl⟩; refine ⟨sConv, ?_⟩
      repeat ((fail_if_success (refine Dr.all (i := 3) ?_)); first | refine vW29 ?_ | (refine kW29 ?_; (first | rintro _ _ ⟨rfl, rfl⟩ | rintro _ _ ⟨_, rfl, rfl⟩ | rintro _ _ ⟨_, _, ⟨_, _⟩, rfl, rfl⟩); try refine ⟨sConv, ?_⟩))
      refine Dr.goK rfl (by rintro k ⟨⟩ <;> decide) sGon (S.appendInK rfl rfl rfl sNN sRepl sRdH sNL rfl (by_ := 32) rfl sOm sOm sOm sOm) ?_; rintro _ _ ⟨rfl, rfl⟩; refine ⟨Conv.trans (Conv.ownBack (T := pltT) (A := B) (n := m + 1) (c := d) (k := m) (l := ps ++ [plt0]) (by omega) htk sRepl) sConv, ?_⟩
      repeat (first | refine vW29 ?_ | (refine kW29 ?_; (first | rintro _ _ ⟨rfl, rfl⟩ | rintro _ _ ⟨_, rfl, rfl⟩ | rintro _ _ ⟨_, _, ⟨_, _⟩, rfl, rfl⟩); try refine ⟨sConv, ?_⟩))
      refine Dr.go rfl (by rintro k ⟨⟩ <;> decide) sGon (S.call rfl rfl Try.func86 (by kernel_rfl) rfl sPicks (fun E' hE => without29_last E' B m d ps hm sRd (by omega)) ?_)
      rintro r H' ⟨W, cw, rfl, ⟨k3, k4⟩, rfl⟩
      refine ⟨_, rfl, _, sCat, Conv.trans (Conv.ownBack (T := pltT) (A := B) (n := m + 1) (c := d) (k := m) (l := ps ++ [plt0]) (by omega) htk sRepl) sConv, ?_⟩
      apply Dr.conv; (· exact (Conv.ownBack (T := pltT) (A := B) (n := m + 1) (c := d) (k := m) (l := ps ++ [plt0]) (by omega) htk sRepl))
      repeat (first | refine wW29 ?_ | (refine kW29 ?_; (first | rintro _ _ ⟨rfl, rfl⟩ | rintro _ _ ⟨_, rfl, rfl⟩ | rintro _ _ ⟨_, _, ⟨_, _⟩, rfl, rfl⟩); try refine ⟨sConv, ?_⟩) | refine Dr.two ?_ ?_)
      rename_i A5 c5 k5 k6
      refine Dr.go rfl (by rintro k ⟨⟩ <;> decide) sGon (S.call rfl rfl Try.func23 (by kernel_rfl) rfl sPicks (fun E' hE => wput E' g A n c ls x.n x.A x.m x.c x.b hn1 hl sRd hxn) ?_)
      unfold Post29
      rintro r H' ⟨A6, c6, O, co, rfl, k7, rfl⟩
      refine ⟨_, rfl, _, sCat, sConv, ?_⟩
      repeat (first | refine wW29 ?_ | (refine kW29 ?_; (first | rintro _ _ ⟨rfl, rfl⟩ | rintro _ _ ⟨_, rfl, rfl⟩ | rintro _ _ ⟨_, _, ⟨_, _⟩, rfl, rfl⟩); try refine ⟨sConv, ?_⟩) | refine Dr.two ?_ ?_)
      exact ret2 rfl sRet sRet sConv (⟨A6, n + 1, c6, ls ++ [⟨x.n, O, x.m, co, x.b, false⟩], A5, m + 1, c5, ps ++ [⟨x.n, x.b, false⟩], rfl, hs.push (e := ⟨x.n, O, x.m, co, x.b, false⟩) hlt hxl hxn k7 ⟨k5, k6⟩, .inr rfl⟩)
  · skip
    refine C.regionA 100000 (.one 0 false (.one 1 false (.one 4 false (.one 5 false (.one 7 false (.one 8 false (.one 9 false (.one 10 false (.one 11 false (.one 12 false (.one 15 false (.one 16 false (.one 17 false (.one 18 false (.one 19 false (.two 2 (.two 3 (.two 6 (.one 13 true (.one 14 true (.one 20 true (.one 21 false (.one 22 false .nil))))) 13 (.one 6 true (.one 14 true (.one 20 true (.one 21 false (.one 22 false .nil)))))) 13 (.one 3 true (.one 6 true (.one 14 true (.one 20 true (.one 21 false (.one 22 false .nil))))))) 13 (.one 2 true (.one 3 true (.one 6 true (.one 14 true (.one 20 true (.one 21 false (.one 22 false .nil))))))))))))))))))))))) ([blk g5 38 x.cs, own pltT B m d ps]) (by kernel_rfl) (by kernel_rfl) sConv ?_
    repeat (first | refine vW29 ?_ | (refine kW29 ?_; (first | rintro _ _ ⟨rfl, rfl⟩ | rintro _ _ ⟨_, rfl, rfl⟩ | rintro _ _ ⟨_, _, ⟨_, _⟩, rfl, rfl⟩); try refine ⟨sConv, ?_⟩))
    refine Dr.two ?_ ?_
    · refine Go1.goK rfl (by rintro k ⟨⟩ <;> decide) sGon (S.buildSlice1K (T := pltT) (e := plt0) rfl rfl rfl rfl (by decide)) ?_; rintro _ _ ⟨_, rfl, rfl⟩; refine ⟨sConv, ?_⟩
      repeat (first | refine vW29 ?_ | (refine kW29 ?_; (first | rintro _ _ ⟨rfl, rfl⟩ | rintro _ _ ⟨_, rfl, rfl⟩ | rintro _ _ ⟨_, _, ⟨_, _⟩, rfl, rfl⟩); try refine ⟨sConv, ?_⟩))
      refine Dr.two ?_ ?_
      · refine Go1.goK rfl (by rintro k ⟨⟩ <;> decide) sGon (S.appendOutK rfl rfl rfl sNN sRdH sRdH sNL rfl (by_ := 32) rfl sOm sOm sOm sOm sOm) ?_; rintro _ _ ⟨A1, c1, ⟨_, _⟩, rfl, rfl⟩; refine ⟨sConv, ?_⟩
        repeat (first | refine vW29 ?_ | (refine kW29 ?_; (first | rintro _ _ ⟨rfl, rfl⟩ | rintro _ _ ⟨_, rfl, rfl⟩ | rintro _ _ ⟨_, _, ⟨_, _⟩, rfl, rfl⟩); try refine ⟨sConv, ?_⟩))
        refine Dr.two ?_ ?_
        · refine Go1.go rfl (by rintro k ⟨⟩ <;> decide) sGon (S.call rfl rfl Try.func86 (by kernel_rfl) rfl sPicks (fun E' hE => without29_last E' A1 m c1 ps hm sRd (by omega)) ?_)
          rintro r H' ⟨W, cw, rfl, ⟨k3, k4⟩, rfl⟩
          refine ⟨_, rfl, _, sCat, Conv.trans Conv.refl sConv, ?_⟩
          apply Dr.conv; (· exact Conv.refl)
          repeat ((fail_if_success (refine Dr.all (i := 13) ?_)); first | refine vW29 ?_ | (refine kW29 ?_; (first | rintro _ _ ⟨rfl, rfl⟩ | rintro _ _ ⟨_, rfl, rfl⟩ | rintro _ _ ⟨_, _, ⟨_, _⟩, rfl, rfl⟩); try refine ⟨sConv, ?_⟩))
          refine Dr.goK rfl (by rintro k ⟨⟩ <;> decide) sGon (S.buildSlice1K (T := pltT) (e := ⟨x.n, x.b, false⟩) rfl rfl rfl rfl (by decide)) ?_; rintro _ _ ⟨_, rfl, rfl⟩; refine ⟨by first | exact sConv | exact Conv.trans Conv.refl sConv, ?_⟩
          repeat (first | refine wW29 ?_ | (refine kW29 ?_; (first | rintro _ _ ⟨rfl, rfl⟩ | rintro _ _ ⟨_, rfl, rfl⟩ | rintro _ _ ⟨_, _, ⟨_, _⟩, rfl, rfl⟩); try refine ⟨sConv, ?_⟩) | refine Dr.two ?_ ?_)
          rename_i A5 c5 k5 k6
          refine Dr.go rfl (by rintro k ⟨⟩ <;> decide) sGon (S.call rfl rfl Try.func23 (by kernel_rfl) rfl sPicks (fun E' hE => wput E' g A n c ls x.n x.A x.m x.c x.b hn1 hl sRd hxn) ?_)
          unfold Post29
          rintro r H' ⟨A6, c6, O, co, rfl, k7, rfl⟩
          refine ⟨_, rfl, _, sCat, sConv, ?_⟩
          repeat (first | refine wW29 ?_ | (refine kW29 ?_; (first | rintro _ _ ⟨rfl, rfl⟩ | rintro _ _ ⟨_, rfl, rfl⟩ | rintro _ _ ⟨_, _, ⟨_, _⟩, rfl, rfl⟩); try refine ⟨sConv, ?_⟩) | refine Dr.two ?_ ?_)
          exact ret2 rfl sRet sRet sConv (⟨A6, n + 1, c6, ls ++ [⟨x.n, O, x.m, co, x.b, false⟩], A5, m + 1, c5, ps ++ [⟨x.n, x.b, false⟩], rfl, hs.push (e := ⟨x.n, O, x.m, co, x.b, false⟩) hlt hxl hxn k7 ⟨k5, k6⟩, .inr rfl⟩)
        · refine Go1.goK rfl (by rintro k ⟨⟩ <;> decide) sGon (S.buildSlice1K (T := pltT) (e := ⟨x.n, x.b, false⟩) rfl rfl rfl rfl (by decide)) ?_; rintro _ _ ⟨_, rfl, rfl⟩; refine ⟨by first | exact sConv | exact Conv.trans Conv.refl sConv, ?_⟩
          repeat (first | refine vW29 ?_ | (refine kW29 ?_; (first | rintro _ _ ⟨rfl, rfl⟩ | rintro _ _ ⟨_, rfl, rfl⟩ | rintro _ _ ⟨_, _, ⟨_, _⟩, rfl, rfl⟩); try refine ⟨sConv, ?_⟩))
          refine Dr.go rfl (by rintro k ⟨⟩ <;> decide) sGon (S.call rfl rfl Try.func86 (by kernel_rfl) rfl sPicks (fun E' hE => without29_last E' A1 m c1 ps hm sRd (by omega)) ?_)
          rintro r H' ⟨W, cw, rfl, ⟨k3, k4⟩, rfl⟩
          refine ⟨_, rfl, _, sCat, Conv.trans Conv.refl sConv, ?_⟩
          apply Dr.conv; (· exact Conv.refl)
          repeat (first | refine wW29 ?_ | (refine kW29 ?_; (first | rintro _ _ ⟨rfl, rfl⟩ | rintro _ _ ⟨_, rfl, rfl⟩ | rintro _ _ ⟨_, _, ⟨_, _⟩, rfl, rfl⟩); try refine ⟨sConv, ?_⟩) | refine Dr.two ?_ ?_)
          rename_i A5 c5 k5 k6
          refine Dr.go rfl (by rintro k ⟨⟩ <;> decide) sGon (S.call rfl rfl Try.func23 (by kernel_rfl) rfl sPicks (fun E' hE => wput E' g A n c ls x.n x.A x.m x.c x.b hn1 hl sRd hxn) ?_)
          unfold Post29
          rintro r H' ⟨A6, c6, O, co, rfl, k7, rfl⟩
          refine ⟨_, rfl, _, sCat, sConv, ?_⟩
          repeat (first | refine wW29 ?_ | (refine kW29 ?_; (first | rintro _ _ ⟨rfl, rfl⟩ | rintro _ _ ⟨_, rfl, rfl⟩ | rintro _ _ ⟨_, _, ⟨_, _⟩, rfl, rfl⟩); try refine ⟨sConv, ?_⟩) | refine Dr.two ?_ ?_)
          exact ret2 rfl sRet sRet sConv (⟨A6, n + 1, c6, ls ++ [⟨x.n, O, x.m, co, x.b, false⟩], A5, m + 1, c5, ps ++ [⟨x.n, x.b, false⟩], rfl, hs.push (e := ⟨x.n, O, x.m, co, x.b, false⟩) hlt hxl hxn k7 ⟨k5, k6⟩, .inr rfl⟩)
      · refine Go1.goK rfl (by rintro k ⟨⟩ <;> decide) sGon (S.buildSlice1K (T := pltT) (e := ⟨x.n, x.b, false⟩) rfl rfl rfl rfl (by decide)) ?_; rintro _ _ ⟨_, rfl, rfl⟩; refine ⟨by first | exact sConv | exact Conv.trans Conv.refl sConv, ?_⟩
        repeat ((fail_if_success (refine Dr.all (i := 3) ?_)); first | refine vW29 ?_ | (refine kW29 ?_; (first | rintro _ _ ⟨rfl, rfl⟩ | rintro _ _ ⟨_, rfl, rfl⟩ | rintro _ _ ⟨_, _, ⟨_, _⟩, rfl, rfl⟩); try refine ⟨sConv, ?_⟩))
        refine Dr.goK rfl (by rintro k ⟨⟩ <;> decide) sGon (S.appendOutK rfl rfl rfl sNN sRdH sRdH sNL rfl (by_ := 32) rfl sOm sOm sOm sOm sOm) ?_; rintro _ _ ⟨A1, c1, ⟨_, _⟩, rfl, rfl⟩; refine ⟨sConv, ?_⟩
        repeat (first | refine vW29 ?_ | (refine kW29 ?_; (first | rintro _ _ ⟨rfl, rfl⟩ | rintro _ _ ⟨_, rfl, rfl⟩ | rintro _ _ ⟨_, _, ⟨_, _⟩, rfl, rfl⟩); try refine ⟨sConv, ?_⟩))
        refine Dr.go rfl (by rintro k ⟨⟩ <;> decide) sGon (S.call rfl rfl Try.func86 (by kernel_rfl) rfl sPicks (fun E' hE => without29_last E' A1 m c1 ps hm sRd (by omega)) ?_)
        rintro r H' ⟨W, cw, rfl, ⟨k3, k4⟩, rfl⟩
        refine ⟨_, rfl, _, sCat, Conv.trans Conv.refl sConv, ?_⟩
        apply Dr.conv; (· exact Conv.refl)
        repeat (first | refine wW29 ?_ | (refine kW29 ?_; (first | rintro _ _ ⟨rfl, rfl⟩ | rintro _ _ ⟨_, rfl, rfl⟩ | rintro _ _ ⟨_, _, ⟨_, _⟩, rfl, rfl⟩); try refine ⟨sConv, ?_⟩) | refine Dr.two ?_ ?_)
        rename_i A5 c5 k5 k6
        refine Dr.go rfl (by rintro k ⟨⟩ <;> decide) sGon (S.call rfl rfl Try.func23 (by kernel_rfl) rfl sPicks (fun E' hE => wput E' g A n c ls x.n x.A x.m x.c x.b hn1 hl sRd hxn) ?_)
        unfold Post29
        rintro r H' ⟨A6, c6, O, co, rfl, k7, rfl⟩
        refine ⟨_, rfl, _, sCat, sConv, ?_⟩
        repeat (first | refine wW29 ?_ | (refine kW29 ?_; (first | rintro _ _ ⟨rfl, rfl⟩ | rintro _ _ ⟨_, rfl, rfl⟩ | rintro _ _ ⟨_, _, ⟨_, _⟩, rfl, rfl⟩); try refine ⟨sConv, ?_⟩) | refine Dr.two ?_ ?_)
        exact ret2 rfl sRet sRet sConv (⟨A6, n + 1, c6, ls ++ [⟨x.n, O, x.m, co, x.b, false⟩], A5, m + 1, c5, ps ++ [⟨x.n, x.b, false⟩], rfl, hs.push (e := ⟨x.n, O, x.m, co, x.b, false⟩) hlt hxl hxn k7 ⟨k5, k6⟩, .inr rfl⟩)
    · refine Go1.goK rfl (by rintro k ⟨⟩ <;> decide) sGon (S.buildSlice1K (T := pltT) (e := ⟨x.n, x.b, false⟩) rfl rfl rfl rfl (by decide)) ?_; rintro _ _ ⟨_, rfl, rfl⟩; refine ⟨by first | exact sConv | exact Conv.trans Conv.refl sConv, ?_⟩
      repeat ((fail_if_success (refine Dr.all (i := 2) ?_)); first | refine vW29 ?_ | (refine kW29 ?_; (first | rintro _ _ ⟨rfl, rfl⟩ | rintro _ _ ⟨_, rfl, rfl⟩ | rintro _ _ ⟨_, _, ⟨_, _⟩, rfl, rfl⟩); try refine ⟨sConv, ?_⟩))
      refine Dr.goK rfl (by rintro k ⟨⟩ <;> decide) sGon (S.buildSlice1K (T := pltT) (e := plt0) rfl rfl rfl rfl (by decide)) ?_; rintro _ _ ⟨_, rfl, rfl⟩; refine ⟨sConv, ?_⟩
      repeat ((fail_if_success (refine Dr.all (i := 3) ?_)); first | refine vW29 ?_ | (refine kW29 ?_; (first | rintro _ _ ⟨rfl, rfl⟩ | rintro _ _ ⟨_, rfl, rfl⟩ | rintro _ _ ⟨_, _, ⟨_, _⟩, rfl, rfl⟩); try refine ⟨sConv, ?_⟩))
      refine Dr.goK rfl (by rintro k ⟨⟩ <;> decide) sGon (S.appendOutK rfl rfl rfl sNN sRdH sRdH sNL rfl (by_ := 32) rfl sOm sOm sOm sOm sOm) ?_; rintro _ _ ⟨A1, c1, ⟨_, _⟩, rfl, rfl⟩; refine ⟨sConv, ?_⟩
      repeat (first | refine vW29 ?_ | (refine kW29 ?_; (first | rintro _ _ ⟨rfl, rfl⟩ | rintro _ _ ⟨_, rfl, rfl⟩ | rintro _ _ ⟨_, _, ⟨_, _⟩, rfl, rfl⟩); try refine ⟨sConv, ?_⟩))
      refine Dr.go rfl (by rintro k ⟨⟩ <;> decide) sGon (S.call rfl rfl Try.func86 (by kernel_rfl) rfl sPicks (fun E' hE => without29_last E' A1 m c1 ps hm sRd (by omega)) ?_)
      rintro r H' ⟨W, cw, rfl, ⟨k3, k4⟩, rfl⟩
      refine ⟨_, rfl, _, sCat, Conv.trans Conv.refl sConv, ?_⟩
      apply Dr.conv; (· exact Conv.refl)
      repeat (first | refine wW29 ?_ | (refine kW29 ?_; (first | rintro _ _ ⟨rfl, rfl⟩ | rintro _ _ ⟨_, rfl, rfl⟩ | rintro _ _ ⟨_, _, ⟨_, _⟩, rfl, rfl⟩); try refine ⟨sConv, ?_⟩) | refine Dr.two ?_ ?_)
      rename_i A5 c5 k5 k6
      refine Dr.go rfl (by rintro k ⟨⟩ <;> decide) sGon (S.call rfl rfl Try.func23 (by kernel_rfl) rfl sPicks (fun E' hE => wput E' g A n c ls x.n x.A x.m x.c x.b hn1 hl sRd hxn) ?_)
      unfold Post29
      rintro r H' ⟨A6, c6, O, co, rfl, k7, rfl⟩
      refine ⟨_, rfl, _, sCat, sConv, ?_⟩
      repeat (first | refine wW29 ?_ | (refine kW29 ?_; (first | rintro _ _ ⟨rfl, rfl⟩ | rintro _ _ ⟨_, rfl, rfl⟩ | rintro _ _ ⟨_, _, ⟨_, _⟩, rfl, rfl⟩); try refine ⟨sConv, ?_⟩) | refine Dr.two ?_ ?_)
      exact ret2 rfl sRet sRet sConv (⟨A6, n + 1, c6, ls ++ [⟨x.n, O, x.m, co, x.b, false⟩], A5, m + 1, c5, ps ++ [⟨x.n, x.b, false⟩], rfl, hs.push (e := ⟨x.n, O, x.m, co, x.b, false⟩) hlt hxl hxn k7 ⟨k5, k6⟩, .inr rfl⟩)
  · obtain rfl := hpz rfl
    refine C.regionA 100000 (.one 0 false (.one 1 false (.one 4 false (.one 5 false (.one 7 false (.one 8 false (.one 9 false (.one 10 false (.one 11 false (.one 12 false (.one 15 false (.one 16 false (.one 17 false (.one 18 false (.one 19 false (.two 2 (.two 3 (.two 6 (.one 13 true (.one 14 true (.one 20 true (.one 21 false (.one 22 false .nil))))) 13 (.one 6 true (.one 14 true (.one 20 true (.one 21 false (.one 22 false .nil)))))) 13 (.one 3 true (.one 6 true (.one 14 true (.one 20 true (.one 21 false (.one 22 false .nil))))))) 13 (.one 2 true (.one 3 true (.one 6 true (.one 14 true (.one 20 true (.one 21 false (.one 22 false .nil))))))))))))))))))))))) ([blk g5 38 x.cs, own pltT B 0 0 []]) (by kernel_rfl) (by kernel_rfl) sConv ?_
    repeat (first | refine vW29 ?_ | (refine kW29 ?_; (first | rintro _ _ ⟨rfl, rfl⟩ | rintro _ _ ⟨_, rfl, rfl⟩ | rintro _ _ ⟨_, _, ⟨_, _⟩, rfl, rfl⟩); try refine ⟨sConv, ?_⟩))
    refine Dr.two ?_ ?_
    · refine Go1.goK rfl (by rintro k ⟨⟩ <;> decide) sGon (S.buildSlice1K (T := pltT) (e := plt0) rfl rfl rfl rfl (by decide)) ?_; rintro _ _ ⟨_, rfl, rfl⟩; refine ⟨sConv, ?_⟩
      repeat (first | refine vW29 ?_ | (refine kW29 ?_; (first | rintro _ _ ⟨rfl, rfl⟩ | rintro _ _ ⟨_, rfl, rfl⟩ | rintro _ _ ⟨_, _, ⟨_, _⟩, rfl, rfl⟩); try refine ⟨sConv, ?_⟩))
      refine Dr.two ?_ ?_
      · refine Go1.goK rfl (by rintro k ⟨⟩ <;> decide) sGon (S.appendK rfl rfl rfl sNN (fun _ _ => sRepl) sRdH sNL sRfl pltT_bytes sOm sOm) ?_; rintro _ _ ⟨A1, c1, ⟨_, _⟩, rfl, rfl⟩; refine ⟨Conv.trans (Conv.nil0 pltT B) sConv, ?_⟩
        repeat (first | refine vW29 ?_ | (refine kW29 ?_; (first | rintro _ _ ⟨rfl, rfl⟩ | rintro _ _ ⟨_, rfl, rfl⟩ | rintro _ _ ⟨_, _, ⟨_, _⟩, rfl, rfl⟩); try refine ⟨sConv, ?_⟩))
        refine Dr.two ?_ ?_
        · refine Go1.go rfl (by rintro k ⟨⟩ <;> decide) sGon (S.call rfl rfl Try.func86 (by kernel_rfl) rfl sPicks (fun E' hE => without29_last E' A1 0 c1 [] hm (show Rd E' pltT A1 1 c1 [plt0] from sRd) (by omega)) ?_)
          rintro r H' ⟨W, cw, rfl, ⟨k3, k4⟩, rfl⟩
          refine ⟨_, rfl, _, sCat, Conv.trans (Conv.nil0 pltT B) sConv, ?_⟩
          apply Dr.conv; (· exact (Conv.nil0 pltT B))
          repeat ((fail_if_success (refine Dr.all (i := 13) ?_)); first | refine vW29 ?_ | (refine kW29 ?_; (first | rintro _ _ ⟨rfl, rfl⟩ | rintro _ _ ⟨_, rfl, rfl⟩ | rintro _ _ ⟨_, _, ⟨_, _⟩, rfl, rfl⟩); try refine ⟨sConv, ?_⟩))
          refine Dr.goK rfl (by rintro k ⟨⟩ <;> decide) sGon (S.buildSlice1K (T := pltT) (e := ⟨x.n, x.b, false⟩) rfl rfl rfl rfl (by decide)) ?_; rintro _ _ ⟨_, rfl, rfl⟩; refine ⟨by first | exact sConv | exact Conv.trans (Conv.nil0 pltT B) sConv, ?_⟩
          repeat (first | refine wW29 ?_ | (refine kW29 ?_; (first | rintro _ _ ⟨rfl, rfl⟩ | rintro _ _ ⟨_, rfl, rfl⟩ | rintro _ _ ⟨_, _, ⟨_, _⟩, rfl, rfl⟩); try refine ⟨sConv, ?_⟩) | refine Dr.two ?_ ?_)
          rename_i A5 c5 k5 k6
          refine Dr.go rfl (by rintro k ⟨⟩ <;> decide) sGon (S.call rfl rfl Try.func23 (by kernel_rfl) rfl sPicks (fun E' hE => wput E' g A n c ls x.n x.A x.m x.c x.b hn1 hl sRd hxn) ?_)
          unfold Post29
          rintro r H' ⟨A6, c6, O, co, rfl, k7, rfl⟩
          refine ⟨_, rfl, _, sCat, sConv, ?_⟩
          repeat (first | refine wW29 ?_ | (refine kW29 ?_; (first | rintro _ _ ⟨rfl, rfl⟩ | rintro _ _ ⟨_, rfl, rfl⟩ | rintro _ _ ⟨_, _, ⟨_, _⟩, rfl, rfl⟩); try refine ⟨sConv, ?_⟩) | refine Dr.two ?_ ?_)
          exact ret2 rfl sRet sRet sConv (⟨A6, n + 1, c6, ls ++ [⟨x.n, O, x.m, co, x.b, false⟩], A5, 1, c5,  [⟨x.n, x.b, false⟩], rfl, hs.push (e := ⟨x.n, O, x.m, co, x.b, false⟩) hlt hxl hxn k7 ⟨k5, k6⟩, .inr rfl⟩)
        · refine Go1.goK rfl (by rintro k ⟨⟩ <;> decide) sGon (S.buildSlice1K (T := pltT) (e := ⟨x.n, x.b, false⟩) rfl rfl rfl rfl (by decide)) ?_; rintro _ _ ⟨_, rfl, rfl⟩; refine ⟨by first | exact sConv | exact Conv.trans (Conv.nil0 pltT B) sConv, ?_⟩
          repeat (first | refine vW29 ?_ | (refine kW29 ?_; (first | rintro _ _ ⟨rfl, rfl⟩ | rintro _ _ ⟨_, rfl, rfl⟩ | rintro _ _ ⟨_, _, ⟨_, _⟩, rfl, rfl⟩); try refine ⟨sConv, ?_⟩))
          refine Dr.go rfl (by rintro k ⟨⟩ <;> decide) sGon (S.call rfl rfl Try.func86 (by kernel_rfl) rfl sPicks (fun E' hE => without29_last E' A1 0 c1 [] hm (show Rd E' pltT A1 1 c1 [plt0] from sRd) (by omega)) ?_)
          rintro r H' ⟨W, cw, rfl, ⟨k3, k4⟩, rfl⟩
          refine ⟨_, rfl, _, sCat, Conv.trans (Conv.nil0 pltT B) sConv, ?_⟩
          apply Dr.conv; (· exact (Conv.nil0 pltT B))
          repeat (first | refine wW29 ?_ | (refine kW29 ?_; (first | rintro _ _ ⟨rfl, rfl⟩ | rintro _ _ ⟨_, rfl, rfl⟩ | rintro _ _ ⟨_, _, ⟨_, _⟩, rfl, rfl⟩); try refine ⟨sConv, ?_⟩) | refine Dr.two ?_ ?_)
          rename_i A5 c5 k5 k6
          refine Dr.go rfl (by rintro k ⟨⟩ <;> decide) sGon (S.call rfl rfl Try.func23 (by kernel_rfl) rfl sPicks (fun E' hE => wput E' g A n c ls x.n x.A x.m x.c x.b hn1 hl sRd hxn) ?_)
          unfold Post29
          rintro r H' ⟨A6, c6, O, co, rfl, k7, rfl⟩
          refine ⟨_, rfl, _, sCat, sConv, ?_⟩
          repeat (first | refine wW29 ?_ | (refine kW29 ?_; (first | rintro _ _ ⟨rfl, rfl⟩ | rintro _ _ ⟨_, rfl, rfl⟩ | rintro _ _ ⟨_, _, ⟨_, _⟩, rfl, rfl⟩); try refine ⟨sConv, ?_⟩) | refine Dr.two ?_ ?_)
          exact ret2 rfl sRet sRet sConv (⟨A6, n + 1, c6, ls ++ [⟨x.n, O, x.m, co, x.b, false⟩], A5, 1, c5,  [⟨x.n, x.b, false⟩], rfl, hs.push (e := ⟨x.n, O, x.m, co, x.b, false⟩) hlt hxl hxn k7 ⟨k5, k6⟩, .inr rfl⟩)
      · refine Go1.goK rfl (by rintro k ⟨⟩ <;> decide) sGon (S.buildSlice1K (T := pltT) (e := ⟨x.n, x.b, false⟩) rfl rfl rfl rfl (by decide)) ?_; rintro _ _ ⟨_, rfl, rfl⟩; refine ⟨by first | exact sConv | exact Conv.trans (Conv.nil0 pltT B) sConv, ?_⟩
        repeat ((fail_if_success (refine Dr.all (i := 3) ?_)); first | refine vW29 ?_ | (refine kW29 ?_; (first | rintro _ _ ⟨rfl, rfl⟩ | rintro _ _ ⟨_, rfl, rfl⟩ | rintro _ _ ⟨_, _, ⟨_, _⟩, rfl, rfl⟩); try refine ⟨sConv, ?_⟩))
        refine Dr.goK rfl (by rintro k ⟨⟩ <;> decide) sGon (S.appendK rfl rfl rfl sNN (fun _ _ => sRepl) sRdH sNL sRfl pltT_bytes sOm sOm) ?_; rintro _ _ ⟨A1, c1, ⟨_, _⟩, rfl, rfl⟩; refine ⟨Conv.trans (Conv.nil0 pltT B) sConv, ?_⟩
        repeat (first | refine vW29 ?_ | (refine kW29 ?_; (first | rintro _ _ ⟨rfl, rfl⟩ | rintro _ _ ⟨_, rfl, rfl⟩ | rintro _ _ ⟨_, _, ⟨_, _⟩, rfl, rfl⟩); try refine ⟨sConv, ?_⟩))
        refine Dr.go rfl (by rintro k ⟨⟩ <;> decide) sGon (S.call rfl rfl Try.func86 (by kernel_rfl) rfl sPicks (fun E' hE => without29_last E' A1 0 c1 [] hm (show Rd E' pltT A1 1 c1 [plt0] from sRd) (by omega)) ?_)
        rintro r H' ⟨W, cw, rfl, ⟨k3, k4⟩, rfl⟩
        refine ⟨_, rfl, _, sCat, Conv.trans (Conv.nil0 pltT B) sConv, ?_⟩
        apply Dr.conv; (· exact (Conv.nil0 pltT B))
        repeat (first | refine wW29 ?_ | (refine kW29 ?_; (first | rintro _ _ ⟨rfl, rfl⟩ | rintro _ _ ⟨_, rfl, rfl⟩ | rintro _ _ ⟨_, _, ⟨_, _⟩, rfl, rfl⟩); try refine ⟨sConv, ?_⟩) | refine Dr.two ?_ ?_)
        rename_i A5 c5 k5 k6
        refine Dr.go rfl (by rintro k ⟨⟩ <;> decide) sGon (S.call rfl rfl Try.func23 (by kernel_rfl) rfl sPicks (fun E' hE => wput E' g A n c ls x.n x.A x.m x.c x.b hn1 hl sRd hxn) ?_)
        unfold Post29
        rintro r H' ⟨A6, c6, O, co, rfl, k7, rfl⟩
        refine ⟨_, rfl, _, sCat, sConv, ?_⟩
        repeat (first | refine wW29 ?_ | (refine kW29 ?_; (first | rintro _ _ ⟨rfl, rfl⟩ | rintro _ _ ⟨_, rfl, rfl⟩ | rintro _ _ ⟨_, _, ⟨_, _⟩, rfl, rfl⟩); try refine ⟨sConv, ?_⟩) | refine Dr.two ?_ ?_)
        exact ret2 rfl sRet sRet sConv (⟨A6, n + 1, c6, ls ++ [⟨x.n, O, x.m, co, x.b, false⟩], A5, 1, c5,  [⟨x.n, x.b, false⟩], rfl, hs.push (e := ⟨x.n, O, x.m, co, x.b, false⟩) hlt hxl hxn k7 ⟨k5, k6⟩, .inr rfl⟩)
    · refine Go1.goK rfl (by rintro k ⟨⟩ <;> decide) sGon (S.buildSlice1K (T := pltT) (e := ⟨x.n, x.b, false⟩) rfl rfl rfl rfl (by decide)) ?_; rintro _ _ ⟨_, rfl, rfl⟩; refine ⟨by first | exact sConv | exact Conv.trans (Conv.nil0 pltT B) sConv, ?_⟩
      repeat ((fail_if_success (refine Dr.all (i := 2) ?_)); first | refine vW29 ?_ | (refine kW29 ?_; (first | rintro _ _ ⟨rfl, rfl⟩ | rintro _ _ ⟨_, rfl, rfl⟩ | rintro _ _ ⟨_, _, ⟨_, _⟩, rfl, rfl⟩); try refine ⟨sConv, ?_⟩))
      refine Dr.goK rfl (by rintro k ⟨⟩ <;> decide) sGon (S.buildSlice1K (T := pltT) (e := plt0) rfl rfl rfl rfl (by decide)) ?_; rintro _ _ ⟨_, rfl, rfl⟩; refine ⟨sConv, ?_⟩
      repeat ((fail_if_success (refine Dr.all (i := 3) ?_)); first | refine vW29 ?_ | (refine kW29 ?_; (first | rintro _ _ ⟨rfl, rfl⟩ | rintro _ _ ⟨_, rfl, rfl⟩ | rintro _ _ ⟨_, _, ⟨_, _⟩, rfl, rfl⟩); try refine ⟨sConv, ?_⟩))
      refine Dr.goK rfl (by rintro k ⟨⟩ <;> decide) sGon (S.appendK rfl rfl rfl sNN (fun _ _ => sRepl) sRdH sNL sRfl pltT_bytes sOm sOm) ?_; rintro _ _ ⟨A1, c1, ⟨_, _⟩, rfl, rfl⟩; refine ⟨Conv.trans (Conv.nil0 pltT B) sConv, ?_⟩
      repeat (first | refine vW29 ?_ | (refine kW29 ?_; (first | rintro _ _ ⟨rfl, rfl⟩ | rintro _ _ ⟨_, rfl, rfl⟩ | rintro _ _ ⟨_, _, ⟨_, _⟩, rfl, rfl⟩); try refine ⟨sConv, ?_⟩))
      refine Dr.go rfl (by rintro k ⟨⟩ <;> decide) sGon (S.call rfl rfl Try.func86 (by kernel_rfl) rfl sPicks (fun E' hE => without29_last E' A1 0 c1 [] hm (show Rd E' pltT A1 1 c1 [plt0] from sRd) (by omega)) ?_)
      rintro r H' ⟨W, cw, rfl, ⟨k3, k4⟩, rfl⟩
      refine ⟨_, rfl, _, sCat, Conv.trans (Conv.nil0 pltT B) sConv, ?_⟩
      apply Dr.conv; (· exact (Conv.nil0 pltT B))
      repeat (first | refine wW29 ?_ | (refine kW29 ?_; (first | rintro _ _ ⟨rfl, rfl⟩ | rintro _ _ ⟨_, rfl, rfl⟩ | rintro _ _ ⟨_, _, ⟨_, _⟩, rfl, rfl⟩); try refine ⟨sConv, ?_⟩) | refine Dr.two ?_ ?_)
      rename_i A5 c5 k5 k6
      refine Dr.go rfl (by rintro k ⟨⟩ <;> decide) sGon (S.call rfl rfl Try.func23 (by kernel_rfl) rfl sPicks (fun E' hE => wput E' g A n c ls x.n x.A x.m x.c x.b hn1 hl sRd hxn) ?_)
      unfold Post29
      rintro r H' ⟨A6, c6, O, co, rfl, k7, rfl⟩
      refine ⟨_, rfl, _, sCat, sConv, ?_⟩
      repeat (first | refine wW29 ?_ | (refine kW29 ?_; (first | rintro _ _ ⟨rfl, rfl⟩ | rintro _ _ ⟨_, rfl, rfl⟩ | rintro _ _ ⟨_, _, ⟨_, _⟩, rfl, rfl⟩); try refine ⟨sConv, ?_⟩) | refine Dr.two ?_ ?_)
      exact ret2 rfl sRet sRet sConv (⟨A6, n + 1, c6, ls ++ [⟨x.n, O, x.m, co, x.b, false⟩], A5, 1, c5,  [⟨x.n, x.b, false⟩], rfl, hs.push (e := ⟨x.n, O, x.m, co, x.b, false⟩) hlt hxl hxn k7 ⟨k5, k6⟩, .inr rfl⟩)
end
end Go.Proofs.Ytbnfpmdieiknmaa.Sep
