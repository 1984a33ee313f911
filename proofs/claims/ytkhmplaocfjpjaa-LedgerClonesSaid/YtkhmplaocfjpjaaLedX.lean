/- the law LedgerClones, by parts of memory. -/
import Derived.Test.YtkhmplaocfjpjaaLedW
namespace Go.Proofs.Ytkhmplaocfjpjaa.Sep
open Go.RowKit Go.Proofs.Ytkhmplaocfjpjaa.Reg
open Go.Proofs.Ytkhmplaocfjpjaa.Mem hiding Rd Own
-- types: entT enrT effT lineT rchT chvT efsT op22T keyT reqT
-- recs: idnT_rec effT_rec cfgT_rec entT_rec enrT_rec keyT_rec reqT_rec chain_rec chref_rec op22T_rec lineT_rec ledger_rec bk22_rec
-- eqs: idnT_eqa effT_eqa entT_eqa enrT_eqa keyT_eqa reqT_eqa
-- funcs
-- flds
-- elts
-- eachs
set_option maxRecDepth 100000
set_option maxHeartbeats 4000000
theorem rclone2 (E : Env) (id : Idn) (made : Int) (A : Option Addr) (n c : Nat) (l : List Ent) (want : List Eff) (X : Option Addr) (nx cx : Nat) (hr : Rd E enrT A n c l) (hw : Rd E effT X nx cx want) (hl : n ≤ 1000000) (hlw : nx ≤ 1000000) : Tri Try.prog E 45 #[.agg #[.int .i64 id.rep, .int .i64 id.seq, .int .i64 made, .slice A n c, .slice X nx cx]] [] fun r H' => ∃ A' c' Y cy, r = .returned (.agg #[.int .i64 id.rep, .int .i64 id.seq, .int .i64 made, .slice A' n c', .slice Y nx cy]) ∧ (n ≤ c' ∧ c' ≤ maxLen) ∧ (nx ≤ cy ∧ cy ≤ maxLen) ∧ H' = [own effT Y nx cy want, own enrT A' n c' l] := by
  refine tri Try.func45 rfl Try.ntmps45 (by simp) ?_
  repeat (first | refine wLd5 ?_ | (refine kLd5 ?_; (first | rintro _ _ ⟨rfl, rfl⟩ | rintro _ _ ⟨_, rfl, rfl⟩ | rintro _ _ ⟨_, _, ⟨_, _⟩, rfl, rfl⟩); try refine ⟨sConv, ?_⟩) | refine Dr.two ?_ ?_)
  rename_i A1 c1 k1 k2 A2 c2 k3 k4
  apply retC1; (· exact rfl); (· exact sRet); (· exact rfl); (· exact rfl); (· exact rfl); (· exact sHas); (· exact rfl); rotate_left; (· exact (⟨_, _, _, _, rfl, ⟨k1, k2⟩, ⟨k3, k4⟩, rfl⟩)); (· exact sConv)
theorem runs22_length (r : Int) (l : List Op22) : (runs22 r [] l).length ≤ l.length := by
  have h1 : ∀ (k : Nat) (q : List Op22) (ps : List S21), ps.length + q.length ≤ k → (runs22 r ps q).length ≤ k := by
    intro k q
    induction q with
    | nil => intro ps h; exact h
    | cons y q ih => intro ps h; exact ih _ (by have := step22_length r ps y; simp only [List.length_cons] at h; omega)
  exact h1 _ _ [] (by rw [List.length_nil]; omega)
theorem clones22 (E : Env) (r : Int) (A : Option Addr) (n c : Nat) (l : List Op22) (hr : Rd E op22T A n c l) (hin : ∀ x ∈ l, In22 E x)
    (Ax : Option Addr) (nx cx : Nat) (lx : List Op22) (hrx : Rd E op22T Ax nx cx lx) (hinx : ∀ x ∈ lx, In22 E x)
    (Ay : Option Addr) (ny cy : Nat) (ly : List Op22) (hry : Rd E op22T Ay ny cy ly) (hiny : ∀ x ∈ ly, In22 E x) : Tri Try.prog E 7 #[.int .i64 r, .slice A n c, .slice Ax nx cx, .slice Ay ny cy] [] fun r _ => r = .returned (.bool true) := by
  have hmax : maxLen = 9223372036854775807 := rfl
  have hfew := In22.few hin
  have hf6 := few22_n (l := l)
  have hfewx := In22.few hinx
  have hf6x := few22_n (l := lx)
  have hfewy := In22.few hiny
  have hf6y := few22_n (l := ly)
  refine tri Try.func7 rfl Try.ntmps7 (by simp) ?_
  repeat (first | refine wLd5 ?_ | (refine kLd5 ?_; (first | rintro _ _ ⟨rfl, rfl⟩ | rintro _ _ ⟨_, rfl, rfl⟩ | rintro _ _ ⟨_, _, ⟨_, _⟩, rfl, rfl⟩); try refine ⟨sConv, ?_⟩) | refine Dr.two ?_ ?_)
  refine L.step (by decide) (S.call rfl rfl Try.func12 (by kernel_rfl) rfl sPicks (fun E' hE => alive22 E') ?_)
  rintro x H' ⟨rfl, rfl⟩
  refine ⟨_, rfl, _, sCat, ?_⟩
  repeat (first | refine wLd5 ?_ | (refine kLd5 ?_; (first | rintro _ _ ⟨rfl, rfl⟩ | rintro _ _ ⟨_, rfl, rfl⟩ | rintro _ _ ⟨_, _, ⟨_, _⟩, rfl, rfl⟩); try refine ⟨sConv, ?_⟩) | refine Dr.two ?_ ?_)
  refine L.step (by decide) (S.call rfl rfl Try.func14 (by kernel_rfl) rfl sPicks (fun E' hE => lnew E' r) ?_)
  rintro x H' ⟨g, rfl, rfl⟩
  refine ⟨_, rfl, _, sCat, ?_⟩
  repeat (first | refine wLd5 ?_ | (refine kLd5 ?_; (first | rintro _ _ ⟨rfl, rfl⟩ | rintro _ _ ⟨_, rfl, rfl⟩ | rintro _ _ ⟨_, _, ⟨_, _⟩, rfl, rfl⟩); try refine ⟨sConv, ?_⟩) | refine Dr.two ?_ ?_)
  rename_i gb
  refine L.step (by decide) (S.call rfl rfl Try.func15 (by kernel_rfl) rfl sPicks (fun E' hE => few22_any E' A n c l sRd (fun x hx => ((hin x hx).sub hE).w)) ?_)
  rintro x H' ⟨O, m, co, rfl, hm, hm60, hco, rfl⟩
  refine ⟨_, rfl, _, sCat, ?_⟩
  repeat (first | refine wLd5 ?_ | (refine kLd5 ?_; (first | rintro _ _ ⟨rfl, rfl⟩ | rintro _ _ ⟨_, rfl, rfl⟩ | rintro _ _ ⟨_, _, ⟨_, _⟩, rfl, rfl⟩); try refine ⟨sConv, ?_⟩) | refine Dr.two ?_ ?_)
  refine L.conv conv22 ?_
  refine L.step (by decide) (S.call rfl rfl Try.func13 (by kernel_rfl) rfl sPicks (fun E' hE => run22 E' g gb r [] 0 none 0 [] none 0 [] O m co (few22 l) sRd (fun x hx => (hfew x hx).sub hE) (fun x hx => Nat.le_trans (hf6 x hx) (by decide)) (S22.zero r) (by omega)) ?_)
  unfold Step22
  rintro x H' ⟨n2, B2, d2, l2, B3, d3, bs, rfl, hs, rfl⟩
  refine ⟨_, rfl, _, sCat, ?_⟩
  have hn2 : n2 ≤ 60 := by
    have h1 := runs22_length r (few22 l)
    rw [hs.hn]
    omega
  revert hs
  generalize runs22 r [] (few22 l) = ps
  intro hs
  have hn1k : n2 ≤ 1000 := by omega
  have hnb := hs.nb
  have hnp := hs.hn
  have hdb1 := hs.hdb
  repeat (first | refine wLd5 ?_ | (refine kLd5 ?_; (first | rintro _ _ ⟨rfl, rfl⟩ | rintro _ _ ⟨_, rfl, rfl⟩ | rintro _ _ ⟨_, _, ⟨_, _⟩, rfl, rfl⟩); try refine ⟨sConv, ?_⟩) | refine Dr.two ?_ ?_)
  refine L.step (by decide) (S.call rfl rfl Try.func44 (by kernel_rfl) rfl sPicks (fun E' hE => lclone E' g B2 n2 d2 r l2 hn1k hs.nl hs.lok) ?_)
  rintro x H' ⟨g4, B4, d4, l4, rfl, h4ok, h4s, h4d, rfl⟩
  refine ⟨_, rfl, _, sCat, ?_⟩
  repeat (first | refine wLd5 ?_ | (refine kLd5 ?_; (first | rintro _ _ ⟨rfl, rfl⟩ | rintro _ _ ⟨_, rfl, rfl⟩ | rintro _ _ ⟨_, _, ⟨_, _⟩, rfl, rfl⟩); try refine ⟨sConv, ?_⟩) | refine Dr.two ?_ ?_)
  rename_i gb5
  refine C.loop (X := Nat × Option Addr × Nat × List Lnv) (fun x => [(2, .slice Ax nx cx), (3, .slice Ay ny cy), (9, .pointer (some ⟨g, 0, none⟩)), (10, .pointer (some ⟨gb, 0, none⟩)), (11, .pointer (some ⟨g4, 0, none⟩)), (12, .pointer (some ⟨gb5, 0, none⟩)), (13, .int .i64 x.1)])
    (fun x => bg gb5 x.2.1 x.1 x.2.2.1 r :: own rchT x.2.1 x.1 x.2.2.1 x.2.2.2 :: each bStk x.2.2.2 :: each lWnt x.2.2.2 :: lg g4 B4 n2 d4 r :: own lineT B4 n2 d4 l4 :: each lStk l4 :: each lWnt l4 :: all22 g gb r n2 B2 d2 l2 B3 d3 bs)
    (fun x => x.1 ≤ n2 ∧ x.2.2.2.length = x.1 ∧ LOk r x.2.2.2 ∧ x.2.2.2.map Lnv.s = ps.take x.1 ∧ (x.1 ≤ x.2.2.1 ∧ x.2.2.1 ≤ maxLen)) (fun x => n2 - x.1) (0, none, 0, []) sHolds ((Conv.each0 lWnt).trans ((Conv.each0 bStk).trans ((Conv.nil0 rchT none).trans sConv))) ⟨Nat.zero_le _, rfl, fun i e h => by simp at h, rfl, ⟨Nat.le_refl _, Nat.zero_le _⟩⟩ ?_
  rintro ⟨i, B5, d5, ds⟩ F ⟨hi, hds, hdok, hdm, hd5⟩
  dsimp only at hi hds hdok hdm hd5 ⊢
  by_cases hlt : i < n2
  · obtain ⟨e, he⟩ : ∃ e, bs[i]? = some e := ⟨_, List.getElem?_eq_getElem (by omega)⟩
    have hpe : ps[i]? = some e.s := by rw [← hs.hb, List.getElem?_map, he]; rfl
    have hoe := hs.bok i e he
    have hen := hoe.n
    have hec := hoe.c
    have hel : e.n ≤ 1000000 := by have h1 := hoe.s.len; have h2 := hoe.s.made1; unfold Lnv.s at h1 h2; dsimp only at h1 h2; omega
    have hex : e.nx ≤ 1000000 := by have h1 := hoe.s.wide; have h3 := hoe.nx; unfold Lnv.s at h1; dsimp only at h1; omega
    have him : i ≤ maxLen := by omega
    repeat (first | refine wLd5 ?_ | (refine kLd5 ?_; (first | rintro _ _ ⟨rfl, rfl⟩ | rintro _ _ ⟨_, rfl, rfl⟩ | rintro _ _ ⟨_, _, ⟨_, _⟩, rfl, rfl⟩); try refine ⟨sConv, ?_⟩) | refine Dr.two ?_ ?_)
    refine C.regionA 17 (.one 0 false (.one 1 false (.one 2 false (.one 3 false (.one 4 false (.one 5 false (.one 6 false (.one 7 false (.one 8 false (.one 9 false (.one 10 false (.one 11 false (.one 12 true (.one 13 true (.one 14 true (.one 15 false (.one 16 false (.one 17 true .nil)))))))))))))))))) ([bg gb5 B5 i d5 r, bg gb B3 n2 d3 r, own rchT B3 n2 d3 bs]) (by kernel_rfl) (by kernel_rfl) sConv ?_
    repeat (first | refine wLd5 ?_ | (refine kLd5 ?_; (first | rintro _ _ ⟨rfl, rfl⟩ | rintro _ _ ⟨_, rfl, rfl⟩ | rintro _ _ ⟨_, _, ⟨_, _⟩, rfl, rfl⟩); try refine ⟨sConv, ?_⟩) | refine Dr.two ?_ ?_)
    refine Dr.go rfl (by rintro k ⟨⟩ <;> decide) sGon (S.call rfl rfl Try.func45 (by kernel_rfl) rfl sPicks (fun E' hE => rclone2 E' e.id e.made e.A e.n e.c e.l e.w e.X e.nx e.cx (Sub.each (f := bStk) hE sHas he rfl) (Sub.each (f := lWnt) hE sHas he rfl) hel hex) ?_)
    rintro x H' ⟨A', c', Y, cy', rfl, hc', hcy', rfl⟩
    refine ⟨_, rfl, _, sCat, sConv, ?_⟩
    repeat (first | refine wLd5 ?_ | (refine kLd5 ?_; (first | rintro _ _ ⟨rfl, rfl⟩ | rintro _ _ ⟨_, rfl, rfl⟩ | rintro _ _ ⟨_, _, ⟨_, _⟩, rfl, rfl⟩); try refine ⟨sConv, ?_⟩) | refine Dr.two ?_ ?_)
    refine Dr.goK rfl (by rintro k ⟨⟩ <;> decide) sGon (S.buildSlice1K (T := rchT) (e := ⟨e.id, e.made, A', e.n, c', e.l, Y, e.nx, cy', e.w⟩) rfl rfl rfl rfl (by decide)) ?_; rintro _ _ ⟨_, rfl, rfl⟩; refine ⟨sConv, ?_⟩
    repeat (first | refine wLd5 ?_ | (refine kLd5 ?_; (first | rintro _ _ ⟨rfl, rfl⟩ | rintro _ _ ⟨_, rfl, rfl⟩ | rintro _ _ ⟨_, _, ⟨_, _⟩, rfl, rfl⟩); try refine ⟨sConv, ?_⟩) | refine Dr.two ?_ ?_)
    rename_i B6 d6 k1 k2
    have hnew : (⟨e.id, e.made, A', e.n, c', e.l, Y, e.nx, cy', e.w⟩ : Lnv).ok r i := ⟨hoe.id, hoe.n, hc', hoe.nx, hcy', hoe.s⟩
    refine ⟨(i + 1, B6, d6, ds ++ [⟨e.id, e.made, A', e.n, c', e.l, Y, e.nx, cy', e.w⟩]), sHolds, ?_, ⟨by dsimp only; omega, by dsimp only; rw [List.length_append, hds]; rfl, hdok.push (by rw [hds]; exact hnew), by dsimp only; rw [List.map_append, hdm, List.take_add_one, hpe]; rfl, ⟨k1, k2⟩⟩, by dsimp only; omega⟩
    dsimp only
    refine Conv.trans (Conv.push (f := bStk) (l := ds) (x := ⟨e.id, e.made, A', e.n, c', e.l, Y, e.nx, cy', e.w⟩) sPicks) ?_
    refine Conv.trans (Conv.push (f := lWnt) (l := ds) (x := ⟨e.id, e.made, A', e.n, c', e.l, Y, e.nx, cy', e.w⟩) sPicks) ?_
    exact sConv
  obtain rfl : i = n2 := by omega
  rw [List.take_of_length_le (by omega)] at hdm
  have hs2 : S22 r ps i d4 d5 l4 ds := ⟨hnp, h4d, hd5, h4ok, hdok, by rw [h4s]; exact hs.hl, hdm⟩
  repeat (first | refine wLd5 ?_ | (refine kLd5 ?_; (first | rintro _ _ ⟨rfl, rfl⟩ | rintro _ _ ⟨_, rfl, rfl⟩ | rintro _ _ ⟨_, _, ⟨_, _⟩, rfl, rfl⟩); try refine ⟨sConv, ?_⟩) | refine Dr.two ?_ ?_)
  refine L.step (by decide) (S.call rfl rfl Try.func46 (by kernel_rfl) rfl sPicks (fun E' hE => lnext_nil E' 1) ?_)
  unfold Nxt
  dsimp only [Option.getD, Option.isSome]
  rintro x H' ⟨rfl, rfl⟩
  refine ⟨_, rfl, _, sCat, ?_⟩
  repeat (first | refine wLd5 ?_ | (refine kLd5 ?_; (first | rintro _ _ ⟨rfl, rfl⟩ | rintro _ _ ⟨_, rfl, rfl⟩ | rintro _ _ ⟨_, _, ⟨_, _⟩, rfl, rfl⟩); try refine ⟨sConv, ?_⟩) | refine Dr.two ?_ ?_)
  rename_i g7 g8
  refine L.step (by decide) (S.call rfl rfl Try.func46 (by kernel_rfl) rfl sPicks (fun E' hE => lnext_odd E' g7 1) ?_)
  unfold Nxt
  dsimp only [Option.getD, Option.isSome]
  rintro x H' ⟨rfl, rfl⟩
  refine ⟨_, rfl, _, sCat, ?_⟩
  repeat (first | refine wLd5 ?_ | (refine kLd5 ?_; (first | rintro _ _ ⟨rfl, rfl⟩ | rintro _ _ ⟨_, rfl, rfl⟩ | rintro _ _ ⟨_, _, ⟨_, _⟩, rfl, rfl⟩); try refine ⟨sConv, ?_⟩) | refine Dr.two ?_ ?_)
  refine L.step (by decide) (S.call rfl rfl Try.func15 (by kernel_rfl) rfl sPicks (fun E' hE => few22_any E' Ax nx cx lx sRd (fun x hx => ((hinx x hx).sub hE).w)) ?_)
  rintro x H' ⟨O2, m2, co2, rfl, hm2, hm260, hco2, rfl⟩
  refine ⟨_, rfl, _, sCat, ?_⟩
  repeat (first | refine wLd5 ?_ | (refine kLd5 ?_; (first | rintro _ _ ⟨rfl, rfl⟩ | rintro _ _ ⟨_, rfl, rfl⟩ | rintro _ _ ⟨_, _, ⟨_, _⟩, rfl, rfl⟩); try refine ⟨sConv, ?_⟩) | refine Dr.two ?_ ?_)
  refine L.step (by decide) (S.call rfl rfl Try.func13 (by kernel_rfl) rfl sPicks (fun E' hE => run22 E' g gb r ps i B2 d2 l2 B3 d3 bs O2 m2 co2 (few22 lx) sRd (fun x hx => (hfewx x hx).sub hE) (fun x hx => Nat.le_trans (hf6x x hx) (by decide)) hs (by omega)) ?_)
  unfold Step22
  rintro x H' ⟨n6, B6, d6, l6, B7, d7, l7, rfl, -, rfl⟩
  refine ⟨_, rfl, _, sCat, ?_⟩
  repeat (first | refine wLd5 ?_ | (refine kLd5 ?_; (first | rintro _ _ ⟨rfl, rfl⟩ | rintro _ _ ⟨_, rfl, rfl⟩ | rintro _ _ ⟨_, _, ⟨_, _⟩, rfl, rfl⟩); try refine ⟨sConv, ?_⟩) | refine Dr.two ?_ ?_)
  refine L.step (by decide) (S.call rfl rfl Try.func15 (by kernel_rfl) rfl sPicks (fun E' hE => few22_any E' Ay ny cy ly sRd (fun x hx => ((hiny x hx).sub hE).w)) ?_)
  rintro x H' ⟨O3, m3, co3, rfl, hm3, hm360, hco3, rfl⟩
  refine ⟨_, rfl, _, sCat, ?_⟩
  repeat (first | refine wLd5 ?_ | (refine kLd5 ?_; (first | rintro _ _ ⟨rfl, rfl⟩ | rintro _ _ ⟨_, rfl, rfl⟩ | rintro _ _ ⟨_, _, ⟨_, _⟩, rfl, rfl⟩); try refine ⟨sConv, ?_⟩) | refine Dr.two ?_ ?_)
  refine L.step (by decide) (S.call rfl rfl Try.func13 (by kernel_rfl) rfl sPicks (fun E' hE => run22 E' g4 gb5 r ps i B4 d4 l4 B5 d5 ds O3 m3 co3 (few22 ly) sRd (fun x hx => (hfewy x hx).sub hE) (fun x hx => Nat.le_trans (hf6y x hx) (by decide)) hs2 (by omega)) ?_)
  unfold Step22
  rintro x H' ⟨n8, B8, d8, l8, B9, d9, l9, rfl, -, rfl⟩
  refine ⟨_, rfl, _, sCat, ?_⟩
  repeat (first | refine wLd5 ?_ | (refine kLd5 ?_; (first | rintro _ _ ⟨rfl, rfl⟩ | rintro _ _ ⟨_, rfl, rfl⟩ | rintro _ _ ⟨_, _, ⟨_, _⟩, rfl, rfl⟩); try refine ⟨sConv, ?_⟩) | refine Dr.two ?_ ?_)
  refine L.step (by decide) (S.call rfl rfl Try.func26 (by kernel_rfl) rfl sPicks (fun E' hE => lput_nil E' 1 (.slice none 0 0)) ?_)
  rintro x H' ⟨rfl, rfl⟩
  refine ⟨_, rfl, _, sCat, ?_⟩
  repeat (first | refine wLd5 ?_ | (refine kLd5 ?_; (first | rintro _ _ ⟨rfl, rfl⟩ | rintro _ _ ⟨_, rfl, rfl⟩ | rintro _ _ ⟨_, _, ⟨_, _⟩, rfl, rfl⟩); try refine ⟨sConv, ?_⟩) | refine Dr.two ?_ ?_)
  refine L.step (by decide) (S.call rfl rfl Try.func26 (by kernel_rfl) rfl sPicks (fun E' hE => lput_odd E' g7 1 (.slice none 0 0)) ?_)
  rintro x H' ⟨rfl, rfl⟩
  refine ⟨_, rfl, _, sCat, ?_⟩
  repeat (first | refine wLd5 ?_ | (refine kLd5 ?_; (first | rintro _ _ ⟨rfl, rfl⟩ | rintro _ _ ⟨_, rfl, rfl⟩ | rintro _ _ ⟨_, _, ⟨_, _⟩, rfl, rfl⟩); try refine ⟨sConv, ?_⟩) | refine Dr.two ?_ ?_)
  refine L.step (by decide) (S.call rfl rfl Try.func47 (by kernel_rfl) rfl sPicks (fun E' hE => ltry_nil E' keyT_z 0) ?_)
  rintro x H' ⟨rfl, rfl⟩
  refine ⟨_, rfl, _, sCat, ?_⟩
  repeat (first | refine wLd5 ?_ | (refine kLd5 ?_; (first | rintro _ _ ⟨rfl, rfl⟩ | rintro _ _ ⟨_, rfl, rfl⟩ | rintro _ _ ⟨_, _, ⟨_, _⟩, rfl, rfl⟩); try refine ⟨sConv, ?_⟩) | refine Dr.two ?_ ?_)
  refine L.step (by decide) (S.call rfl rfl Try.func48 (by kernel_rfl) rfl sPicks (fun E' hE => lack_odd E' g7 keyT_z) ?_)
  rintro x H' ⟨rfl, rfl⟩
  refine ⟨_, rfl, _, sCat, ?_⟩
  repeat (first | refine wLd5 ?_ | (refine kLd5 ?_; (first | rintro _ _ ⟨rfl, rfl⟩ | rintro _ _ ⟨_, rfl, rfl⟩ | rintro _ _ ⟨_, _, ⟨_, _⟩, rfl, rfl⟩); try refine ⟨sConv, ?_⟩) | refine Dr.two ?_ ?_)
  refine L.step (by decide) (S.call rfl rfl Try.func27 (by kernel_rfl) rfl sPicks (fun E' hE => lload_nil E' ⟨⟨0, 0⟩, 0, none, 0, 0, []⟩) ?_)
  rintro x H' ⟨rfl, rfl⟩
  refine ⟨_, rfl, _, sCat, ?_⟩
  repeat (first | refine wLd5 ?_ | (refine kLd5 ?_; (first | rintro _ _ ⟨rfl, rfl⟩ | rintro _ _ ⟨_, rfl, rfl⟩ | rintro _ _ ⟨_, _, ⟨_, _⟩, rfl, rfl⟩); try refine ⟨sConv, ?_⟩) | refine Dr.two ?_ ?_)
  refine L.step (by decide) (S.call rfl rfl Try.func49 (by kernel_rfl) rfl sPicks (fun E' hE => lquiet_nil E') ?_)
  rintro x H' ⟨rfl, rfl⟩
  refine ⟨_, rfl, _, sCat, ?_⟩
  repeat (first | refine wLd5 ?_ | (refine kLd5 ?_; (first | rintro _ _ ⟨rfl, rfl⟩ | rintro _ _ ⟨_, rfl, rfl⟩ | rintro _ _ ⟨_, _, ⟨_, _⟩, rfl, rfl⟩); try refine ⟨sConv, ?_⟩) | refine Dr.two ?_ ?_)
  refine L.step (by decide) (S.call rfl rfl Try.func49 (by kernel_rfl) rfl sPicks (fun E' hE => lquiet_odd E' g7) ?_)
  rintro x H' ⟨rfl, rfl⟩
  refine ⟨_, rfl, _, sCat, ?_⟩
  repeat (first | refine wLd5 ?_ | (refine kLd5 ?_; (first | rintro _ _ ⟨rfl, rfl⟩ | rintro _ _ ⟨_, rfl, rfl⟩ | rintro _ _ ⟨_, _, ⟨_, _⟩, rfl, rfl⟩); try refine ⟨sConv, ?_⟩) | refine Dr.two ?_ ?_)
  refine L.step (by decide) (S.call rfl rfl Try.func24 (by kernel_rfl) rfl sPicks (fun E' hE => lchains_nil E') ?_)
  rintro x H' ⟨rfl, rfl⟩
  refine ⟨_, rfl, _, sCat, ?_⟩
  repeat (first | refine wLd5 ?_ | (refine kLd5 ?_; (first | rintro _ _ ⟨rfl, rfl⟩ | rintro _ _ ⟨_, rfl, rfl⟩ | rintro _ _ ⟨_, _, ⟨_, _⟩, rfl, rfl⟩); try refine ⟨sConv, ?_⟩) | refine Dr.two ?_ ?_)
  refine L.step (by decide) (S.call rfl rfl Try.func25 (by kernel_rfl) rfl sPicks (fun E' hE => lwants_odd E' g7) ?_)
  rintro x H' ⟨rfl, rfl⟩
  refine ⟨_, rfl, _, sCat, ?_⟩
  repeat (first | refine wLd5 ?_ | (refine kLd5 ?_; (first | rintro _ _ ⟨rfl, rfl⟩ | rintro _ _ ⟨_, rfl, rfl⟩ | rintro _ _ ⟨_, _, ⟨_, _⟩, rfl, rfl⟩); try refine ⟨sConv, ?_⟩) | refine Dr.two ?_ ?_)
  refine L.step (by decide) (S.call rfl rfl Try.func21 (by kernel_rfl) rfl sPicks (fun E' hE => lready_nil E' ⟨0, 0, 0, 0, 0⟩ 0) ?_)
  rintro x H' ⟨rfl, rfl⟩
  refine ⟨_, rfl, _, sCat, ?_⟩
  repeat (first | refine wLd5 ?_ | (refine kLd5 ?_; (first | rintro _ _ ⟨rfl, rfl⟩ | rintro _ _ ⟨_, rfl, rfl⟩ | rintro _ _ ⟨_, _, ⟨_, _⟩, rfl, rfl⟩); try refine ⟨sConv, ?_⟩) | refine Dr.two ?_ ?_)
  refine L.step (by decide) (S.call rfl rfl Try.func23 (by kernel_rfl) rfl sPicks (fun E' hE => ldead_odd E' g7 ⟨0, 0, 0, 0, 0⟩ 0) ?_)
  rintro x H' ⟨rfl, rfl⟩
  refine ⟨_, rfl, _, sCat, ?_⟩
  repeat (first | refine wLd5 ?_ | (refine kLd5 ?_; (first | rintro _ _ ⟨rfl, rfl⟩ | rintro _ _ ⟨_, rfl, rfl⟩ | rintro _ _ ⟨_, _, ⟨_, _⟩, rfl, rfl⟩); try refine ⟨sConv, ?_⟩) | refine Dr.two ?_ ?_)
  refine L.step (by decide) (S.call rfl rfl Try.func44 (by kernel_rfl) rfl sPicks (fun E' hE => lclone_nil E') ?_)
  rintro x H' ⟨rfl, rfl⟩
  refine ⟨_, rfl, _, sCat, ?_⟩
  repeat (first | refine wLd5 ?_ | (refine kLd5 ?_; (first | rintro _ _ ⟨rfl, rfl⟩ | rintro _ _ ⟨_, rfl, rfl⟩ | rintro _ _ ⟨_, _, ⟨_, _⟩, rfl, rfl⟩); try refine ⟨sConv, ?_⟩) | refine Dr.two ?_ ?_)
  refine L.step (by decide) (S.call rfl rfl Try.func44 (by kernel_rfl) rfl sPicks (fun E' hE => lclone_odd E' g7) ?_)
  rintro x H' ⟨rfl, rfl⟩
  refine ⟨_, rfl, _, sCat, ?_⟩
  repeat (first | refine wLd5 ?_ | (refine kLd5 ?_; (first | rintro _ _ ⟨rfl, rfl⟩ | rintro _ _ ⟨_, rfl, rfl⟩ | rintro _ _ ⟨_, _, ⟨_, _⟩, rfl, rfl⟩); try refine ⟨sConv, ?_⟩) | refine Dr.two ?_ ?_)
  exact ret1 rfl sRet sConv (rfl)
end Go.Proofs.Ytkhmplaocfjpjaa.Sep
