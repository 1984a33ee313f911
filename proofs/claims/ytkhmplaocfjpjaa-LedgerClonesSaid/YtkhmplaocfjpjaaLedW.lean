/- the law LedgerReady, by parts of memory. -/
import Derived.Test.YtkhmplaocfjpjaaLedV
namespace Go.Proofs.Ytkhmplaocfjpjaa.Sep
open Go.RowKit Go.Proofs.Ytkhmplaocfjpjaa.Reg
open Go.Proofs.Ytkhmplaocfjpjaa.Mem hiding Rd Own
-- types: entT enrT effT lineT rchT chvT efsT op22T keyT reqT
-- recs: idnT_rec effT_rec cfgT_rec entT_rec enrT_rec keyT_rec reqT_rec chain_rec chref_rec op22T_rec lineT_rec ledger_rec bk22_rec
-- eqs: idnT_eqa effT_eqa entT_eqa enrT_eqa keyT_eqa reqT_eqa
-- funcs
-- flds
-- elts
-- eachs
set_option maxRecDepth 100000
set_option maxHeartbeats 4000000
theorem ready22 (E : Env) (r : Int) (A : Option Addr) (n c : Nat) (l : List Op22) (cf : Cfg) (now : Int) (hr : Rd E op22T A n c l) (hin : ∀ x ∈ l, In22 E x) : Tri Try.prog E 4 #[.int .i64 r, .slice A n c, .agg cf.cs.toArray, .int .i64 now] [] fun r _ => r = .returned (.bool true) := by
  have hmax : maxLen = 9223372036854775807 := rfl
  have hfew := In22.few hin
  have hf6 := few22_n (l := l)
  refine tri Try.func4 rfl Try.ntmps4 (by simp) ?_
  repeat (first | refine wLd5 ?_ | (refine kLd5 ?_; (first | rintro _ _ ⟨rfl, rfl⟩ | rintro _ _ ⟨_, rfl, rfl⟩ | rintro _ _ ⟨_, _, ⟨_, _⟩, rfl, rfl⟩); try refine ⟨sConv, ?_⟩) | refine Dr.two ?_ ?_)
  rename_i g6
  refine L.step (by decide) (S.call rfl rfl Try.func12 (by kernel_rfl) rfl sPicks (fun E' hE => alive22 E') ?_)
  rintro x H' ⟨rfl, rfl⟩
  refine ⟨_, rfl, _, sCat, ?_⟩
  repeat (first | refine wLd5 ?_ | (refine kLd5 ?_; (first | rintro _ _ ⟨rfl, rfl⟩ | rintro _ _ ⟨_, rfl, rfl⟩ | rintro _ _ ⟨_, _, ⟨_, _⟩, rfl, rfl⟩); try refine ⟨sConv, ?_⟩) | refine Dr.two ?_ ?_)
  refine L.step (by decide) (S.call rfl rfl Try.func14 (by kernel_rfl) rfl sPicks (fun E' hE => lnew E' r) ?_)
  rintro x H' ⟨g, rfl, rfl⟩
  refine ⟨_, rfl, _, sCat, ?_⟩
  repeat (first | refine wLd5 ?_ | (refine kLd5 ?_; (first | rintro _ _ ⟨rfl, rfl⟩ | rintro _ _ ⟨_, rfl, rfl⟩ | rintro _ _ ⟨_, _, ⟨_, _⟩, rfl, rfl⟩); try refine ⟨sConv, ?_⟩) | refine Dr.two ?_ ?_)
  rename_i gb
  refine L.step (by decide) (S.call rfl rfl Try.func15 (by kernel_rfl) rfl sPicks (fun E' hE => few22_any E' A n c l sRd (fun x hx => ((hin x hx).sub hE).w)) ?_)
  rintro x H' ⟨O, m, co, rfl, hm, hm60, hco, rfl⟩
  refine ⟨_, rfl, _, sCat, ?_⟩
  repeat (first | refine wLd5 ?_ | (refine kLd5 ?_; (first | rintro _ _ ⟨rfl, rfl⟩ | rintro _ _ ⟨_, rfl, rfl⟩ | rintro _ _ ⟨_, _, ⟨_, _⟩, rfl, rfl⟩); try refine ⟨sConv, ?_⟩) | refine Dr.two ?_ ?_)
  refine L.conv conv22 ?_
  refine L.step (by decide) (S.call rfl rfl Try.func13 (by kernel_rfl) rfl sPicks (fun E' hE => run22 E' g gb r [] 0 none 0 [] none 0 [] O m co (few22 l) sRd (fun x hx => (hfew x hx).sub hE) (fun x hx => Nat.le_trans (hf6 x hx) (by decide)) (S22.zero r) (by omega)) ?_)
  unfold Step22
  rintro x H' ⟨n2, B2, d2, l2, B3, d3, bs, rfl, hs, rfl⟩
  refine ⟨_, rfl, _, sCat, ?_⟩
  have hn2 : n2 ≤ 60 := by
    have h1 : ∀ (k : Nat) (q : List Op22) (ps : List S21), ps.length + q.length ≤ k → (runs22 r ps q).length ≤ k := by
      intro k q
      induction q with
      | nil => intro ps h; exact h
      | cons y q ih => intro ps h; exact ih _ (by have := step22_length r ps y; simp only [List.length_cons] at h; omega)
    rw [hs.hn]
    exact h1 60 _ [] (by rw [List.length_nil]; omega)
  revert hs
  generalize runs22 r [] (few22 l) = ps
  intro hs
  have hn1k : n2 ≤ 1000 := by omega
  have hnb := hs.nb
  have hdb1 := hs.hdb
  repeat (first | refine wLd5 ?_ | (refine kLd5 ?_; (first | rintro _ _ ⟨rfl, rfl⟩ | rintro _ _ ⟨_, rfl, rfl⟩ | rintro _ _ ⟨_, _, ⟨_, _⟩, rfl, rfl⟩); try refine ⟨sConv, ?_⟩) | refine Dr.two ?_ ?_)
  refine C.loop (X := Nat × (Option Addr × Nat × Nat) × (Option Addr × Nat × Nat)) (fun x => [(3, .int .i64 now), (6, .pointer (some ⟨g6, 0, none⟩)), (9, .pointer (some ⟨g, 0, none⟩)), (10, .pointer (some ⟨gb, 0, none⟩)), (11, .slice x.2.1.1 x.2.1.2.1 x.2.1.2.2), (12, .slice x.2.2.1 x.2.2.2.1 x.2.2.2.2), (13, .int .i64 x.1)])
    (fun x => own reqT x.2.1.1 x.2.1.2.1 x.2.1.2.2 (accum (readyF r cf now) ps x.1) :: own keyT x.2.2.1 x.2.2.2.1 x.2.2.2.2 (accum (deadF r cf now) ps x.1) :: blk g6 34 cf.cs :: all22 g gb r n2 B2 d2 l2 B3 d3 bs)
    (fun x => x.1 ≤ n2 ∧ x.2.1.2.1 ≤ x.1 ∧ x.2.2.2.1 ≤ x.1 ∧ x.2.1.2.1 = (accum (readyF r cf now) ps x.1).length ∧ x.2.2.2.1 = (accum (deadF r cf now) ps x.1).length) (fun x => n2 - x.1) (0, (none, 0, 0), (none, 0, 0)) sHolds (by show Conv _ _ (own reqT none 0 0 [] :: own keyT none 0 0 [] :: blk g6 34 cf.cs :: all22 g gb r n2 B2 d2 l2 B3 d3 bs); exact (Conv.nil0 keyT none).trans ((Conv.nil0 reqT none).trans sConv)) ⟨Nat.zero_le _, Nat.le_refl _, Nat.le_refl _, rfl, rfl⟩ ?_
  rintro ⟨i, ⟨O1, m1, c1⟩, ⟨O2, m2, c2⟩⟩ F ⟨hi, hm1, hm2, hl1, hl2⟩
  dsimp only at hi hm1 hm2 hl1 hl2 ⊢
  by_cases hlt : i < n2
  · obtain ⟨e, he⟩ : ∃ e, bs[i]? = some e := ⟨_, List.getElem?_eq_getElem (by omega)⟩
    have hpe : ps[i]? = some e.s := by rw [← hs.hb, List.getElem?_map, he]; rfl
    have hoe := hs.bok i e he
    have hid : idAt r i = e.id := hoe.id.symm
    have hen := hoe.n
    have hec := hoe.c
    have hel : e.n ≤ 1000 := by have h1 := hoe.s.len; have h2 := hoe.s.made1; unfold Lnv.s at h1 h2; dsimp only at h1 h2; omega
    have hmade : I64 e.made := by have := hoe.s.made0; have := hoe.s.made1; unfold I64; unfold Lnv.s at *; dsimp only at *; omega
    have hac1 := accum_succ (f := readyF r cf now) hpe
    have hac2 := accum_succ (f := deadF r cf now) hpe
    repeat ((fail_if_success (refine C.seq (x := Code.region 12 _ _) ?_)); first | refine vLd5 ?_ | (refine kLd5 ?_; (first | rintro _ _ ⟨rfl, rfl⟩ | rintro _ _ ⟨_, rfl, rfl⟩ | rintro _ _ ⟨_, _, ⟨_, _⟩, rfl, rfl⟩); try refine ⟨sConv, ?_⟩) | refine Dr.two ?_ ?_)
    rename_i g14
    refine C.mid (X := Option Addr × Nat × Nat) (fun x => [(3, .int .i64 now), (6, .pointer (some ⟨g6, 0, none⟩)), (9, .pointer (some ⟨g, 0, none⟩)), (10, .pointer (some ⟨gb, 0, none⟩)), (11, .slice x.1 x.2.1 x.2.2), (12, .slice O2 m2 c2), (13, .int .i64 i), (14, .pointer (some ⟨g14, 0, none⟩))])
      (fun x => own reqT x.1 x.2.1 x.2.2 (accum (readyF r cf now) ps (i + 1)) :: mch g14 e.id e.made e.A e.n e.c e.X e.nx e.cx :: own keyT O2 m2 c2 (accum (deadF r cf now) ps i) :: blk g6 34 cf.cs :: all22 g gb r n2 B2 d2 l2 B3 d3 bs)
      (fun x => x.2.1 ≤ i + 1 ∧ x.2.1 = (accum (readyF r cf now) ps (i + 1)).length) ?_ ?_
    · repeat (first | refine wLd5 ?_ | (refine kLd5 ?_; (first | rintro _ _ ⟨rfl, rfl⟩ | rintro _ _ ⟨_, rfl, rfl⟩ | rintro _ _ ⟨_, _, ⟨_, _⟩, rfl, rfl⟩); try refine ⟨sConv, ?_⟩) | refine Dr.two ?_ ?_)
      refine L.step (by decide) (S.call rfl rfl Try.func16 (by kernel_rfl) rfl sPicks (fun E' hE => rready E' g14 e.id e.made e.A e.n e.c e.l e.w e.X e.nx e.cx cf now (Sub.each (f := bStk) hE sHas he rfl) (Sub.each (f := lWnt) hE sHas he rfl) hmade) ?_)
      cases hrd : readyC e.id e.made e.l e.w cf now
      · have hf : readyF r cf now i e.s = [] := by unfold readyF; rw [hid]; unfold Lnv.s; dsimp only; rw [hrd]; rfl
        rw [hf, List.append_nil] at hac1
        rintro x H' ⟨rfl, rfl⟩
        refine ⟨_, rfl, _, sCat, ?_⟩
        repeat (first | refine wLd5 ?_ | (refine kLd5 ?_; (first | rintro _ _ ⟨rfl, rfl⟩ | rintro _ _ ⟨_, rfl, rfl⟩ | rintro _ _ ⟨_, _, ⟨_, _⟩, rfl, rfl⟩); try refine ⟨sConv, ?_⟩) | refine Dr.two ?_ ?_)
        refine ⟨(O1, m1, c1), sHolds, ?_, ⟨by dsimp only; omega, by dsimp only; rw [hac1]; exact hl1⟩⟩
        dsimp only
        rw [hac1]
        exact sConv
      · obtain ⟨q, hq⟩ : ∃ q, (next e.id e.made e.l e.w).getD reqT_z = q := ⟨_, rfl⟩
        have hf : readyF r cf now i e.s = [q] := by unfold readyF; rw [hid]; unfold Lnv.s S21.nxt; dsimp only; rw [hrd, hq]; rfl
        rw [hf] at hac1
        rintro x H' ⟨rfl, rfl⟩
        refine ⟨_, rfl, _, sCat, ?_⟩
        repeat (first | refine wLd5 ?_ | (refine kLd5 ?_; (first | rintro _ _ ⟨rfl, rfl⟩ | rintro _ _ ⟨_, rfl, rfl⟩ | rintro _ _ ⟨_, _, ⟨_, _⟩, rfl, rfl⟩); try refine ⟨sConv, ?_⟩) | refine Dr.two ?_ ?_)
        refine L.step (by decide) (S.call rfl rfl Try.func17 (by kernel_rfl) rfl sPicks (fun E' hE => rnext E' g14 e.id e.made e.A e.n e.c e.l e.w e.X e.nx e.cx (Sub.each (f := bStk) hE sHas he rfl) (Sub.each (f := lWnt) hE sHas he rfl) hmade) ?_)
        unfold Nxt
        rw [hq]
        rintro x H' ⟨rfl, rfl⟩
        refine ⟨_, rfl, _, sCat, ?_⟩
        repeat (first | refine wLd5 ?_ | (refine kLd5 ?_; (first | rintro _ _ ⟨rfl, rfl⟩ | rintro _ _ ⟨_, rfl, rfl⟩ | rintro _ _ ⟨_, _, ⟨_, _⟩, rfl, rfl⟩); try refine ⟨sConv, ?_⟩) | refine Dr.two ?_ ?_)
        rename_i O3 c3 k1 k2
        refine ⟨(O3, m1 + 1, c3), sHolds, ?_, ⟨by dsimp only; omega, by dsimp only; rw [hac1, List.length_append, ← hl1]; rfl⟩⟩
        dsimp only
        rw [hac1]
        exact sConv
    rintro ⟨O3, m3, c3⟩ F3 ⟨hm3, hl3⟩
    dsimp only at hm3 hl3 ⊢
    repeat (first | refine wLd5 ?_ | (refine kLd5 ?_; (first | rintro _ _ ⟨rfl, rfl⟩ | rintro _ _ ⟨_, rfl, rfl⟩ | rintro _ _ ⟨_, _, ⟨_, _⟩, rfl, rfl⟩); try refine ⟨sConv, ?_⟩) | refine Dr.two ?_ ?_)
    refine L.step (by decide) (S.call rfl rfl Try.func18 (by kernel_rfl) rfl sPicks (fun E' hE => rdead E' g14 e.id e.made e.A e.n e.c e.l e.X e.nx e.cx cf now (Sub.each (f := bStk) hE sHas he rfl)) ?_)
    cases hx : e.l[e.l.length - 1]? with
    | none =>
      have hf : deadF r cf now i e.s = [] := by unfold deadF Lnv.s; dsimp only; rw [hx]
      have hdc : deadC e.l cf now = false := by unfold deadC; rw [hx]
      rw [hf, List.append_nil] at hac2
      rw [hdc]
      rintro x H' ⟨rfl, rfl⟩
      refine ⟨_, rfl, _, sCat, ?_⟩
      repeat (first | refine wLd5 ?_ | (refine kLd5 ?_; (first | rintro _ _ ⟨rfl, rfl⟩ | rintro _ _ ⟨_, rfl, rfl⟩ | rintro _ _ ⟨_, _, ⟨_, _⟩, rfl, rfl⟩); try refine ⟨sConv, ?_⟩) | refine Dr.two ?_ ?_)
      refine ⟨(i + 1, (O3, m3, c3), (O2, m2, c2)), sHolds, ?_, ⟨by dsimp only; omega, hm3, by dsimp only; omega, hl3, by dsimp only; rw [hac2]; exact hl2⟩, by dsimp only; omega⟩
      dsimp only
      rw [hac2]
      exact sConv
    | some y =>
      have hdc : deadC e.l cf now = y.dead cf now := by unfold deadC; rw [hx]
      have hne : 0 < e.l.length := by have := (List.getElem?_eq_some_iff.1 hx).1; omega
      have hsb : IntKind.i64.wrap ((e.n : Int) - 1) = ((e.n - 1 : Nat) : Int) := by rw [IntWalk.i64_in _ (by omega)]; omega
      rw [← hen] at hx
      rw [hdc]
      cases hyd : y.dead cf now
      · have hf : deadF r cf now i e.s = [] := by unfold deadF Lnv.s; dsimp only; rw [← hen, hx]; dsimp only; rw [hyd]; rfl
        rw [hf, List.append_nil] at hac2
        rintro x H' ⟨rfl, rfl⟩
        refine ⟨_, rfl, _, sCat, ?_⟩
        repeat (first | refine wLd5 ?_ | (refine kLd5 ?_; (first | rintro _ _ ⟨rfl, rfl⟩ | rintro _ _ ⟨_, rfl, rfl⟩ | rintro _ _ ⟨_, _, ⟨_, _⟩, rfl, rfl⟩); try refine ⟨sConv, ?_⟩) | refine Dr.two ?_ ?_)
        refine ⟨(i + 1, (O3, m3, c3), (O2, m2, c2)), sHolds, ?_, ⟨by dsimp only; omega, hm3, by dsimp only; omega, hl3, by dsimp only; rw [hac2]; exact hl2⟩, by dsimp only; omega⟩
        dsimp only
        rw [hac2]
        exact sConv
      · have hf : deadF r cf now i e.s = [⟨e.id, y.ord, y.und⟩] := by unfold deadF Lnv.s; dsimp only; rw [← hen, hx]; dsimp only; rw [hyd, hid]; rfl
        rw [hf] at hac2
        rintro x H' ⟨rfl, rfl⟩
        refine ⟨_, rfl, _, sCat, ?_⟩
        refine L.conv (H' := [each bStk bs, mch g14 e.id e.made e.A e.n e.c e.X e.nx e.cx, own reqT O3 m3 c3 (accum (readyF r cf now) ps (i + 1)), own keyT O2 m2 c2 (accum (deadF r cf now) ps i), blk g6 34 cf.cs, lg g B2 n2 d2 r, own lineT B2 n2 d2 l2, each lStk l2, each lWnt l2, bg gb B3 n2 d3 r, own rchT B3 n2 d3 bs, each lWnt bs]) sConv ?_
        repeat (first | refine wLd5 ?_ | (refine kLd5 ?_; (first | rintro _ _ ⟨rfl, rfl⟩ | rintro _ _ ⟨_, rfl, rfl⟩ | rintro _ _ ⟨_, _, ⟨_, _⟩, rfl, rfl⟩); try refine ⟨sConv, ?_⟩) | refine Dr.two ?_ ?_)
        refine C.regionA 9 (.one 0 false (.one 1 false (.one 2 false (.one 3 false (.one 4 false (.one 5 false (.one 6 true (.one 7 false (.one 8 true (.one 9 true (.one 10 true .nil))))))))))) _ (by kernel_rfl) (by kernel_rfl) Conv.refl ?_
        repeat (first | refine wLd5 ?_ | (refine kLd5 ?_; (first | rintro _ _ ⟨rfl, rfl⟩ | rintro _ _ ⟨_, rfl, rfl⟩ | rintro _ _ ⟨_, _, ⟨_, _⟩, rfl, rfl⟩); try refine ⟨sConv, ?_⟩) | refine Dr.two ?_ ?_)
        refine Dr.go rfl (by rintro k ⟨⟩ <;> decide) sGon (S.call rfl rfl Try.func19 (by kernel_rfl) rfl sPicks (fun E' hE => mund E' y) ?_)
        rintro x H' ⟨rfl, rfl⟩
        refine ⟨_, rfl, _, sCat, sConv, ?_⟩
        repeat (first | refine wLd5 ?_ | (refine kLd5 ?_; (first | rintro _ _ ⟨rfl, rfl⟩ | rintro _ _ ⟨_, rfl, rfl⟩ | rintro _ _ ⟨_, _, ⟨_, _⟩, rfl, rfl⟩); try refine ⟨sConv, ?_⟩) | refine Dr.two ?_ ?_)
        refine Dr.goK rfl (by rintro k ⟨⟩ <;> decide) sGon (S.buildSlice1K (T := keyT) (e := ⟨e.id, y.ord, y.und⟩) rfl rfl rfl rfl (by decide)) ?_; rintro _ _ ⟨_, rfl, rfl⟩; refine ⟨sConv, ?_⟩
        repeat (first | refine wLd5 ?_ | (refine kLd5 ?_; (first | rintro _ _ ⟨rfl, rfl⟩ | rintro _ _ ⟨_, rfl, rfl⟩ | rintro _ _ ⟨_, _, ⟨_, _⟩, rfl, rfl⟩); try refine ⟨sConv, ?_⟩) | refine Dr.two ?_ ?_)
        rename_i O4 c4 k1 k2
        refine ⟨(i + 1, (O3, m3, c3), (O4, m2 + 1, c4)), sHolds, ?_, ⟨by dsimp only; omega, hm3, by dsimp only; omega, hl3, by dsimp only; rw [hac2, List.length_append, ← hl2]; rfl⟩, by dsimp only; omega⟩
        dsimp only
        rw [hac2]
        exact sConv
  obtain rfl : i = n2 := by omega
  repeat (first | refine wLd5 ?_ | (refine kLd5 ?_; (first | rintro _ _ ⟨rfl, rfl⟩ | rintro _ _ ⟨_, rfl, rfl⟩ | rintro _ _ ⟨_, _, ⟨_, _⟩, rfl, rfl⟩); try refine ⟨sConv, ?_⟩) | refine Dr.two ?_ ?_)
  refine L.step (by decide) (S.call rfl rfl Try.func21 (by kernel_rfl) rfl sPicks (fun E' hE => lready E' g B2 i d2 r l2 cf now hn1k hs.nl hs.lok) ?_)
  rw [hs.hl]
  rintro x H' ⟨O5, m5, c5, rfl, hm5, rfl⟩
  obtain rfl : m1 = m5 := by omega
  refine ⟨_, rfl, _, sCat, ?_⟩
  repeat (first | refine wLd5 ?_ | (refine kLd5 ?_; (first | rintro _ _ ⟨rfl, rfl⟩ | rintro _ _ ⟨_, rfl, rfl⟩ | rintro _ _ ⟨_, _, ⟨_, _⟩, rfl, rfl⟩); try refine ⟨sConv, ?_⟩) | refine Dr.two ?_ ?_)
  refine L.step (by decide) (S.call rfl rfl Try.func20 (by kernel_rfl) rfl sPicks (fun E' hE => reqs22 E' O5 m1 c5 O1 m1 c1 _ sRd sRd) ?_)
  rintro x H' ⟨rfl, rfl⟩
  refine ⟨_, rfl, _, sCat, ?_⟩
  repeat (first | refine wLd5 ?_ | (refine kLd5 ?_; (first | rintro _ _ ⟨rfl, rfl⟩ | rintro _ _ ⟨_, rfl, rfl⟩ | rintro _ _ ⟨_, _, ⟨_, _⟩, rfl, rfl⟩); try refine ⟨sConv, ?_⟩) | refine Dr.two ?_ ?_)
  refine L.step (by decide) (S.call rfl rfl Try.func23 (by kernel_rfl) rfl sPicks (fun E' hE => ldead E' g B2 i d2 r l2 cf now hn1k hs.nl hs.lok) ?_)
  rw [hs.hl]
  rintro x H' ⟨O6, m6, c6, rfl, hm6, rfl⟩
  obtain rfl : m2 = m6 := by omega
  refine ⟨_, rfl, _, sCat, ?_⟩
  repeat (first | refine wLd5 ?_ | (refine kLd5 ?_; (first | rintro _ _ ⟨rfl, rfl⟩ | rintro _ _ ⟨_, rfl, rfl⟩ | rintro _ _ ⟨_, _, ⟨_, _⟩, rfl, rfl⟩); try refine ⟨sConv, ?_⟩) | refine Dr.two ?_ ?_)
  refine L.step (by decide) (S.call rfl rfl Try.func22 (by kernel_rfl) rfl sPicks (fun E' hE => keys22 E' O6 m2 c6 O2 m2 c2 _ sRd sRd) ?_)
  rintro x H' ⟨rfl, rfl⟩
  refine ⟨_, rfl, _, sCat, ?_⟩
  repeat (first | refine wLd5 ?_ | (refine kLd5 ?_; (first | rintro _ _ ⟨rfl, rfl⟩ | rintro _ _ ⟨_, rfl, rfl⟩ | rintro _ _ ⟨_, _, ⟨_, _⟩, rfl, rfl⟩); try refine ⟨sConv, ?_⟩) | refine Dr.two ?_ ?_)
  exact ret1 rfl sRet sConv (rfl)
end Go.Proofs.Ytkhmplaocfjpjaa.Sep
