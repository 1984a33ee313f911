/- the law LedgerLoads, by parts of memory: the walk. -/
import Derived.Test.YtkhmplaocfjpjaaLedY
namespace Go.Proofs.Ytkhmplaocfjpjaa.Sep
open Go.RowKit Go.Proofs.Ytkhmplaocfjpjaa.Reg
open Go.Proofs.Ytkhmplaocfjpjaa.Mem hiding Rd Own
-- types: entT enrT effT lineT rchT chvT efsT op22T keyT reqT
-- recs: idnT_rec effT_rec cfgT_rec entT_rec enrT_rec keyT_rec reqT_rec chain_rec chref_rec op22T_rec lineT_rec ledger_rec bk22_rec
-- eqs: idnT_eqa effT_eqa entT_eqa enrT_eqa keyT_eqa reqT_eqa
-- funcs
-- flds
-- elts
-- eachs
set_option maxRecDepth 100000
set_option maxHeartbeats 8000000
theorem runs22_length2 (r : Int) (l : List Op22) : (runs22 r [] l).length ≤ l.length := by
  have h1 : ∀ (k : Nat) (q : List Op22) (ps : List S21), ps.length + q.length ≤ k → (runs22 r ps q).length ≤ k := by
    intro k q
    induction q with
    | nil => intro ps h; exact h
    | cons y q ih => intro ps h; exact ih _ (by have := step22_length r ps y; simp only [List.length_cons] at h; omega)
  exact h1 _ _ [] (by rw [List.length_nil]; omega)
theorem loads22 (E : Env) (r : Int) (A : Option Addr) (n c : Nat) (l : List Op22) (hr : Rd E op22T A n c l) (hin : ∀ x ∈ l, In22 E x) (id : Idn) (made : Int) (Ac : Option Addr) (nc cc : Nat) (lc : List Ent) (hrc : Rd E entT Ac nc cc lc) (hlc : ∀ e ∈ lc, e.ok) :
    Tri Try.prog E 5 #[.int .i64 r, .slice A n c, .agg #[.int .i64 id.rep, .int .i64 id.seq, .int .i64 made, .slice Ac nc cc]] [] fun r _ => r = .returned (.bool true) := by
  have hmax : maxLen = 9223372036854775807 := rfl
  have hfew := In22.few hin
  have hf6 := few22_n (l := l)
  have hcc := hrc.cap
  have hnc := hrc.len
  refine tri Try.func5 rfl Try.ntmps5 (by simp) ?_
  repeat (first | refine wLd5 ?_ | (refine kLd5 ?_; (first | rintro _ _ ⟨rfl, rfl⟩ | rintro _ _ ⟨_, rfl, rfl⟩ | rintro _ _ ⟨_, _, ⟨_, _⟩, rfl, rfl⟩); try refine ⟨sConv, ?_⟩) | refine Dr.two ?_ ?_)
  rename_i g5
  refine L.step (by decide) (S.call rfl rfl Try.func12 (by kernel_rfl) rfl sPicks (fun E' hE => alive22 E') ?_)
  rintro x H' ⟨rfl, rfl⟩
  refine ⟨_, rfl, _, sCat, ?_⟩
  repeat (first | refine wLd5 ?_ | (refine kLd5 ?_; (first | rintro _ _ ⟨rfl, rfl⟩ | rintro _ _ ⟨_, rfl, rfl⟩ | rintro _ _ ⟨_, _, ⟨_, _⟩, rfl, rfl⟩); try refine ⟨sConv, ?_⟩) | refine Dr.two ?_ ?_)
  refine L.step (by decide) (S.call rfl rfl Try.func15 (by kernel_rfl) rfl sPicks (fun E' hE => few22_any E' A n c l sRd (fun x hx => ((hin x hx).sub hE).w)) ?_)
  rintro x H' ⟨O, m, co, rfl, hm, hm60, hco, rfl⟩
  refine ⟨_, rfl, _, sCat, ?_⟩
  revert hfew hf6 hm
  generalize few22 l = ops
  intro hfew hf6 hm
  repeat (first | refine wLd5 ?_ | (refine kLd5 ?_; (first | rintro _ _ ⟨rfl, rfl⟩ | rintro _ _ ⟨_, rfl, rfl⟩ | rintro _ _ ⟨_, _, ⟨_, _⟩, rfl, rfl⟩); try refine ⟨sConv, ?_⟩) | refine Dr.two ?_ ?_)
  refine C.loop (X := Nat) (fun i => [(0, .int .i64 r), (1, .slice O m co), (5, .pointer (some ⟨g5, 0, none⟩)), (7, .int .i64 i)]) (fun i => [own op22T O m co (clL i ops), blk g5 61 [.int .i64 id.rep, .int .i64 id.seq, .int .i64 made, .slice Ac nc cc]])
    (fun i => i ≤ m ∧ ∀ x ∈ ops.take i, ∀ f ∈ x.want.l, f.fine) (fun i => m - i) 0 sHolds sConv ⟨Nat.zero_le _, fun x hx => by simp at hx⟩ ?_
  rintro i F ⟨hi, hall⟩
  by_cases hlt : i < m
  · obtain ⟨x, hx⟩ : ∃ x, ops[i]? = some x := ⟨_, List.getElem?_eq_getElem (by omega)⟩
    have hxm := List.mem_of_getElem? hx
    have hxi := hfew x hxm
    have hxw := hxi.w
    have hxn := hxw.len
    have hxc := hxw.cap
    have hcx := clL_at hx
    have hcs := clL_succ hx
    have hset := cl_set x
    have hxt : ops.take (i + 1) = ops.take i ++ [x] := by rw [List.take_succ_eq_append_getElem (List.getElem?_eq_some_iff.1 hx).1, (List.getElem?_eq_some_iff.1 hx).2]
    have hcx2 : (clL (i + 1) ops)[i]? = some x.cl := by rw [← hcs, List.getElem?_set_self]; rw [clL_length]; omega
    repeat (first | refine wLd5 ?_ | (refine kLd5 ?_; (first | rintro _ _ ⟨rfl, rfl⟩ | rintro _ _ ⟨_, rfl, rfl⟩ | rintro _ _ ⟨_, _, ⟨_, _⟩, rfl, rfl⟩); try refine ⟨sConv, ?_⟩) | refine Dr.two ?_ ?_)
    rw [hcs]
    refine C.loop (X := Nat) (fun k => [(0, .int .i64 r), (1, .slice O m co), (5, .pointer (some ⟨g5, 0, none⟩)), (7, .int .i64 i), (8, .int .i64 k)]) (fun _ => [own op22T O m co (clL (i + 1) ops), blk g5 61 [.int .i64 id.rep, .int .i64 id.seq, .int .i64 made, .slice Ac nc cc]])
      (fun k => k ≤ x.want.n ∧ ∀ f ∈ x.want.l.take k, f.fine) (fun k => x.want.n - k) 0 sHolds sConv ⟨Nat.zero_le _, fun f hf => by simp at hf⟩ ?_
    rintro k F2 ⟨hk, hkall⟩
    have hxcw : Rd E effT x.cl.want.A x.cl.want.n x.cl.want.c x.cl.want.l := hxw
    by_cases hkl : k < x.want.n
    · obtain ⟨f, hf⟩ : ∃ f, x.want.l[k]? = some f := ⟨_, List.getElem?_eq_getElem (by omega)⟩
      have hft : x.want.l.take (k + 1) = x.want.l.take k ++ [f] := by rw [List.take_succ_eq_append_getElem (List.getElem?_eq_some_iff.1 hf).1, (List.getElem?_eq_some_iff.1 hf).2]
      have hkt : decide ((k : Int) < ((x.cl.want.n : Nat) : Int)) = true := decide_eq_true (by show (k : Int) < ((x.want.n : Nat) : Int); omega)
      have hkn : x.cl.want.n ≤ maxLen := by show x.want.n ≤ maxLen; omega
      have hkk : k < x.cl.want.n := hkl
      have hff : x.cl.want.l[k]? = some f := hf
      by_cases h1 : f.kind < 1
      · repeat (first | refine wLd5 ?_ | (refine kLd5 ?_; (first | rintro _ _ ⟨rfl, rfl⟩ | rintro _ _ ⟨_, rfl, rfl⟩ | rintro _ _ ⟨_, _, ⟨_, _⟩, rfl, rfl⟩); try refine ⟨sConv, ?_⟩) | refine Dr.two ?_ ?_)
        exact ret1 rfl sRet sConv (rfl)
      by_cases h2 : 11 < f.kind
      · repeat (first | refine wLd5 ?_ | (refine kLd5 ?_; (first | rintro _ _ ⟨rfl, rfl⟩ | rintro _ _ ⟨_, rfl, rfl⟩ | rintro _ _ ⟨_, _, ⟨_, _⟩, rfl, rfl⟩); try refine ⟨sConv, ?_⟩) | refine Dr.two ?_ ?_)
        exact ret1 rfl sRet sConv (rfl)
      by_cases h3 : f.a < 0
      · repeat (first | refine wLd5 ?_ | (refine kLd5 ?_; (first | rintro _ _ ⟨rfl, rfl⟩ | rintro _ _ ⟨_, rfl, rfl⟩ | rintro _ _ ⟨_, _, ⟨_, _⟩, rfl, rfl⟩); try refine ⟨sConv, ?_⟩) | refine Dr.two ?_ ?_)
        exact ret1 rfl sRet sConv (rfl)
      by_cases h4 : 255 < f.a
      · repeat (first | refine wLd5 ?_ | (refine kLd5 ?_; (first | rintro _ _ ⟨rfl, rfl⟩ | rintro _ _ ⟨_, rfl, rfl⟩ | rintro _ _ ⟨_, _, ⟨_, _⟩, rfl, rfl⟩); try refine ⟨sConv, ?_⟩) | refine Dr.two ?_ ?_)
        exact ret1 rfl sRet sConv (rfl)
      by_cases h5 : f.ref = ⟨0, 0⟩
      · have hd : (!decide ((⟨f.ref.rep, f.ref.seq⟩ : Idn) = ⟨0, 0⟩)) = false := by rw [show (⟨f.ref.rep, f.ref.seq⟩ : Idn) = f.ref from rfl, h5, decide_eq_true rfl]; rfl
        repeat (first | refine wLd5 ?_ | (refine kLd5 ?_; (first | rintro _ _ ⟨rfl, rfl⟩ | rintro _ _ ⟨_, rfl, rfl⟩ | rintro _ _ ⟨_, _, ⟨_, _⟩, rfl, rfl⟩); try refine ⟨sConv, ?_⟩) | refine Dr.two ?_ ?_)
        refine ⟨k + 1, sHolds, sConv, ⟨by omega, fun y hy => ?_⟩, by omega⟩
        rw [hft] at hy
        rcases List.mem_append.1 hy with h | h
        · exact hkall y h
        · rw [List.mem_singleton] at h
          subst h
          exact ⟨by omega, by omega, by omega, by omega, h5⟩
      · have hd : (!decide ((⟨f.ref.rep, f.ref.seq⟩ : Idn) = ⟨0, 0⟩)) = true := by rw [show (⟨f.ref.rep, f.ref.seq⟩ : Idn) = f.ref from rfl, decide_eq_false h5]; rfl
        repeat (first | refine wLd5 ?_ | (refine kLd5 ?_; (first | rintro _ _ ⟨rfl, rfl⟩ | rintro _ _ ⟨_, rfl, rfl⟩ | rintro _ _ ⟨_, _, ⟨_, _⟩, rfl, rfl⟩); try refine ⟨sConv, ?_⟩) | refine Dr.two ?_ ?_)
        exact ret1 rfl sRet sConv (rfl)
    obtain rfl : k = x.want.n := by omega
    rw [List.take_of_length_le (by omega)] at hkall
    have hkt : decide (((x.want.n : Nat) : Int) < ((x.cl.want.n : Nat) : Int)) = false := decide_eq_false (by show ¬ ((x.want.n : Nat) : Int) < ((x.want.n : Nat) : Int); omega)
    have hkn : x.cl.want.n ≤ maxLen := by show x.want.n ≤ maxLen; omega
    repeat (first | refine wLd5 ?_ | (refine kLd5 ?_; (first | rintro _ _ ⟨rfl, rfl⟩ | rintro _ _ ⟨_, rfl, rfl⟩ | rintro _ _ ⟨_, _, ⟨_, _⟩, rfl, rfl⟩); try refine ⟨sConv, ?_⟩) | refine Dr.two ?_ ?_)
    refine ⟨i + 1, sHolds, sConv, ⟨by omega, fun y hy => ?_⟩, by omega⟩
    rw [hxt] at hy
    rcases List.mem_append.1 hy with h | h
    · exact hall y h
    · rw [List.mem_singleton] at h
      subst h
      exact hkall
  obtain rfl : i = m := by omega
  rw [List.take_of_length_le (by omega)] at hall
  obtain ⟨ops2, hops2⟩ : ∃ q, clL i ops = q := ⟨_, rfl⟩
  have ho2 : ops2 = ops.map Op22.cl := by rw [← hops2]; unfold clL; rw [List.take_of_length_le (by omega), List.drop_eq_nil_of_le (by omega), List.append_nil]
  rw [hops2]
  have hin2 : ∀ x ∈ ops2, In22 E x := by
    intro x hx
    rw [ho2] at hx
    obtain ⟨y, hy, rfl⟩ := List.mem_map.1 hx
    exact ⟨(hfew y hy).w, (hfew y hy).ok, by have := cl_now y; unfold I64; omega⟩
  have h82 : ∀ x ∈ ops2, x.want.n ≤ 8 := by
    intro x hx
    rw [ho2] at hx
    obtain ⟨y, hy, rfl⟩ := List.mem_map.1 hx
    exact Nat.le_trans (hf6 y hy) (by decide)
  have hgood : ∀ x ∈ ops2, Good22 x := by
    intro x hx
    have h8 := h82 x hx
    rw [ho2] at hx
    obtain ⟨y, hy, rfl⟩ := List.mem_map.1 hx
    have hl := (hfew y hy).w.len
    exact ⟨(hfew y hy).ok, fun f hf => Eff.fine_check (hall y hy f hf), by show y.want.l.length ≤ 8; change y.want.n ≤ 8 at h8; omega, cl_now y⟩
  have hm2 : i = ops2.length := by rw [ho2, List.length_map]; exact hm
  clear hops2 ho2 hfew hf6 hm hall
  repeat (first | refine wLd5 ?_ | (refine kLd5 ?_; (first | rintro _ _ ⟨rfl, rfl⟩ | rintro _ _ ⟨_, rfl, rfl⟩ | rintro _ _ ⟨_, _, ⟨_, _⟩, rfl, rfl⟩); try refine ⟨sConv, ?_⟩) | refine Dr.two ?_ ?_)
  refine L.step (by decide) (S.call rfl rfl Try.func14 (by kernel_rfl) rfl sPicks (fun E' hE => lnew E' r) ?_)
  rintro x H' ⟨g, rfl, rfl⟩
  refine ⟨_, rfl, _, sCat, ?_⟩
  repeat (first | refine wLd5 ?_ | (refine kLd5 ?_; (first | rintro _ _ ⟨rfl, rfl⟩ | rintro _ _ ⟨_, rfl, rfl⟩ | rintro _ _ ⟨_, _, ⟨_, _⟩, rfl, rfl⟩); try refine ⟨sConv, ?_⟩) | refine Dr.two ?_ ?_)
  rename_i gb
  refine L.conv conv22 ?_
  refine L.step (by decide) (S.call rfl rfl Try.func13 (by kernel_rfl) rfl sPicks (fun E' hE => run22 E' g gb r [] 0 none 0 [] none 0 [] O i co ops2 sRd (fun x hx => (hin2 x hx).sub hE) h82 (S22.zero r) (by omega)) ?_)
  unfold Step22
  rintro x H' ⟨n2, B2, d2, l2, B3, d3, bs, rfl, hs, rfl⟩
  refine ⟨_, rfl, _, sCat, ?_⟩
  have hn2 : n2 ≤ 60 := by
    have h1 := runs22_length2 r ops2
    rw [hs.hn]
    omega
  have hjl : JL (runs22 r [] ops2) := JL.runs hgood (fun s hs => (List.not_mem_nil hs).elim)
  revert hs hjl
  generalize runs22 r [] ops2 = ps
  intro hs hjl
  have hn1k : n2 ≤ 1000 := by omega
  have hnb := hs.nb
  have hnp := hs.hn
  have hdb1 := hs.hdb
  repeat (first | refine wLd5 ?_ | (refine kLd5 ?_; (first | rintro _ _ ⟨rfl, rfl⟩ | rintro _ _ ⟨_, rfl, rfl⟩ | rintro _ _ ⟨_, _, ⟨_, _⟩, rfl, rfl⟩); try refine ⟨sConv, ?_⟩) | refine Dr.two ?_ ?_)
  refine L.step (by decide) (S.call rfl rfl Try.func14 (by kernel_rfl) rfl sPicks (fun E' hE => lnew E' r) ?_)
  rintro x H' ⟨gh, rfl, rfl⟩
  refine ⟨_, rfl, _, sCat, ?_⟩
  repeat (first | refine wLd5 ?_ | (refine kLd5 ?_; (first | rintro _ _ ⟨rfl, rfl⟩ | rintro _ _ ⟨_, rfl, rfl⟩ | rintro _ _ ⟨_, _, ⟨_, _⟩, rfl, rfl⟩); try refine ⟨sConv, ?_⟩) | refine Dr.two ?_ ?_)
  refine L.step (by decide) (S.call rfl rfl Try.func24 (by kernel_rfl) rfl sPicks (fun E' hE => lchains E' g B2 n2 d2 r l2 hn1k hs.nl hs.lok) ?_)
  rintro e H' ⟨Oc, oc, cl, rfl, hcl, hcat, rfl⟩
  refine ⟨_, rfl, _, sCat, ?_⟩
  repeat (first | refine wLd5 ?_ | (refine kLd5 ?_; (first | rintro _ _ ⟨rfl, rfl⟩ | rintro _ _ ⟨_, rfl, rfl⟩ | rintro _ _ ⟨_, _, ⟨_, _⟩, rfl, rfl⟩); try refine ⟨sConv, ?_⟩) | refine Dr.two ?_ ?_)
  refine L.step (by decide) (S.call rfl rfl Try.func25 (by kernel_rfl) rfl sPicks (fun E' hE => lwants E' g B2 n2 d2 r l2 hn1k hs.nl hs.lok) ?_)
  rintro e H' ⟨Of, of, fl, rfl, hfl, hfat, rfl⟩
  refine ⟨_, rfl, _, sCat, ?_⟩
  repeat (first | refine wLd5 ?_ | (refine kLd5 ?_; (first | rintro _ _ ⟨rfl, rfl⟩ | rintro _ _ ⟨_, rfl, rfl⟩ | rintro _ _ ⟨_, _, ⟨_, _⟩, rfl, rfl⟩); try refine ⟨sConv, ?_⟩) | refine Dr.two ?_ ?_)
  refine C.loop (X := Nat × Option Addr × Nat × List Lnv) (fun x => [(5, .pointer (some ⟨g5, 0, none⟩)), (10, .pointer (some ⟨gb, 0, none⟩)), (11, .pointer (some ⟨gh, 0, none⟩)), (12, .slice Oc n2 oc), (13, .slice Of n2 of), (14, .int .i64 x.1)])
    (fun x => lg gh x.2.1 x.1 x.2.2.1 r :: own lineT x.2.1 x.1 x.2.2.1 x.2.2.2 :: each lStk x.2.2.2 :: each lWnt x.2.2.2 :: own chvT Oc n2 oc cl :: each cStk cl :: own efsT Of n2 of fl :: each fWnt fl :: blk g5 61 [.int .i64 id.rep, .int .i64 id.seq, .int .i64 made, .slice Ac nc cc] :: bst gb B3 n2 d3 r bs)
    (fun x => x.1 ≤ n2 ∧ x.2.2.2.length = x.1 ∧ LOk r x.2.2.2 ∧ x.2.2.2.map Lnv.s = ps.take x.1 ∧ (x.1 ≤ x.2.2.1 ∧ x.2.2.1 ≤ maxLen)) (fun x => n2 - x.1) (0, none, 0, []) sHolds ((Conv.each0 lWnt).trans ((Conv.each0 lStk).trans ((Conv.nil0 lineT none).trans sConv))) ⟨Nat.zero_le _, rfl, fun i e h => by simp at h, rfl, ⟨Nat.le_refl _, Nat.zero_le _⟩⟩ ?_
  rintro ⟨j, B5, d5, ds⟩ F ⟨hj, hds, hdok, hdm, hd5⟩
  dsimp only at hj hds hdok hdm hd5 ⊢
  by_cases hjl2 : j < n2
  · obtain ⟨e, he⟩ : ∃ e, bs[j]? = some e := ⟨_, List.getElem?_eq_getElem (by omega)⟩
    have hpe : ps[j]? = some e.s := by rw [← hs.hb, List.getElem?_map, he]; rfl
    have hoe := hs.bok j e he
    have hjo := hjl e.s (List.mem_of_getElem? hpe)
    obtain ⟨f, hf, f1, f2, f3, f4, f5, f6⟩ := same_at hs he
    have hid := hoe.id
    obtain ⟨vA, vc, hv, hvc⟩ : ∃ vA vc, cl[j]? = some (⟨⟨r, ((j + 1 : Nat) : Int)⟩, e.made, vA, e.n, vc, e.l⟩ : Chv) ∧ (e.n ≤ vc ∧ vc ≤ maxLen) := by
      obtain ⟨⟨a, b, c, m, k, l⟩, h0, h1, h2, h3, h4, h5⟩ := hcat j f hf
      dsimp only at h1 h2 h3 h4 h5
      subst h1 h2 h3 h4
      rw [f1, f2, f3, f5, hid] at h0
      exact ⟨c, k, h0, by omega⟩
    obtain ⟨uA, uc, hu, huc⟩ : ∃ uA uc, fl[j]? = some (⟨uA, e.nx, uc, e.w⟩ : Efs) ∧ (e.nx ≤ uc ∧ uc ≤ maxLen) := by
      obtain ⟨⟨c, m, k, l⟩, h0, h3, h4, h5⟩ := hfat j f hf
      dsimp only at h3 h4 h5
      subst h3 h4
      rw [f4, f6] at h0
      exact ⟨c, k, h0, by omega⟩
    have hel : e.n ≤ 1000000 := by have h1 := hoe.s.len; have h2 := hoe.s.made1; have h3 := hoe.n; unfold Lnv.s at h1 h2; dsimp only at h1 h2; omega
    have hx8 : e.nx ≤ 8 := by have h1 := hoe.s.wide; have h3 := hoe.nx; unfold Lnv.s at h1; dsimp only at h1; omega
    have hj5 : j ≤ 100000 := by omega
    have hpn : puts22 (ps.take j) ((j + 1 : Nat) : Int) e.w = (true, ps.take j ++ [s0.put e.w]) := lput_next hpe
    repeat (first | refine wLd5 ?_ | (refine kLd5 ?_; (first | rintro _ _ ⟨rfl, rfl⟩ | rintro _ _ ⟨_, rfl, rfl⟩ | rintro _ _ ⟨_, _, ⟨_, _⟩, rfl, rfl⟩); try refine ⟨sConv, ?_⟩) | refine Dr.two ?_ ?_)
    refine L.step (by decide) (S.call rfl rfl Try.func26 (by kernel_rfl) rfl sPicks (fun E' hE => lput_any E' gh B5 j d5 r ds ((j + 1 : Nat) : Int) hj5 hds.symm hd5 hdok uA e.nx uc e.w (Sub.each (f := fWnt) hE sHas hu rfl) hx8 hoe.s.effs) ?_)
    rw [hdm, hpn]
    unfold LPB
    rintro x H' ⟨B6, n6, d6, ls6, rfl, h61, h62, h63, h64, rfl⟩
    dsimp only at h64 ⊢
    have hlp : (ps.take j).length = j := by rw [List.length_take]; omega
    obtain rfl : n6 = j + 1 := by rw [h62, ← List.length_map (f := Lnv.s), h64, List.length_append, hlp]; rfl
    refine ⟨_, rfl, _, sCat, ?_⟩
    obtain ⟨y, hy⟩ : ∃ y, ls6[j]? = some y := ⟨_, List.getElem?_eq_getElem (by omega)⟩
    have hys : y.s = s0.put e.w := by
      have h1 := ls_at hy
      rw [h64, List.getElem?_append_right (by omega), hlp, Nat.sub_self] at h1
      exact (Option.some.inj h1).symm
    have hyw : y.w = e.w := congrArg S21.w hys
    have hwh : wholeP e.made e.l = true := hjo.whole
    have hset : settle y.w e.l = e.l := by rw [hyw]; exact hjo.2.gone
    have hso : (⟨e.made, settle y.w e.l, y.w⟩ : S21).ok := by rw [hset, hyw]; exact hoe.s
    have hj6 : j + 1 ≤ 100000 := by omega
    have hj7 : j < j + 1 := by omega
    repeat (first | refine wLd5 ?_ | (refine kLd5 ?_; (first | rintro _ _ ⟨rfl, rfl⟩ | rintro _ _ ⟨_, rfl, rfl⟩ | rintro _ _ ⟨_, _, ⟨_, _⟩, rfl, rfl⟩); try refine ⟨sConv, ?_⟩) | refine Dr.two ?_ ?_)
    refine L.step (by decide) (S.call rfl rfl Try.func27 (by kernel_rfl) rfl sPicks (fun E' hE => lload E' gh B6 (j + 1) d6 r ls6 j hj6 hj7 h61 hy e.made vA e.n vc e.l (Sub.each (f := cStk) hE sHas hv rfl) hel hwh hso) ?_)
    unfold LPost
    rintro x H' ⟨ls7, rfl, h71, h72, h73, rfl⟩
    refine ⟨_, rfl, _, sCat, ?_⟩
    repeat (first | refine wLd5 ?_ | (refine kLd5 ?_; (first | rintro _ _ ⟨rfl, rfl⟩ | rintro _ _ ⟨_, rfl, rfl⟩ | rintro _ _ ⟨_, _, ⟨_, _⟩, rfl, rfl⟩); try refine ⟨sConv, ?_⟩) | refine Dr.two ?_ ?_)
    exact ⟨(j + 1, B6, d6, ls7), sHolds, sConv, ⟨by dsimp only; omega, by dsimp only; omega, h71, by dsimp only; rw [h73, h64, hset, hyw]; exact take_last hpe, h63⟩, by dsimp only; omega⟩
  obtain rfl : j = n2 := by omega
  rw [List.take_of_length_le (by omega)] at hdm
  have hsh : S22 r ps j d5 d3 ds bs := ⟨hnp, hd5, hdb1, hdok, hs.bok, hdm, hs.hb⟩
  have hj5 : j ≤ 100000 := by omega
  repeat (first | refine wLd5 ?_ | (refine kLd5 ?_; (first | rintro _ _ ⟨rfl, rfl⟩ | rintro _ _ ⟨_, rfl, rfl⟩ | rintro _ _ ⟨_, _, ⟨_, _⟩, rfl, rfl⟩); try refine ⟨sConv, ?_⟩) | refine Dr.two ?_ ?_)
  refine L.step (by decide) (S.call rfl rfl Try.func28 (by kernel_rfl) rfl sPicks (fun E' hE => told22 E' gh gb r ps j B5 d5 ds B3 d3 bs hsh hn1k) ?_)
  rintro x H' ⟨rfl, rfl⟩
  refine ⟨_, rfl, _, sCat, ?_⟩
  repeat ((fail_if_success (refine C.seq (x := Code.region 24 _ _) ?_)); first | refine vLd5 ?_ | (refine kLd5 ?_; (first | rintro _ _ ⟨rfl, rfl⟩ | rintro _ _ ⟨_, rfl, rfl⟩ | rintro _ _ ⟨_, _, ⟨_, _⟩, rfl, rfl⟩); try refine ⟨sConv, ?_⟩) | refine Dr.two ?_ ?_)
  obtain ⟨k, lk, hrL, hk20, hkc, hlL, hcut⟩ : ∃ (k : Nat) (lk : List Ent), Rd E entT Ac k cc lk ∧ k ≤ 20 ∧ k ≤ cc ∧ (∀ e ∈ lk, e.ok) ∧ ((nc ≤ 20 ∧ k = nc ∧ lk = lc) ∨ (20 < nc ∧ k = 20 ∧ lk = lc.take 20)) := by
    by_cases h : 20 < nc
    · exact ⟨20, lc.take 20, hrc.upto (by omega) (by omega) (by omega), Nat.le_refl _, by omega, fun e he => hlc e (List.mem_of_mem_take he), .inr ⟨h, rfl, rfl⟩⟩
    · exact ⟨nc, lc, hrc, by omega, by omega, hlc, .inl ⟨by omega, rfl, rfl⟩⟩
  have hLn := hrL.len
  refine C.mid (X := Unit) (fun _ => [(5, .pointer (some ⟨g5, 0, none⟩)), (10, .pointer (some ⟨gb, 0, none⟩)), (11, .pointer (some ⟨gh, 0, none⟩))])
    (fun _ => blk g5 61 [.int .i64 id.rep, .int .i64 id.seq, .int .i64 made, .slice Ac k cc] :: all22 gh gb r j B5 d5 ds B3 d3 bs) (fun _ => True) ?_ ?_
  · have hnm : nc ≤ maxLen := by omega
    rcases hcut with ⟨h1, h2, h3⟩ | ⟨h1, h2, h3⟩
    · rw [h2]
      clear h2 h3 hLn hkc hk20 hrL hlL
      repeat (first | refine wLd5 ?_ | (refine kLd5 ?_; (first | rintro _ _ ⟨rfl, rfl⟩ | rintro _ _ ⟨_, rfl, rfl⟩ | rintro _ _ ⟨_, _, ⟨_, _⟩, rfl, rfl⟩); try refine ⟨sConv, ?_⟩) | refine Dr.two ?_ ?_)
      exact ⟨(), sHolds, sConv, trivial⟩
    · rw [h2]
      clear h2 h3 hLn hkc hk20 hrL hlL
      repeat (first | refine wLd5 ?_ | (refine kLd5 ?_; (first | rintro _ _ ⟨rfl, rfl⟩ | rintro _ _ ⟨_, rfl, rfl⟩ | rintro _ _ ⟨_, _, ⟨_, _⟩, rfl, rfl⟩); try refine ⟨sConv, ?_⟩) | refine Dr.two ?_ ?_)
      exact ⟨(), sHolds, sConv, trivial⟩
  rintro - F -
  clear hcut
  obtain ⟨m0, hm0⟩ : ∃ b, decide (0 ≤ made ∧ made ≤ 255) = b := ⟨_, rfl⟩
  obtain ⟨av, hav⟩ : ∃ a, at22 r j id = a := ⟨_, rfl⟩
  refine C.cut (X := Unit) (fun _ => [(5, .pointer (some ⟨g5, 0, none⟩)), (10, .pointer (some ⟨gb, 0, none⟩)), (11, .pointer (some ⟨gh, 0, none⟩)), (15, .int .i64 av), (16, .int .i64 0), (17, .bool m0)])
    (fun _ => blk g5 61 [.int .i64 id.rep, .int .i64 id.seq, .int .i64 made, .slice Ac k cc] :: all22 gh gb r j B5 d5 ds B3 d3 bs) (fun _ => True) ?_ ?_
  · by_cases h0 : 0 ≤ made
    · have hmm : m0 = decide (made ≤ 255) := by rw [← hm0]; simp only [h0, true_and]
      rw [hmm]
      refine C.regionA 100000 (.one 0 false (.one 1 false (.one 2 false (.one 4 false (.one 5 false (.one 6 false (.one 3 true (.one 7 false (.one 8 false (.one 9 false (.one 10 false (.one 11 false (.one 12 false (.one 13 false (.one 14 false .nil))))))))))))))) ([blk g5 61 [.int .i64 id.rep, .int .i64 id.seq, .int .i64 made, .slice Ac k cc]]) (by kernel_rfl) (by kernel_rfl) sConv ?_
      repeat (first | refine wLd5 ?_ | (refine kLd5 ?_; (first | rintro _ _ ⟨rfl, rfl⟩ | rintro _ _ ⟨_, rfl, rfl⟩ | rintro _ _ ⟨_, _, ⟨_, _⟩, rfl, rfl⟩); try refine ⟨sConv, ?_⟩) | refine Dr.two ?_ ?_)
      refine Dr.go rfl (by rintro k ⟨⟩ <;> decide) sGon (S.call rfl rfl Try.func29 (by kernel_rfl) rfl sPicks (fun E' hE => bat_any E' gb B3 j d3 r id hj5) ?_)
      rw [hav]
      rintro x H' ⟨rfl, rfl⟩
      refine ⟨_, rfl, _, sCat, sConv, ?_⟩
      repeat (first | refine wLd5 ?_ | (refine kLd5 ?_; (first | rintro _ _ ⟨rfl, rfl⟩ | rintro _ _ ⟨_, rfl, rfl⟩ | rintro _ _ ⟨_, _, ⟨_, _⟩, rfl, rfl⟩); try refine ⟨sConv, ?_⟩) | refine Dr.two ?_ ?_)
      exact ⟨(), sHolds, sConv, trivial⟩
    · have hmm : m0 = false := by rw [← hm0]; simp only [h0, false_and]; rfl
      rw [hmm]
      refine C.regionA 100000 (.one 0 false (.one 1 false (.one 2 false (.one 4 false (.one 5 false (.one 6 false (.one 3 true (.one 7 false (.one 8 false (.one 9 false (.one 10 false (.one 11 false (.one 12 false (.one 13 false (.one 14 false .nil))))))))))))))) ([blk g5 61 [.int .i64 id.rep, .int .i64 id.seq, .int .i64 made, .slice Ac k cc]]) (by kernel_rfl) (by kernel_rfl) sConv ?_
      repeat (first | refine wLd5 ?_ | (refine kLd5 ?_; (first | rintro _ _ ⟨rfl, rfl⟩ | rintro _ _ ⟨_, rfl, rfl⟩ | rintro _ _ ⟨_, _, ⟨_, _⟩, rfl, rfl⟩); try refine ⟨sConv, ?_⟩) | refine Dr.two ?_ ?_)
      refine Dr.go rfl (by rintro k ⟨⟩ <;> decide) sGon (S.call rfl rfl Try.func29 (by kernel_rfl) rfl sPicks (fun E' hE => bat_any E' gb B3 j d3 r id hj5) ?_)
      rw [hav]
      rintro x H' ⟨rfl, rfl⟩
      refine ⟨_, rfl, _, sCat, sConv, ?_⟩
      repeat (first | refine wLd5 ?_ | (refine kLd5 ?_; (first | rintro _ _ ⟨rfl, rfl⟩ | rintro _ _ ⟨_, rfl, rfl⟩ | rintro _ _ ⟨_, _, ⟨_, _⟩, rfl, rfl⟩); try refine ⟨sConv, ?_⟩) | refine Dr.two ?_ ?_)
      exact ⟨(), sHolds, sConv, trivial⟩
  rintro - F -
  have hz : (m0 && rise 0 (lk.take 0)) = m0 := Bool.and_true m0
  repeat (first | refine wLd5 ?_ | (refine kLd5 ?_; (first | rintro _ _ ⟨rfl, rfl⟩ | rintro _ _ ⟨_, rfl, rfl⟩ | rintro _ _ ⟨_, _, ⟨_, _⟩, rfl, rfl⟩); try refine ⟨sConv, ?_⟩) | refine Dr.two ?_ ?_)
  refine C.loop (X := Nat) (fun i => [(5, .pointer (some ⟨g5, 0, none⟩)), (10, .pointer (some ⟨gb, 0, none⟩)), (11, .pointer (some ⟨gh, 0, none⟩)), (15, .int .i64 av), (16, .int .i64 (lastO 0 (lk.take i))), (17, .bool (m0 && rise 0 (lk.take i))), (18, .int .i64 i)])
    (fun _ => blk g5 61 [.int .i64 id.rep, .int .i64 id.seq, .int .i64 made, .slice Ac k cc] :: all22 gh gb r j B5 d5 ds B3 d3 bs) (fun i => i ≤ k) (fun i => k - i) 0 ⟨rfl, rfl, rfl, rfl, rfl, congrArg Value.bool hz.symm, rfl, trivial⟩ sConv (Nat.zero_le _) ?_
  rintro i F hik
  by_cases hlt2 : i < k
  · obtain ⟨e, he⟩ : ∃ e, lk[i]? = some e := ⟨_, List.getElem?_eq_getElem (by omega)⟩
    have htk : lk.take (i + 1) = lk.take i ++ [e] := by rw [List.take_succ_eq_append_getElem (List.getElem?_eq_some_iff.1 he).1, (List.getElem?_eq_some_iff.1 he).2]
    have hp := rise_push (lk.take i) 0 e
    have hlp := lastO_push (lk.take i) 0 e
    rw [← htk] at hp hlp
    revert hp hlp
    generalize rise 0 (lk.take i) = b1
    generalize lastO 0 (lk.take i) = q
    intro hp hlp
    have hcc2 : k ≤ maxLen := by omega
    obtain ⟨b, hb⟩ : ∃ b, (m0 && b1) = b := ⟨_, rfl⟩
    have hb' : (m0 && rise 0 (lk.take (i + 1))) = (b && (e.may && decide (q < e.ord))) := by rw [hp, ← hb, Bool.and_assoc]
    rw [hb]
    cases b
    · repeat (first | refine wLd5 ?_ | (refine kLd5 ?_; (first | rintro _ _ ⟨rfl, rfl⟩ | rintro _ _ ⟨_, rfl, rfl⟩ | rintro _ _ ⟨_, _, ⟨_, _⟩, rfl, rfl⟩); try refine ⟨sConv, ?_⟩) | refine Dr.two ?_ ?_)
      exact ⟨i + 1, by rw [hb', hlp]; exact sHolds, sConv, by omega, by omega⟩
    · rw [Bool.true_and] at hb'
      repeat (first | refine wLd5 ?_ | (refine kLd5 ?_; (first | rintro _ _ ⟨rfl, rfl⟩ | rintro _ _ ⟨_, rfl, rfl⟩ | rintro _ _ ⟨_, _, ⟨_, _⟩, rfl, rfl⟩); try refine ⟨sConv, ?_⟩) | refine Dr.two ?_ ?_)
      refine L.step (by decide) (S.call rfl rfl Try.func30 (by kernel_rfl) rfl sPicks (fun E' hE => echeck E' e) ?_)
      cases hm : e.may
      · rw [hm] at hb'
        rintro x H' ⟨rfl, rfl⟩
        refine ⟨_, rfl, _, sCat, ?_⟩
        repeat (first | refine wLd5 ?_ | (refine kLd5 ?_; (first | rintro _ _ ⟨rfl, rfl⟩ | rintro _ _ ⟨_, rfl, rfl⟩ | rintro _ _ ⟨_, _, ⟨_, _⟩, rfl, rfl⟩); try refine ⟨sConv, ?_⟩) | refine Dr.two ?_ ?_)
        exact ⟨i + 1, by rw [hb', hlp]; exact sHolds, sConv, by omega, by omega⟩
      · rw [hm, Bool.true_and] at hb'
        rintro x H' ⟨rfl, rfl⟩
        refine ⟨_, rfl, _, sCat, ?_⟩
        repeat (first | refine wLd5 ?_ | (refine kLd5 ?_; (first | rintro _ _ ⟨rfl, rfl⟩ | rintro _ _ ⟨_, rfl, rfl⟩ | rintro _ _ ⟨_, _, ⟨_, _⟩, rfl, rfl⟩); try refine ⟨sConv, ?_⟩) | refine Dr.two ?_ ?_)
        exact ⟨i + 1, by rw [hb', hlp]; exact sHolds, sConv, by omega, by omega⟩
  obtain rfl : i = k := by omega
  rw [List.take_of_length_le (by omega)]
  have hcc2 : i ≤ maxLen := by omega
  have hwhole : wholeP made lk = (m0 && (rise 0 lk && decide (lastO 0 lk ≤ made))) := by
    unfold wholeP
    rw [← hm0]
    cases hrs : rise 0 lk
    · simp
    · have hln := rise_len hrs
      have : 0 ≤ lastO 0 lk := by omega
      rw [Bool.true_and, Bool.true_and, Bool.eq_iff_iff]
      simp only [Bool.and_eq_true, decide_eq_true_eq]
      omega
  obtain ⟨mv, hmv⟩ : ∃ b, (wholeP made lk && decide (Here r j id)) = b := ⟨_, rfl⟩
  have hav2 : decide (0 ≤ av) = decide (Here r j id) := by
    rw [← hav]
    unfold at22
    by_cases h : Here r j id
    · rw [if_pos h, decide_eq_true h]
      obtain ⟨_, h2, _⟩ := h
      exact decide_eq_true (by omega)
    · rw [if_neg h, decide_eq_false h]; rfl
  obtain ⟨w1, hw1⟩ : ∃ b, (m0 && rise 0 lk) = b := ⟨_, rfl⟩
  have hwh1 : wholeP made lk = (w1 && decide (lastO 0 lk ≤ made)) := by rw [hwhole, ← hw1, Bool.and_assoc]
  rw [hw1]
  repeat ((fail_if_success (refine C.seq (x := Code.region 32 _ _) ?_)); first | refine vLd5 ?_ | (refine kLd5 ?_; (first | rintro _ _ ⟨rfl, rfl⟩ | rintro _ _ ⟨_, rfl, rfl⟩ | rintro _ _ ⟨_, _, ⟨_, _⟩, rfl, rfl⟩); try refine ⟨sConv, ?_⟩) | refine Dr.two ?_ ?_)
  refine C.cut (X := Unit) (fun _ => [(5, .pointer (some ⟨g5, 0, none⟩)), (10, .pointer (some ⟨gb, 0, none⟩)), (11, .pointer (some ⟨gh, 0, none⟩)), (17, .bool mv)])
    (fun _ => blk g5 61 [.int .i64 id.rep, .int .i64 id.seq, .int .i64 made, .slice Ac i cc] :: all22 gh gb r j B5 d5 ds B3 d3 bs) (fun _ => True) ?_ ?_
  · cases w1
    · rw [Bool.false_and] at hwh1
      rw [hwh1, Bool.false_and] at hmv
      subst hmv
      repeat (first | refine wLd5 ?_ | (refine kLd5 ?_; (first | rintro _ _ ⟨rfl, rfl⟩ | rintro _ _ ⟨_, rfl, rfl⟩ | rintro _ _ ⟨_, _, ⟨_, _⟩, rfl, rfl⟩); try refine ⟨sConv, ?_⟩) | refine Dr.two ?_ ?_)
      exact ⟨(), sHolds, sConv, trivial⟩
    · rw [Bool.true_and] at hwh1
      by_cases hh : Here r j id
      · rw [decide_eq_true hh] at hav2
        rw [decide_eq_true hh, Bool.and_true, hwh1] at hmv
        subst hmv
        repeat (first | refine wLd5 ?_ | (refine kLd5 ?_; (first | rintro _ _ ⟨rfl, rfl⟩ | rintro _ _ ⟨_, rfl, rfl⟩ | rintro _ _ ⟨_, _, ⟨_, _⟩, rfl, rfl⟩); try refine ⟨sConv, ?_⟩) | refine Dr.two ?_ ?_)
        exact ⟨(), sHolds, sConv, trivial⟩
      · rw [decide_eq_false hh] at hav2
        rw [decide_eq_false hh, Bool.and_false] at hmv
        subst hmv
        repeat (first | refine wLd5 ?_ | (refine kLd5 ?_; (first | rintro _ _ ⟨rfl, rfl⟩ | rintro _ _ ⟨_, rfl, rfl⟩ | rintro _ _ ⟨_, _, ⟨_, _⟩, rfl, rfl⟩); try refine ⟨sConv, ?_⟩) | refine Dr.two ?_ ?_)
        exact ⟨(), sHolds, sConv, trivial⟩
  rintro - F -
  clear hwh1 hwhole hav2 hw1
  have hi20 : i ≤ 1000000 := by omega
  by_cases hh : Here r j id
  · obtain ⟨p, hp, rfl⟩ : ∃ p : Nat, p < j ∧ id = ⟨r, ((p + 1 : Nat) : Int)⟩ := by
      obtain ⟨ir, is⟩ := id
      obtain ⟨h1, h2, h3⟩ := hh
      dsimp only at h1 h2 h3
      subst h1
      obtain ⟨p, hp, rfl⟩ := seq_at ⟨h2, h3⟩
      exact ⟨p, hp, rfl⟩
    obtain ⟨e, he⟩ : ∃ e, ds[p]? = some e := ⟨_, List.getElem?_eq_getElem (by omega)⟩
    have hoe := hdok p e he
    rw [decide_eq_true hh, Bool.and_true] at hmv
    cases hwt : wholeP made lk
    · rw [hwt] at hmv
      subst hmv
      repeat (first | refine wLd5 ?_ | (refine kLd5 ?_; (first | rintro _ _ ⟨rfl, rfl⟩ | rintro _ _ ⟨_, rfl, rfl⟩ | rintro _ _ ⟨_, _, ⟨_, _⟩, rfl, rfl⟩); try refine ⟨sConv, ?_⟩) | refine Dr.two ?_ ?_)
      refine L.step (by decide) (S.call rfl rfl Try.func27 (by kernel_rfl) rfl sPicks (fun E' hE => lload_bad E' gh B5 j d5 r ds p hj5 hp he made Ac i cc lk (hrL.sub hE) hwt) ?_)
      rintro x H' ⟨rfl, rfl⟩
      refine ⟨_, rfl, _, sCat, ?_⟩
      repeat (first | refine wLd5 ?_ | (refine kLd5 ?_; (first | rintro _ _ ⟨rfl, rfl⟩ | rintro _ _ ⟨_, rfl, rfl⟩ | rintro _ _ ⟨_, _, ⟨_, _⟩, rfl, rfl⟩); try refine ⟨sConv, ?_⟩) | refine Dr.two ?_ ?_)
      refine L.step (by decide) (S.call rfl rfl Try.func28 (by kernel_rfl) rfl sPicks (fun E' hE => told22 E' gh gb r ps j B5 d5 ds B3 d3 bs hsh hn1k) ?_)
      rintro x H' ⟨rfl, rfl⟩
      refine ⟨_, rfl, _, sCat, ?_⟩
      repeat (first | refine wLd5 ?_ | (refine kLd5 ?_; (first | rintro _ _ ⟨rfl, rfl⟩ | rintro _ _ ⟨_, rfl, rfl⟩ | rintro _ _ ⟨_, _, ⟨_, _⟩, rfl, rfl⟩); try refine ⟨sConv, ?_⟩) | refine Dr.two ?_ ?_)
      exact ret1 rfl sRet sConv (rfl)
    · rw [hwt] at hmv
      subst hmv
      have hso : (⟨made, settle e.w lk, e.w⟩ : S21).ok := by
        unfold wholeP at hwt
        rw [Bool.and_eq_true, decide_eq_true_eq] at hwt
        have hln := rise_len hwt.1
        refine ⟨settle_ok hlL, hoe.s.effs, by dsimp only; omega, by dsimp only; omega, by dsimp only; rw [settle_length]; omega, hoe.s.wide⟩
      repeat (first | refine wLd5 ?_ | (refine kLd5 ?_; (first | rintro _ _ ⟨rfl, rfl⟩ | rintro _ _ ⟨_, rfl, rfl⟩ | rintro _ _ ⟨_, _, ⟨_, _⟩, rfl, rfl⟩); try refine ⟨sConv, ?_⟩) | refine Dr.two ?_ ?_)
      refine L.step (by decide) (S.call rfl rfl Try.func27 (by kernel_rfl) rfl sPicks (fun E' hE => lload E' gh B5 j d5 r ds p hj5 hp hdok he made Ac i cc lk (hrL.sub hE) hi20 hwt hso) ?_)
      unfold LPost
      rintro x H' ⟨ls7, rfl, -, -, -, rfl⟩
      refine ⟨_, rfl, _, sCat, ?_⟩
      repeat (first | refine wLd5 ?_ | (refine kLd5 ?_; (first | rintro _ _ ⟨rfl, rfl⟩ | rintro _ _ ⟨_, rfl, rfl⟩ | rintro _ _ ⟨_, _, ⟨_, _⟩, rfl, rfl⟩); try refine ⟨sConv, ?_⟩) | refine Dr.two ?_ ?_)
      exact ret1 rfl sRet sConv (rfl)
  · rw [decide_eq_false hh, Bool.and_false] at hmv
    subst hmv
    repeat (first | refine wLd5 ?_ | (refine kLd5 ?_; (first | rintro _ _ ⟨rfl, rfl⟩ | rintro _ _ ⟨_, rfl, rfl⟩ | rintro _ _ ⟨_, _, ⟨_, _⟩, rfl, rfl⟩); try refine ⟨sConv, ?_⟩) | refine Dr.two ?_ ?_)
    refine L.step (by decide) (S.call rfl rfl Try.func27 (by kernel_rfl) rfl sPicks (fun E' hE => lload_no E' gh B5 j d5 r ⟨id, made, Ac, i, cc, lk⟩ hj5 hh) ?_)
    rintro x H' ⟨rfl, rfl⟩
    refine ⟨_, rfl, _, sCat, ?_⟩
    repeat (first | refine wLd5 ?_ | (refine kLd5 ?_; (first | rintro _ _ ⟨rfl, rfl⟩ | rintro _ _ ⟨_, rfl, rfl⟩ | rintro _ _ ⟨_, _, ⟨_, _⟩, rfl, rfl⟩); try refine ⟨sConv, ?_⟩) | refine Dr.two ?_ ?_)
    refine L.step (by decide) (S.call rfl rfl Try.func28 (by kernel_rfl) rfl sPicks (fun E' hE => told22 E' gh gb r ps j B5 d5 ds B3 d3 bs hsh hn1k) ?_)
    rintro x H' ⟨rfl, rfl⟩
    refine ⟨_, rfl, _, sCat, ?_⟩
    repeat (first | refine wLd5 ?_ | (refine kLd5 ?_; (first | rintro _ _ ⟨rfl, rfl⟩ | rintro _ _ ⟨_, rfl, rfl⟩ | rintro _ _ ⟨_, _, ⟨_, _⟩, rfl, rfl⟩); try refine ⟨sConv, ?_⟩) | refine Dr.two ?_ ?_)
    exact ret1 rfl sRet sConv (rfl)
end Go.Proofs.Ytkhmplaocfjpjaa.Sep
