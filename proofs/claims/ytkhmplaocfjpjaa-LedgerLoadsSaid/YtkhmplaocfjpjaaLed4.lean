/- ledger: what is wanted; chains that are loaded; by parts of memory. -/
import Derived.Test.YtkhmplaocfjpjaaLed3
import Derived.Test.YtkhmplaocfjpjaaEnt3
namespace Go.Proofs.Ytkhmplaocfjpjaa.Sep
open Go.RowKit Go.Proofs.Ytkhmplaocfjpjaa.Reg
open Go.Proofs.Ytkhmplaocfjpjaa.Mem hiding Rd Own
-- types: entT enrT effT lineT rchT chvT efsT op22T keyT reqT
-- recs: idnT_rec effT_rec cfgT_rec entT_rec enrT_rec keyT_rec reqT_rec chain_rec chref_rec op22T_rec lineT_rec ledger_rec bk22_rec
-- eqs: idnT_eqa effT_eqa entT_eqa enrT_eqa keyT_eqa reqT_eqa
-- funcs
-- flds
-- elts
set_option maxRecDepth 100000
set_option maxHeartbeats 8000000
abbrev s0 : S21 := ⟨0, [], []⟩
abbrev ln0 (r : Int) (i : Nat) : Lnv := ⟨⟨r, ((i + 1 : Nat) : Int)⟩, 0, none, 0, 0, [], none, 0, 0, []⟩
theorem ln0_ok (r : Int) (i : Nat) : (ln0 r i).ok r i := ⟨rfl, rfl, ⟨Nat.le_refl _, Nat.zero_le _⟩, rfl, ⟨Nat.le_refl _, Nat.zero_le _⟩, S21.ok_zero⟩
/-- what stands behind a put -/
def put22 (ps : List S21) (i : Nat) (w : List Eff) : List S21 := if i < ps.length then ps.set i ((ps.getD i s0).put w) else ps ++ [s0.put w]
theorem put22_old {ps : List S21} {i : Nat} {s : S21} {w : List Eff} (h : ps[i]? = some s) : put22 ps i w = ps.set i (s.put w) := by
  unfold put22
  rw [if_pos (List.getElem?_eq_some_iff.1 h).1, List.getD_eq_getElem?_getD, h]; rfl
theorem put22_new {ps : List S21} {w : List Eff} : put22 ps ps.length w = (ps ++ [s0]).set ps.length (s0.put w) := by
  unfold put22
  rw [if_neg (by omega), List.set_append_right _ _ (Nat.le_refl _), Nat.sub_self]; rfl
def LPut (g : Nat) (r : Int) (ps : List S21) : Ending → List Asn → Prop := fun x H' =>
  ∃ B' n' d' ls', x = .returned (.bool true) ∧ LOk r ls' ∧ n' = ls'.length ∧ (n' ≤ d' ∧ d' ≤ maxLen) ∧ ls'.map Lnv.s = ps ∧ H' = lst g B' n' d' r ls'
section
variable (E : Env) (g : Nat) (B : Option Addr) (n d : Nat) (r : Int) (ls : List Lnv)
theorem lput_nil (s : Int) (v : Value) : Tri Try.prog E 26 #[.pointer none, .int .i64 s, v] [] fun e H' => e = .returned (.bool false) ∧ H' = [] := by
  refine tri Try.func26 rfl Try.ntmps26 (by simp) ?_
  repeat (first | refine wLd1 ?_ | (refine kLd1 ?_; (first | rintro _ _ ⟨rfl, rfl⟩ | rintro _ _ ⟨_, rfl, rfl⟩ | rintro _ _ ⟨_, _, ⟨_, _⟩, rfl, rfl⟩); try refine ⟨sConv, ?_⟩) | refine Dr.two ?_ ?_)
  exact ret1 rfl sRet sConv (⟨rfl, rfl⟩)
theorem lput_odd (s : Int) (v : Value) : Tri Try.prog E 26 #[.pointer (some ⟨g, 0, none⟩), .int .i64 s, v] [odd g] fun e H' => e = .returned (.bool false) ∧ H' = [odd g] := by
  refine tri Try.func26 rfl Try.ntmps26 (by simp) ?_
  repeat (first | refine wLd1 ?_ | (refine kLd1 ?_; (first | rintro _ _ ⟨rfl, rfl⟩ | rintro _ _ ⟨_, rfl, rfl⟩ | rintro _ _ ⟨_, _, ⟨_, _⟩, rfl, rfl⟩); try refine ⟨sConv, ?_⟩) | refine Dr.two ?_ ?_)
  exact ret1 rfl sRet sConv (⟨rfl, rfl⟩)
theorem lput_no (s : Int) (v : Value) (hn : n ≤ 100000) (h : s < 1 ∨ (n : Int) + 1 < s) : Tri Try.prog E 26 #[.pointer (some ⟨g, 0, none⟩), .int .i64 s, v] [lg g B n d r] fun e H' => e = .returned (.bool false) ∧ H' = [lg g B n d r] := by
  have hmax : maxLen = 9223372036854775807 := rfl
  have hw : IntKind.i64.wrap ((n : Int) + 1) = (n : Int) + 1 := IntWalk.i64_in _ (by omega)
  refine tri Try.func26 rfl Try.ntmps26 (by simp) ?_
  by_cases h1 : s < 1
  · repeat (first | refine wLd1 ?_ | (refine kLd1 ?_; (first | rintro _ _ ⟨rfl, rfl⟩ | rintro _ _ ⟨_, rfl, rfl⟩ | rintro _ _ ⟨_, _, ⟨_, _⟩, rfl, rfl⟩); try refine ⟨sConv, ?_⟩) | refine Dr.two ?_ ?_)
    exact ret1 rfl sRet sConv (⟨rfl, rfl⟩)
  · repeat (first | refine wLd1 ?_ | (refine kLd1 ?_; (first | rintro _ _ ⟨rfl, rfl⟩ | rintro _ _ ⟨_, rfl, rfl⟩ | rintro _ _ ⟨_, _, ⟨_, _⟩, rfl, rfl⟩); try refine ⟨sConv, ?_⟩) | refine Dr.two ?_ ?_)
    exact ret1 rfl sRet sConv (⟨rfl, rfl⟩)
theorem lput (i : Nat) (hn : n ≤ 100000) (hi : i ≤ n) (hnl : n = ls.length) (hnd : n ≤ d ∧ d ≤ maxLen) (hok : LOk r ls) (X : Option Addr) (nx cx : Nat) (w : List Eff) (hw : Rd E effT X nx cx w) (hx : nx ≤ 8) (hwo : ∀ f ∈ w, f.ok) :
    Tri Try.prog E 26 #[.pointer (some ⟨g, 0, none⟩), .int .i64 ((i + 1 : Nat) : Int), .slice X nx cx] (lst g B n d r ls) (LPut g r (put22 (ls.map Lnv.s) i w)) := by
  have hmax : maxLen = 9223372036854775807 := rfl
  have hwl := hw.len
  have hw1 : IntKind.i64.wrap ((n : Int) + 1) = (n : Int) + 1 := IntWalk.i64_in _ (by omega)
  have hw2 : IntKind.i64.wrap (((i + 1 : Nat) : Int) - 1) = (i : Int) := by rw [IntWalk.i64_in _ (by omega)]; omega
  have hnm : n ≤ maxLen := by omega
  unfold LPut lst
  refine tri Try.func26 rfl Try.ntmps26 (by simp) ?_
  repeat ((fail_if_success (refine C.seq (x := Code.region 3 _ _) ?_)); first | refine vLd1 ?_ | (refine kLd1 ?_; (first | rintro _ _ ⟨rfl, rfl⟩ | rintro _ _ ⟨_, rfl, rfl⟩ | rintro _ _ ⟨_, _, ⟨_, _⟩, rfl, rfl⟩); try refine ⟨sConv, ?_⟩) | refine Dr.two ?_ ?_)
  refine C.mid (X := Option Addr × Nat × Nat × List Lnv) (fun _ => [(0, .pointer (some ⟨g, 0, none⟩)), (1, .int .i64 ((i + 1 : Nat) : Int)), (2, .slice X nx cx)]) (fun x => [lg g x.1 x.2.1 x.2.2.1 r, own lineT x.1 x.2.1 x.2.2.1 x.2.2.2, each lStk x.2.2.2, each lWnt x.2.2.2])
    (fun x => LOk r x.2.2.2 ∧ x.2.1 = x.2.2.2.length ∧ x.2.1 ≤ 200000 ∧ i < x.2.1 ∧ (x.2.1 ≤ x.2.2.1 ∧ x.2.2.1 ≤ maxLen) ∧ ∀ e, x.2.2.2[i]? = some e → (x.2.2.2.map Lnv.s).set i (e.s.put w) = put22 (ls.map Lnv.s) i w) ?_ ?_
  · by_cases hlt : i < n
    · repeat (first | refine wLd1 ?_ | (refine kLd1 ?_; (first | rintro _ _ ⟨rfl, rfl⟩ | rintro _ _ ⟨_, rfl, rfl⟩ | rintro _ _ ⟨_, _, ⟨_, _⟩, rfl, rfl⟩); try refine ⟨sConv, ?_⟩) | refine Dr.two ?_ ?_)
      exact ⟨(B, n, d, ls), sHolds, sConv, ⟨hok, hnl, by dsimp only; omega, hlt, hnd, fun e he => (put22_old (by rw [List.getElem?_map, he]; rfl)).symm⟩⟩
    · obtain rfl : i = n := by omega
      repeat (first | refine wLd1 ?_ | (refine kLd1 ?_; (first | rintro _ _ ⟨rfl, rfl⟩ | rintro _ _ ⟨_, rfl, rfl⟩ | rintro _ _ ⟨_, _, ⟨_, _⟩, rfl, rfl⟩); try refine ⟨sConv, ?_⟩) | refine Dr.two ?_ ?_)
      refine C.regionA 14 (.one 0 false (.one 1 false (.one 2 false (.one 3 false (.one 4 false (.one 5 false (.one 6 false (.one 7 true (.one 8 false (.one 9 false (.one 10 true (.one 11 true (.one 12 false (.one 13 false (.one 14 true .nil))))))))))))))) ([lg g B i d r]) (by kernel_rfl) (by kernel_rfl) sConv ?_
      repeat (first | refine wLd1 ?_ | (refine kLd1 ?_; (first | rintro _ _ ⟨rfl, rfl⟩ | rintro _ _ ⟨_, rfl, rfl⟩ | rintro _ _ ⟨_, _, ⟨_, _⟩, rfl, rfl⟩); try refine ⟨sConv, ?_⟩) | refine Dr.two ?_ ?_)
      refine Dr.go rfl (by rintro k ⟨⟩ <;> decide) sGon (S.call rfl rfl Try.func72 (by kernel_rfl) rfl sPicks (fun E' hE => lid E' g B i d r _) ?_)
      rintro e H' ⟨rfl, rfl⟩
      refine ⟨_, rfl, _, sCat, sConv, ?_⟩
      repeat (first | refine wLd1 ?_ | (refine kLd1 ?_; (first | rintro _ _ ⟨rfl, rfl⟩ | rintro _ _ ⟨_, rfl, rfl⟩ | rintro _ _ ⟨_, _, ⟨_, _⟩, rfl, rfl⟩); try refine ⟨sConv, ?_⟩) | refine Dr.two ?_ ?_)
      refine Dr.goK rfl (by rintro k ⟨⟩ <;> decide) sGon (S.buildSlice1K (T := lineT) (e := (ln0 r i)) rfl rfl rfl rfl (by decide)) ?_; rintro _ _ ⟨_, rfl, rfl⟩; refine ⟨sConv, ?_⟩
      repeat (first | refine wLd1 ?_ | (refine kLd1 ?_; (first | rintro _ _ ⟨rfl, rfl⟩ | rintro _ _ ⟨_, rfl, rfl⟩ | rintro _ _ ⟨_, _, ⟨_, _⟩, rfl, rfl⟩); try refine ⟨sConv, ?_⟩) | refine Dr.two ?_ ?_)
      rename_i B' d' h1 h2
      have hlen : (ls.map Lnv.s).length = i := by rw [List.length_map, ← hnl]
      have hlast : (ls ++ [ln0 r i])[i]? = some (ln0 r i) := by rw [hnl]; simp
      refine ⟨(B', i + 1, d', ls ++ [ln0 r i]), sHolds, ?_, ⟨hok.push (by rw [← hnl]; exact ln0_ok r i), by dsimp only; rw [List.length_append, ← hnl]; rfl, by dsimp only; omega, by dsimp only; omega, ⟨h1, h2⟩, fun e he => ?_⟩⟩
      · dsimp only
        refine Conv.trans (Conv.nil0 entT none) ?_
        refine Conv.trans (Conv.push (f := lStk) (l := ls) (x := ln0 r i) sPicks) ?_
        refine Conv.trans (Conv.nil0 effT none) ?_
        refine Conv.trans (Conv.push (f := lWnt) (l := ls) (x := ln0 r i) sPicks) ?_
        exact sConv
      · dsimp only at he ⊢
        rw [hlast] at he
        injection he with he
        subst he
        have := put22_new (ps := ls.map Lnv.s) (w := w)
        rw [hlen] at this
        rw [this, List.map_append]
        rfl
  rintro ⟨B1, n1, d1, l1⟩ F ⟨hok1, hn1, hb1, hi1, hd1, hput⟩
  dsimp only at hok1 hn1 hb1 hi1 hd1 hput ⊢
  obtain ⟨e, he⟩ : ∃ e, l1[i]? = some e := ⟨_, List.getElem?_eq_getElem (by omega)⟩
  have hoe := hok1 i e he
  have hel : e.n ≤ 1000000 := by have h1 := hoe.s.len; have h2 := hoe.s.made1; have h3 := hoe.n; unfold Lnv.s at h1 h2; dsimp only at h1 h2; omega
  have hx2 : nx ≤ 100000 := by omega
  have hpo : (e.s.put w).ok := S21.put_ok hoe.s hwo (by omega)
  repeat ((fail_if_success (refine C.seq (x := Code.region 6 _ _) ?_)); first | refine vLd1 ?_ | (refine kLd1 ?_; (first | rintro _ _ ⟨rfl, rfl⟩ | rintro _ _ ⟨_, rfl, rfl⟩ | rintro _ _ ⟨_, _, ⟨_, _⟩, rfl, rfl⟩); try refine ⟨sConv, ?_⟩) | refine Dr.two ?_ ?_)
  apply C.conv; (· exact Conv.elt' (T := lineT) (A := B1) (n := n1) (c := d1) (l := l1) (k := i) (e := e) (cs := [.int .i64 e.id.rep, .int .i64 e.id.seq, .int .i64 e.made, .slice e.A e.n e.c, .slice e.X e.nx e.cx]) he rfl sRepl)
  repeat (first | refine wLd1 ?_ | (refine kLd1 ?_; (first | rintro _ _ ⟨rfl, rfl⟩ | rintro _ _ ⟨_, rfl, rfl⟩ | rintro _ _ ⟨_, _, ⟨_, _⟩, rfl, rfl⟩); try refine ⟨sConv, ?_⟩) | refine Dr.two ?_ ?_)
  refine L.step (by decide) (S.call rfl rfl Try.func71 (by kernel_rfl) rfl sPicks (fun E' hE => sclonef E' X nx cx w (hw.sub hE) hx2) ?_)
  rintro x H' ⟨X', cx', rfl, hcx', rfl⟩
  refine ⟨_, rfl, _, sCat, ?_⟩
  repeat (first | refine wLd1 ?_ | (refine kLd1 ?_; (first | rintro _ _ ⟨rfl, rfl⟩ | rintro _ _ ⟨_, rfl, rfl⟩ | rintro _ _ ⟨_, _, ⟨_, _⟩, rfl, rfl⟩); try refine ⟨sConv, ?_⟩) | refine Dr.two ?_ ?_)
  refine L.step (by decide) (S.call rfl rfl Try.func73 (by kernel_rfl) rfl sPicks (fun E' hE => csettle E' e.id e.made e.A e.n e.c e.l w X nx cx (Sub.each (f := lStk) hE sHas he rfl) (hw.sub hE) hel) ?_)
  rintro x H' ⟨A', c', rfl, hc', rfl⟩
  refine ⟨_, rfl, _, sCat, ?_⟩
  repeat (first | refine wLd1 ?_ | (refine kLd1 ?_; (first | rintro _ _ ⟨rfl, rfl⟩ | rintro _ _ ⟨_, rfl, rfl⟩ | rintro _ _ ⟨_, _, ⟨_, _⟩, rfl, rfl⟩); try refine ⟨sConv, ?_⟩) | refine Dr.two ?_ ?_)
  have hnew : (⟨e.id, e.made, A', e.n, c', settle w e.l, X', nx, cx', w⟩ : Lnv).ok r i := ⟨hoe.id, by show e.n = (settle w e.l).length; rw [settle_length]; exact hoe.n, hc', hwl, hcx', hpo⟩
  refine postF_conv2 (Conv.swap (f := lStk) (l := l1) (i := i) (x := e) (x' := ⟨e.id, e.made, A', e.n, c', settle w e.l, X', nx, cx', w⟩) he sPicks) ?_
  refine postF_conv2 (Conv.swap (f := lWnt) (l := l1) (i := i) (x := e) (x' := ⟨e.id, e.made, A', e.n, c', settle w e.l, X', nx, cx', w⟩) he sPicks) ?_
  refine postF_conv2 (Conv.uneltL ⟨e.id, e.made, A', e.n, c', settle w e.l, X', nx, cx', w⟩ rfl sRepl) ?_
  exact ret1 rfl sRet sConv (⟨B1, n1, d1, l1.set i ⟨e.id, e.made, A', e.n, c', settle w e.l, X', nx, cx', w⟩, rfl, hok1.set hnew, by rw [List.length_set]; exact hn1, hd1, by rw [map_set]; exact hput e he, rfl⟩)
/-! ### a chain that is loaded -/
def rise : Int → List Ent → Bool
  | _, [] => true
  | last, e :: l => e.may && (decide (last < e.ord) && rise e.ord l)
def lastO : Int → List Ent → Int
  | last, [] => last
  | _, e :: l => lastO e.ord l
theorem rise_push (l : List Ent) (last : Int) (e : Ent) : rise last (l ++ [e]) = (rise last l && (e.may && decide (lastO last l < e.ord))) := by
  induction l generalizing last with
  | nil =>
    show (e.may && (decide (last < e.ord) && true)) = (true && (e.may && decide (last < e.ord)))
    rw [Bool.and_true, Bool.true_and]
  | cons x l ih =>
    show (x.may && (decide (last < x.ord) && rise x.ord (l ++ [e]))) = ((x.may && (decide (last < x.ord) && rise x.ord l)) && (e.may && decide (lastO x.ord l < e.ord)))
    rw [ih, Bool.and_assoc, Bool.and_assoc]
theorem lastO_push (l : List Ent) (last : Int) (e : Ent) : lastO last (l ++ [e]) = e.ord := by
  induction l generalizing last with
  | nil => rfl
  | cons x l ih => simp only [List.cons_append, lastO, ih]
theorem rise_take {l : List Ent} {last : Int} {i : Nat} {x : Ent} (hx : l[i]? = some x) (h : rise last (l.take (i + 1)) = false) : rise last l = false := by
  have hs : ∀ (a b : List Ent) (q : Int), rise q a = false → rise q (a ++ b) = false := by
    intro a
    induction a with
    | nil => intro b q h; simp [rise] at h
    | cons y a ih =>
      intro b q h
      simp only [List.cons_append, rise] at h ⊢
      cases hy : y.may
      · rfl
      · rw [hy] at h
        cases hd : decide (q < y.ord)
        · rfl
        · rw [hd] at h
          simp only [Bool.true_and] at h ⊢
          exact ih b _ h
  rw [← List.take_append_drop (i + 1) l]
  exact hs _ _ _ h
def wholeP (made : Int) (l : List Ent) : Bool := rise 0 l && decide (lastO 0 l ≤ made ∧ made ≤ 255)
theorem lwhole (id : Idn) (made : Int) (A : Option Addr) (n c : Nat) (l : List Ent) (hr : Rd E entT A n c l) : Tri Try.prog E 75 #[chn id made A n c] [] fun x H' => x = .returned (.bool (wholeP made l)) ∧ H' = [] := by
  have hmax : maxLen = 9223372036854775807 := rfl
  have hn := hr.len
  have hcap := hr.cap
  unfold wholeP
  refine tri Try.func75 rfl Try.ntmps75 (by simp) ?_
  repeat (first | refine wLd1 ?_ | (refine kLd1 ?_; (first | rintro _ _ ⟨rfl, rfl⟩ | rintro _ _ ⟨_, rfl, rfl⟩ | rintro _ _ ⟨_, _, ⟨_, _⟩, rfl, rfl⟩); try refine ⟨sConv, ?_⟩) | refine Dr.two ?_ ?_)
  rename_i g1
  refine C.loop (X := Nat) (fun j => [(1, .pointer (some ⟨g1, 0, none⟩)), (3, .int .i64 (lastO 0 (l.take j))), (7, .slice A n c), (8, .int .i64 n), (9, .int .i64 j)]) (fun _ => [blk g1 61 [.int .i64 id.rep, .int .i64 id.seq, .int .i64 made, .slice A n c]]) (fun j => j ≤ n ∧ rise 0 (l.take j) = true) (fun j => n - j) 0 sHolds sConv ⟨Nat.zero_le _, rfl⟩ ?_
  rintro j G ⟨hj, hrise⟩
  by_cases hlt : j < n
  · have hx : l[j]? = some l[j] := List.getElem?_eq_getElem (by omega)
    have htk : l.take (j + 1) = l.take j ++ [l[j]] := List.take_succ_eq_append_getElem (by omega)
    generalize l[j] = e at hx htk
    have hp := rise_push (l.take j) 0 e
    have hlp := lastO_push (l.take j) 0 e
    rw [← htk, hrise, Bool.true_and] at hp
    rw [← htk] at hlp
    have hno : rise 0 (l.take (j + 1)) = false → rise 0 l = false := rise_take hx
    revert hp hlp hno
    generalize lastO 0 (l.take j) = q
    intro hp hlp hno
    repeat (first | refine wLd1 ?_ | (refine kLd1 ?_; (first | rintro _ _ ⟨rfl, rfl⟩ | rintro _ _ ⟨_, rfl, rfl⟩ | rintro _ _ ⟨_, _, ⟨_, _⟩, rfl, rfl⟩); try refine ⟨sConv, ?_⟩) | refine Dr.two ?_ ?_)
    refine L.step (by decide) (S.call rfl rfl Try.func30 (by kernel_rfl) rfl sPicks (fun E' hE => echeck E' e) ?_)
    cases hm : e.may
    · rw [hm] at hp
      rw [hno hp, Bool.false_and]
      rintro x H' ⟨rfl, rfl⟩
      refine ⟨_, rfl, _, sCat, ?_⟩
      repeat (first | refine wLd1 ?_ | (refine kLd1 ?_; (first | rintro _ _ ⟨rfl, rfl⟩ | rintro _ _ ⟨_, rfl, rfl⟩ | rintro _ _ ⟨_, _, ⟨_, _⟩, rfl, rfl⟩); try refine ⟨sConv, ?_⟩) | refine Dr.two ?_ ?_)
      exact ret1 rfl sRet sConv (⟨rfl, rfl⟩)
    rw [hm, Bool.true_and] at hp
    rintro x H' ⟨rfl, rfl⟩
    refine ⟨_, rfl, _, sCat, ?_⟩
    by_cases hq : q < e.ord
    · repeat (first | refine wLd1 ?_ | (refine kLd1 ?_; (first | rintro _ _ ⟨rfl, rfl⟩ | rintro _ _ ⟨_, rfl, rfl⟩ | rintro _ _ ⟨_, _, ⟨_, _⟩, rfl, rfl⟩); try refine ⟨sConv, ?_⟩) | refine Dr.two ?_ ?_)
      exact ⟨j + 1, by rw [hlp]; exact sHolds, sConv, ⟨by omega, by rw [hp]; exact decide_eq_true hq⟩, by omega⟩
    · rw [hno (by rw [hp]; exact decide_eq_false hq), Bool.false_and]
      repeat (first | refine wLd1 ?_ | (refine kLd1 ?_; (first | rintro _ _ ⟨rfl, rfl⟩ | rintro _ _ ⟨_, rfl, rfl⟩ | rintro _ _ ⟨_, _, ⟨_, _⟩, rfl, rfl⟩); try refine ⟨sConv, ?_⟩) | refine Dr.two ?_ ?_)
      exact ret1 rfl sRet sConv (⟨rfl, rfl⟩)
  · obtain rfl : j = n := by omega
    rw [List.take_of_length_le (by omega)] at hrise ⊢
    rw [hrise, Bool.true_and]
    repeat (first | refine wLd1 ?_ | (refine kLd1 ?_; (first | rintro _ _ ⟨rfl, rfl⟩ | rintro _ _ ⟨_, rfl, rfl⟩ | rintro _ _ ⟨_, _, ⟨_, _⟩, rfl, rfl⟩); try refine ⟨sConv, ?_⟩) | refine Dr.two ?_ ?_)
    refine L.step (by decide) (S.call rfl rfl Try.func78 (by kernel_rfl) rfl sPicks (fun E' hE => in_any E' made (lastO 0 l) 255) ?_)
    rintro x H' ⟨rfl, rfl⟩
    refine ⟨_, rfl, _, sCat, ?_⟩
    repeat (first | refine wLd1 ?_ | (refine kLd1 ?_; (first | rintro _ _ ⟨rfl, rfl⟩ | rintro _ _ ⟨_, rfl, rfl⟩ | rintro _ _ ⟨_, _, ⟨_, _⟩, rfl, rfl⟩); try refine ⟨sConv, ?_⟩) | refine Dr.two ?_ ?_)
    exact ret1 rfl sRet sConv (⟨rfl, rfl⟩)
theorem lload_nil (v : Chv) : Tri Try.prog E 27 #[.pointer none, .agg v.cs.toArray] [] fun e H' => e = .returned (.bool false) ∧ H' = [] := by
  refine tri Try.func27 rfl Try.ntmps27 (by simp) ?_
  repeat (first | refine wLd1 ?_ | (refine kLd1 ?_; (first | rintro _ _ ⟨rfl, rfl⟩ | rintro _ _ ⟨_, rfl, rfl⟩ | rintro _ _ ⟨_, _, ⟨_, _⟩, rfl, rfl⟩); try refine ⟨sConv, ?_⟩) | refine Dr.two ?_ ?_)
  refine L.step (by decide) (S.call rfl rfl Try.func74 (by kernel_rfl) rfl sPicks (fun E' hE => lat_nil E' v.id) ?_)
  rintro e H' ⟨rfl, rfl⟩
  refine ⟨_, rfl, _, sCat, ?_⟩
  repeat (first | refine wLd1 ?_ | (refine kLd1 ?_; (first | rintro _ _ ⟨rfl, rfl⟩ | rintro _ _ ⟨_, rfl, rfl⟩ | rintro _ _ ⟨_, _, ⟨_, _⟩, rfl, rfl⟩); try refine ⟨sConv, ?_⟩) | refine Dr.two ?_ ?_)
  exact ret1 rfl sRet sConv (⟨rfl, rfl⟩)
theorem lload_no (v : Chv) (hn : n ≤ 100000) (h : ¬ Here r n v.id) : Tri Try.prog E 27 #[.pointer (some ⟨g, 0, none⟩), .agg v.cs.toArray] [lg g B n d r] fun e H' => e = .returned (.bool false) ∧ H' = [lg g B n d r] := by
  refine tri Try.func27 rfl Try.ntmps27 (by simp) ?_
  repeat (first | refine wLd1 ?_ | (refine kLd1 ?_; (first | rintro _ _ ⟨rfl, rfl⟩ | rintro _ _ ⟨_, rfl, rfl⟩ | rintro _ _ ⟨_, _, ⟨_, _⟩, rfl, rfl⟩); try refine ⟨sConv, ?_⟩) | refine Dr.two ?_ ?_)
  refine L.step (by decide) (S.call rfl rfl Try.func74 (by kernel_rfl) rfl sPicks (fun E' hE => lat_no E' g B n d r v.id hn h) ?_)
  rintro e H' ⟨rfl, rfl⟩
  refine ⟨_, rfl, _, sCat, ?_⟩
  repeat (first | refine wLd1 ?_ | (refine kLd1 ?_; (first | rintro _ _ ⟨rfl, rfl⟩ | rintro _ _ ⟨_, rfl, rfl⟩ | rintro _ _ ⟨_, _, ⟨_, _⟩, rfl, rfl⟩); try refine ⟨sConv, ?_⟩) | refine Dr.two ?_ ?_)
  exact ret1 rfl sRet sConv (⟨rfl, rfl⟩)
theorem lload_bad (i : Nat) (hn : n ≤ 100000) (hi : i < n) {e : Lnv} (he : ls[i]? = some e) (made : Int) (A : Option Addr) (m c : Nat) (l : List Ent) (hr : Rd E entT A m c l) (hbad : wholeP made l = false) :
    Tri Try.prog E 27 #[.pointer (some ⟨g, 0, none⟩), .agg #[.int .i64 r, .int .i64 ((i + 1 : Nat) : Int), .int .i64 made, .slice A m c]] [lg g B n d r, own lineT B n d ls] fun e H' => e = .returned (.bool false) ∧ H' = [lg g B n d r, own lineT B n d ls] := by
  refine tri Try.func27 rfl Try.ntmps27 (by simp) ?_
  repeat (first | refine wLd1 ?_ | (refine kLd1 ?_; (first | rintro _ _ ⟨rfl, rfl⟩ | rintro _ _ ⟨_, rfl, rfl⟩ | rintro _ _ ⟨_, _, ⟨_, _⟩, rfl, rfl⟩); try refine ⟨sConv, ?_⟩) | refine Dr.two ?_ ?_)
  refine L.step (by decide) (S.call rfl rfl Try.func74 (by kernel_rfl) rfl sPicks (fun E' hE => lat_yes E' g B n d r ls i hn hi he) ?_)
  rintro x H' ⟨rfl, rfl⟩
  refine ⟨_, rfl, _, sCat, ?_⟩
  repeat (first | refine wLd1 ?_ | (refine kLd1 ?_; (first | rintro _ _ ⟨rfl, rfl⟩ | rintro _ _ ⟨_, rfl, rfl⟩ | rintro _ _ ⟨_, _, ⟨_, _⟩, rfl, rfl⟩); try refine ⟨sConv, ?_⟩) | refine Dr.two ?_ ?_)
  refine L.step (by decide) (S.call rfl rfl Try.func75 (by kernel_rfl) rfl sPicks (fun E' hE => lwhole E' ⟨r, ((i + 1 : Nat) : Int)⟩ made A m c l (hr.sub hE)) ?_)
  rw [hbad]
  rintro x H' ⟨rfl, rfl⟩
  refine ⟨_, rfl, _, sCat, ?_⟩
  repeat (first | refine wLd1 ?_ | (refine kLd1 ?_; (first | rintro _ _ ⟨rfl, rfl⟩ | rintro _ _ ⟨_, rfl, rfl⟩ | rintro _ _ ⟨_, _, ⟨_, _⟩, rfl, rfl⟩); try refine ⟨sConv, ?_⟩) | refine Dr.two ?_ ?_)
  exact ret1 rfl sRet sConv (⟨rfl, rfl⟩)
/-- .. which may be -/
theorem lload (i : Nat) (hn : n ≤ 100000) (hi : i < n) (hok : LOk r ls) {e : Lnv} (he : ls[i]? = some e) (made : Int) (A : Option Addr) (m c : Nat) (l : List Ent) (hr : Rd E entT A m c l) (hm : m ≤ 1000000) (hwh : wholeP made l = true) (hso : (⟨made, settle e.w l, e.w⟩ : S21).ok) :
    Tri Try.prog E 27 #[.pointer (some ⟨g, 0, none⟩), .agg #[.int .i64 r, .int .i64 ((i + 1 : Nat) : Int), .int .i64 made, .slice A m c]] (lst g B n d r ls)
      (LPost g B n d r ls i ⟨made, settle e.w l, e.w⟩ true) := by
  have hoe := hok i e he
  unfold lst
  refine tri Try.func27 rfl Try.ntmps27 (by simp) ?_
  repeat (first | refine wLd1 ?_ | (refine kLd1 ?_; (first | rintro _ _ ⟨rfl, rfl⟩ | rintro _ _ ⟨_, rfl, rfl⟩ | rintro _ _ ⟨_, _, ⟨_, _⟩, rfl, rfl⟩); try refine ⟨sConv, ?_⟩) | refine Dr.two ?_ ?_)
  rename_i g3
  refine L.step (by decide) (S.call rfl rfl Try.func74 (by kernel_rfl) rfl sPicks (fun E' hE => lat_yes E' g B n d r ls i hn hi he) ?_)
  rintro x H' ⟨rfl, rfl⟩
  refine ⟨_, rfl, _, sCat, ?_⟩
  repeat (first | refine wLd1 ?_ | (refine kLd1 ?_; (first | rintro _ _ ⟨rfl, rfl⟩ | rintro _ _ ⟨_, rfl, rfl⟩ | rintro _ _ ⟨_, _, ⟨_, _⟩, rfl, rfl⟩); try refine ⟨sConv, ?_⟩) | refine Dr.two ?_ ?_)
  refine L.step (by decide) (S.call rfl rfl Try.func75 (by kernel_rfl) rfl sPicks (fun E' hE => lwhole E' ⟨r, ((i + 1 : Nat) : Int)⟩ made A m c l (hr.sub hE)) ?_)
  rw [hwh]
  rintro x H' ⟨rfl, rfl⟩
  refine ⟨_, rfl, _, sCat, ?_⟩
  repeat (first | refine wLd1 ?_ | (refine kLd1 ?_; (first | rintro _ _ ⟨rfl, rfl⟩ | rintro _ _ ⟨_, rfl, rfl⟩ | rintro _ _ ⟨_, _, ⟨_, _⟩, rfl, rfl⟩); try refine ⟨sConv, ?_⟩) | refine Dr.two ?_ ?_)
  apply C.conv; (· exact Conv.elt' (T := lineT) (A := B) (n := n) (c := d) (l := ls) (k := i) (e := e) (cs := [.int .i64 e.id.rep, .int .i64 e.id.seq, .int .i64 e.made, .slice e.A e.n e.c, .slice e.X e.nx e.cx]) he rfl sRepl)
  refine C.regionA 9 (.one 0 false (.one 1 false (.one 2 false (.one 3 false (.one 4 false (.one 5 false (.one 6 true (.one 7 false (.one 8 false (.one 9 true .nil)))))))))) _ (by kernel_rfl) (by kernel_rfl) Conv.refl ?_
  repeat (first | refine wLd1 ?_ | (refine kLd1 ?_; (first | rintro _ _ ⟨rfl, rfl⟩ | rintro _ _ ⟨_, rfl, rfl⟩ | rintro _ _ ⟨_, _, ⟨_, _⟩, rfl, rfl⟩); try refine ⟨sConv, ?_⟩) | refine Dr.two ?_ ?_)
  refine Dr.go rfl (by rintro k ⟨⟩ <;> decide) sGon (S.call rfl rfl Try.func73 (by kernel_rfl) rfl sPicks (fun E' hE => csettle E' ⟨r, ((i + 1 : Nat) : Int)⟩ made A m c l e.w e.X e.nx e.cx (hr.sub hE) (Sub.each (f := lWnt) hE sHas he rfl) hm) ?_)
  rintro x H' ⟨A', c', rfl, hc', rfl⟩
  refine ⟨_, rfl, _, sCat, sConv, ?_⟩
  repeat (first | refine wLd1 ?_ | (refine kLd1 ?_; (first | rintro _ _ ⟨rfl, rfl⟩ | rintro _ _ ⟨_, rfl, rfl⟩ | rintro _ _ ⟨_, _, ⟨_, _⟩, rfl, rfl⟩); try refine ⟨sConv, ?_⟩) | refine Dr.two ?_ ?_)
  have hid := hoe.id
  have hnew : (⟨⟨r, ((i + 1 : Nat) : Int)⟩, made, A', m, c', settle e.w l, e.X, e.nx, e.cx, e.w⟩ : Lnv).ok r i := ⟨rfl, by show m = (settle e.w l).length; rw [settle_length]; exact hr.len, hc', hoe.nx, hoe.cx, hso⟩
  refine postF_conv2 (Conv.swap (f := lStk) (l := ls) (i := i) (x := e) (x' := ⟨⟨r, ((i + 1 : Nat) : Int)⟩, made, A', m, c', settle e.w l, e.X, e.nx, e.cx, e.w⟩) he sPicks) ?_
  refine postF_conv2 (Conv.uneltL ⟨⟨r, ((i + 1 : Nat) : Int)⟩, made, A', m, c', settle e.w l, e.X, e.nx, e.cx, e.w⟩ rfl sRepl) ?_
  refine postF_conv2 (Conv.same (f := lWnt) (i := i) he (x' := ⟨⟨r, ((i + 1 : Nat) : Int)⟩, made, A', m, c', settle e.w l, e.X, e.nx, e.cx, e.w⟩) rfl sRepl) ?_
  exact ret1 rfl sRet sConv (⟨ls.set i ⟨⟨r, ((i + 1 : Nat) : Int)⟩, made, A', m, c', settle e.w l, e.X, e.nx, e.cx, e.w⟩, rfl, hok.set hnew, by simp, by rw [map_set]; rfl, rfl⟩)
end
end Go.Proofs.Ytkhmplaocfjpjaa.Sep
