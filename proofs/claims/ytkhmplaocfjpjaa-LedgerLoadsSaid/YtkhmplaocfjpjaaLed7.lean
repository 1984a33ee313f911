/- the law of the ledger: few calls, the book's calls; by parts of memory. -/
import Derived.Test.YtkhmplaocfjpjaaLed6
namespace Go.Proofs.Ytkhmplaocfjpjaa.Sep
open Go.RowKit Go.Proofs.Ytkhmplaocfjpjaa.Reg
open Go.Proofs.Ytkhmplaocfjpjaa.Mem hiding Rd Own
-- types: entT enrT effT lineT rchT chvT efsT op22T keyT reqT
-- recs: idnT_rec effT_rec cfgT_rec entT_rec enrT_rec keyT_rec reqT_rec chain_rec chref_rec op22T_rec lineT_rec ledger_rec bk22_rec
-- eqs: idnT_eqa effT_eqa entT_eqa enrT_eqa keyT_eqa reqT_eqa
-- funcs
-- flds
-- elts
set_option maxRecDepth 100000
set_option maxHeartbeats 8000000
def Efs.cut6 (x : Efs) : Efs := if 6 < x.n then ⟨x.A, 6, x.c, x.l.take 6⟩ else x
def Op22.cut (x : Op22) : Op22 := ⟨x.kind, x.seq, x.want.cut6, x.key, x.now⟩
def few22 (l : List Op22) : List Op22 := (l.take 60).map Op22.cut
/-- what each wants reads so -/
def Ws22 (E : Env) (l : List Op22) : Prop := ∀ x ∈ l, Rd E effT x.want.A x.want.n x.want.c x.want.l
theorem Ws22.sub {E E' : Env} {R : List Asn} {l : List Op22} (hE : Sub E R E') (h : Ws22 E l) : Ws22 E' l := fun x hx => (h x hx).sub hE
theorem Rd.efs6 {E : Env} {x : Efs} (h : Rd E effT x.A x.n x.c x.l) : Rd E effT x.cut6.A x.cut6.n x.cut6.c x.cut6.l := by
  unfold Efs.cut6
  split
  · have := h.cap
    dsimp only
    exact h.upto (by omega) (by omega) (by omega)
  · exact h
theorem Ws22.few {E : Env} {l : List Op22} (h : Ws22 E l) : Ws22 E (few22 l) := by
  intro x hx
  obtain ⟨y, hy, rfl⟩ := List.mem_map.1 hx
  exact Rd.efs6 (h y (List.mem_of_mem_take hy))
theorem few22_n {l : List Op22} : ∀ x ∈ few22 l, x.want.n ≤ 6 := by
  intro x hx
  obtain ⟨y, hy, rfl⟩ := List.mem_map.1 hx
  unfold Op22.cut Efs.cut6
  dsimp only
  split
  · exact Nat.le_refl _
  · omega
theorem few22_any (E : Env) (A : Option Addr) (n c : Nat) (l : List Op22) (hr : Rd E op22T A n c l) (hw : Ws22 E l) :
    Tri Try.prog E 15 #[.slice A n c] [] fun r H' => ∃ A' n' c', r = .returned (.slice A' n' c') ∧ n' = (few22 l).length ∧ n' ≤ 60 ∧ (n' ≤ c' ∧ c' ≤ maxLen) ∧ H' = [own op22T A' n' c' (few22 l)] := by
  have hn := hr.len
  have hcap := hr.cap
  have hmax : maxLen = 9223372036854775807 := rfl
  refine tri Try.func15 rfl Try.ntmps15 (by simp) ?_
  repeat (first | refine wLd1 ?_ | (refine kLd1 ?_; (first | rintro _ _ ⟨rfl, rfl⟩ | rintro _ _ ⟨_, rfl, rfl⟩ | rintro _ _ ⟨_, _, ⟨_, _⟩, rfl, rfl⟩); try refine ⟨sConv, ?_⟩) | refine Dr.two ?_ ?_)
  refine C.loop (X := Nat × Option Addr × Nat) (fun x => [(0, .slice A n c), (3, .slice x.2.1 x.1 x.2.2), (4, .int .i64 x.1)])
    (fun x => [own op22T x.2.1 x.1 x.2.2 ((l.take x.1).map Op22.cut)]) (fun x => x.1 ≤ n ∧ x.1 ≤ 60 ∧ x.1 ≤ x.2.2 ∧ x.2.2 ≤ maxLen) (fun x => n - x.1) (0, none, 0) sHolds (by show Conv _ _ [own op22T none 0 0 ((l.take 0).map Op22.cut)]; rw [List.take_zero]; exact Conv.nil0 op22T none) ⟨Nat.zero_le _, Nat.zero_le _, Nat.le_refl _, Nat.zero_le _⟩ ?_
  rintro ⟨i, O, co⟩ G ⟨hi, hi60, hco, hco2⟩
  dsimp only at hi hi60 hco hco2 ⊢
  by_cases hlt : i < n ∧ i < 60
  · obtain ⟨h1, h2⟩ := hlt
    have hx : l[i]? = some l[i] := List.getElem?_eq_getElem (by omega)
    have hst : (l.take (i + 1)).map Op22.cut = (l.take i).map Op22.cut ++ [l[i].cut] := by rw [List.take_succ_eq_append_getElem (by omega), List.map_append]; rfl
    have hxw : Rd E effT l[i].want.A l[i].want.n l[i].want.c l[i].want.l := hw _ (List.getElem_mem _)
    generalize l[i] = x at hx hst hxw
    have hxc := hxw.cap
    by_cases h8 : 6 < x.want.n
    · have hcut : x.cut = ⟨x.kind, x.seq, ⟨x.want.A, 6, x.want.c, x.want.l.take 6⟩, x.key, x.now⟩ := by unfold Op22.cut Efs.cut6; rw [if_pos h8]
      rw [hcut] at hst
      repeat (first | refine wLd1 ?_ | (refine kLd1 ?_; (first | rintro _ _ ⟨rfl, rfl⟩ | rintro _ _ ⟨_, rfl, rfl⟩ | rintro _ _ ⟨_, _, ⟨_, _⟩, rfl, rfl⟩); try refine ⟨sConv, ?_⟩) | refine Dr.two ?_ ?_)
      refine L.stepK (by decide) (S.buildSlice1K (T := op22T) (e := ⟨x.kind, x.seq, ⟨x.want.A, 6, x.want.c, x.want.l.take 6⟩, x.key, x.now⟩) rfl rfl rfl rfl (by decide)) ?_; rintro _ _ ⟨_, rfl, rfl⟩
      repeat (first | refine wLd1 ?_ | (refine kLd1 ?_; (first | rintro _ _ ⟨rfl, rfl⟩ | rintro _ _ ⟨_, rfl, rfl⟩ | rintro _ _ ⟨_, _, ⟨_, _⟩, rfl, rfl⟩); try refine ⟨sConv, ?_⟩) | refine Dr.two ?_ ?_)
      rw [← hst]
      rename_i A2 c2 k1 k2
      exact ⟨(i + 1, A2, c2), sHolds, sConv, ⟨by dsimp only; omega, by dsimp only; omega, k1, k2⟩, by dsimp only; omega⟩
    · have hcut : x.cut = x := by unfold Op22.cut Efs.cut6; rw [if_neg h8]
      rw [hcut] at hst
      repeat (first | refine wLd1 ?_ | (refine kLd1 ?_; (first | rintro _ _ ⟨rfl, rfl⟩ | rintro _ _ ⟨_, rfl, rfl⟩ | rintro _ _ ⟨_, _, ⟨_, _⟩, rfl, rfl⟩); try refine ⟨sConv, ?_⟩) | refine Dr.two ?_ ?_)
      rw [← hst]
      rename_i A2 c2 k1 k2
      exact ⟨(i + 1, A2, c2), sHolds, sConv, ⟨by dsimp only; omega, by dsimp only; omega, k1, k2⟩, by dsimp only; omega⟩
  · have hfin : (l.take i).map Op22.cut = few22 l := by
      unfold few22
      by_cases h60 : i = 60
      · rw [h60]
      · rw [List.take_of_length_le (by omega), List.take_of_length_le (by omega)]
    have hlen : i = (few22 l).length := by rw [← hfin]; simp; omega
    rw [hfin]
    by_cases h1 : i < n
    · repeat (first | refine wLd1 ?_ | (refine kLd1 ?_; (first | rintro _ _ ⟨rfl, rfl⟩ | rintro _ _ ⟨_, rfl, rfl⟩ | rintro _ _ ⟨_, _, ⟨_, _⟩, rfl, rfl⟩); try refine ⟨sConv, ?_⟩) | refine Dr.two ?_ ?_)
      exact ret1 rfl sRet sConv (⟨_, _, _, rfl, hlen, hi60, ⟨hco, hco2⟩, rfl⟩)
    · repeat (first | refine wLd1 ?_ | (refine kLd1 ?_; (first | rintro _ _ ⟨rfl, rfl⟩ | rintro _ _ ⟨_, rfl, rfl⟩ | rintro _ _ ⟨_, _, ⟨_, _⟩, rfl, rfl⟩); try refine ⟨sConv, ?_⟩) | refine Dr.two ?_ ?_)
      exact ret1 rfl sRet sConv (⟨_, _, _, rfl, hlen, hi60, ⟨hco, hco2⟩, rfl⟩)
theorem Conv.uneltB {E : Env} {B : Option Addr} {n d i : Nat} {ls ls' : List Lnv} {H H' : List Asn} (e : Lnv) (hl : ls.set i e = ls') (hr : Repl (Sep.elt rchT B n d ls i [.int .i64 e.id.rep, .int .i64 e.id.seq, .int .i64 e.made, .slice e.A e.n e.c, .slice e.X e.nx e.cx]) [own rchT B n d ls'] H H') : Conv E H H' := Conv.unelt' (e := e) rfl hl hr
/-! ### the book -/
abbrev bg (g : Nat) (B : Option Addr) (n d : Nat) (r : Int) : Asn := blk g 27 [.int .i64 r, .slice B n d]
abbrev bst (g : Nat) (B : Option Addr) (n d : Nat) (r : Int) (ls : List Lnv) : List Asn := [bg g B n d r, own rchT B n d ls, each bStk ls, each lWnt ls]
section
variable (E : Env) (g : Nat) (B : Option Addr) (n d : Nat) (r : Int) (ls : List Lnv)
theorem bat_no (a : Idn) (hn : n ≤ 100000) (h : ¬ Here r n a) : Tri Try.prog E 29 #[.pointer (some ⟨g, 0, none⟩), .agg a.cs.toArray] [bg g B n d r] fun e H' => e = .returned (.int .i64 (-1)) ∧ H' = [bg g B n d r] := by
  have hmax : maxLen = 9223372036854775807 := rfl
  unfold Here at h
  refine tri Try.func29 rfl Try.ntmps29 (by simp) ?_
  by_cases h1 : a.rep = r
  · by_cases h2 : a.seq < 1
    · repeat (first | refine wLd1 ?_ | (refine kLd1 ?_; (first | rintro _ _ ⟨rfl, rfl⟩ | rintro _ _ ⟨_, rfl, rfl⟩ | rintro _ _ ⟨_, _, ⟨_, _⟩, rfl, rfl⟩); try refine ⟨sConv, ?_⟩) | refine Dr.two ?_ ?_)
      refine C.regionA 100000 (.one 0 false (.one 1 false (.one 2 false (.one 3 false (.one 4 false (.one 5 false (.one 6 false (.one 7 false (.one 8 false (.one 9 false (.one 10 false (.one 11 false (.one 12 false (.one 13 false (.one 14 false (.one 15 false (.one 16 false (.one 17 false (.one 18 false (.one 19 false (.one 20 false (.one 21 false .nil)))))))))))))))))))))) _ (by kernel_rfl) (by kernel_rfl) Conv.refl ?_
      repeat (first | refine wLd1 ?_ | (refine kLd1 ?_; (first | rintro _ _ ⟨rfl, rfl⟩ | rintro _ _ ⟨_, rfl, rfl⟩ | rintro _ _ ⟨_, _, ⟨_, _⟩, rfl, rfl⟩); try refine ⟨sConv, ?_⟩) | refine Dr.two ?_ ?_)
      exact ret1 rfl sRet sConv (⟨rfl, rfl⟩)
    · have h3 : (n : Int) < a.seq := by omega
      repeat (first | refine wLd1 ?_ | (refine kLd1 ?_; (first | rintro _ _ ⟨rfl, rfl⟩ | rintro _ _ ⟨_, rfl, rfl⟩ | rintro _ _ ⟨_, _, ⟨_, _⟩, rfl, rfl⟩); try refine ⟨sConv, ?_⟩) | refine Dr.two ?_ ?_)
      refine C.regionA 100000 (.one 0 false (.one 1 false (.one 2 false (.one 3 false (.one 4 false (.one 5 false (.one 6 false (.one 7 false (.one 8 false (.one 9 false (.one 10 false (.one 11 false (.one 12 false (.one 13 false (.one 14 false (.one 15 false (.one 16 false (.one 17 false (.one 18 false (.one 19 false (.one 20 false (.one 21 false .nil)))))))))))))))))))))) _ (by kernel_rfl) (by kernel_rfl) Conv.refl ?_
      repeat (first | refine wLd1 ?_ | (refine kLd1 ?_; (first | rintro _ _ ⟨rfl, rfl⟩ | rintro _ _ ⟨_, rfl, rfl⟩ | rintro _ _ ⟨_, _, ⟨_, _⟩, rfl, rfl⟩); try refine ⟨sConv, ?_⟩) | refine Dr.two ?_ ?_)
      exact ret1 rfl sRet sConv (⟨rfl, rfl⟩)
  · repeat (first | refine wLd1 ?_ | (refine kLd1 ?_; (first | rintro _ _ ⟨rfl, rfl⟩ | rintro _ _ ⟨_, rfl, rfl⟩ | rintro _ _ ⟨_, _, ⟨_, _⟩, rfl, rfl⟩); try refine ⟨sConv, ?_⟩) | refine Dr.two ?_ ?_)
    refine C.regionA 100000 (.one 0 false (.one 1 false (.one 2 false (.one 3 false (.one 4 false (.one 5 false (.one 6 false (.one 7 false (.one 8 false (.one 9 false (.one 10 false (.one 11 false (.one 12 false (.one 13 false (.one 14 false (.one 15 false (.one 16 false (.one 17 false (.one 18 false (.one 19 false (.one 20 false (.one 21 false .nil)))))))))))))))))))))) _ (by kernel_rfl) (by kernel_rfl) Conv.refl ?_
    repeat (first | refine wLd1 ?_ | (refine kLd1 ?_; (first | rintro _ _ ⟨rfl, rfl⟩ | rintro _ _ ⟨_, rfl, rfl⟩ | rintro _ _ ⟨_, _, ⟨_, _⟩, rfl, rfl⟩); try refine ⟨sConv, ?_⟩) | refine Dr.two ?_ ?_)
    exact ret1 rfl sRet sConv (⟨rfl, rfl⟩)
theorem bat_yes (i : Nat) (hn : n ≤ 100000) (hi : i < n) : Tri Try.prog E 29 #[.pointer (some ⟨g, 0, none⟩), .agg #[.int .i64 r, .int .i64 ((i + 1 : Nat) : Int)]] [bg g B n d r] fun e H' => e = .returned (.int .i64 i) ∧ H' = [bg g B n d r] := by
  have hmax : maxLen = 9223372036854775807 := rfl
  have hs : IntKind.i64.wrap (((i + 1 : Nat) : Int) - 1) = ((i : Nat) : Int) := by rw [IntWalk.i64_in _ (by omega)]; omega
  refine tri Try.func29 rfl Try.ntmps29 (by simp) ?_
  repeat (first | refine wLd1 ?_ | (refine kLd1 ?_; (first | rintro _ _ ⟨rfl, rfl⟩ | rintro _ _ ⟨_, rfl, rfl⟩ | rintro _ _ ⟨_, _, ⟨_, _⟩, rfl, rfl⟩); try refine ⟨sConv, ?_⟩) | refine Dr.two ?_ ?_)
  refine C.regionA 100000 (.one 0 false (.one 1 false (.one 2 false (.one 3 false (.one 4 false (.one 5 false (.one 6 false (.one 7 false (.one 8 false (.one 9 false (.one 10 false (.one 11 false (.one 12 false (.one 13 false (.one 14 false (.one 15 false (.one 16 false (.one 17 false (.one 18 false (.one 19 false (.one 20 false (.one 21 false .nil)))))))))))))))))))))) _ (by kernel_rfl) (by kernel_rfl) Conv.refl ?_
  repeat (first | refine wLd1 ?_ | (refine kLd1 ?_; (first | rintro _ _ ⟨rfl, rfl⟩ | rintro _ _ ⟨_, rfl, rfl⟩ | rintro _ _ ⟨_, _, ⟨_, _⟩, rfl, rfl⟩); try refine ⟨sConv, ?_⟩) | refine Dr.two ?_ ?_)
  exact ret1 rfl sRet sConv (⟨rfl, rfl⟩)
theorem bnext_no (s : Int) (hn : n ≤ 100000) (h : ¬ (1 ≤ s ∧ s ≤ n)) : Tri Try.prog E 103 #[.pointer (some ⟨g, 0, none⟩), .int .i64 s] [bg g B n d r] fun e H' => Nxt none e ∧ H' = [bg g B n d r] := by
  have hno : ¬ Here r n ⟨r, s⟩ := fun h' => h h'.2
  unfold Nxt
  refine tri Try.func103 rfl Try.ntmps103 (by simp) ?_
  repeat (first | refine wLd1 ?_ | (refine kLd1 ?_; (first | rintro _ _ ⟨rfl, rfl⟩ | rintro _ _ ⟨_, rfl, rfl⟩ | rintro _ _ ⟨_, _, ⟨_, _⟩, rfl, rfl⟩); try refine ⟨sConv, ?_⟩) | refine Dr.two ?_ ?_)
  refine L.step (by decide) (S.call rfl rfl Try.func29 (by kernel_rfl) rfl sPicks (fun E' hE => bat_no E' g B n d r ⟨r, s⟩ hn hno) ?_)
  rintro e H' ⟨rfl, rfl⟩
  refine ⟨_, rfl, _, sCat, ?_⟩
  repeat (first | refine wLd1 ?_ | (refine kLd1 ?_; (first | rintro _ _ ⟨rfl, rfl⟩ | rintro _ _ ⟨_, rfl, rfl⟩ | rintro _ _ ⟨_, _, ⟨_, _⟩, rfl, rfl⟩); try refine ⟨sConv, ?_⟩) | refine Dr.two ?_ ?_)
  apply retC2; (· exact rfl); (· exact sRet); (· exact rfl); (· exact rfl); (· exact rfl); (· exact sHas); (· exact rfl); (· exact sRet); rotate_left; (· exact (⟨rfl, rfl⟩)); (· exact sConv)
theorem bnext_yes (i : Nat) (hn : n ≤ 100000) (hi : i < n) (hok : LOk r ls) {e : Lnv} (he : ls[i]? = some e) : Tri Try.prog E 103 #[.pointer (some ⟨g, 0, none⟩), .int .i64 ((i + 1 : Nat) : Int)] (bst g B n d r ls) fun x H' => Nxt (e.s.nxt e.id) x ∧ H' = bst g B n d r ls := by
  have hoe := hok i e he
  have hm : I64 e.made := by have := hoe.s.made0; have := hoe.s.made1; unfold I64; unfold Lnv.s at *; dsimp only at *; omega
  unfold Nxt bst
  refine tri Try.func103 rfl Try.ntmps103 (by simp) ?_
  repeat (first | refine wLd1 ?_ | (refine kLd1 ?_; (first | rintro _ _ ⟨rfl, rfl⟩ | rintro _ _ ⟨_, rfl, rfl⟩ | rintro _ _ ⟨_, _, ⟨_, _⟩, rfl, rfl⟩); try refine ⟨sConv, ?_⟩) | refine Dr.two ?_ ?_)
  refine L.step (by decide) (S.call rfl rfl Try.func29 (by kernel_rfl) rfl sPicks (fun E' hE => bat_yes E' g B n d r i hn hi) ?_)
  rintro e H' ⟨rfl, rfl⟩
  refine ⟨_, rfl, _, sCat, ?_⟩
  repeat (first | refine wLd1 ?_ | (refine kLd1 ?_; (first | rintro _ _ ⟨rfl, rfl⟩ | rintro _ _ ⟨_, rfl, rfl⟩ | rintro _ _ ⟨_, _, ⟨_, _⟩, rfl, rfl⟩); try refine ⟨sConv, ?_⟩) | refine Dr.two ?_ ?_)
  apply L.conv; (· exact Conv.elt' (T := rchT) (A := B) (n := n) (c := d) (l := ls) (k := i) (e := e) (cs := [.int .i64 e.id.rep, .int .i64 e.id.seq, .int .i64 e.made, .slice e.A e.n e.c, .slice e.X e.nx e.cx]) he rfl sRepl)
  refine L.step (by decide) (S.call rfl rfl Try.func17 (by kernel_rfl) rfl sPicks (fun E' hE => rnextE E' B n d ls i e.id e.made e.A e.n e.c e.l e.w e.X e.nx e.cx (Sub.each (f := bStk) hE sHas he rfl) (Sub.each (f := lWnt) hE sHas he rfl) hm) ?_)
  unfold Nxt
  rintro x H' ⟨rfl, rfl⟩
  refine ⟨_, rfl, _, sCat, ?_⟩
  repeat (first | refine wLd1 ?_ | (refine kLd1 ?_; (first | rintro _ _ ⟨rfl, rfl⟩ | rintro _ _ ⟨_, rfl, rfl⟩ | rintro _ _ ⟨_, _, ⟨_, _⟩, rfl, rfl⟩); try refine ⟨sConv, ?_⟩) | refine Dr.two ?_ ?_)
  refine postF_conv2 (Conv.uneltB e (set_same he) sRepl) ?_
  apply retC2; (· exact rfl); (· exact sRet); (· exact rfl); (· exact rfl); (· exact rfl); (· exact sHas); (· exact rfl); (· exact sRet); rotate_left; (· exact (⟨rfl, rfl⟩)); (· exact sConv)
def BPost (g : Nat) (B : Option Addr) (n d : Nat) (r : Int) (ls : List Lnv) (i : Nat) (s : S21) (b : Bool) : Ending → List Asn → Prop := fun x H' =>
  ∃ ls', x = .returned (.bool b) ∧ LOk r ls' ∧ ls'.length = ls.length ∧ ls'.map Lnv.s = (ls.map Lnv.s).set i s ∧ H' = bst g B n d r ls'
theorem BPost.same {g : Nat} {B : Option Addr} {n d : Nat} {r : Int} {ls : List Lnv} {i : Nat} {e : Lnv} (he : ls[i]? = some e) (hok : LOk r ls) : BPost g B n d r ls i e.s false (.returned (.bool false)) (bst g B n d r ls) :=
  ⟨ls, rfl, hok, rfl, by rw [set_same (x := e.s) (by rw [List.getElem?_map, he]; rfl)], rfl⟩
theorem btry_no (k : Keyv) (now : Int) (hn : n ≤ 100000) (h : ¬ Here r n k.id) : Tri Try.prog E 104 #[.pointer (some ⟨g, 0, none⟩), .agg k.cs.toArray, .int .i64 now] [bg g B n d r] fun e H' => e = .returned (.bool false) ∧ H' = [bg g B n d r] := by
  refine tri Try.func104 rfl Try.ntmps104 (by simp) ?_
  repeat (first | refine wLd1 ?_ | (refine kLd1 ?_; (first | rintro _ _ ⟨rfl, rfl⟩ | rintro _ _ ⟨_, rfl, rfl⟩ | rintro _ _ ⟨_, _, ⟨_, _⟩, rfl, rfl⟩); try refine ⟨sConv, ?_⟩) | refine Dr.two ?_ ?_)
  refine L.step (by decide) (S.call rfl rfl Try.func29 (by kernel_rfl) rfl sPicks (fun E' hE => bat_no E' g B n d r k.id hn h) ?_)
  rintro e H' ⟨rfl, rfl⟩
  refine ⟨_, rfl, _, sCat, ?_⟩
  repeat (first | refine wLd1 ?_ | (refine kLd1 ?_; (first | rintro _ _ ⟨rfl, rfl⟩ | rintro _ _ ⟨_, rfl, rfl⟩ | rintro _ _ ⟨_, _, ⟨_, _⟩, rfl, rfl⟩); try refine ⟨sConv, ?_⟩) | refine Dr.two ?_ ?_)
  exact ret1 rfl sRet sConv (⟨rfl, rfl⟩)
theorem back_no (k : Keyv) (hn : n ≤ 100000) (h : ¬ Here r n k.id) : Tri Try.prog E 105 #[.pointer (some ⟨g, 0, none⟩), .agg k.cs.toArray] [bg g B n d r] fun e H' => e = .returned (.bool false) ∧ H' = [bg g B n d r] := by
  refine tri Try.func105 rfl Try.ntmps105 (by simp) ?_
  repeat (first | refine wLd1 ?_ | (refine kLd1 ?_; (first | rintro _ _ ⟨rfl, rfl⟩ | rintro _ _ ⟨_, rfl, rfl⟩ | rintro _ _ ⟨_, _, ⟨_, _⟩, rfl, rfl⟩); try refine ⟨sConv, ?_⟩) | refine Dr.two ?_ ?_)
  refine L.step (by decide) (S.call rfl rfl Try.func29 (by kernel_rfl) rfl sPicks (fun E' hE => bat_no E' g B n d r k.id hn h) ?_)
  rintro e H' ⟨rfl, rfl⟩
  refine ⟨_, rfl, _, sCat, ?_⟩
  repeat (first | refine wLd1 ?_ | (refine kLd1 ?_; (first | rintro _ _ ⟨rfl, rfl⟩ | rintro _ _ ⟨_, rfl, rfl⟩ | rintro _ _ ⟨_, _, ⟨_, _⟩, rfl, rfl⟩); try refine ⟨sConv, ?_⟩) | refine Dr.two ?_ ?_)
  refine C.regionA 100000 (.one 0 false (.one 1 false (.one 2 false (.one 3 false (.one 4 false (.one 5 false (.one 6 false (.one 7 false (.one 8 false (.one 9 false (.one 10 true (.one 11 false (.one 12 false .nil))))))))))))) _ (by kernel_rfl) (by kernel_rfl) Conv.refl ?_
  repeat (first | refine wLd1 ?_ | (refine kLd1 ?_; (first | rintro _ _ ⟨rfl, rfl⟩ | rintro _ _ ⟨_, rfl, rfl⟩ | rintro _ _ ⟨_, _, ⟨_, _⟩, rfl, rfl⟩); try refine ⟨sConv, ?_⟩) | refine Dr.two ?_ ?_)
  exact ret1 rfl sRet sConv (⟨rfl, rfl⟩)
end
end Go.Proofs.Ytkhmplaocfjpjaa.Sep
