/- ledger: where a chain is, what is wanted of it, what is tried and answered; by parts of memory. -/
import Derived.Test.YtkhmplaocfjpjaaChrE
namespace Go.Proofs.Ytkhmplaocfjpjaa.Sep
open Go.RowKit Go.Proofs.Ytkhmplaocfjpjaa.Reg
open Go.Proofs.Ytkhmplaocfjpjaa.Mem hiding Rd Own
-- types: entT enrT effT lineT rchT chvT efsT op22T keyT reqT
-- recs: idnT_rec effT_rec cfgT_rec entT_rec enrT_rec keyT_rec reqT_rec chain_rec chref_rec op22T_rec lineT_rec ledger_rec bk22_rec
-- eqs: idnT_eqa effT_eqa entT_eqa enrT_eqa keyT_eqa reqT_eqa
-- funcs
-- flds
-- elts
set_option maxRecDepth 100000
set_option maxHeartbeats 8000000
abbrev lStk (x : Lnv) : Asn := own entT x.A x.n x.c x.l
abbrev bStk (x : Lnv) : Asn := own enrT x.A x.n x.c x.l
abbrev lWnt (x : Lnv) : Asn := own effT x.X x.nx x.cx x.w
abbrev lg (g : Nat) (B : Option Addr) (n d : Nat) (r : Int) : Asn := blk g 96 [.bool true, .int .i64 r, .slice B n d]
abbrev lst (g : Nat) (B : Option Addr) (n d : Nat) (r : Int) (ls : List Lnv) : List Asn := [lg g B n d r, own lineT B n d ls, each lStk ls, each lWnt ls]
def Lnv.s (x : Lnv) : S21 := ⟨x.made, x.l, x.w⟩
structure Lnv.ok (r : Int) (i : Nat) (e : Lnv) : Prop where
  id : e.id = ⟨r, ((i + 1 : Nat) : Int)⟩
  n : e.n = e.l.length
  c : e.n ≤ e.c ∧ e.c ≤ maxLen
  nx : e.nx = e.w.length
  cx : e.nx ≤ e.cx ∧ e.cx ≤ maxLen
  s : e.s.ok
def LOk (r : Int) (ls : List Lnv) : Prop := ∀ (i : Nat) (e : Lnv), ls[i]? = some e → e.ok r i
theorem LOk.set {r : Int} {ls : List Lnv} (h : LOk r ls) {i : Nat} {e : Lnv} (he : e.ok r i) : LOk r (ls.set i e) := by
  intro j x hx
  rw [List.getElem?_set] at hx
  split at hx
  · rename_i hij
    subst hij
    split at hx
    · injection hx with hx; subst hx; exact he
    · cases hx
  · exact h j x hx
theorem LOk.push {r : Int} {ls : List Lnv} (h : LOk r ls) {e : Lnv} (he : e.ok r ls.length) : LOk r (ls ++ [e]) := by
  intro j x hx
  by_cases hj : j < ls.length
  · rw [List.getElem?_append_left hj] at hx; exact h j x hx
  · rw [List.getElem?_append_right (by omega)] at hx
    have h0 : j - ls.length = 0 := by
      have := (List.getElem?_eq_some_iff.1 hx).1
      simp at this; omega
    rw [h0] at hx
    injection hx with hx
    subst hx
    rw [show j = ls.length by omega]
    exact he
theorem S21.ok_zero : (⟨0, [], []⟩ : S21).ok := ⟨fun _ h => (List.not_mem_nil h).elim, fun _ h => (List.not_mem_nil h).elim, Int.le_refl _, by decide, Int.le_refl _, by decide⟩
section
variable (E : Env) (g : Nat) (B : Option Addr) (n d : Nat) (r : Int) (ls : List Lnv)
theorem lnew : Tri Try.prog E 14 #[.int .i64 r] [] fun e H' => ∃ g', e = .returned (.pointer (some ⟨g', 0, none⟩)) ∧ H' = [lg g' none 0 0 r] := by
  refine tri Try.func14 rfl Try.ntmps14 (by simp) ?_
  repeat (first | refine wLd1 ?_ | (refine kLd1 ?_; (first | rintro _ _ ⟨rfl, rfl⟩ | rintro _ _ ⟨_, rfl, rfl⟩ | rintro _ _ ⟨_, _, ⟨_, _⟩, rfl, rfl⟩); try refine ⟨sConv, ?_⟩) | refine Dr.two ?_ ?_)
  exact ret1 rfl sRet sConv (⟨_, rfl, rfl⟩)
theorem lid (s : Int) : Tri Try.prog E 72 #[.pointer (some ⟨g, 0, none⟩), .int .i64 s] [lg g B n d r] fun e H' => e = .returned (.agg #[.int .i64 r, .int .i64 s]) ∧ H' = [lg g B n d r] := by
  refine tri Try.func72 rfl Try.ntmps72 (by simp) ?_
  repeat (first | refine wLd1 ?_ | (refine kLd1 ?_; (first | rintro _ _ ⟨rfl, rfl⟩ | rintro _ _ ⟨_, rfl, rfl⟩ | rintro _ _ ⟨_, _, ⟨_, _⟩, rfl, rfl⟩); try refine ⟨sConv, ?_⟩) | refine Dr.two ?_ ?_)
  apply retC1; (· exact rfl); (· exact sRet); (· exact rfl); (· exact rfl); (· exact rfl); (· exact sHas); (· exact rfl); rotate_left; (· exact (⟨rfl, rfl⟩)); (· exact sConv)
theorem lid_nil (s : Int) : Tri Try.prog E 72 #[.pointer none, .int .i64 s] [] fun e H' => e = .returned (.agg #[.int .i64 0, .int .i64 0]) ∧ H' = [] := by
  refine tri Try.func72 rfl Try.ntmps72 (by simp) ?_
  repeat (first | refine wLd1 ?_ | (refine kLd1 ?_; (first | rintro _ _ ⟨rfl, rfl⟩ | rintro _ _ ⟨_, rfl, rfl⟩ | rintro _ _ ⟨_, _, ⟨_, _⟩, rfl, rfl⟩); try refine ⟨sConv, ?_⟩) | refine Dr.two ?_ ?_)
  apply retC1; (· exact rfl); (· exact sRet); (· exact rfl); (· exact rfl); (· exact rfl); (· exact sHas); (· exact rfl); rotate_left; (· exact (⟨rfl, rfl⟩)); (· exact sConv)
def Here (r : Int) (n : Nat) (a : Idn) : Prop := a.rep = r ∧ 1 ≤ a.seq ∧ a.seq ≤ n
instance (r : Int) (n : Nat) (a : Idn) : Decidable (Here r n a) := by unfold Here; exact inferInstance
theorem lat_nil (a : Idn) : Tri Try.prog E 74 #[.pointer none, .agg a.cs.toArray] [] fun e H' => e = .returned (.pointer none) ∧ H' = [] := by
  refine tri Try.func74 rfl Try.ntmps74 (by simp) ?_
  repeat (first | refine wLd1 ?_ | (refine kLd1 ?_; (first | rintro _ _ ⟨rfl, rfl⟩ | rintro _ _ ⟨_, rfl, rfl⟩ | rintro _ _ ⟨_, _, ⟨_, _⟩, rfl, rfl⟩); try refine ⟨sConv, ?_⟩) | refine Dr.two ?_ ?_)
  refine C.regionA 100000 (.one 0 false (.one 1 false (.one 2 false (.one 3 false (.one 4 false (.one 5 false (.one 6 false (.one 7 false (.one 8 false (.one 9 false (.one 10 false (.one 11 false (.one 12 false (.one 13 false (.one 14 false (.one 15 false (.one 16 false (.one 17 false (.one 18 false (.one 19 false (.one 20 false (.one 21 false (.one 22 false (.one 23 false (.one 24 false (.one 25 false (.one 26 false (.one 27 false (.one 28 false (.one 29 false (.one 30 false (.one 31 false (.one 32 false .nil))))))))))))))))))))))))))))))))) _ (by kernel_rfl) (by kernel_rfl) Conv.refl ?_
  repeat (first | refine wLd1 ?_ | (refine kLd1 ?_; (first | rintro _ _ ⟨rfl, rfl⟩ | rintro _ _ ⟨_, rfl, rfl⟩ | rintro _ _ ⟨_, _, ⟨_, _⟩, rfl, rfl⟩); try refine ⟨sConv, ?_⟩) | refine Dr.two ?_ ?_)
  exact ret1 rfl sRet sConv (⟨rfl, rfl⟩)
abbrev odd (g : Nat) : Asn := blk g 96 [.bool false, .int .i64 0, .slice none 0 0]
theorem lat_odd (a : Idn) : Tri Try.prog E 74 #[.pointer (some ⟨g, 0, none⟩), .agg a.cs.toArray] [odd g] fun e H' => e = .returned (.pointer none) ∧ H' = [odd g] := by
  refine tri Try.func74 rfl Try.ntmps74 (by simp) ?_
  repeat (first | refine wLd1 ?_ | (refine kLd1 ?_; (first | rintro _ _ ⟨rfl, rfl⟩ | rintro _ _ ⟨_, rfl, rfl⟩ | rintro _ _ ⟨_, _, ⟨_, _⟩, rfl, rfl⟩); try refine ⟨sConv, ?_⟩) | refine Dr.two ?_ ?_)
  refine C.regionA 100000 (.one 0 false (.one 1 false (.one 2 false (.one 3 false (.one 4 false (.one 5 false (.one 6 false (.one 7 false (.one 8 false (.one 9 false (.one 10 false (.one 11 false (.one 12 false (.one 13 false (.one 14 false (.one 15 false (.one 16 false (.one 17 false (.one 18 false (.one 19 false (.one 20 false (.one 21 false (.one 22 false (.one 23 false (.one 24 false (.one 25 false (.one 26 false (.one 27 false (.one 28 false (.one 29 false (.one 30 false (.one 31 false (.one 32 false .nil))))))))))))))))))))))))))))))))) _ (by kernel_rfl) (by kernel_rfl) Conv.refl ?_
  repeat (first | refine wLd1 ?_ | (refine kLd1 ?_; (first | rintro _ _ ⟨rfl, rfl⟩ | rintro _ _ ⟨_, rfl, rfl⟩ | rintro _ _ ⟨_, _, ⟨_, _⟩, rfl, rfl⟩); try refine ⟨sConv, ?_⟩) | refine Dr.two ?_ ?_)
  exact ret1 rfl sRet sConv (⟨rfl, rfl⟩)
theorem lat_no (a : Idn) (hn : n ≤ 100000) (h : ¬ Here r n a) : Tri Try.prog E 74 #[.pointer (some ⟨g, 0, none⟩), .agg a.cs.toArray] [lg g B n d r] fun e H' => e = .returned (.pointer none) ∧ H' = [lg g B n d r] := by
  have hmax : maxLen = 9223372036854775807 := rfl
  unfold Here at h
  refine tri Try.func74 rfl Try.ntmps74 (by simp) ?_
  by_cases h1 : a.rep = r
  · by_cases h2 : a.seq < 1
    · repeat (first | refine wLd1 ?_ | (refine kLd1 ?_; (first | rintro _ _ ⟨rfl, rfl⟩ | rintro _ _ ⟨_, rfl, rfl⟩ | rintro _ _ ⟨_, _, ⟨_, _⟩, rfl, rfl⟩); try refine ⟨sConv, ?_⟩) | refine Dr.two ?_ ?_)
      refine C.regionA 100000 (.one 0 false (.one 1 false (.one 2 false (.one 3 false (.one 4 false (.one 5 false (.one 6 false (.one 7 false (.one 8 false (.one 9 false (.one 10 false (.one 11 false (.one 12 false (.one 13 false (.one 14 false (.one 15 false (.one 16 false (.one 17 false (.one 18 false (.one 19 false (.one 20 false (.one 21 false (.one 22 false (.one 23 false (.one 24 false (.one 25 false (.one 26 false (.one 27 false (.one 28 false (.one 29 false (.one 30 false (.one 31 false (.one 32 false .nil))))))))))))))))))))))))))))))))) _ (by kernel_rfl) (by kernel_rfl) Conv.refl ?_
      repeat (first | refine wLd1 ?_ | (refine kLd1 ?_; (first | rintro _ _ ⟨rfl, rfl⟩ | rintro _ _ ⟨_, rfl, rfl⟩ | rintro _ _ ⟨_, _, ⟨_, _⟩, rfl, rfl⟩); try refine ⟨sConv, ?_⟩) | refine Dr.two ?_ ?_)
      exact ret1 rfl sRet sConv (⟨rfl, rfl⟩)
    · have h3 : (n : Int) < a.seq := by omega
      repeat (first | refine wLd1 ?_ | (refine kLd1 ?_; (first | rintro _ _ ⟨rfl, rfl⟩ | rintro _ _ ⟨_, rfl, rfl⟩ | rintro _ _ ⟨_, _, ⟨_, _⟩, rfl, rfl⟩); try refine ⟨sConv, ?_⟩) | refine Dr.two ?_ ?_)
      refine C.regionA 100000 (.one 0 false (.one 1 false (.one 2 false (.one 3 false (.one 4 false (.one 5 false (.one 6 false (.one 7 false (.one 8 false (.one 9 false (.one 10 false (.one 11 false (.one 12 false (.one 13 false (.one 14 false (.one 15 false (.one 16 false (.one 17 false (.one 18 false (.one 19 false (.one 20 false (.one 21 false (.one 22 false (.one 23 false (.one 24 false (.one 25 false (.one 26 false (.one 27 false (.one 28 false (.one 29 false (.one 30 false (.one 31 false (.one 32 false .nil))))))))))))))))))))))))))))))))) _ (by kernel_rfl) (by kernel_rfl) Conv.refl ?_
      repeat (first | refine wLd1 ?_ | (refine kLd1 ?_; (first | rintro _ _ ⟨rfl, rfl⟩ | rintro _ _ ⟨_, rfl, rfl⟩ | rintro _ _ ⟨_, _, ⟨_, _⟩, rfl, rfl⟩); try refine ⟨sConv, ?_⟩) | refine Dr.two ?_ ?_)
      exact ret1 rfl sRet sConv (⟨rfl, rfl⟩)
  · repeat (first | refine wLd1 ?_ | (refine kLd1 ?_; (first | rintro _ _ ⟨rfl, rfl⟩ | rintro _ _ ⟨_, rfl, rfl⟩ | rintro _ _ ⟨_, _, ⟨_, _⟩, rfl, rfl⟩); try refine ⟨sConv, ?_⟩) | refine Dr.two ?_ ?_)
    refine C.regionA 100000 (.one 0 false (.one 1 false (.one 2 false (.one 3 false (.one 4 false (.one 5 false (.one 6 false (.one 7 false (.one 8 false (.one 9 false (.one 10 false (.one 11 false (.one 12 false (.one 13 false (.one 14 false (.one 15 false (.one 16 false (.one 17 false (.one 18 false (.one 19 false (.one 20 false (.one 21 false (.one 22 false (.one 23 false (.one 24 false (.one 25 false (.one 26 false (.one 27 false (.one 28 false (.one 29 false (.one 30 false (.one 31 false (.one 32 false .nil))))))))))))))))))))))))))))))))) _ (by kernel_rfl) (by kernel_rfl) Conv.refl ?_
    repeat (first | refine wLd1 ?_ | (refine kLd1 ?_; (first | rintro _ _ ⟨rfl, rfl⟩ | rintro _ _ ⟨_, rfl, rfl⟩ | rintro _ _ ⟨_, _, ⟨_, _⟩, rfl, rfl⟩); try refine ⟨sConv, ?_⟩) | refine Dr.two ?_ ?_)
    exact ret1 rfl sRet sConv (⟨rfl, rfl⟩)
theorem lat_yes (i : Nat) (hn : n ≤ 100000) (hi : i < n) {e : Lnv} (he : ls[i]? = some e) : Tri Try.prog E 74 #[.pointer (some ⟨g, 0, none⟩), .agg #[.int .i64 r, .int .i64 ((i + 1 : Nat) : Int)]] [lg g B n d r, own lineT B n d ls] fun e H' => e = .returned (.pointer (some ((ad B).add (i * lineT.size)))) ∧ H' = [lg g B n d r, own lineT B n d ls] := by
  have hmax : maxLen = 9223372036854775807 := rfl
  have hs : IntKind.i64.wrap (((i + 1 : Nat) : Int) - 1) = ((i : Nat) : Int) := by rw [IntWalk.i64_in _ (by omega)]; omega
  refine tri Try.func74 rfl Try.ntmps74 (by simp) ?_
  repeat (first | refine wLd1 ?_ | (refine kLd1 ?_; (first | rintro _ _ ⟨rfl, rfl⟩ | rintro _ _ ⟨_, rfl, rfl⟩ | rintro _ _ ⟨_, _, ⟨_, _⟩, rfl, rfl⟩); try refine ⟨sConv, ?_⟩) | refine Dr.two ?_ ?_)
  refine C.regionA 100000 (.one 0 false (.one 1 false (.one 2 false (.one 3 false (.one 4 false (.one 5 false (.one 6 false (.one 7 false (.one 8 false (.one 9 false (.one 10 false (.one 11 false (.one 12 false (.one 13 false (.one 14 false (.one 15 false (.one 16 false (.one 17 false (.one 18 false (.one 19 false (.one 20 false (.one 21 false (.one 22 false (.one 23 false (.one 24 false (.one 25 false (.one 26 false (.one 27 false (.one 28 false (.one 29 false (.one 30 false (.one 31 false (.one 32 false .nil))))))))))))))))))))))))))))))))) _ (by kernel_rfl) (by kernel_rfl) Conv.refl ?_
  repeat (first | refine wLd1 ?_ | (refine kLd1 ?_; (first | rintro _ _ ⟨rfl, rfl⟩ | rintro _ _ ⟨_, rfl, rfl⟩ | rintro _ _ ⟨_, _, ⟨_, _⟩, rfl, rfl⟩); try refine ⟨sConv, ?_⟩) | refine Dr.two ?_ ?_)
  refine C.regionA 100000 (.one 0 false (.one 1 false (.one 2 false (.one 3 false (.one 4 false (.one 5 false (.one 6 false (.one 7 false (.one 8 false .nil))))))))) _ (by kernel_rfl) (by kernel_rfl) Conv.refl ?_
  repeat (first | refine wLd1 ?_ | (refine kLd1 ?_; (first | rintro _ _ ⟨rfl, rfl⟩ | rintro _ _ ⟨_, rfl, rfl⟩ | rintro _ _ ⟨_, _, ⟨_, _⟩, rfl, rfl⟩); try refine ⟨sConv, ?_⟩) | refine Dr.two ?_ ?_)
  exact ret1 rfl sRet sConv (⟨rfl, rfl⟩)
/-- a copy of effects -/
theorem sclonef (A : Option Addr) (n c : Nat) (l : List Eff) (hr : Rd E effT A n c l) (hl : n ≤ 100000) : Tri Try.prog E 71 #[.slice A n c] [] fun r H' => ∃ A' c', r = .returned (.slice A' n c') ∧ (n ≤ c' ∧ c' ≤ maxLen) ∧ H' = [own effT A' n c' l] := by
  refine tri Try.func71 rfl Try.ntmps71 (by simp) ?_
  cases A with
  | none =>
    obtain ⟨rfl, rfl⟩ := hr.none
    repeat (first | refine wLd1 ?_ | (refine kLd1 ?_; (first | rintro _ _ ⟨rfl, rfl⟩ | rintro _ _ ⟨_, rfl, rfl⟩ | rintro _ _ ⟨_, _, ⟨_, _⟩, rfl, rfl⟩); try refine ⟨sConv, ?_⟩) | refine Dr.two ?_ ?_)
    exact ret1 rfl sRet (Conv.nil effT) ⟨_, _, rfl, ⟨Nat.le_refl _, Nat.zero_le _⟩, rfl⟩
  | some a =>
    repeat (first | refine wLd1 ?_ | (refine kLd1 ?_; (first | rintro _ _ ⟨rfl, rfl⟩ | rintro _ _ ⟨_, rfl, rfl⟩ | rintro _ _ ⟨_, _, ⟨_, _⟩, rfl, rfl⟩); try refine ⟨sConv, ?_⟩) | refine Dr.two ?_ ?_)
    exact ret1 rfl sRet sConv (⟨_, _, rfl, ⟨by assumption, by assumption⟩, rfl⟩)
/-! ### what is to be tried -/
theorem lnext_nil (s : Int) : Tri Try.prog E 46 #[.pointer none, .int .i64 s] [] fun e H' => Nxt none e ∧ H' = [] := by
  unfold Nxt
  refine tri Try.func46 rfl Try.ntmps46 (by simp) ?_
  repeat (first | refine wLd1 ?_ | (refine kLd1 ?_; (first | rintro _ _ ⟨rfl, rfl⟩ | rintro _ _ ⟨_, rfl, rfl⟩ | rintro _ _ ⟨_, _, ⟨_, _⟩, rfl, rfl⟩); try refine ⟨sConv, ?_⟩) | refine Dr.two ?_ ?_)
  refine L.step (by decide) (S.call rfl rfl Try.func72 (by kernel_rfl) rfl sPicks (fun E' hE => lid_nil E' s) ?_)
  rintro e H' ⟨rfl, rfl⟩
  refine ⟨_, rfl, _, sCat, ?_⟩
  repeat (first | refine wLd1 ?_ | (refine kLd1 ?_; (first | rintro _ _ ⟨rfl, rfl⟩ | rintro _ _ ⟨_, rfl, rfl⟩ | rintro _ _ ⟨_, _, ⟨_, _⟩, rfl, rfl⟩); try refine ⟨sConv, ?_⟩) | refine Dr.two ?_ ?_)
  refine L.step (by decide) (S.call rfl rfl Try.func74 (by kernel_rfl) rfl sPicks (fun E' hE => lat_nil E' ⟨0, 0⟩) ?_)
  rintro e H' ⟨rfl, rfl⟩
  refine ⟨_, rfl, _, sCat, ?_⟩
  repeat (first | refine wLd1 ?_ | (refine kLd1 ?_; (first | rintro _ _ ⟨rfl, rfl⟩ | rintro _ _ ⟨_, rfl, rfl⟩ | rintro _ _ ⟨_, _, ⟨_, _⟩, rfl, rfl⟩); try refine ⟨sConv, ?_⟩) | refine Dr.two ?_ ?_)
  apply retC2; (· exact rfl); (· exact sRet); (· exact rfl); (· exact rfl); (· exact rfl); (· exact sHas); (· exact rfl); (· exact sRet); rotate_left; (· exact (⟨rfl, rfl⟩)); (· exact sConv)
theorem lid_odd (s : Int) : Tri Try.prog E 72 #[.pointer (some ⟨g, 0, none⟩), .int .i64 s] [odd g] fun e H' => e = .returned (.agg #[.int .i64 0, .int .i64 s]) ∧ H' = [odd g] := by
  refine tri Try.func72 rfl Try.ntmps72 (by simp) ?_
  repeat (first | refine wLd1 ?_ | (refine kLd1 ?_; (first | rintro _ _ ⟨rfl, rfl⟩ | rintro _ _ ⟨_, rfl, rfl⟩ | rintro _ _ ⟨_, _, ⟨_, _⟩, rfl, rfl⟩); try refine ⟨sConv, ?_⟩) | refine Dr.two ?_ ?_)
  apply retC1; (· exact rfl); (· exact sRet); (· exact rfl); (· exact rfl); (· exact rfl); (· exact sHas); (· exact rfl); rotate_left; (· exact (⟨rfl, rfl⟩)); (· exact sConv)
theorem lnext_odd (s : Int) : Tri Try.prog E 46 #[.pointer (some ⟨g, 0, none⟩), .int .i64 s] [odd g] fun e H' => Nxt none e ∧ H' = [odd g] := by
  unfold Nxt
  refine tri Try.func46 rfl Try.ntmps46 (by simp) ?_
  repeat (first | refine wLd1 ?_ | (refine kLd1 ?_; (first | rintro _ _ ⟨rfl, rfl⟩ | rintro _ _ ⟨_, rfl, rfl⟩ | rintro _ _ ⟨_, _, ⟨_, _⟩, rfl, rfl⟩); try refine ⟨sConv, ?_⟩) | refine Dr.two ?_ ?_)
  refine L.step (by decide) (S.call rfl rfl Try.func72 (by kernel_rfl) rfl sPicks (fun E' hE => lid_odd E' g s) ?_)
  rintro e H' ⟨rfl, rfl⟩
  refine ⟨_, rfl, _, sCat, ?_⟩
  repeat (first | refine wLd1 ?_ | (refine kLd1 ?_; (first | rintro _ _ ⟨rfl, rfl⟩ | rintro _ _ ⟨_, rfl, rfl⟩ | rintro _ _ ⟨_, _, ⟨_, _⟩, rfl, rfl⟩); try refine ⟨sConv, ?_⟩) | refine Dr.two ?_ ?_)
  refine L.step (by decide) (S.call rfl rfl Try.func74 (by kernel_rfl) rfl sPicks (fun E' hE => lat_odd E' g ⟨0, s⟩) ?_)
  rintro e H' ⟨rfl, rfl⟩
  refine ⟨_, rfl, _, sCat, ?_⟩
  repeat (first | refine wLd1 ?_ | (refine kLd1 ?_; (first | rintro _ _ ⟨rfl, rfl⟩ | rintro _ _ ⟨_, rfl, rfl⟩ | rintro _ _ ⟨_, _, ⟨_, _⟩, rfl, rfl⟩); try refine ⟨sConv, ?_⟩) | refine Dr.two ?_ ?_)
  apply retC2; (· exact rfl); (· exact sRet); (· exact rfl); (· exact rfl); (· exact rfl); (· exact sHas); (· exact rfl); (· exact sRet); rotate_left; (· exact (⟨rfl, rfl⟩)); (· exact sConv)
theorem lnext_no (s : Int) (hn : n ≤ 100000) (h : ¬ (1 ≤ s ∧ s ≤ n)) : Tri Try.prog E 46 #[.pointer (some ⟨g, 0, none⟩), .int .i64 s] [lg g B n d r] fun e H' => Nxt none e ∧ H' = [lg g B n d r] := by
  have hno : ¬ Here r n ⟨r, s⟩ := fun h' => h h'.2
  unfold Nxt
  refine tri Try.func46 rfl Try.ntmps46 (by simp) ?_
  repeat (first | refine wLd1 ?_ | (refine kLd1 ?_; (first | rintro _ _ ⟨rfl, rfl⟩ | rintro _ _ ⟨_, rfl, rfl⟩ | rintro _ _ ⟨_, _, ⟨_, _⟩, rfl, rfl⟩); try refine ⟨sConv, ?_⟩) | refine Dr.two ?_ ?_)
  refine L.step (by decide) (S.call rfl rfl Try.func72 (by kernel_rfl) rfl sPicks (fun E' hE => lid E' g B n d r s) ?_)
  rintro e H' ⟨rfl, rfl⟩
  refine ⟨_, rfl, _, sCat, ?_⟩
  repeat (first | refine wLd1 ?_ | (refine kLd1 ?_; (first | rintro _ _ ⟨rfl, rfl⟩ | rintro _ _ ⟨_, rfl, rfl⟩ | rintro _ _ ⟨_, _, ⟨_, _⟩, rfl, rfl⟩); try refine ⟨sConv, ?_⟩) | refine Dr.two ?_ ?_)
  refine L.step (by decide) (S.call rfl rfl Try.func74 (by kernel_rfl) rfl sPicks (fun E' hE => lat_no E' g B n d r ⟨r, s⟩ hn hno) ?_)
  rintro e H' ⟨rfl, rfl⟩
  refine ⟨_, rfl, _, sCat, ?_⟩
  repeat (first | refine wLd1 ?_ | (refine kLd1 ?_; (first | rintro _ _ ⟨rfl, rfl⟩ | rintro _ _ ⟨_, rfl, rfl⟩ | rintro _ _ ⟨_, _, ⟨_, _⟩, rfl, rfl⟩); try refine ⟨sConv, ?_⟩) | refine Dr.two ?_ ?_)
  apply retC2; (· exact rfl); (· exact sRet); (· exact rfl); (· exact rfl); (· exact rfl); (· exact sHas); (· exact rfl); (· exact sRet); rotate_left; (· exact (⟨rfl, rfl⟩)); (· exact sConv)
theorem lnext_yes (i : Nat) (hn : n ≤ 100000) (hi : i < n) (hok : LOk r ls) {e : Lnv} (he : ls[i]? = some e) : Tri Try.prog E 46 #[.pointer (some ⟨g, 0, none⟩), .int .i64 ((i + 1 : Nat) : Int)] (lst g B n d r ls) fun x H' => Nxt (e.s.nxt e.id) x ∧ H' = lst g B n d r ls := by
  have hoe := hok i e he
  have hm : I64 e.made := by have := hoe.s.made0; have := hoe.s.made1; unfold I64; unfold Lnv.s at *; dsimp only at *; omega
  unfold Nxt lst
  refine tri Try.func46 rfl Try.ntmps46 (by simp) ?_
  repeat (first | refine wLd1 ?_ | (refine kLd1 ?_; (first | rintro _ _ ⟨rfl, rfl⟩ | rintro _ _ ⟨_, rfl, rfl⟩ | rintro _ _ ⟨_, _, ⟨_, _⟩, rfl, rfl⟩); try refine ⟨sConv, ?_⟩) | refine Dr.two ?_ ?_)
  rename_i g4
  refine L.step (by decide) (S.call rfl rfl Try.func72 (by kernel_rfl) rfl sPicks (fun E' hE => lid E' g B n d r _) ?_)
  rintro e H' ⟨rfl, rfl⟩
  refine ⟨_, rfl, _, sCat, ?_⟩
  repeat (first | refine wLd1 ?_ | (refine kLd1 ?_; (first | rintro _ _ ⟨rfl, rfl⟩ | rintro _ _ ⟨_, rfl, rfl⟩ | rintro _ _ ⟨_, _, ⟨_, _⟩, rfl, rfl⟩); try refine ⟨sConv, ?_⟩) | refine Dr.two ?_ ?_)
  refine L.step (by decide) (S.call rfl rfl Try.func74 (by kernel_rfl) rfl sPicks (fun E' hE => lat_yes E' g B n d r ls i hn hi he) ?_)
  rintro e H' ⟨rfl, rfl⟩
  refine ⟨_, rfl, _, sCat, ?_⟩
  repeat (first | refine wLd1 ?_ | (refine kLd1 ?_; (first | rintro _ _ ⟨rfl, rfl⟩ | rintro _ _ ⟨_, rfl, rfl⟩ | rintro _ _ ⟨_, _, ⟨_, _⟩, rfl, rfl⟩); try refine ⟨sConv, ?_⟩) | refine Dr.two ?_ ?_)
  refine C.regionA 100000 (.one 0 false (.one 1 false (.one 2 false (.one 3 false (.one 4 false (.one 5 false (.one 6 false (.one 7 false (.one 8 true (.one 9 false (.one 10 false (.one 11 true (.one 12 false .nil))))))))))))) ([own lineT B n d ls]) (by kernel_rfl) (by kernel_rfl) sConv ?_
  repeat (first | refine wLd1 ?_ | (refine kLd1 ?_; (first | rintro _ _ ⟨rfl, rfl⟩ | rintro _ _ ⟨_, rfl, rfl⟩ | rintro _ _ ⟨_, _, ⟨_, _⟩, rfl, rfl⟩); try refine ⟨sConv, ?_⟩) | refine Dr.two ?_ ?_)
  refine Dr.go rfl (by rintro k ⟨⟩ <;> decide) sGon (S.call rfl rfl Try.func67 (by kernel_rfl) rfl sPicks (fun E' hE => cnext E' e.id e.made e.A e.n e.c e.l e.w e.X e.nx e.cx (Sub.each (f := lStk) hE sHas he rfl) (Sub.each (f := lWnt) hE sHas he rfl) hoe.s.ents hm) ?_)
  unfold Nxt
  rintro x H' ⟨rfl, rfl⟩
  refine ⟨_, rfl, _, sCat, sConv, ?_⟩
  repeat (first | refine wLd1 ?_ | (refine kLd1 ?_; (first | rintro _ _ ⟨rfl, rfl⟩ | rintro _ _ ⟨_, rfl, rfl⟩ | rintro _ _ ⟨_, _, ⟨_, _⟩, rfl, rfl⟩); try refine ⟨sConv, ?_⟩) | refine Dr.two ?_ ?_)
  apply retC2; (· exact rfl); (· exact sRet); (· exact rfl); (· exact rfl); (· exact rfl); (· exact sHas); (· exact rfl); (· exact sRet); rotate_left; (· exact (⟨rfl, rfl⟩)); (· exact sConv)
end
end Go.Proofs.Ytkhmplaocfjpjaa.Sep
