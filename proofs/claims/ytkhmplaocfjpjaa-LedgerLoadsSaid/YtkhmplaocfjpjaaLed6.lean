/- ledger: are all quiet; a clone; by parts of memory. -/
import Derived.Test.YtkhmplaocfjpjaaLed5
namespace Go.Proofs.Ytkhmplaocfjpjaa.Sep
open Go.RowKit Go.Proofs.Ytkhmplaocfjpjaa.Reg
open Go.Proofs.Ytkhmplaocfjpjaa.Mem hiding Rd Own
-- types: entT enrT effT lineT rchT chvT efsT op22T keyT reqT
-- recs: idnT_rec effT_rec cfgT_rec entT_rec enrT_rec keyT_rec reqT_rec chain_rec chref_rec op22T_rec lineT_rec ledger_rec bk22_rec
-- eqs: idnT_eqa effT_eqa entT_eqa enrT_eqa keyT_eqa reqT_eqa
-- funcs
-- flds
-- elts
set_option maxRecDepth 100000
set_option maxHeartbeats 8000000
/-- what each of the lines has reads so -/
def LRd (E : Env) (ls : List Lnv) : Prop := ∀ e ∈ ls, Rd E entT e.A e.n e.c e.l ∧ Rd E effT e.X e.nx e.cx e.w
theorem LRd.sub {E E' : Env} {R : List Asn} {ls : List Lnv} (hE : Sub E R E') (h : LRd E ls) : LRd E' ls := fun e he => ⟨(h e he).1.sub hE, (h e he).2.sub hE⟩
theorem LRd.of {E E' : Env} {R R1 R2 : List Asn} {ls : List Lnv} (hE : Sub E R E') (h1 : Has (each lStk ls) R R1) (h2 : Has (each lWnt ls) R R2) : LRd E' ls := fun e he => by
  obtain ⟨i, hi, rfl⟩ := List.getElem_of_mem he
  exact ⟨Sub.each (f := lStk) hE h1 (List.getElem?_eq_getElem hi) rfl, Sub.each (f := lWnt) hE h2 (List.getElem?_eq_getElem hi) rfl⟩
def quietP (ps : List S21) : Bool := ps.all fun s => quiet s.l s.w
section
variable (E : Env) (g : Nat) (B : Option Addr) (n d : Nat) (r : Int) (ls : List Lnv)
theorem lq1 (x : Lnv) (hr : Rd E entT x.A x.n x.c x.l) (hw : Rd E effT x.X x.nx x.cx x.w) : Tri Try.prog E 93 #[.agg x.cs.toArray] [] fun e H' => e = .returned (.bool (!quiet x.l x.w)) ∧ H' = [] := by
  refine tri Try.func93 rfl Try.ntmps93 (by simp) ?_
  repeat (first | refine wLd1 ?_ | (refine kLd1 ?_; (first | rintro _ _ ⟨rfl, rfl⟩ | rintro _ _ ⟨_, rfl, rfl⟩ | rintro _ _ ⟨_, _, ⟨_, _⟩, rfl, rfl⟩); try refine ⟨sConv, ?_⟩) | refine Dr.two ?_ ?_)
  refine L.step (by decide) (S.call rfl rfl Try.func94 (by kernel_rfl) rfl sPicks (fun E' hE => cquiet E' x.id x.made x.A x.n x.c x.l x.w x.X x.nx x.cx (hr.sub hE) (hw.sub hE)) ?_)
  rintro e H' ⟨rfl, rfl⟩
  refine ⟨_, rfl, _, sCat, ?_⟩
  repeat (first | refine wLd1 ?_ | (refine kLd1 ?_; (first | rintro _ _ ⟨rfl, rfl⟩ | rintro _ _ ⟨_, rfl, rfl⟩ | rintro _ _ ⟨_, _, ⟨_, _⟩, rfl, rfl⟩); try refine ⟨sConv, ?_⟩) | refine Dr.two ?_ ?_)
  exact ret1 rfl sRet sConv (⟨rfl, rfl⟩)
theorem lidxq (hr : Rd E lineT B n d ls) (hst : LRd E ls) : Tri Try.prog E 122 #[.slice B n d, .func (.func 93) #[] #[]] [] fun x H' => (∃ i : Int, x = .returned (.int .i64 i) ∧ decide (0 ≤ i) = !quietP (ls.map Lnv.s)) ∧ H' = [] := by
  have hn := hr.len
  have hcap := hr.cap
  refine tri Try.func122 rfl Try.ntmps122 (by simp) ?_
  repeat (first | refine wLd1 ?_ | (refine kLd1 ?_; (first | rintro _ _ ⟨rfl, rfl⟩ | rintro _ _ ⟨_, rfl, rfl⟩ | rintro _ _ ⟨_, _, ⟨_, _⟩, rfl, rfl⟩); try refine ⟨sConv, ?_⟩) | refine Dr.two ?_ ?_)
  refine C.loop (X := Nat) (fun i => [(0, .slice B n d), (1, .func (.func 93) #[] #[]), (7, .int .i64 n), (8, .int .i64 i)]) (fun _ => []) (fun i => i ≤ n ∧ ∀ (j : Nat) (y : Lnv), j < i → ls[j]? = some y → quiet y.l y.w = true) (fun i => n - i) 0 sHolds Conv.refl ⟨Nat.zero_le _, fun j y hj => by omega⟩ ?_
  rintro i G ⟨hi, hall⟩
  by_cases hlt : i < n
  · have hx : ls[i]? = some ls[i] := List.getElem?_eq_getElem (by omega)
    have hmem : ls[i] ∈ ls := List.getElem_mem (by omega)
    generalize ls[i] = x at hx hmem
    have hmax : maxLen = 9223372036854775807 := rfl
    repeat (first | refine wLd1 ?_ | (refine kLd1 ?_; (first | rintro _ _ ⟨rfl, rfl⟩ | rintro _ _ ⟨_, rfl, rfl⟩ | rintro _ _ ⟨_, _, ⟨_, _⟩, rfl, rfl⟩); try refine ⟨sConv, ?_⟩) | refine Dr.two ?_ ?_)
    refine L.step (by decide) (S.callVL (cs := []) rfl rfl rfl rfl Try.func93 (by kernel_rfl) rfl sPicks (fun E' hE => lq1 E' x ((hst x hmem).1.sub hE) ((hst x hmem).2.sub hE)) ?_)
    rintro e H' ⟨rfl, rfl⟩
    refine ⟨_, rfl, _, sCat, ?_⟩
    cases hp : quiet x.l x.w
    · have hq : quietP (ls.map Lnv.s) = false := by
        unfold quietP
        rw [List.all_eq_false]
        exact ⟨x.s, List.mem_map_of_mem hmem, by show ¬ quiet x.l x.w = true; rw [hp]; exact Bool.false_ne_true⟩
      repeat (first | refine wLd1 ?_ | (refine kLd1 ?_; (first | rintro _ _ ⟨rfl, rfl⟩ | rintro _ _ ⟨_, rfl, rfl⟩ | rintro _ _ ⟨_, _, ⟨_, _⟩, rfl, rfl⟩); try refine ⟨sConv, ?_⟩) | refine Dr.two ?_ ?_)
      exact ret1 rfl sRet sConv (⟨⟨i, rfl, by rw [hq]; exact decide_eq_true (Int.natCast_nonneg i)⟩, rfl⟩)
    · repeat (first | refine wLd1 ?_ | (refine kLd1 ?_; (first | rintro _ _ ⟨rfl, rfl⟩ | rintro _ _ ⟨_, rfl, rfl⟩ | rintro _ _ ⟨_, _, ⟨_, _⟩, rfl, rfl⟩); try refine ⟨sConv, ?_⟩) | refine Dr.two ?_ ?_)
      refine ⟨i + 1, sHolds, Conv.refl, ⟨by omega, fun j y hj hy => ?_⟩, by omega⟩
      by_cases hji : j = i
      · subst hji; rw [hx] at hy; injection hy with hy; subst hy; exact hp
      · exact hall j y (by omega) hy
  · obtain rfl : i = n := by omega
    have hq : quietP (ls.map Lnv.s) = true := by
      unfold quietP
      rw [List.all_eq_true]
      intro s hs
      obtain ⟨y, hy, rfl⟩ := List.mem_map.1 hs
      obtain ⟨j, hj, rfl⟩ := List.getElem_of_mem hy
      exact hall j _ (by omega) (List.getElem?_eq_getElem hj)
    repeat (first | refine wLd1 ?_ | (refine kLd1 ?_; (first | rintro _ _ ⟨rfl, rfl⟩ | rintro _ _ ⟨_, rfl, rfl⟩ | rintro _ _ ⟨_, _, ⟨_, _⟩, rfl, rfl⟩); try refine ⟨sConv, ?_⟩) | refine Dr.two ?_ ?_)
    exact ret1 rfl sRet sConv (⟨⟨-1, rfl, by rw [hq]; rfl⟩, rfl⟩)
theorem lquiet : Tri Try.prog E 49 #[.pointer (some ⟨g, 0, none⟩)] (lst g B n d r ls) fun x H' => x = .returned (.bool (quietP (ls.map Lnv.s))) ∧ H' = lst g B n d r ls := by
  unfold lst
  refine tri Try.func49 rfl Try.ntmps49 (by simp) ?_
  repeat (first | refine wLd1 ?_ | (refine kLd1 ?_; (first | rintro _ _ ⟨rfl, rfl⟩ | rintro _ _ ⟨_, rfl, rfl⟩ | rintro _ _ ⟨_, _, ⟨_, _⟩, rfl, rfl⟩); try refine ⟨sConv, ?_⟩) | refine Dr.two ?_ ?_)
  refine L.step (by decide) (S.call rfl rfl Try.func65 (by kernel_rfl) rfl sPicks (fun E' hE => llines E' g B n d r) ?_)
  rintro x H' ⟨rfl, rfl⟩
  refine ⟨_, rfl, _, sCat, ?_⟩
  repeat (first | refine wLd1 ?_ | (refine kLd1 ?_; (first | rintro _ _ ⟨rfl, rfl⟩ | rintro _ _ ⟨_, rfl, rfl⟩ | rintro _ _ ⟨_, _, ⟨_, _⟩, rfl, rfl⟩); try refine ⟨sConv, ?_⟩) | refine Dr.two ?_ ?_)
  have hcont : ∀ E', Rd E' lineT B n d ls → LRd E' ls → Tri Try.prog E' 92 #[.slice B n d, .func (.func 93) #[] #[]] [] fun x H' => x = .returned (.bool (!quietP (ls.map Lnv.s))) ∧ H' = [] := by
    intro E2 h1 h2
    refine tri Try.func92 rfl Try.ntmps92 (by simp) ?_
    repeat (first | refine wLd1 ?_ | (refine kLd1 ?_; (first | rintro _ _ ⟨rfl, rfl⟩ | rintro _ _ ⟨_, rfl, rfl⟩ | rintro _ _ ⟨_, _, ⟨_, _⟩, rfl, rfl⟩); try refine ⟨sConv, ?_⟩) | refine Dr.two ?_ ?_)
    refine L.step (by decide) (S.call rfl rfl Try.func122 (by kernel_rfl) rfl sPicks (fun E' hE => lidxq E' B n d ls (h1.sub hE) (h2.sub hE)) ?_)
    rintro x H' ⟨⟨i, rfl, hi⟩, rfl⟩
    refine ⟨_, rfl, _, sCat, ?_⟩
    repeat (first | refine wLd1 ?_ | (refine kLd1 ?_; (first | rintro _ _ ⟨rfl, rfl⟩ | rintro _ _ ⟨_, rfl, rfl⟩ | rintro _ _ ⟨_, _, ⟨_, _⟩, rfl, rfl⟩); try refine ⟨sConv, ?_⟩) | refine Dr.two ?_ ?_)
    apply ret1; (· exact rfl); (· exact sRet); rotate_left; (· exact (⟨by rw [← hi], rfl⟩)); (· exact sConv)
  refine L.step (by decide) (S.call rfl rfl Try.func92 (by kernel_rfl) rfl sPicks (fun E' hE => hcont E' sRd (LRd.of hE sHas sHas)) ?_)
  rintro x H' ⟨rfl, rfl⟩
  refine ⟨_, rfl, _, sCat, ?_⟩
  repeat (first | refine wLd1 ?_ | (refine kLd1 ?_; (first | rintro _ _ ⟨rfl, rfl⟩ | rintro _ _ ⟨_, rfl, rfl⟩ | rintro _ _ ⟨_, _, ⟨_, _⟩, rfl, rfl⟩); try refine ⟨sConv, ?_⟩) | refine Dr.two ?_ ?_)
  apply ret1; (· exact rfl); (· exact sRet); rotate_left; (· exact (⟨by rw [Bool.not_not], rfl⟩)); (· exact sConv)
theorem lquiet_0 : ∀ E' fv, Tri Try.prog E' 92 #[.slice none 0 0, fv] [] fun x H' => x = .returned (.bool false) ∧ H' = [] := by
  intro E2 fv
  have hidx : ∀ E', Tri Try.prog E' 122 #[.slice none 0 0, fv] [] fun x H' => x = .returned (.int .i64 (-1)) ∧ H' = [] := by
    intro E3
    refine tri Try.func122 rfl Try.ntmps122 (by simp) ?_
    repeat (first | refine wLd1 ?_ | (refine kLd1 ?_; (first | rintro _ _ ⟨rfl, rfl⟩ | rintro _ _ ⟨_, rfl, rfl⟩ | rintro _ _ ⟨_, _, ⟨_, _⟩, rfl, rfl⟩); try refine ⟨sConv, ?_⟩) | refine Dr.two ?_ ?_)
    refine C.loop (X := Unit) (fun _ => [(7, .int .i64 0), (8, .int .i64 0)]) (fun _ => []) (fun _ => True) (fun _ => 0) () sHolds Conv.refl trivial ?_
    rintro ⟨⟩ G -
    repeat (first | refine wLd1 ?_ | (refine kLd1 ?_; (first | rintro _ _ ⟨rfl, rfl⟩ | rintro _ _ ⟨_, rfl, rfl⟩ | rintro _ _ ⟨_, _, ⟨_, _⟩, rfl, rfl⟩); try refine ⟨sConv, ?_⟩) | refine Dr.two ?_ ?_)
    exact ret1 rfl sRet sConv (⟨rfl, rfl⟩)
  refine tri Try.func92 rfl Try.ntmps92 (by simp) ?_
  repeat (first | refine wLd1 ?_ | (refine kLd1 ?_; (first | rintro _ _ ⟨rfl, rfl⟩ | rintro _ _ ⟨_, rfl, rfl⟩ | rintro _ _ ⟨_, _, ⟨_, _⟩, rfl, rfl⟩); try refine ⟨sConv, ?_⟩) | refine Dr.two ?_ ?_)
  refine L.step (by decide) (S.call rfl rfl Try.func122 (by kernel_rfl) rfl sPicks (fun E' hE => hidx E') ?_)
  rintro x H' ⟨rfl, rfl⟩
  refine ⟨_, rfl, _, sCat, ?_⟩
  repeat (first | refine wLd1 ?_ | (refine kLd1 ?_; (first | rintro _ _ ⟨rfl, rfl⟩ | rintro _ _ ⟨_, rfl, rfl⟩ | rintro _ _ ⟨_, _, ⟨_, _⟩, rfl, rfl⟩); try refine ⟨sConv, ?_⟩) | refine Dr.two ?_ ?_)
  exact ret1 rfl sRet sConv (⟨rfl, rfl⟩)
theorem lquiet_nil : Tri Try.prog E 49 #[.pointer none] [] fun x H' => x = .returned (.bool true) ∧ H' = [] := by
  refine tri Try.func49 rfl Try.ntmps49 (by simp) ?_
  repeat (first | refine wLd1 ?_ | (refine kLd1 ?_; (first | rintro _ _ ⟨rfl, rfl⟩ | rintro _ _ ⟨_, rfl, rfl⟩ | rintro _ _ ⟨_, _, ⟨_, _⟩, rfl, rfl⟩); try refine ⟨sConv, ?_⟩) | refine Dr.two ?_ ?_)
  refine L.step (by decide) (S.call rfl rfl Try.func65 (by kernel_rfl) rfl sPicks (fun E' hE => llines_nil E') ?_)
  rintro x H' ⟨rfl, rfl⟩
  refine ⟨_, rfl, _, sCat, ?_⟩
  repeat (first | refine wLd1 ?_ | (refine kLd1 ?_; (first | rintro _ _ ⟨rfl, rfl⟩ | rintro _ _ ⟨_, rfl, rfl⟩ | rintro _ _ ⟨_, _, ⟨_, _⟩, rfl, rfl⟩); try refine ⟨sConv, ?_⟩) | refine Dr.two ?_ ?_)
  refine L.step (by decide) (S.call rfl rfl Try.func92 (by kernel_rfl) rfl sPicks (fun E' hE => lquiet_0 E' _) ?_)
  rintro x H' ⟨rfl, rfl⟩
  refine ⟨_, rfl, _, sCat, ?_⟩
  repeat (first | refine wLd1 ?_ | (refine kLd1 ?_; (first | rintro _ _ ⟨rfl, rfl⟩ | rintro _ _ ⟨_, rfl, rfl⟩ | rintro _ _ ⟨_, _, ⟨_, _⟩, rfl, rfl⟩); try refine ⟨sConv, ?_⟩) | refine Dr.two ?_ ?_)
  exact ret1 rfl sRet sConv (⟨rfl, rfl⟩)
theorem lquiet_odd : Tri Try.prog E 49 #[.pointer (some ⟨g, 0, none⟩)] [odd g] fun x H' => x = .returned (.bool true) ∧ H' = [odd g] := by
  refine tri Try.func49 rfl Try.ntmps49 (by simp) ?_
  repeat (first | refine wLd1 ?_ | (refine kLd1 ?_; (first | rintro _ _ ⟨rfl, rfl⟩ | rintro _ _ ⟨_, rfl, rfl⟩ | rintro _ _ ⟨_, _, ⟨_, _⟩, rfl, rfl⟩); try refine ⟨sConv, ?_⟩) | refine Dr.two ?_ ?_)
  refine L.step (by decide) (S.call rfl rfl Try.func65 (by kernel_rfl) rfl sPicks (fun E' hE => llines_odd E' g) ?_)
  rintro x H' ⟨rfl, rfl⟩
  refine ⟨_, rfl, _, sCat, ?_⟩
  repeat (first | refine wLd1 ?_ | (refine kLd1 ?_; (first | rintro _ _ ⟨rfl, rfl⟩ | rintro _ _ ⟨_, rfl, rfl⟩ | rintro _ _ ⟨_, _, ⟨_, _⟩, rfl, rfl⟩); try refine ⟨sConv, ?_⟩) | refine Dr.two ?_ ?_)
  refine L.step (by decide) (S.call rfl rfl Try.func92 (by kernel_rfl) rfl sPicks (fun E' hE => lquiet_0 E' _) ?_)
  rintro x H' ⟨rfl, rfl⟩
  refine ⟨_, rfl, _, sCat, ?_⟩
  repeat (first | refine wLd1 ?_ | (refine kLd1 ?_; (first | rintro _ _ ⟨rfl, rfl⟩ | rintro _ _ ⟨_, rfl, rfl⟩ | rintro _ _ ⟨_, _, ⟨_, _⟩, rfl, rfl⟩); try refine ⟨sConv, ?_⟩) | refine Dr.two ?_ ?_)
  exact ret1 rfl sRet sConv (⟨rfl, rfl⟩)
/-! ### of a ledger that nobody made -/
theorem lready_nil (cf : Cfg) (now : Int) : Tri Try.prog E 21 #[.pointer none, .agg cf.cs.toArray, .int .i64 now] [] fun x H' => x = .returned (.slice none 0 0) ∧ H' = [] := by
  refine tri Try.func21 rfl Try.ntmps21 (by simp) ?_
  repeat (first | refine wLd1 ?_ | (refine kLd1 ?_; (first | rintro _ _ ⟨rfl, rfl⟩ | rintro _ _ ⟨_, rfl, rfl⟩ | rintro _ _ ⟨_, _, ⟨_, _⟩, rfl, rfl⟩); try refine ⟨sConv, ?_⟩) | refine Dr.two ?_ ?_)
  refine L.step (by decide) (S.call rfl rfl Try.func65 (by kernel_rfl) rfl sPicks (fun E' hE => llines_nil E') ?_)
  rintro x H' ⟨rfl, rfl⟩
  refine ⟨_, rfl, _, sCat, ?_⟩
  repeat (first | refine wLd1 ?_ | (refine kLd1 ?_; (first | rintro _ _ ⟨rfl, rfl⟩ | rintro _ _ ⟨_, rfl, rfl⟩ | rintro _ _ ⟨_, _, ⟨_, _⟩, rfl, rfl⟩); try refine ⟨sConv, ?_⟩) | refine Dr.two ?_ ?_)
  refine C.loop (X := Unit) (fun _ => [(7, .slice none 0 0), (14, .int .i64 0), (15, .int .i64 0)]) (fun _ => []) (fun _ => True) (fun _ => 0) () sHolds sConv trivial ?_
  rintro ⟨⟩ G -
  repeat (first | refine wLd1 ?_ | (refine kLd1 ?_; (first | rintro _ _ ⟨rfl, rfl⟩ | rintro _ _ ⟨_, rfl, rfl⟩ | rintro _ _ ⟨_, _, ⟨_, _⟩, rfl, rfl⟩); try refine ⟨sConv, ?_⟩) | refine Dr.two ?_ ?_)
  exact ret1 rfl sRet sConv (⟨rfl, rfl⟩)
theorem ldead_odd (cf : Cfg) (now : Int) : Tri Try.prog E 23 #[.pointer (some ⟨g, 0, none⟩), .agg cf.cs.toArray, .int .i64 now] [odd g] fun x H' => x = .returned (.slice none 0 0) ∧ H' = [odd g] := by
  refine tri Try.func23 rfl Try.ntmps23 (by simp) ?_
  repeat (first | refine wLd1 ?_ | (refine kLd1 ?_; (first | rintro _ _ ⟨rfl, rfl⟩ | rintro _ _ ⟨_, rfl, rfl⟩ | rintro _ _ ⟨_, _, ⟨_, _⟩, rfl, rfl⟩); try refine ⟨sConv, ?_⟩) | refine Dr.two ?_ ?_)
  refine L.step (by decide) (S.call rfl rfl Try.func65 (by kernel_rfl) rfl sPicks (fun E' hE => llines_odd E' g) ?_)
  rintro x H' ⟨rfl, rfl⟩
  refine ⟨_, rfl, _, sCat, ?_⟩
  repeat (first | refine wLd1 ?_ | (refine kLd1 ?_; (first | rintro _ _ ⟨rfl, rfl⟩ | rintro _ _ ⟨_, rfl, rfl⟩ | rintro _ _ ⟨_, _, ⟨_, _⟩, rfl, rfl⟩); try refine ⟨sConv, ?_⟩) | refine Dr.two ?_ ?_)
  refine C.loop (X := Unit) (fun _ => [(7, .slice none 0 0), (13, .int .i64 0), (14, .int .i64 0)]) (fun _ => [odd g]) (fun _ => True) (fun _ => 0) () sHolds sConv trivial ?_
  rintro ⟨⟩ G -
  repeat (first | refine wLd1 ?_ | (refine kLd1 ?_; (first | rintro _ _ ⟨rfl, rfl⟩ | rintro _ _ ⟨_, rfl, rfl⟩ | rintro _ _ ⟨_, _, ⟨_, _⟩, rfl, rfl⟩); try refine ⟨sConv, ?_⟩) | refine Dr.two ?_ ?_)
  exact ret1 rfl sRet sConv (⟨rfl, rfl⟩)
theorem lchains_nil : Tri Try.prog E 24 #[.pointer none] [] fun x H' => x = .returned (.slice none 0 0) ∧ H' = [] := by
  refine tri Try.func24 rfl Try.ntmps24 (by simp) ?_
  repeat (first | refine wLd1 ?_ | (refine kLd1 ?_; (first | rintro _ _ ⟨rfl, rfl⟩ | rintro _ _ ⟨_, rfl, rfl⟩ | rintro _ _ ⟨_, _, ⟨_, _⟩, rfl, rfl⟩); try refine ⟨sConv, ?_⟩) | refine Dr.two ?_ ?_)
  refine L.step (by decide) (S.call rfl rfl Try.func65 (by kernel_rfl) rfl sPicks (fun E' hE => llines_nil E') ?_)
  rintro x H' ⟨rfl, rfl⟩
  refine ⟨_, rfl, _, sCat, ?_⟩
  repeat (first | refine wLd1 ?_ | (refine kLd1 ?_; (first | rintro _ _ ⟨rfl, rfl⟩ | rintro _ _ ⟨_, rfl, rfl⟩ | rintro _ _ ⟨_, _, ⟨_, _⟩, rfl, rfl⟩); try refine ⟨sConv, ?_⟩) | refine Dr.two ?_ ?_)
  refine C.loop (X := Unit) (fun _ => [(3, .slice none 0 0), (8, .int .i64 0), (9, .int .i64 0)]) (fun _ => []) (fun _ => True) (fun _ => 0) () sHolds sConv trivial ?_
  rintro ⟨⟩ G -
  repeat (first | refine wLd1 ?_ | (refine kLd1 ?_; (first | rintro _ _ ⟨rfl, rfl⟩ | rintro _ _ ⟨_, rfl, rfl⟩ | rintro _ _ ⟨_, _, ⟨_, _⟩, rfl, rfl⟩); try refine ⟨sConv, ?_⟩) | refine Dr.two ?_ ?_)
  exact ret1 rfl sRet sConv (⟨rfl, rfl⟩)
theorem lwants_odd : Tri Try.prog E 25 #[.pointer (some ⟨g, 0, none⟩)] [odd g] fun x H' => x = .returned (.slice none 0 0) ∧ H' = [odd g] := by
  refine tri Try.func25 rfl Try.ntmps25 (by simp) ?_
  repeat (first | refine wLd1 ?_ | (refine kLd1 ?_; (first | rintro _ _ ⟨rfl, rfl⟩ | rintro _ _ ⟨_, rfl, rfl⟩ | rintro _ _ ⟨_, _, ⟨_, _⟩, rfl, rfl⟩); try refine ⟨sConv, ?_⟩) | refine Dr.two ?_ ?_)
  refine L.step (by decide) (S.call rfl rfl Try.func65 (by kernel_rfl) rfl sPicks (fun E' hE => llines_odd E' g) ?_)
  rintro x H' ⟨rfl, rfl⟩
  refine ⟨_, rfl, _, sCat, ?_⟩
  repeat (first | refine wLd1 ?_ | (refine kLd1 ?_; (first | rintro _ _ ⟨rfl, rfl⟩ | rintro _ _ ⟨_, rfl, rfl⟩ | rintro _ _ ⟨_, _, ⟨_, _⟩, rfl, rfl⟩); try refine ⟨sConv, ?_⟩) | refine Dr.two ?_ ?_)
  refine C.loop (X := Unit) (fun _ => [(3, .slice none 0 0), (8, .int .i64 0), (9, .int .i64 0)]) (fun _ => [odd g]) (fun _ => True) (fun _ => 0) () sHolds sConv trivial ?_
  rintro ⟨⟩ G -
  repeat (first | refine wLd1 ?_ | (refine kLd1 ?_; (first | rintro _ _ ⟨rfl, rfl⟩ | rintro _ _ ⟨_, rfl, rfl⟩ | rintro _ _ ⟨_, _, ⟨_, _⟩, rfl, rfl⟩); try refine ⟨sConv, ?_⟩) | refine Dr.two ?_ ?_)
  exact ret1 rfl sRet sConv (⟨rfl, rfl⟩)
theorem lclone_nil : Tri Try.prog E 44 #[.pointer none] [] fun x H' => x = .returned (.pointer none) ∧ H' = [] := by
  refine tri Try.func44 rfl Try.ntmps44 (by simp) ?_
  repeat (first | refine wLd1 ?_ | (refine kLd1 ?_; (first | rintro _ _ ⟨rfl, rfl⟩ | rintro _ _ ⟨_, rfl, rfl⟩ | rintro _ _ ⟨_, _, ⟨_, _⟩, rfl, rfl⟩); try refine ⟨sConv, ?_⟩) | refine Dr.two ?_ ?_)
  exact ret1 rfl sRet sConv (⟨rfl, rfl⟩)
theorem lclone_odd : Tri Try.prog E 44 #[.pointer (some ⟨g, 0, none⟩)] [odd g] fun x H' => x = .returned (.pointer none) ∧ H' = [odd g] := by
  refine tri Try.func44 rfl Try.ntmps44 (by simp) ?_
  repeat (first | refine wLd1 ?_ | (refine kLd1 ?_; (first | rintro _ _ ⟨rfl, rfl⟩ | rintro _ _ ⟨_, rfl, rfl⟩ | rintro _ _ ⟨_, _, ⟨_, _⟩, rfl, rfl⟩); try refine ⟨sConv, ?_⟩) | refine Dr.two ?_ ?_)
  exact ret1 rfl sRet sConv (⟨rfl, rfl⟩)
theorem lclone (hn : n ≤ 1000) (hnl : n = ls.length) (hok : LOk r ls) : Tri Try.prog E 44 #[.pointer (some ⟨g, 0, none⟩)] (lst g B n d r ls) fun x H' => ∃ g2 B2 d2 l2, x = .returned (.pointer (some ⟨g2, 0, none⟩)) ∧ LOk r l2 ∧ l2.map Lnv.s = ls.map Lnv.s ∧ (n ≤ d2 ∧ d2 ≤ maxLen) ∧ H' = [lg g2 B2 n d2 r, own lineT B2 n d2 l2, each lStk l2, each lWnt l2, lg g B n d r, own lineT B n d ls, each lStk ls, each lWnt ls] := by
  have hmax : maxLen = 9223372036854775807 := rfl
  unfold lst
  refine tri Try.func44 rfl Try.ntmps44 (by simp) ?_
  repeat (first | refine wLd1 ?_ | (refine kLd1 ?_; (first | rintro _ _ ⟨rfl, rfl⟩ | rintro _ _ ⟨_, rfl, rfl⟩ | rintro _ _ ⟨_, _, ⟨_, _⟩, rfl, rfl⟩); try refine ⟨sConv, ?_⟩) | refine Dr.two ?_ ?_)
  refine L.step (by decide) (S.call rfl rfl Try.func14 (by kernel_rfl) rfl sPicks (fun E' hE => lnew E' r) ?_)
  rintro x H' ⟨g2, rfl, rfl⟩
  refine ⟨_, rfl, _, sCat, ?_⟩
  repeat (first | refine wLd1 ?_ | (refine kLd1 ?_; (first | rintro _ _ ⟨rfl, rfl⟩ | rintro _ _ ⟨_, rfl, rfl⟩ | rintro _ _ ⟨_, _, ⟨_, _⟩, rfl, rfl⟩); try refine ⟨sConv, ?_⟩) | refine Dr.two ?_ ?_)
  refine C.loop (X := Nat × Option Addr × Nat × List Lnv) (fun x => [(3, .pointer (some ⟨g2, 0, none⟩)), (23, .slice B n d), (24, .int .i64 n), (25, .int .i64 x.1)])
    (fun x => [lg g2 x.2.1 x.1 x.2.2.1 r, own lineT x.2.1 x.1 x.2.2.1 x.2.2.2, each lStk x.2.2.2, each lWnt x.2.2.2, lg g B n d r, own lineT B n d ls, each lStk ls, each lWnt ls])
    (fun x => x.1 ≤ n ∧ x.2.2.2.length = x.1 ∧ LOk r x.2.2.2 ∧ x.2.2.2.map Lnv.s = (ls.map Lnv.s).take x.1 ∧ (x.1 ≤ x.2.2.1 ∧ x.2.2.1 ≤ maxLen)) (fun x => n - x.1) (0, none, 0, []) sHolds ((Conv.nil0 lineT none).trans ((Conv.each0 lStk).trans ((Conv.each0 lWnt).trans sConv))) ⟨Nat.zero_le _, rfl, fun i e h => (by cases h), rfl, ⟨Nat.le_refl _, Nat.zero_le _⟩⟩ ?_
  rintro ⟨i, B2, d2, l2⟩ F ⟨hi, hl2, hok2, hp2, hd1, hd2⟩
  dsimp only at hi hl2 hok2 hp2 hd1 hd2 ⊢
  by_cases hlt : i < n
  · obtain ⟨e, he⟩ : ∃ e, ls[i]? = some e := ⟨_, List.getElem?_eq_getElem (by omega)⟩
    have hoe := hok i e he
    have hel : e.n ≤ 1000000 := by have h1 := hoe.s.len; have h2 := hoe.s.made1; have h3 := hoe.n; unfold Lnv.s at h1 h2; dsimp only at h1 h2; omega
    have hex : e.nx ≤ 100000 := by have h1 := hoe.s.wide; have h3 := hoe.nx; unfold Lnv.s at h1; dsimp only at h1; omega
    have htk : (ls.map Lnv.s).take (i + 1) = (ls.map Lnv.s).take i ++ [e.s] := by
      have h := ls_at he
      obtain ⟨h1, h2⟩ := List.getElem?_eq_some_iff.1 h
      rw [List.take_succ_eq_append_getElem h1, h2]
    repeat (first | refine wLd1 ?_ | (refine kLd1 ?_; (first | rintro _ _ ⟨rfl, rfl⟩ | rintro _ _ ⟨_, rfl, rfl⟩ | rintro _ _ ⟨_, _, ⟨_, _⟩, rfl, rfl⟩); try refine ⟨sConv, ?_⟩) | refine Dr.two ?_ ?_)
    rename_i g5
    refine C.regionA 16 (.one 0 false (.one 1 false (.one 2 false (.one 3 false (.one 4 false (.one 5 false (.one 6 false (.one 8 false (.one 9 false (.one 7 true (.one 10 true (.one 11 false (.one 12 true (.one 13 true (.one 14 false (.one 15 false (.one 16 true .nil))))))))))))))))) ([lg g2 B2 i d2 r, blk g5 125 e.cs]) (by kernel_rfl) (by kernel_rfl) sConv ?_
    repeat (first | refine wLd1 ?_ | (refine kLd1 ?_; (first | rintro _ _ ⟨rfl, rfl⟩ | rintro _ _ ⟨_, rfl, rfl⟩ | rintro _ _ ⟨_, _, ⟨_, _⟩, rfl, rfl⟩); try refine ⟨sConv, ?_⟩) | refine Dr.two ?_ ?_)
    refine Dr.go rfl (by rintro k ⟨⟩ <;> decide) sGon (S.call rfl rfl Try.func70 (by kernel_rfl) rfl sPicks (fun E' hE => cclone E' e.id e.made e.A e.n e.c e.l (Sub.each (f := lStk) hE (Has.there (Has.there (Has.there (Has.there (Has.there (Has.there (Has.there Has.here))))))) he rfl) hel) ?_)
    rintro x H' ⟨A', c', rfl, hc', rfl⟩
    refine ⟨_, rfl, _, sCat, sConv, ?_⟩
    repeat (first | refine wLd1 ?_ | (refine kLd1 ?_; (first | rintro _ _ ⟨rfl, rfl⟩ | rintro _ _ ⟨_, rfl, rfl⟩ | rintro _ _ ⟨_, _, ⟨_, _⟩, rfl, rfl⟩); try refine ⟨sConv, ?_⟩) | refine Dr.two ?_ ?_)
    refine Dr.go rfl (by rintro k ⟨⟩ <;> decide) sGon (S.call rfl rfl Try.func71 (by kernel_rfl) rfl sPicks (fun E' hE => sclonef E' e.X e.nx e.cx e.w (Sub.each (f := lWnt) hE (Has.there (Has.there (Has.there (Has.there (Has.there (Has.there (Has.there (Has.there (Has.there Has.here))))))))) he rfl) hex) ?_)
    rintro x H' ⟨X', cx', rfl, hcx', rfl⟩
    refine ⟨_, rfl, _, sCat, sConv, ?_⟩
    repeat (first | refine wLd1 ?_ | (refine kLd1 ?_; (first | rintro _ _ ⟨rfl, rfl⟩ | rintro _ _ ⟨_, rfl, rfl⟩ | rintro _ _ ⟨_, _, ⟨_, _⟩, rfl, rfl⟩); try refine ⟨sConv, ?_⟩) | refine Dr.two ?_ ?_)
    refine Dr.goK rfl (by rintro k ⟨⟩ <;> decide) sGon (S.buildSlice1K (T := lineT) (e := ⟨e.id, e.made, A', e.n, c', e.l, X', e.nx, cx', e.w⟩) rfl rfl rfl rfl (by decide)) ?_; rintro _ _ ⟨_, rfl, rfl⟩; refine ⟨sConv, ?_⟩
    repeat (first | refine wLd1 ?_ | (refine kLd1 ?_; (first | rintro _ _ ⟨rfl, rfl⟩ | rintro _ _ ⟨_, rfl, rfl⟩ | rintro _ _ ⟨_, _, ⟨_, _⟩, rfl, rfl⟩); try refine ⟨sConv, ?_⟩) | refine Dr.two ?_ ?_)
    rename_i B3 d3 h1 h2
    have hnew : (⟨e.id, e.made, A', e.n, c', e.l, X', e.nx, cx', e.w⟩ : Lnv).ok r i := ⟨hoe.id, hoe.n, hc', hoe.nx, hcx', hoe.s⟩
    refine ⟨(i + 1, B3, d3, l2 ++ [⟨e.id, e.made, A', e.n, c', e.l, X', e.nx, cx', e.w⟩]), sHolds, ?_, ⟨by dsimp only; omega, by dsimp only; rw [List.length_append, hl2]; rfl, hok2.push (by rw [hl2]; exact hnew), by dsimp only; rw [List.map_append, hp2, htk]; rfl, ⟨h1, h2⟩⟩, by dsimp only; omega⟩
    dsimp only
    refine Conv.trans (Conv.push (f := lStk) (l := l2) (x := ⟨e.id, e.made, A', e.n, c', e.l, X', e.nx, cx', e.w⟩) sPicks) ?_
    refine Conv.trans (Conv.push (f := lWnt) (l := l2) (x := ⟨e.id, e.made, A', e.n, c', e.l, X', e.nx, cx', e.w⟩) sPicks) ?_
    exact sConv
  obtain rfl : i = n := by omega
  repeat (first | refine wLd1 ?_ | (refine kLd1 ?_; (first | rintro _ _ ⟨rfl, rfl⟩ | rintro _ _ ⟨_, rfl, rfl⟩ | rintro _ _ ⟨_, _, ⟨_, _⟩, rfl, rfl⟩); try refine ⟨sConv, ?_⟩) | refine Dr.two ?_ ?_)
  exact ret1 rfl sRet sConv (⟨g2, B2, d2, l2, rfl, hok2, by rw [hp2, List.take_of_length_le (by rw [List.length_map]; omega)], ⟨hd1, hd2⟩, rfl⟩)
end
end Go.Proofs.Ytkhmplaocfjpjaa.Sep
