/- ledger: what is tried, answered, wanted; by parts of memory. -/
import Derived.Test.YtkhmplaocfjpjaaLed2
namespace Go.Proofs.Ytkhmplaocfjpjaa.Sep
open Go.RowKit Go.Proofs.Ytkhmplaocfjpjaa.Reg
open Go.Proofs.Ytkhmplaocfjpjaa.Mem hiding Rd Own
-- types: entT enrT effT lineT rchT chvT efsT op22T keyT reqT
-- recs: idnT_rec effT_rec cfgT_rec entT_rec enrT_rec keyT_rec reqT_rec chain_rec chref_rec op22T_rec lineT_rec ledger_rec bk22_rec
-- eqs: idnT_eqa effT_eqa entT_eqa enrT_eqa keyT_eqa reqT_eqa
-- funcs
-- flds
-- elts
set_option maxRecDepth 100000
set_option maxHeartbeats 8000000
def S21.hit (s : S21) (id : Idn) (k : Keyv) : Bool := match s.nxt id with
  | some q => decide (q.key = k)
  | none => false
def S21.put (s : S21) (w : List Eff) : S21 := ⟨s.made, settle w s.l, w⟩
theorem S21.put_ok {s : S21} {w : List Eff} (h : s.ok) (hw : ∀ f ∈ w, f.ok) (hl : w.length ≤ 8) : (s.put w).ok :=
  ⟨settle_ok h.ents, hw, h.made0, h.made1, by show ((settle w s.l).length : Int) ≤ s.made; rw [settle_length]; exact h.len, hl⟩
theorem map_set {ls : List Lnv} {i : Nat} {e : Lnv} : (ls.set i e).map Lnv.s = (ls.map Lnv.s).set i e.s := List.map_set
theorem set_same {X : Type} {l : List X} {i : Nat} {x : X} (h : l[i]? = some x) : l.set i x = l := by
  apply List.ext_getElem?
  intro j
  rw [List.getElem?_set]
  split
  · rename_i hij
    subst hij
    rw [if_pos (List.getElem?_eq_some_iff.1 h).1, h]
  · rfl
/-- one chain's line is another now -/
def LPost (g : Nat) (B : Option Addr) (n d : Nat) (r : Int) (ls : List Lnv) (i : Nat) (s : S21) (b : Bool) : Ending → List Asn → Prop := fun x H' =>
  ∃ ls', x = .returned (.bool b) ∧ LOk r ls' ∧ ls'.length = ls.length ∧ ls'.map Lnv.s = (ls.map Lnv.s).set i s ∧ H' = lst g B n d r ls'
theorem postF_conv2 {P : Program} {E : Env} {fn : Func} {R : Ending → List Asn → Prop} {F : Nat → Value} {H H1 : List Asn} {e : Ex} (hc : Conv E H H1) (h : postF P E fn R e F H1) : postF P E fn R e F H := by
  cases e with
  | normal => obtain ⟨v, H', h1, h2, h3⟩ := h; exact ⟨v, H', fun w hw => h1 w (hc w hw), hc.trans h2, h3⟩
  | ret => obtain ⟨v, H', h1, h2, h3⟩ := h; exact ⟨v, H', fun w hw => h1 w (hc w hw), hc.trans h2, h3⟩
  | exit id => exact h
def eachL (L : List Asn) : Asn := ⟨fun F w => stars L F w, fun h hk => stars_loc h hk, fun h hb => stars_lt h hb⟩
theorem each_congr {X : Type} {f : X → Asn} {l l' : List X} (h : l'.map f = l.map f) : each f l' = each f l := by
  show eachL (l'.map f) = eachL (l.map f); rw [h]
theorem repl_self {a : Asn} {H H' : List Asn} (h : Repl a [a] H H') : H' = H := by
  induction h with
  | here => rfl
  | there _ ih => rw [ih]
/-- a part that is alike -/
theorem Conv.same {E : Env} {X : Type} {f : X → Asn} {l : List X} {H H' : List Asn} {i : Nat} {x x' : X} (hx : l[i]? = some x) (hf : f x' = f x) (hr : Repl (each f l) [each f (l.set i x')] H H') : Conv E H H' := by
  have e : each f (l.set i x') = each f l := by
    have hm : (l.set i x').map f = l.map f := by rw [List.map_set, hf, set_same (by rw [List.getElem?_map, hx]; rfl)]
    exact each_congr hm
  rw [e] at hr
  rw [repl_self hr]; exact Conv.refl
theorem Conv.uneltL {E : Env} {B : Option Addr} {n d i : Nat} {ls ls' : List Lnv} {H H' : List Asn} (e : Lnv) (hl : ls.set i e = ls') (hr : Repl (Sep.elt lineT B n d ls i [.int .i64 e.id.rep, .int .i64 e.id.seq, .int .i64 e.made, .slice e.A e.n e.c, .slice e.X e.nx e.cx]) [own lineT B n d ls'] H H') : Conv E H H' := Conv.unelt' (e := e) rfl hl hr
section
variable (E : Env) (g : Nat) (B : Option Addr) (n d : Nat) (r : Int) (ls : List Lnv)
theorem LPost.same {g : Nat} {B : Option Addr} {n d : Nat} {r : Int} {ls : List Lnv} {i : Nat} {e : Lnv} (he : ls[i]? = some e) (hok : LOk r ls) : LPost g B n d r ls i e.s false (.returned (.bool false)) (lst g B n d r ls) :=
  ⟨ls, rfl, hok, rfl, by rw [set_same (x := e.s) (by rw [List.getElem?_map, he]; rfl)], rfl⟩
theorem ltry_nil (k : Keyv) (now : Int) : Tri Try.prog E 47 #[.pointer none, .agg k.cs.toArray, .int .i64 now] [] fun e H' => e = .returned (.bool false) ∧ H' = [] := by
  refine tri Try.func47 rfl Try.ntmps47 (by simp) ?_
  repeat (first | refine wLd1 ?_ | (refine kLd1 ?_; (first | rintro _ _ ⟨rfl, rfl⟩ | rintro _ _ ⟨_, rfl, rfl⟩ | rintro _ _ ⟨_, _, ⟨_, _⟩, rfl, rfl⟩); try refine ⟨sConv, ?_⟩) | refine Dr.two ?_ ?_)
  refine L.step (by decide) (S.call rfl rfl Try.func74 (by kernel_rfl) rfl sPicks (fun E' hE => lat_nil E' k.id) ?_)
  rintro e H' ⟨rfl, rfl⟩
  refine ⟨_, rfl, _, sCat, ?_⟩
  repeat (first | refine wLd1 ?_ | (refine kLd1 ?_; (first | rintro _ _ ⟨rfl, rfl⟩ | rintro _ _ ⟨_, rfl, rfl⟩ | rintro _ _ ⟨_, _, ⟨_, _⟩, rfl, rfl⟩); try refine ⟨sConv, ?_⟩) | refine Dr.two ?_ ?_)
  exact ret1 rfl sRet sConv (⟨rfl, rfl⟩)
theorem ltry_no (k : Keyv) (now : Int) (hn : n ≤ 100000) (h : ¬ Here r n k.id) : Tri Try.prog E 47 #[.pointer (some ⟨g, 0, none⟩), .agg k.cs.toArray, .int .i64 now] [lg g B n d r] fun e H' => e = .returned (.bool false) ∧ H' = [lg g B n d r] := by
  refine tri Try.func47 rfl Try.ntmps47 (by simp) ?_
  repeat (first | refine wLd1 ?_ | (refine kLd1 ?_; (first | rintro _ _ ⟨rfl, rfl⟩ | rintro _ _ ⟨_, rfl, rfl⟩ | rintro _ _ ⟨_, _, ⟨_, _⟩, rfl, rfl⟩); try refine ⟨sConv, ?_⟩) | refine Dr.two ?_ ?_)
  refine L.step (by decide) (S.call rfl rfl Try.func74 (by kernel_rfl) rfl sPicks (fun E' hE => lat_no E' g B n d r k.id hn h) ?_)
  rintro e H' ⟨rfl, rfl⟩
  refine ⟨_, rfl, _, sCat, ?_⟩
  repeat (first | refine wLd1 ?_ | (refine kLd1 ?_; (first | rintro _ _ ⟨rfl, rfl⟩ | rintro _ _ ⟨_, rfl, rfl⟩ | rintro _ _ ⟨_, _, ⟨_, _⟩, rfl, rfl⟩); try refine ⟨sConv, ?_⟩) | refine Dr.two ?_ ?_)
  exact ret1 rfl sRet sConv (⟨rfl, rfl⟩)
theorem ltry (i : Nat) (hn : n ≤ 100000) (hi : i < n) (hok : LOk r ls) {e : Lnv} (he : ls[i]? = some e) (o : Int) (u : Bool) (now : Int) (hnow : I64 now) :
    Tri Try.prog E 47 #[.pointer (some ⟨g, 0, none⟩), .agg #[.int .i64 r, .int .i64 ((i + 1 : Nat) : Int), .int .i64 o, .bool u], .int .i64 now] (lst g B n d r ls)
      (LPost g B n d r ls i (if e.s.hit e.id ⟨e.id, o, u⟩ then e.s.try_ e.id now else e.s) (e.s.hit e.id ⟨e.id, o, u⟩ && (tried e.id e.made e.l e.w now).isSome)) := by
  have hoe := hok i e he
  have hid := hoe.id
  have hm : I64 e.made := by have := hoe.s.made0; have := hoe.s.made1; unfold I64; unfold Lnv.s at *; dsimp only at *; omega
  have hnl : e.n ≤ 1000000 := by have h1 := hoe.s.len; have h2 := hoe.s.made1; have h3 := hoe.n; unfold Lnv.s at h1 h2; dsimp only at h1 h2; omega
  have hsame := LPost.same (g := g) (B := B) (n := n) (d := d) he hok
  have htok := S21.try_ok (id := e.id) hoe.s hnow
  cases hq : e.s.nxt e.id with
  | none =>
    have hhit : e.s.hit e.id ⟨e.id, o, u⟩ = false := by unfold S21.hit; rw [hq]
    rw [hhit]
    simp only [Bool.false_and, Bool.false_eq_true, if_false]
    unfold lst
    refine tri Try.func47 rfl Try.ntmps47 (by simp) ?_
    repeat (first | refine wLd1 ?_ | (refine kLd1 ?_; (first | rintro _ _ ⟨rfl, rfl⟩ | rintro _ _ ⟨_, rfl, rfl⟩ | rintro _ _ ⟨_, _, ⟨_, _⟩, rfl, rfl⟩); try refine ⟨sConv, ?_⟩) | refine Dr.two ?_ ?_)
    refine L.step (by decide) (S.call rfl rfl Try.func74 (by kernel_rfl) rfl sPicks (fun E' hE => lat_yes E' g B n d r ls i hn hi he) ?_)
    rintro x H' ⟨rfl, rfl⟩
    refine ⟨_, rfl, _, sCat, ?_⟩
    repeat (first | refine wLd1 ?_ | (refine kLd1 ?_; (first | rintro _ _ ⟨rfl, rfl⟩ | rintro _ _ ⟨_, rfl, rfl⟩ | rintro _ _ ⟨_, _, ⟨_, _⟩, rfl, rfl⟩); try refine ⟨sConv, ?_⟩) | refine Dr.two ?_ ?_)
    refine C.regionA 100000 (.one 0 false (.one 1 false (.one 2 false (.one 3 false (.one 4 false (.one 5 false (.one 6 false (.one 7 false (.two 8 (.one 9 false (.one 10 false (.one 11 false (.one 12 true (.one 13 true (.one 14 false .nil)))))) 12 (.one 8 true (.one 9 false (.one 10 false (.one 11 false (.one 13 true (.one 14 false .nil))))))))))))))) ([own lineT B n d ls]) (by kernel_rfl) (by kernel_rfl) sConv ?_
    repeat (first | refine vLd1 ?_ | (refine kLd1 ?_; (first | rintro _ _ ⟨rfl, rfl⟩ | rintro _ _ ⟨_, rfl, rfl⟩ | rintro _ _ ⟨_, _, ⟨_, _⟩, rfl, rfl⟩); try refine ⟨sConv, ?_⟩))
    refine Dr.two ?_ ?_
    · refine Go1.go rfl (by rintro k ⟨⟩ <;> decide) sGon (S.call rfl rfl Try.func67 (by kernel_rfl) rfl sPicks (fun E' hE => cnext E' e.id e.made e.A e.n e.c e.l e.w e.X e.nx e.cx (Sub.each (f := lStk) hE sHas he rfl) (Sub.each (f := lWnt) hE sHas he rfl) hoe.s.ents hm) ?_)
      unfold Nxt
      rw [show next e.id e.made e.l e.w = none from hq]
      dsimp only [Option.getD, Option.isSome]
      rintro x H' ⟨rfl, rfl⟩
      refine ⟨_, rfl, _, sCat, sConv, ?_⟩
      repeat (first | refine wLd1 ?_ | (refine kLd1 ?_; (first | rintro _ _ ⟨rfl, rfl⟩ | rintro _ _ ⟨_, rfl, rfl⟩ | rintro _ _ ⟨_, _, ⟨_, _⟩, rfl, rfl⟩); try refine ⟨sConv, ?_⟩) | refine Dr.two ?_ ?_)
      exact ret1 rfl sRet sConv (hsame)
    · repeat (first | refine vLd1 ?_ | (refine kLd1 ?_; (first | rintro _ _ ⟨rfl, rfl⟩ | rintro _ _ ⟨_, rfl, rfl⟩ | rintro _ _ ⟨_, _, ⟨_, _⟩, rfl, rfl⟩); try refine ⟨sConv, ?_⟩))
      refine Dr.go rfl (by rintro k ⟨⟩ <;> decide) sGon (S.call rfl rfl Try.func67 (by kernel_rfl) rfl sPicks (fun E' hE => cnext E' e.id e.made e.A e.n e.c e.l e.w e.X e.nx e.cx (Sub.each (f := lStk) hE sHas he rfl) (Sub.each (f := lWnt) hE sHas he rfl) hoe.s.ents hm) ?_)
      unfold Nxt
      rw [show next e.id e.made e.l e.w = none from hq]
      dsimp only [Option.getD, Option.isSome]
      rintro x H' ⟨rfl, rfl⟩
      refine ⟨_, rfl, _, sCat, sConv, ?_⟩
      repeat (first | refine wLd1 ?_ | (refine kLd1 ?_; (first | rintro _ _ ⟨rfl, rfl⟩ | rintro _ _ ⟨_, rfl, rfl⟩ | rintro _ _ ⟨_, _, ⟨_, _⟩, rfl, rfl⟩); try refine ⟨sConv, ?_⟩) | refine Dr.two ?_ ?_)
      exact ret1 rfl sRet sConv (hsame)
  | some q =>
    by_cases hk : q.key = ⟨e.id, o, u⟩
    · have hhit : e.s.hit e.id ⟨e.id, o, u⟩ = true := by unfold S21.hit; rw [hq]; exact decide_eq_true hk
      rw [hhit]
      simp only [Bool.true_and, if_true]
      have hd : (!decide ((⟨⟨q.key.id.rep, q.key.id.seq⟩, q.key.ord, q.key.undo⟩ : Keyv) = ⟨⟨r, ((i + 1 : Nat) : Int)⟩, o, u⟩)) = false := by
        rw [show (⟨⟨q.key.id.rep, q.key.id.seq⟩, q.key.ord, q.key.undo⟩ : Keyv) = q.key from rfl, hk, hid, decide_eq_true rfl]; rfl
      unfold lst
      refine tri Try.func47 rfl Try.ntmps47 (by simp) ?_
      repeat (first | refine wLd1 ?_ | (refine kLd1 ?_; (first | rintro _ _ ⟨rfl, rfl⟩ | rintro _ _ ⟨_, rfl, rfl⟩ | rintro _ _ ⟨_, _, ⟨_, _⟩, rfl, rfl⟩); try refine ⟨sConv, ?_⟩) | refine Dr.two ?_ ?_)
      refine L.step (by decide) (S.call rfl rfl Try.func74 (by kernel_rfl) rfl sPicks (fun E' hE => lat_yes E' g B n d r ls i hn hi he) ?_)
      rintro x H' ⟨rfl, rfl⟩
      refine ⟨_, rfl, _, sCat, ?_⟩
      repeat (first | refine wLd1 ?_ | (refine kLd1 ?_; (first | rintro _ _ ⟨rfl, rfl⟩ | rintro _ _ ⟨_, rfl, rfl⟩ | rintro _ _ ⟨_, _, ⟨_, _⟩, rfl, rfl⟩); try refine ⟨sConv, ?_⟩) | refine Dr.two ?_ ?_)
      refine C.regionA 100000 (.one 0 false (.one 1 false (.one 2 false (.one 3 false (.one 4 false (.one 5 false (.one 6 false (.one 7 false (.two 8 (.one 9 false (.one 10 false (.one 11 false (.one 12 true (.one 13 true (.one 14 false .nil)))))) 12 (.one 8 true (.one 9 false (.one 10 false (.one 11 false (.one 13 true (.one 14 false .nil))))))))))))))) ([own lineT B n d ls]) (by kernel_rfl) (by kernel_rfl) sConv ?_
      repeat (first | refine vLd1 ?_ | (refine kLd1 ?_; (first | rintro _ _ ⟨rfl, rfl⟩ | rintro _ _ ⟨_, rfl, rfl⟩ | rintro _ _ ⟨_, _, ⟨_, _⟩, rfl, rfl⟩); try refine ⟨sConv, ?_⟩))
      refine Dr.two ?_ ?_
      · refine Go1.go rfl (by rintro k ⟨⟩ <;> decide) sGon (S.call rfl rfl Try.func67 (by kernel_rfl) rfl sPicks (fun E' hE => cnext E' e.id e.made e.A e.n e.c e.l e.w e.X e.nx e.cx (Sub.each (f := lStk) hE sHas he rfl) (Sub.each (f := lWnt) hE sHas he rfl) hoe.s.ents hm) ?_)
        unfold Nxt
        rw [show next e.id e.made e.l e.w = some q from hq]
        dsimp only [Option.getD, Option.isSome]
        rintro x H' ⟨rfl, rfl⟩
        refine ⟨_, rfl, _, sCat, sConv, ?_⟩
        repeat (first | refine wLd1 ?_ | (refine kLd1 ?_; (first | rintro _ _ ⟨rfl, rfl⟩ | rintro _ _ ⟨_, rfl, rfl⟩ | rintro _ _ ⟨_, _, ⟨_, _⟩, rfl, rfl⟩); try refine ⟨sConv, ?_⟩) | refine Dr.two ?_ ?_)
        apply C.conv; (· exact Conv.elt' (T := lineT) (A := B) (n := n) (c := d) (l := ls) (k := i) (e := e) (cs := [.int .i64 e.id.rep, .int .i64 e.id.seq, .int .i64 e.made, .slice e.A e.n e.c, .slice e.X e.nx e.cx]) he rfl sRepl)
        refine C.regionA 16 (.one 0 false (.one 1 false (.one 2 false (.one 3 false (.one 4 false (.one 5 false (.one 6 false (.one 7 false (.one 8 false (.one 9 false (.one 10 true (.one 11 false (.one 12 false (.one 14 false (.one 15 false (.two 13 (.one 16 true (.one 17 true .nil)) 16 (.one 13 true (.one 17 true .nil)))))))))))))))))) _ (by kernel_rfl) (by kernel_rfl) Conv.refl ?_
        repeat (first | refine wLd1 ?_ | (refine kLd1 ?_; (first | rintro _ _ ⟨rfl, rfl⟩ | rintro _ _ ⟨_, rfl, rfl⟩ | rintro _ _ ⟨_, _, ⟨_, _⟩, rfl, rfl⟩); try refine ⟨sConv, ?_⟩) | refine Dr.two ?_ ?_)
        refine Dr.go rfl (by rintro k ⟨⟩ <;> decide) sGon (S.call rfl rfl Try.func90 (by kernel_rfl) rfl sPicks (fun E' hE => ctry E' e.id e.made e.A e.n e.c e.l e.w e.X e.nx e.cx now (Sub.each (f := lStk) hE sHas he rfl) (Sub.each (f := lWnt) hE sHas he rfl) hnl hoe.s.ents hm) ?_)
        unfold TryPost
        rintro x H' ⟨A', n', c', rfl, hn', hc', rfl⟩
        refine ⟨_, rfl, _, sCat, sConv, ?_⟩
        obtain ⟨t, ht⟩ : ∃ t, (tried e.id e.made e.l e.w now).getD (e.made, e.l) = t := ⟨_, rfl⟩
        have hts : e.s.try_ e.id now = ⟨t.1, t.2, e.w⟩ := by unfold S21.try_ Lnv.s; dsimp only; rw [ht]
        rw [ht] at hn'
        rw [ht]
        have hnew : (⟨e.id, t.1, A', n', c', t.2, e.X, e.nx, e.cx, e.w⟩ : Lnv).ok r i := ⟨hid, hn', hc', hoe.nx, hoe.cx, by show (⟨t.1, t.2, e.w⟩ : S21).ok; rw [← hts]; exact htok⟩
        repeat (first | refine vLd1 ?_ | (refine kLd1 ?_; (first | rintro _ _ ⟨rfl, rfl⟩ | rintro _ _ ⟨_, rfl, rfl⟩ | rintro _ _ ⟨_, _, ⟨_, _⟩, rfl, rfl⟩); try refine ⟨sConv, ?_⟩))
        refine Dr.two ?_ ?_
        · repeat (first | refine wLd1 ?_ | (refine kLd1 ?_; (first | rintro _ _ ⟨rfl, rfl⟩ | rintro _ _ ⟨_, rfl, rfl⟩ | rintro _ _ ⟨_, _, ⟨_, _⟩, rfl, rfl⟩); try refine ⟨sConv, ?_⟩) | refine Dr.two ?_ ?_)
          refine postF_conv2 (Conv.swap (f := lStk) (l := ls) (i := i) (x := e) (x' := ⟨e.id, t.1, A', n', c', t.2, e.X, e.nx, e.cx, e.w⟩) he sPicks) ?_
          refine postF_conv2 (Conv.uneltL ⟨e.id, t.1, A', n', c', t.2, e.X, e.nx, e.cx, e.w⟩ rfl sRepl) ?_
          refine postF_conv2 (Conv.same (f := lWnt) (i := i) he (x' := ⟨e.id, t.1, A', n', c', t.2, e.X, e.nx, e.cx, e.w⟩) rfl sRepl) ?_
          exact ret1 rfl sRet sConv (⟨ls.set i ⟨e.id, t.1, A', n', c', t.2, e.X, e.nx, e.cx, e.w⟩, rfl, hok.set hnew, by simp, by rw [map_set, hts]; rfl, rfl⟩)
        · repeat (first | refine wLd1 ?_ | (refine kLd1 ?_; (first | rintro _ _ ⟨rfl, rfl⟩ | rintro _ _ ⟨_, rfl, rfl⟩ | rintro _ _ ⟨_, _, ⟨_, _⟩, rfl, rfl⟩); try refine ⟨sConv, ?_⟩) | refine Dr.two ?_ ?_)
          refine postF_conv2 (Conv.swap (f := lStk) (l := ls) (i := i) (x := e) (x' := ⟨e.id, t.1, A', n', c', t.2, e.X, e.nx, e.cx, e.w⟩) he sPicks) ?_
          refine postF_conv2 (Conv.uneltL ⟨e.id, t.1, A', n', c', t.2, e.X, e.nx, e.cx, e.w⟩ rfl sRepl) ?_
          refine postF_conv2 (Conv.same (f := lWnt) (i := i) he (x' := ⟨e.id, t.1, A', n', c', t.2, e.X, e.nx, e.cx, e.w⟩) rfl sRepl) ?_
          exact ret1 rfl sRet sConv (⟨ls.set i ⟨e.id, t.1, A', n', c', t.2, e.X, e.nx, e.cx, e.w⟩, rfl, hok.set hnew, by simp, by rw [map_set, hts]; rfl, rfl⟩)
      · repeat (first | refine vLd1 ?_ | (refine kLd1 ?_; (first | rintro _ _ ⟨rfl, rfl⟩ | rintro _ _ ⟨_, rfl, rfl⟩ | rintro _ _ ⟨_, _, ⟨_, _⟩, rfl, rfl⟩); try refine ⟨sConv, ?_⟩))
        refine Dr.go rfl (by rintro k ⟨⟩ <;> decide) sGon (S.call rfl rfl Try.func67 (by kernel_rfl) rfl sPicks (fun E' hE => cnext E' e.id e.made e.A e.n e.c e.l e.w e.X e.nx e.cx (Sub.each (f := lStk) hE sHas he rfl) (Sub.each (f := lWnt) hE sHas he rfl) hoe.s.ents hm) ?_)
        unfold Nxt
        rw [show next e.id e.made e.l e.w = some q from hq]
        dsimp only [Option.getD, Option.isSome]
        rintro x H' ⟨rfl, rfl⟩
        refine ⟨_, rfl, _, sCat, sConv, ?_⟩
        repeat (first | refine wLd1 ?_ | (refine kLd1 ?_; (first | rintro _ _ ⟨rfl, rfl⟩ | rintro _ _ ⟨_, rfl, rfl⟩ | rintro _ _ ⟨_, _, ⟨_, _⟩, rfl, rfl⟩); try refine ⟨sConv, ?_⟩) | refine Dr.two ?_ ?_)
        apply C.conv; (· exact Conv.elt' (T := lineT) (A := B) (n := n) (c := d) (l := ls) (k := i) (e := e) (cs := [.int .i64 e.id.rep, .int .i64 e.id.seq, .int .i64 e.made, .slice e.A e.n e.c, .slice e.X e.nx e.cx]) he rfl sRepl)
        refine C.regionA 16 (.one 0 false (.one 1 false (.one 2 false (.one 3 false (.one 4 false (.one 5 false (.one 6 false (.one 7 false (.one 8 false (.one 9 false (.one 10 true (.one 11 false (.one 12 false (.one 14 false (.one 15 false (.two 13 (.one 16 true (.one 17 true .nil)) 16 (.one 13 true (.one 17 true .nil)))))))))))))))))) _ (by kernel_rfl) (by kernel_rfl) Conv.refl ?_
        repeat (first | refine wLd1 ?_ | (refine kLd1 ?_; (first | rintro _ _ ⟨rfl, rfl⟩ | rintro _ _ ⟨_, rfl, rfl⟩ | rintro _ _ ⟨_, _, ⟨_, _⟩, rfl, rfl⟩); try refine ⟨sConv, ?_⟩) | refine Dr.two ?_ ?_)
        refine Dr.go rfl (by rintro k ⟨⟩ <;> decide) sGon (S.call rfl rfl Try.func90 (by kernel_rfl) rfl sPicks (fun E' hE => ctry E' e.id e.made e.A e.n e.c e.l e.w e.X e.nx e.cx now (Sub.each (f := lStk) hE sHas he rfl) (Sub.each (f := lWnt) hE sHas he rfl) hnl hoe.s.ents hm) ?_)
        unfold TryPost
        rintro x H' ⟨A', n', c', rfl, hn', hc', rfl⟩
        refine ⟨_, rfl, _, sCat, sConv, ?_⟩
        obtain ⟨t, ht⟩ : ∃ t, (tried e.id e.made e.l e.w now).getD (e.made, e.l) = t := ⟨_, rfl⟩
        have hts : e.s.try_ e.id now = ⟨t.1, t.2, e.w⟩ := by unfold S21.try_ Lnv.s; dsimp only; rw [ht]
        rw [ht] at hn'
        rw [ht]
        have hnew : (⟨e.id, t.1, A', n', c', t.2, e.X, e.nx, e.cx, e.w⟩ : Lnv).ok r i := ⟨hid, hn', hc', hoe.nx, hoe.cx, by show (⟨t.1, t.2, e.w⟩ : S21).ok; rw [← hts]; exact htok⟩
        repeat (first | refine vLd1 ?_ | (refine kLd1 ?_; (first | rintro _ _ ⟨rfl, rfl⟩ | rintro _ _ ⟨_, rfl, rfl⟩ | rintro _ _ ⟨_, _, ⟨_, _⟩, rfl, rfl⟩); try refine ⟨sConv, ?_⟩))
        refine Dr.two ?_ ?_
        · repeat (first | refine wLd1 ?_ | (refine kLd1 ?_; (first | rintro _ _ ⟨rfl, rfl⟩ | rintro _ _ ⟨_, rfl, rfl⟩ | rintro _ _ ⟨_, _, ⟨_, _⟩, rfl, rfl⟩); try refine ⟨sConv, ?_⟩) | refine Dr.two ?_ ?_)
          refine postF_conv2 (Conv.swap (f := lStk) (l := ls) (i := i) (x := e) (x' := ⟨e.id, t.1, A', n', c', t.2, e.X, e.nx, e.cx, e.w⟩) he sPicks) ?_
          refine postF_conv2 (Conv.uneltL ⟨e.id, t.1, A', n', c', t.2, e.X, e.nx, e.cx, e.w⟩ rfl sRepl) ?_
          refine postF_conv2 (Conv.same (f := lWnt) (i := i) he (x' := ⟨e.id, t.1, A', n', c', t.2, e.X, e.nx, e.cx, e.w⟩) rfl sRepl) ?_
          exact ret1 rfl sRet sConv (⟨ls.set i ⟨e.id, t.1, A', n', c', t.2, e.X, e.nx, e.cx, e.w⟩, rfl, hok.set hnew, by simp, by rw [map_set, hts]; rfl, rfl⟩)
        · repeat (first | refine wLd1 ?_ | (refine kLd1 ?_; (first | rintro _ _ ⟨rfl, rfl⟩ | rintro _ _ ⟨_, rfl, rfl⟩ | rintro _ _ ⟨_, _, ⟨_, _⟩, rfl, rfl⟩); try refine ⟨sConv, ?_⟩) | refine Dr.two ?_ ?_)
          refine postF_conv2 (Conv.swap (f := lStk) (l := ls) (i := i) (x := e) (x' := ⟨e.id, t.1, A', n', c', t.2, e.X, e.nx, e.cx, e.w⟩) he sPicks) ?_
          refine postF_conv2 (Conv.uneltL ⟨e.id, t.1, A', n', c', t.2, e.X, e.nx, e.cx, e.w⟩ rfl sRepl) ?_
          refine postF_conv2 (Conv.same (f := lWnt) (i := i) he (x' := ⟨e.id, t.1, A', n', c', t.2, e.X, e.nx, e.cx, e.w⟩) rfl sRepl) ?_
          exact ret1 rfl sRet sConv (⟨ls.set i ⟨e.id, t.1, A', n', c', t.2, e.X, e.nx, e.cx, e.w⟩, rfl, hok.set hnew, by simp, by rw [map_set, hts]; rfl, rfl⟩)
    · have hhit : e.s.hit e.id ⟨e.id, o, u⟩ = false := by unfold S21.hit; rw [hq]; exact decide_eq_false hk
      rw [hhit]
      simp only [Bool.false_and, Bool.false_eq_true, if_false]
      have hd : (!decide ((⟨⟨q.key.id.rep, q.key.id.seq⟩, q.key.ord, q.key.undo⟩ : Keyv) = ⟨⟨r, ((i + 1 : Nat) : Int)⟩, o, u⟩)) = true := by
        rw [show (⟨⟨q.key.id.rep, q.key.id.seq⟩, q.key.ord, q.key.undo⟩ : Keyv) = q.key from rfl, ← hid, decide_eq_false hk]; rfl
      unfold lst
      refine tri Try.func47 rfl Try.ntmps47 (by simp) ?_
      repeat (first | refine wLd1 ?_ | (refine kLd1 ?_; (first | rintro _ _ ⟨rfl, rfl⟩ | rintro _ _ ⟨_, rfl, rfl⟩ | rintro _ _ ⟨_, _, ⟨_, _⟩, rfl, rfl⟩); try refine ⟨sConv, ?_⟩) | refine Dr.two ?_ ?_)
      refine L.step (by decide) (S.call rfl rfl Try.func74 (by kernel_rfl) rfl sPicks (fun E' hE => lat_yes E' g B n d r ls i hn hi he) ?_)
      rintro x H' ⟨rfl, rfl⟩
      refine ⟨_, rfl, _, sCat, ?_⟩
      repeat (first | refine wLd1 ?_ | (refine kLd1 ?_; (first | rintro _ _ ⟨rfl, rfl⟩ | rintro _ _ ⟨_, rfl, rfl⟩ | rintro _ _ ⟨_, _, ⟨_, _⟩, rfl, rfl⟩); try refine ⟨sConv, ?_⟩) | refine Dr.two ?_ ?_)
      refine C.regionA 100000 (.one 0 false (.one 1 false (.one 2 false (.one 3 false (.one 4 false (.one 5 false (.one 6 false (.one 7 false (.two 8 (.one 9 false (.one 10 false (.one 11 false (.one 12 true (.one 13 true (.one 14 false .nil)))))) 12 (.one 8 true (.one 9 false (.one 10 false (.one 11 false (.one 13 true (.one 14 false .nil))))))))))))))) ([own lineT B n d ls]) (by kernel_rfl) (by kernel_rfl) sConv ?_
      repeat (first | refine vLd1 ?_ | (refine kLd1 ?_; (first | rintro _ _ ⟨rfl, rfl⟩ | rintro _ _ ⟨_, rfl, rfl⟩ | rintro _ _ ⟨_, _, ⟨_, _⟩, rfl, rfl⟩); try refine ⟨sConv, ?_⟩))
      refine Dr.two ?_ ?_
      · refine Go1.go rfl (by rintro k ⟨⟩ <;> decide) sGon (S.call rfl rfl Try.func67 (by kernel_rfl) rfl sPicks (fun E' hE => cnext E' e.id e.made e.A e.n e.c e.l e.w e.X e.nx e.cx (Sub.each (f := lStk) hE sHas he rfl) (Sub.each (f := lWnt) hE sHas he rfl) hoe.s.ents hm) ?_)
        unfold Nxt
        rw [show next e.id e.made e.l e.w = some q from hq]
        dsimp only [Option.getD, Option.isSome]
        rintro x H' ⟨rfl, rfl⟩
        refine ⟨_, rfl, _, sCat, sConv, ?_⟩
        repeat (first | refine wLd1 ?_ | (refine kLd1 ?_; (first | rintro _ _ ⟨rfl, rfl⟩ | rintro _ _ ⟨_, rfl, rfl⟩ | rintro _ _ ⟨_, _, ⟨_, _⟩, rfl, rfl⟩); try refine ⟨sConv, ?_⟩) | refine Dr.two ?_ ?_)
        exact ret1 rfl sRet sConv (hsame)
      · repeat (first | refine vLd1 ?_ | (refine kLd1 ?_; (first | rintro _ _ ⟨rfl, rfl⟩ | rintro _ _ ⟨_, rfl, rfl⟩ | rintro _ _ ⟨_, _, ⟨_, _⟩, rfl, rfl⟩); try refine ⟨sConv, ?_⟩))
        refine Dr.go rfl (by rintro k ⟨⟩ <;> decide) sGon (S.call rfl rfl Try.func67 (by kernel_rfl) rfl sPicks (fun E' hE => cnext E' e.id e.made e.A e.n e.c e.l e.w e.X e.nx e.cx (Sub.each (f := lStk) hE sHas he rfl) (Sub.each (f := lWnt) hE sHas he rfl) hoe.s.ents hm) ?_)
        unfold Nxt
        rw [show next e.id e.made e.l e.w = some q from hq]
        dsimp only [Option.getD, Option.isSome]
        rintro x H' ⟨rfl, rfl⟩
        refine ⟨_, rfl, _, sCat, sConv, ?_⟩
        repeat (first | refine wLd1 ?_ | (refine kLd1 ?_; (first | rintro _ _ ⟨rfl, rfl⟩ | rintro _ _ ⟨_, rfl, rfl⟩ | rintro _ _ ⟨_, _, ⟨_, _⟩, rfl, rfl⟩); try refine ⟨sConv, ?_⟩) | refine Dr.two ?_ ?_)
        exact ret1 rfl sRet sConv (hsame)
theorem lack_nil (k : Keyv) : Tri Try.prog E 48 #[.pointer none, .agg k.cs.toArray] [] fun e H' => e = .returned (.bool false) ∧ H' = [] := by
  refine tri Try.func48 rfl Try.ntmps48 (by simp) ?_
  repeat (first | refine wLd1 ?_ | (refine kLd1 ?_; (first | rintro _ _ ⟨rfl, rfl⟩ | rintro _ _ ⟨_, rfl, rfl⟩ | rintro _ _ ⟨_, _, ⟨_, _⟩, rfl, rfl⟩); try refine ⟨sConv, ?_⟩) | refine Dr.two ?_ ?_)
  refine L.step (by decide) (S.call rfl rfl Try.func74 (by kernel_rfl) rfl sPicks (fun E' hE => lat_nil E' k.id) ?_)
  rintro e H' ⟨rfl, rfl⟩
  refine ⟨_, rfl, _, sCat, ?_⟩
  repeat (first | refine wLd1 ?_ | (refine kLd1 ?_; (first | rintro _ _ ⟨rfl, rfl⟩ | rintro _ _ ⟨_, rfl, rfl⟩ | rintro _ _ ⟨_, _, ⟨_, _⟩, rfl, rfl⟩); try refine ⟨sConv, ?_⟩) | refine Dr.two ?_ ?_)
  exact ret1 rfl sRet sConv (⟨rfl, rfl⟩)
theorem lack_odd (k : Keyv) : Tri Try.prog E 48 #[.pointer (some ⟨g, 0, none⟩), .agg k.cs.toArray] [odd g] fun e H' => e = .returned (.bool false) ∧ H' = [odd g] := by
  refine tri Try.func48 rfl Try.ntmps48 (by simp) ?_
  repeat (first | refine wLd1 ?_ | (refine kLd1 ?_; (first | rintro _ _ ⟨rfl, rfl⟩ | rintro _ _ ⟨_, rfl, rfl⟩ | rintro _ _ ⟨_, _, ⟨_, _⟩, rfl, rfl⟩); try refine ⟨sConv, ?_⟩) | refine Dr.two ?_ ?_)
  refine L.step (by decide) (S.call rfl rfl Try.func74 (by kernel_rfl) rfl sPicks (fun E' hE => lat_odd E' g k.id) ?_)
  rintro e H' ⟨rfl, rfl⟩
  refine ⟨_, rfl, _, sCat, ?_⟩
  repeat (first | refine wLd1 ?_ | (refine kLd1 ?_; (first | rintro _ _ ⟨rfl, rfl⟩ | rintro _ _ ⟨_, rfl, rfl⟩ | rintro _ _ ⟨_, _, ⟨_, _⟩, rfl, rfl⟩); try refine ⟨sConv, ?_⟩) | refine Dr.two ?_ ?_)
  exact ret1 rfl sRet sConv (⟨rfl, rfl⟩)
theorem lack_no (k : Keyv) (hn : n ≤ 100000) (h : ¬ Here r n k.id) : Tri Try.prog E 48 #[.pointer (some ⟨g, 0, none⟩), .agg k.cs.toArray] [lg g B n d r] fun e H' => e = .returned (.bool false) ∧ H' = [lg g B n d r] := by
  refine tri Try.func48 rfl Try.ntmps48 (by simp) ?_
  repeat (first | refine wLd1 ?_ | (refine kLd1 ?_; (first | rintro _ _ ⟨rfl, rfl⟩ | rintro _ _ ⟨_, rfl, rfl⟩ | rintro _ _ ⟨_, _, ⟨_, _⟩, rfl, rfl⟩); try refine ⟨sConv, ?_⟩) | refine Dr.two ?_ ?_)
  refine L.step (by decide) (S.call rfl rfl Try.func74 (by kernel_rfl) rfl sPicks (fun E' hE => lat_no E' g B n d r k.id hn h) ?_)
  rintro e H' ⟨rfl, rfl⟩
  refine ⟨_, rfl, _, sCat, ?_⟩
  repeat (first | refine wLd1 ?_ | (refine kLd1 ?_; (first | rintro _ _ ⟨rfl, rfl⟩ | rintro _ _ ⟨_, rfl, rfl⟩ | rintro _ _ ⟨_, _, ⟨_, _⟩, rfl, rfl⟩); try refine ⟨sConv, ?_⟩) | refine Dr.two ?_ ?_)
  exact ret1 rfl sRet sConv (⟨rfl, rfl⟩)
theorem lack (i : Nat) (hn : n ≤ 100000) (hi : i < n) (hok : LOk r ls) {e : Lnv} (he : ls[i]? = some e) (o : Int) (u : Bool) :
    Tri Try.prog E 48 #[.pointer (some ⟨g, 0, none⟩), .agg #[.int .i64 r, .int .i64 ((i + 1 : Nat) : Int), .int .i64 o, .bool u]] (lst g B n d r ls)
      (LPost g B n d r ls i (e.s.ack e.id ⟨e.id, o, u⟩) (acked e.id e.l ⟨e.id, o, u⟩).isSome) := by
  have hoe := hok i e he
  have hid := hoe.id
  have hnl : e.n ≤ 1000000 := by have h1 := hoe.s.len; have h2 := hoe.s.made1; have h3 := hoe.n; unfold Lnv.s at h1 h2; dsimp only at h1 h2; omega
  have haok := S21.ack_ok (id := e.id) (k := ⟨e.id, o, u⟩) hoe.s
  have hkk : (⟨⟨r, ((i + 1 : Nat) : Int)⟩, o, u⟩ : Keyv) = ⟨e.id, o, u⟩ := by rw [hid]
  unfold lst
  refine tri Try.func48 rfl Try.ntmps48 (by simp) ?_
  repeat (first | refine wLd1 ?_ | (refine kLd1 ?_; (first | rintro _ _ ⟨rfl, rfl⟩ | rintro _ _ ⟨_, rfl, rfl⟩ | rintro _ _ ⟨_, _, ⟨_, _⟩, rfl, rfl⟩); try refine ⟨sConv, ?_⟩) | refine Dr.two ?_ ?_)
  rename_i g3
  refine L.step (by decide) (S.call rfl rfl Try.func74 (by kernel_rfl) rfl sPicks (fun E' hE => lat_yes E' g B n d r ls i hn hi he) ?_)
  rintro x H' ⟨rfl, rfl⟩
  refine ⟨_, rfl, _, sCat, ?_⟩
  repeat (first | refine wLd1 ?_ | (refine kLd1 ?_; (first | rintro _ _ ⟨rfl, rfl⟩ | rintro _ _ ⟨_, rfl, rfl⟩ | rintro _ _ ⟨_, _, ⟨_, _⟩, rfl, rfl⟩); try refine ⟨sConv, ?_⟩) | refine Dr.two ?_ ?_)
  refine C.regionA 100000 (.one 0 false (.one 1 false (.one 2 false (.one 3 false (.one 4 false (.two 5 (.one 6 false (.one 7 false (.one 8 false (.one 9 true (.one 10 true (.one 11 false .nil)))))) 9 (.one 5 true (.one 6 false (.one 7 false (.one 8 false (.one 10 true (.one 11 false .nil)))))))))))) ([own lineT B n d ls, blk g3 45 [.int .i64 r, .int .i64 ((i + 1 : Nat) : Int), .int .i64 o, .bool u]]) (by kernel_rfl) (by kernel_rfl) sConv ?_
  repeat (first | refine vLd1 ?_ | (refine kLd1 ?_; (first | rintro _ _ ⟨rfl, rfl⟩ | rintro _ _ ⟨_, rfl, rfl⟩ | rintro _ _ ⟨_, _, ⟨_, _⟩, rfl, rfl⟩); try refine ⟨sConv, ?_⟩))
  refine Dr.two ?_ ?_
  · refine Go1.go rfl (by rintro k ⟨⟩ <;> decide) sGon (S.call rfl rfl Try.func91 (by kernel_rfl) rfl sPicks (fun E' hE => (show Tri _ _ _ #[.agg #[.int .i64 e.id.rep, .int .i64 e.id.seq, .int .i64 e.made, .slice e.A e.n e.c], .agg #[.int .i64 r, .int .i64 ((i + 1 : Nat) : Int), .int .i64 o, .bool u]] _ _ from cack E' e.id e.made e.A e.n e.c e.l ⟨⟨r, ((i + 1 : Nat) : Int)⟩, o, u⟩ (Sub.each (f := lStk) hE sHas he rfl) hnl)) ?_)
    unfold AckPost
    rw [hkk]
    rintro x H' ⟨A', n', c', rfl, hn', hc', rfl⟩
    refine ⟨_, rfl, _, sCat, sConv, ?_⟩
    repeat (first | refine wLd1 ?_ | (refine kLd1 ?_; (first | rintro _ _ ⟨rfl, rfl⟩ | rintro _ _ ⟨_, rfl, rfl⟩ | rintro _ _ ⟨_, _, ⟨_, _⟩, rfl, rfl⟩); try refine ⟨sConv, ?_⟩) | refine Dr.two ?_ ?_)
    apply L.conv; (· exact Conv.elt' (T := lineT) (A := B) (n := n) (c := d) (l := ls) (k := i) (e := e) (cs := [.int .i64 e.id.rep, .int .i64 e.id.seq, .int .i64 e.made, .slice e.A e.n e.c, .slice e.X e.nx e.cx]) he rfl sRepl)
    repeat (first | refine wLd1 ?_ | (refine kLd1 ?_; (first | rintro _ _ ⟨rfl, rfl⟩ | rintro _ _ ⟨_, rfl, rfl⟩ | rintro _ _ ⟨_, _, ⟨_, _⟩, rfl, rfl⟩); try refine ⟨sConv, ?_⟩) | refine Dr.two ?_ ?_)
    have hnew : (⟨e.id, e.made, A', n', c', (acked e.id e.l ⟨e.id, o, u⟩).getD e.l, e.X, e.nx, e.cx, e.w⟩ : Lnv).ok r i := ⟨hid, hn', hc', hoe.nx, hoe.cx, haok⟩
    refine postF_conv2 (Conv.swap (f := lStk) (l := ls) (i := i) (x := e) (x' := ⟨e.id, e.made, A', n', c', (acked e.id e.l ⟨e.id, o, u⟩).getD e.l, e.X, e.nx, e.cx, e.w⟩) he sPicks) ?_
    refine postF_conv2 (Conv.uneltL ⟨e.id, e.made, A', n', c', (acked e.id e.l ⟨e.id, o, u⟩).getD e.l, e.X, e.nx, e.cx, e.w⟩ rfl sRepl) ?_
    refine postF_conv2 (Conv.same (f := lWnt) (i := i) he (x' := ⟨e.id, e.made, A', n', c', (acked e.id e.l ⟨e.id, o, u⟩).getD e.l, e.X, e.nx, e.cx, e.w⟩) rfl sRepl) ?_
    exact ret1 rfl sRet sConv (⟨ls.set i ⟨e.id, e.made, A', n', c', (acked e.id e.l ⟨e.id, o, u⟩).getD e.l, e.X, e.nx, e.cx, e.w⟩, rfl, hok.set hnew, by simp, by rw [map_set]; rfl, rfl⟩)
  · repeat (first | refine vLd1 ?_ | (refine kLd1 ?_; (first | rintro _ _ ⟨rfl, rfl⟩ | rintro _ _ ⟨_, rfl, rfl⟩ | rintro _ _ ⟨_, _, ⟨_, _⟩, rfl, rfl⟩); try refine ⟨sConv, ?_⟩))
    refine Dr.go rfl (by rintro k ⟨⟩ <;> decide) sGon (S.call rfl rfl Try.func91 (by kernel_rfl) rfl sPicks (fun E' hE => (show Tri _ _ _ #[.agg #[.int .i64 e.id.rep, .int .i64 e.id.seq, .int .i64 e.made, .slice e.A e.n e.c], .agg #[.int .i64 r, .int .i64 ((i + 1 : Nat) : Int), .int .i64 o, .bool u]] _ _ from cack E' e.id e.made e.A e.n e.c e.l ⟨⟨r, ((i + 1 : Nat) : Int)⟩, o, u⟩ (Sub.each (f := lStk) hE sHas he rfl) hnl)) ?_)
    unfold AckPost
    rw [hkk]
    rintro x H' ⟨A', n', c', rfl, hn', hc', rfl⟩
    refine ⟨_, rfl, _, sCat, sConv, ?_⟩
    repeat (first | refine wLd1 ?_ | (refine kLd1 ?_; (first | rintro _ _ ⟨rfl, rfl⟩ | rintro _ _ ⟨_, rfl, rfl⟩ | rintro _ _ ⟨_, _, ⟨_, _⟩, rfl, rfl⟩); try refine ⟨sConv, ?_⟩) | refine Dr.two ?_ ?_)
    apply L.conv; (· exact Conv.elt' (T := lineT) (A := B) (n := n) (c := d) (l := ls) (k := i) (e := e) (cs := [.int .i64 e.id.rep, .int .i64 e.id.seq, .int .i64 e.made, .slice e.A e.n e.c, .slice e.X e.nx e.cx]) he rfl sRepl)
    repeat (first | refine wLd1 ?_ | (refine kLd1 ?_; (first | rintro _ _ ⟨rfl, rfl⟩ | rintro _ _ ⟨_, rfl, rfl⟩ | rintro _ _ ⟨_, _, ⟨_, _⟩, rfl, rfl⟩); try refine ⟨sConv, ?_⟩) | refine Dr.two ?_ ?_)
    have hnew : (⟨e.id, e.made, A', n', c', (acked e.id e.l ⟨e.id, o, u⟩).getD e.l, e.X, e.nx, e.cx, e.w⟩ : Lnv).ok r i := ⟨hid, hn', hc', hoe.nx, hoe.cx, haok⟩
    refine postF_conv2 (Conv.swap (f := lStk) (l := ls) (i := i) (x := e) (x' := ⟨e.id, e.made, A', n', c', (acked e.id e.l ⟨e.id, o, u⟩).getD e.l, e.X, e.nx, e.cx, e.w⟩) he sPicks) ?_
    refine postF_conv2 (Conv.uneltL ⟨e.id, e.made, A', n', c', (acked e.id e.l ⟨e.id, o, u⟩).getD e.l, e.X, e.nx, e.cx, e.w⟩ rfl sRepl) ?_
    refine postF_conv2 (Conv.same (f := lWnt) (i := i) he (x' := ⟨e.id, e.made, A', n', c', (acked e.id e.l ⟨e.id, o, u⟩).getD e.l, e.X, e.nx, e.cx, e.w⟩) rfl sRepl) ?_
    exact ret1 rfl sRet sConv (⟨ls.set i ⟨e.id, e.made, A', n', c', (acked e.id e.l ⟨e.id, o, u⟩).getD e.l, e.X, e.nx, e.cx, e.w⟩, rfl, hok.set hnew, by simp, by rw [map_set]; rfl, rfl⟩)
end
end Go.Proofs.Ytkhmplaocfjpjaa.Sep
