/- the law of the ledger: the book tries, answers and puts; by parts of memory. -/
import Derived.Test.YtkhmplaocfjpjaaLed7
namespace Go.Proofs.Ytkhmplaocfjpjaa.Sep
open Go.RowKit Go.Proofs.Ytkhmplaocfjpjaa.Reg
open Go.Proofs.Ytkhmplaocfjpjaa.Mem hiding Rd Own
-- types: entT enrT effT lineT rchT chvT efsT op22T keyT reqT
-- recs: idnT_rec effT_rec cfgT_rec entT_rec enrT_rec keyT_rec reqT_rec chain_rec chref_rec op22T_rec lineT_rec ledger_rec bk22_rec
-- eqs: idnT_eqa effT_eqa entT_eqa enrT_eqa keyT_eqa reqT_eqa
-- funcs
-- flds
-- elts
set_option maxRecDepth 100000
set_option maxHeartbeats 4000000
theorem Dr.goZc {P : Program} {N : Nat} {E : Env} {z : Nat} {Q : QF} {F : Nat → Value} {H : List Asn} {todo : Td} {l : List Oper} {Hk : List Asn} {d : Option Nat} {op : Op} {ty : TypeId} {pos : String} {af : Array Edge} {gd : Option (Nat × Bool)} (hi : nth l z = some ⟨d, op, ty, pos, af, gd⟩) (hd : ∀ k, d = some k → k < N) (hg : Grd l N F true gd)
    (h : Stp P N E F H ⟨d, op, ty, pos, af, gd⟩ fun v H' => DrA P N E z l Q todo (updo F d v) H') : Dr P N E z l Q Hk (.one z true todo) F H := Dr.goZs hi hd hg h fun _ _ hk => hk
section
variable (E : Env) (g : Nat) (B : Option Addr) (n d : Nat) (r : Int) (ls : List Lnv)
theorem btry (i : Nat) (hn : n ≤ 100000) (hi : i < n) (hok : LOk r ls) {e : Lnv} (he : ls[i]? = some e) (o : Int) (u : Bool) (now : Int) (hnow : I64 now) :
    Tri Try.prog E 104 #[.pointer (some ⟨g, 0, none⟩), .agg #[.int .i64 r, .int .i64 ((i + 1 : Nat) : Int), .int .i64 o, .bool u], .int .i64 now] (bst g B n d r ls)
      (BPost g B n d r ls i (if e.s.hit e.id ⟨e.id, o, u⟩ then e.s.try_ e.id now else e.s) (e.s.hit e.id ⟨e.id, o, u⟩ && (tried e.id e.made e.l e.w now).isSome)) := by
  have hoe := hok i e he
  have hid := hoe.id
  have hlt : i < ls.length := (List.getElem?_eq_some_iff.1 he).1
  have hm : I64 e.made := by have := hoe.s.made0; have := hoe.s.made1; unfold I64; unfold Lnv.s at *; dsimp only at *; omega
  have hnl : e.n ≤ 1000000 := by have h1 := hoe.s.len; have h2 := hoe.s.made1; have h3 := hoe.n; unfold Lnv.s at h1 h2; dsimp only at h1 h2; omega
  have hsame := BPost.same (g := g) (B := B) (n := n) (d := d) he hok
  have htok := S21.try_ok (id := e.id) hoe.s hnow
  cases hq : e.s.nxt e.id with
  | none =>
    have hhit : e.s.hit e.id ⟨e.id, o, u⟩ = false := by unfold S21.hit; rw [hq]
    rw [hhit]
    simp only [Bool.false_and, Bool.false_eq_true, if_false]
    unfold bst
    refine tri Try.func104 rfl Try.ntmps104 (by simp) ?_
    repeat (first | refine wLd1 ?_ | (refine kLd1 ?_; (first | rintro _ _ ⟨rfl, rfl⟩ | rintro _ _ ⟨_, rfl, rfl⟩ | rintro _ _ ⟨_, _, ⟨_, _⟩, rfl, rfl⟩); try refine ⟨sConv, ?_⟩) | refine Dr.two ?_ ?_)
    refine L.step (by decide) (S.call rfl rfl Try.func29 (by kernel_rfl) rfl sPicks (fun E' hE => bat_yes E' g B n d r i hn hi) ?_)
    rintro x H' ⟨rfl, rfl⟩
    refine ⟨_, rfl, _, sCat, ?_⟩
    repeat (first | refine wLd1 ?_ | (refine kLd1 ?_; (first | rintro _ _ ⟨rfl, rfl⟩ | rintro _ _ ⟨_, rfl, rfl⟩ | rintro _ _ ⟨_, _, ⟨_, _⟩, rfl, rfl⟩); try refine ⟨sConv, ?_⟩) | refine Dr.two ?_ ?_)
    apply L.conv; (· exact Conv.elt' (T := rchT) (A := B) (n := n) (c := d) (l := ls) (k := i) (e := e) (cs := [.int .i64 e.id.rep, .int .i64 e.id.seq, .int .i64 e.made, .slice e.A e.n e.c, .slice e.X e.nx e.cx]) he rfl sRepl)
    refine L.step (by decide) (S.call rfl rfl Try.func17 (by kernel_rfl) rfl sPicks (fun E' hE => rnextE E' B n d ls i e.id e.made e.A e.n e.c e.l e.w e.X e.nx e.cx (Sub.each (f := bStk) hE sHas he rfl) (Sub.each (f := lWnt) hE sHas he rfl) hm) ?_)
    unfold Nxt
    rw [show next e.id e.made e.l e.w = none from hq]
    dsimp only [Option.getD, Option.isSome]
    rintro x H' ⟨rfl, rfl⟩
    refine ⟨_, rfl, _, sCat, ?_⟩
    apply L.conv; (· exact Conv.uneltB e (set_same he) sRepl)
    repeat (first | refine wLd1 ?_ | (refine kLd1 ?_; (first | rintro _ _ ⟨rfl, rfl⟩ | rintro _ _ ⟨_, rfl, rfl⟩ | rintro _ _ ⟨_, _, ⟨_, _⟩, rfl, rfl⟩); try refine ⟨sConv, ?_⟩) | refine Dr.two ?_ ?_)
    exact ret1 rfl sRet sConv (hsame)
  | some q =>
    by_cases hk : q.key = ⟨e.id, o, u⟩
    · have hhit : e.s.hit e.id ⟨e.id, o, u⟩ = true := by unfold S21.hit; rw [hq]; exact decide_eq_true hk
      rw [hhit]
      simp only [Bool.true_and, if_true]
      have hd : decide ((⟨⟨q.key.id.rep, q.key.id.seq⟩, q.key.ord, q.key.undo⟩ : Keyv) = ⟨⟨r, ((i + 1 : Nat) : Int)⟩, o, u⟩) = true := by
        rw [show (⟨⟨q.key.id.rep, q.key.id.seq⟩, q.key.ord, q.key.undo⟩ : Keyv) = q.key from rfl, hk, hid, decide_eq_true rfl]
      unfold bst
      refine tri Try.func104 rfl Try.ntmps104 (by simp) ?_
      repeat (first | refine wLd1 ?_ | (refine kLd1 ?_; (first | rintro _ _ ⟨rfl, rfl⟩ | rintro _ _ ⟨_, rfl, rfl⟩ | rintro _ _ ⟨_, _, ⟨_, _⟩, rfl, rfl⟩); try refine ⟨sConv, ?_⟩) | refine Dr.two ?_ ?_)
      refine L.step (by decide) (S.call rfl rfl Try.func29 (by kernel_rfl) rfl sPicks (fun E' hE => bat_yes E' g B n d r i hn hi) ?_)
      rintro x H' ⟨rfl, rfl⟩
      refine ⟨_, rfl, _, sCat, ?_⟩
      repeat (first | refine wLd1 ?_ | (refine kLd1 ?_; (first | rintro _ _ ⟨rfl, rfl⟩ | rintro _ _ ⟨_, rfl, rfl⟩ | rintro _ _ ⟨_, _, ⟨_, _⟩, rfl, rfl⟩); try refine ⟨sConv, ?_⟩) | refine Dr.two ?_ ?_)
      apply L.conv; (· exact Conv.elt' (T := rchT) (A := B) (n := n) (c := d) (l := ls) (k := i) (e := e) (cs := [.int .i64 e.id.rep, .int .i64 e.id.seq, .int .i64 e.made, .slice e.A e.n e.c, .slice e.X e.nx e.cx]) he rfl sRepl)
      refine L.step (by decide) (S.call rfl rfl Try.func17 (by kernel_rfl) rfl sPicks (fun E' hE => rnextE E' B n d ls i e.id e.made e.A e.n e.c e.l e.w e.X e.nx e.cx (Sub.each (f := bStk) hE sHas he rfl) (Sub.each (f := lWnt) hE sHas he rfl) hm) ?_)
      unfold Nxt
      rw [show next e.id e.made e.l e.w = some q from hq]
      dsimp only [Option.getD, Option.isSome]
      rintro x H' ⟨rfl, rfl⟩
      refine ⟨_, rfl, _, sCat, ?_⟩
      apply L.conv; (· exact Conv.uneltB e (set_same he) sRepl)
      repeat (first | refine wLd1 ?_ | (refine kLd1 ?_; (first | rintro _ _ ⟨rfl, rfl⟩ | rintro _ _ ⟨_, rfl, rfl⟩ | rintro _ _ ⟨_, _, ⟨_, _⟩, rfl, rfl⟩); try refine ⟨sConv, ?_⟩) | refine Dr.two ?_ ?_)
      apply L.conv; (· exact Conv.elt' (T := rchT) (A := B) (n := n) (c := d) (l := ls) (k := i) (e := e) (cs := [.int .i64 e.id.rep, .int .i64 e.id.seq, .int .i64 e.made, .slice e.A e.n e.c, .slice e.X e.nx e.cx]) he rfl sRepl)
      apply L.conv; (· exact Conv.out (f := bStk) (l := ls) sHas he)
      refine L.step (by decide) (S.call rfl rfl Try.func130 (by kernel_rfl) rfl sPicks (fun E' hE => rtryE E' B n d ls i e.id e.made e.A e.n e.c e.l e.w e.X e.nx e.cx now (Sub.each (f := lWnt) hE sHas he rfl) hoe.n hoe.c hnl hoe.s.ents hm) ?_)
      unfold RTryE
      rintro x H' ⟨A', n', c', rfl, hn', hc', rfl⟩
      refine ⟨_, rfl, _, sCat, ?_⟩
      obtain ⟨t, ht⟩ : ∃ t, (tried e.id e.made e.l e.w now).getD (e.made, e.l) = t := ⟨_, rfl⟩
      have hts : e.s.try_ e.id now = ⟨t.1, t.2, e.w⟩ := by unfold S21.try_ Lnv.s; dsimp only; rw [ht]
      rw [ht] at hn'
      rw [ht]
      have hnew : (⟨e.id, t.1, A', n', c', t.2, e.X, e.nx, e.cx, e.w⟩ : Lnv).ok r i := ⟨hid, hn', hc', hoe.nx, hoe.cx, by show (⟨t.1, t.2, e.w⟩ : S21).ok; rw [← hts]; exact htok⟩
      repeat (first | refine wLd1 ?_ | (refine kLd1 ?_; (first | rintro _ _ ⟨rfl, rfl⟩ | rintro _ _ ⟨_, rfl, rfl⟩ | rintro _ _ ⟨_, _, ⟨_, _⟩, rfl, rfl⟩); try refine ⟨sConv, ?_⟩) | refine Dr.two ?_ ?_)
      refine postF_conv2 (Conv.in_ (f := bStk) (l := ls.eraseIdx i) (l' := ls.set i ⟨e.id, t.1, A', n', c', t.2, e.X, e.nx, e.cx, e.w⟩) (i := i) (x := ⟨e.id, t.1, A', n', c', t.2, e.X, e.nx, e.cx, e.w⟩) sPicks (erase_set hlt)) ?_
      refine postF_conv2 (Conv.uneltB ⟨e.id, t.1, A', n', c', t.2, e.X, e.nx, e.cx, e.w⟩ rfl sRepl) ?_
      refine postF_conv2 (Conv.same (f := lWnt) (i := i) he (x' := ⟨e.id, t.1, A', n', c', t.2, e.X, e.nx, e.cx, e.w⟩) rfl sRepl) ?_
      exact ret1 rfl sRet sConv (⟨ls.set i ⟨e.id, t.1, A', n', c', t.2, e.X, e.nx, e.cx, e.w⟩, rfl, hok.set hnew, by simp, by rw [map_set, hts]; rfl, rfl⟩)
    · have hhit : e.s.hit e.id ⟨e.id, o, u⟩ = false := by unfold S21.hit; rw [hq]; exact decide_eq_false hk
      rw [hhit]
      simp only [Bool.false_and, Bool.false_eq_true, if_false]
      have hd : decide ((⟨⟨q.key.id.rep, q.key.id.seq⟩, q.key.ord, q.key.undo⟩ : Keyv) = ⟨⟨r, ((i + 1 : Nat) : Int)⟩, o, u⟩) = false := by
        rw [show (⟨⟨q.key.id.rep, q.key.id.seq⟩, q.key.ord, q.key.undo⟩ : Keyv) = q.key from rfl, ← hid, decide_eq_false hk]
      unfold bst
      refine tri Try.func104 rfl Try.ntmps104 (by simp) ?_
      repeat (first | refine wLd1 ?_ | (refine kLd1 ?_; (first | rintro _ _ ⟨rfl, rfl⟩ | rintro _ _ ⟨_, rfl, rfl⟩ | rintro _ _ ⟨_, _, ⟨_, _⟩, rfl, rfl⟩); try refine ⟨sConv, ?_⟩) | refine Dr.two ?_ ?_)
      refine L.step (by decide) (S.call rfl rfl Try.func29 (by kernel_rfl) rfl sPicks (fun E' hE => bat_yes E' g B n d r i hn hi) ?_)
      rintro x H' ⟨rfl, rfl⟩
      refine ⟨_, rfl, _, sCat, ?_⟩
      repeat (first | refine wLd1 ?_ | (refine kLd1 ?_; (first | rintro _ _ ⟨rfl, rfl⟩ | rintro _ _ ⟨_, rfl, rfl⟩ | rintro _ _ ⟨_, _, ⟨_, _⟩, rfl, rfl⟩); try refine ⟨sConv, ?_⟩) | refine Dr.two ?_ ?_)
      apply L.conv; (· exact Conv.elt' (T := rchT) (A := B) (n := n) (c := d) (l := ls) (k := i) (e := e) (cs := [.int .i64 e.id.rep, .int .i64 e.id.seq, .int .i64 e.made, .slice e.A e.n e.c, .slice e.X e.nx e.cx]) he rfl sRepl)
      refine L.step (by decide) (S.call rfl rfl Try.func17 (by kernel_rfl) rfl sPicks (fun E' hE => rnextE E' B n d ls i e.id e.made e.A e.n e.c e.l e.w e.X e.nx e.cx (Sub.each (f := bStk) hE sHas he rfl) (Sub.each (f := lWnt) hE sHas he rfl) hm) ?_)
      unfold Nxt
      rw [show next e.id e.made e.l e.w = some q from hq]
      dsimp only [Option.getD, Option.isSome]
      rintro x H' ⟨rfl, rfl⟩
      refine ⟨_, rfl, _, sCat, ?_⟩
      apply L.conv; (· exact Conv.uneltB e (set_same he) sRepl)
      repeat (first | refine wLd1 ?_ | (refine kLd1 ?_; (first | rintro _ _ ⟨rfl, rfl⟩ | rintro _ _ ⟨_, rfl, rfl⟩ | rintro _ _ ⟨_, _, ⟨_, _⟩, rfl, rfl⟩); try refine ⟨sConv, ?_⟩) | refine Dr.two ?_ ?_)
      exact ret1 rfl sRet sConv (hsame)
theorem back (i : Nat) (hn : n ≤ 100000) (hi : i < n) (hok : LOk r ls) {e : Lnv} (he : ls[i]? = some e) (o : Int) (u : Bool) :
    Tri Try.prog E 105 #[.pointer (some ⟨g, 0, none⟩), .agg #[.int .i64 r, .int .i64 ((i + 1 : Nat) : Int), .int .i64 o, .bool u]] (bst g B n d r ls)
      (BPost g B n d r ls i (e.s.ack e.id ⟨e.id, o, u⟩) (acked e.id e.l ⟨e.id, o, u⟩).isSome) := by
  have hoe := hok i e he
  have hid := hoe.id
  have hlt : i < ls.length := (List.getElem?_eq_some_iff.1 he).1
  have hnl : e.n ≤ 1000000 := by have h1 := hoe.s.len; have h2 := hoe.s.made1; have h3 := hoe.n; unfold Lnv.s at h1 h2; dsimp only at h1 h2; omega
  have haok := S21.ack_ok (id := e.id) (k := ⟨e.id, o, u⟩) hoe.s
  have hkk : (⟨⟨r, ((i + 1 : Nat) : Int)⟩, o, u⟩ : Keyv) = ⟨e.id, o, u⟩ := by rw [hid]
  unfold bst
  refine tri Try.func105 rfl Try.ntmps105 (by simp) ?_
  repeat (first | refine wLd1 ?_ | (refine kLd1 ?_; (first | rintro _ _ ⟨rfl, rfl⟩ | rintro _ _ ⟨_, rfl, rfl⟩ | rintro _ _ ⟨_, _, ⟨_, _⟩, rfl, rfl⟩); try refine ⟨sConv, ?_⟩) | refine Dr.two ?_ ?_)
  refine L.step (by decide) (S.call rfl rfl Try.func29 (by kernel_rfl) rfl sPicks (fun E' hE => bat_yes E' g B n d r i hn hi) ?_)
  rintro x H' ⟨rfl, rfl⟩
  refine ⟨_, rfl, _, sCat, ?_⟩
  repeat (first | refine wLd1 ?_ | (refine kLd1 ?_; (first | rintro _ _ ⟨rfl, rfl⟩ | rintro _ _ ⟨_, rfl, rfl⟩ | rintro _ _ ⟨_, _, ⟨_, _⟩, rfl, rfl⟩); try refine ⟨sConv, ?_⟩) | refine Dr.two ?_ ?_)
  refine C.regionA 10 (.one 0 false (.one 1 false (.one 2 false (.one 3 false (.one 4 false (.one 5 false (.one 6 false (.one 7 false (.one 8 false (.one 9 false (.one 10 true (.one 11 true (.one 12 true .nil))))))))))))) _ (by kernel_rfl) (by kernel_rfl) Conv.refl ?_
  repeat (first | refine wLd1 ?_ | (refine kLd1 ?_; (first | rintro _ _ ⟨rfl, rfl⟩ | rintro _ _ ⟨_, rfl, rfl⟩ | rintro _ _ ⟨_, _, ⟨_, _⟩, rfl, rfl⟩); try refine ⟨sConv, ?_⟩) | refine Dr.two ?_ ?_)
  apply Dr.conv; (· exact Conv.elt' (T := rchT) (A := B) (n := n) (c := d) (l := ls) (k := i) (e := e) (cs := [.int .i64 e.id.rep, .int .i64 e.id.seq, .int .i64 e.made, .slice e.A e.n e.c, .slice e.X e.nx e.cx]) he rfl sRepl)
  apply Dr.conv; (· exact Conv.out (f := bStk) (l := ls) sHas he)
  refine Dr.goZc rfl (by rintro k ⟨⟩ <;> decide) sGon (S.call rfl rfl Try.func131 (by kernel_rfl) rfl sPicks (fun E' hE => rackE E' B n d ls i e.id e.made e.A e.n e.c e.l e.X e.nx e.cx ⟨⟨r, ((i + 1 : Nat) : Int)⟩, o, u⟩ hoe.n hoe.c hnl) ?_)
  unfold RAckE
  rw [hkk]
  rintro x H' ⟨A', n', c', rfl, hn', hc', rfl⟩
  refine ⟨_, rfl, _, sCat, ?_⟩
  repeat (first | refine wLd1 ?_ | (refine kLd1 ?_; (first | rintro _ _ ⟨rfl, rfl⟩ | rintro _ _ ⟨_, rfl, rfl⟩ | rintro _ _ ⟨_, _, ⟨_, _⟩, rfl, rfl⟩); try refine ⟨sConv, ?_⟩) | refine Dr.two ?_ ?_)
  have hnew : (⟨e.id, e.made, A', n', c', (acked e.id e.l ⟨e.id, o, u⟩).getD e.l, e.X, e.nx, e.cx, e.w⟩ : Lnv).ok r i := ⟨hid, hn', hc', hoe.nx, hoe.cx, haok⟩
  refine postF_conv2 (Conv.in_ (f := bStk) (l := ls.eraseIdx i) (l' := ls.set i ⟨e.id, e.made, A', n', c', (acked e.id e.l ⟨e.id, o, u⟩).getD e.l, e.X, e.nx, e.cx, e.w⟩) (i := i) (x := ⟨e.id, e.made, A', n', c', (acked e.id e.l ⟨e.id, o, u⟩).getD e.l, e.X, e.nx, e.cx, e.w⟩) sPicks (erase_set hlt)) ?_
  refine postF_conv2 (Conv.uneltB ⟨e.id, e.made, A', n', c', (acked e.id e.l ⟨e.id, o, u⟩).getD e.l, e.X, e.nx, e.cx, e.w⟩ rfl sRepl) ?_
  refine postF_conv2 (Conv.same (f := lWnt) (i := i) he (x' := ⟨e.id, e.made, A', n', c', (acked e.id e.l ⟨e.id, o, u⟩).getD e.l, e.X, e.nx, e.cx, e.w⟩) rfl sRepl) ?_
  exact ret1 rfl sRet sConv (⟨ls.set i ⟨e.id, e.made, A', n', c', (acked e.id e.l ⟨e.id, o, u⟩).getD e.l, e.X, e.nx, e.cx, e.w⟩, rfl, hok.set hnew, by simp, by rw [map_set]; rfl, rfl⟩)
end
end Go.Proofs.Ytkhmplaocfjpjaa.Sep
/- the law of the ledger: the book puts; lists that are alike; by parts of memory. -/
namespace Go.Proofs.Ytkhmplaocfjpjaa.Sep
open Go.RowKit Go.Proofs.Ytkhmplaocfjpjaa.Reg
open Go.Proofs.Ytkhmplaocfjpjaa.Mem hiding Rd Own
-- types: entT enrT effT lineT rchT chvT efsT op22T keyT reqT
-- recs: idnT_rec effT_rec cfgT_rec entT_rec enrT_rec keyT_rec reqT_rec chain_rec chref_rec op22T_rec lineT_rec ledger_rec bk22_rec
-- eqs: idnT_eqa effT_eqa entT_eqa enrT_eqa keyT_eqa reqT_eqa
-- funcs
-- flds
-- elts
set_option maxRecDepth 100000
set_option maxHeartbeats 4000000
section
variable (E : Env)
theorem effs22 (A : Option Addr) (n c : Nat) (B : Option Addr) (m d : Nat) (l : List Eff) (hr : Rd E effT A n c l) (hr2 : Rd E effT B m d l) : Tri Try.prog E 76 #[.slice A n c, .slice B m d] [] fun e H' => e = .returned (.bool true) ∧ H' = [] := by
  have hcap := hr.cap
  have hcap2 := hr2.cap
  have hn := hr.len
  have hm := hr2.len
  have hmax : maxLen = 9223372036854775807 := rfl
  refine tri Try.func76 rfl Try.ntmps76 (by simp) ?_
  repeat (first | refine wLd1 ?_ | (refine kLd1 ?_; (first | rintro _ _ ⟨rfl, rfl⟩ | rintro _ _ ⟨_, rfl, rfl⟩ | rintro _ _ ⟨_, _, ⟨_, _⟩, rfl, rfl⟩); try refine ⟨sConv, ?_⟩) | refine Dr.two ?_ ?_)
  refine C.loop (X := Nat) (fun i => [(0, .slice A n c), (1, .slice B m d), (5, .int .i64 i)]) (fun _ => []) (fun i => i ≤ n) (fun i => n - i) 0 sHolds sConv (Nat.zero_le _) ?_
  intro i G hi
  by_cases hlt : i < n
  · have hx : l[i]? = some l[i] := List.getElem?_eq_getElem (by omega)
    generalize l[i] = x at hx
    have hd : (!decide ((⟨x.kind, x.a, x.n, ⟨x.ref.rep, x.ref.seq⟩⟩ : Eff) = ⟨x.kind, x.a, x.n, ⟨x.ref.rep, x.ref.seq⟩⟩)) = false := by rw [decide_eq_true rfl]; rfl
    repeat (first | refine wLd1 ?_ | (refine kLd1 ?_; (first | rintro _ _ ⟨rfl, rfl⟩ | rintro _ _ ⟨_, rfl, rfl⟩ | rintro _ _ ⟨_, _, ⟨_, _⟩, rfl, rfl⟩); try refine ⟨sConv, ?_⟩) | refine Dr.two ?_ ?_)
    refine C.regionA 100000 (.one 0 false (.one 1 false (.one 2 false (.one 3 false (.one 4 false (.one 5 false (.one 6 false (.one 7 false (.one 8 false .nil))))))))) _ (by kernel_rfl) (by kernel_rfl) Conv.refl ?_
    repeat (first | refine wLd1 ?_ | (refine kLd1 ?_; (first | rintro _ _ ⟨rfl, rfl⟩ | rintro _ _ ⟨_, rfl, rfl⟩ | rintro _ _ ⟨_, _, ⟨_, _⟩, rfl, rfl⟩); try refine ⟨sConv, ?_⟩) | refine Dr.two ?_ ?_)
    exact ⟨i + 1, sHolds, sConv, by omega, by omega⟩
  · obtain rfl : i = n := by omega
    repeat (first | refine wLd1 ?_ | (refine kLd1 ?_; (first | rintro _ _ ⟨rfl, rfl⟩ | rintro _ _ ⟨_, rfl, rfl⟩ | rintro _ _ ⟨_, _, ⟨_, _⟩, rfl, rfl⟩); try refine ⟨sConv, ?_⟩) | refine Dr.two ?_ ?_)
    exact ret1 rfl sRet sConv (⟨rfl, rfl⟩)
theorem reqs22 (A : Option Addr) (n c : Nat) (B : Option Addr) (m d : Nat) (l : List Req) (hr : Rd E reqT A n c l) (hr2 : Rd E reqT B m d l) : Tri Try.prog E 20 #[.slice A n c, .slice B m d] [] fun e H' => e = .returned (.bool true) ∧ H' = [] := by
  have hcap := hr.cap
  have hcap2 := hr2.cap
  have hn := hr.len
  have hm := hr2.len
  have hmax : maxLen = 9223372036854775807 := rfl
  refine tri Try.func20 rfl Try.ntmps20 (by simp) ?_
  repeat (first | refine wLd1 ?_ | (refine kLd1 ?_; (first | rintro _ _ ⟨rfl, rfl⟩ | rintro _ _ ⟨_, rfl, rfl⟩ | rintro _ _ ⟨_, _, ⟨_, _⟩, rfl, rfl⟩); try refine ⟨sConv, ?_⟩) | refine Dr.two ?_ ?_)
  refine C.loop (X := Nat) (fun i => [(0, .slice A n c), (1, .slice B m d), (5, .int .i64 i)]) (fun _ => []) (fun i => i ≤ n) (fun i => n - i) 0 sHolds sConv (Nat.zero_le _) ?_
  intro i G hi
  by_cases hlt : i < n
  · have hx : l[i]? = some l[i] := List.getElem?_eq_getElem (by omega)
    generalize l[i] = x at hx
    have hd : (!decide ((⟨⟨⟨x.key.id.rep, x.key.id.seq⟩, x.key.ord, x.key.undo⟩, ⟨x.what.kind, x.what.a, x.what.n, ⟨x.what.ref.rep, x.what.ref.seq⟩⟩⟩ : Req) = ⟨⟨⟨x.key.id.rep, x.key.id.seq⟩, x.key.ord, x.key.undo⟩, ⟨x.what.kind, x.what.a, x.what.n, ⟨x.what.ref.rep, x.what.ref.seq⟩⟩⟩)) = false := by rw [decide_eq_true rfl]; rfl
    repeat (first | refine wLd1 ?_ | (refine kLd1 ?_; (first | rintro _ _ ⟨rfl, rfl⟩ | rintro _ _ ⟨_, rfl, rfl⟩ | rintro _ _ ⟨_, _, ⟨_, _⟩, rfl, rfl⟩); try refine ⟨sConv, ?_⟩) | refine Dr.two ?_ ?_)
    refine C.regionA 100000 (.one 0 false (.one 1 false (.one 2 false (.one 3 false (.one 4 false (.one 5 false (.one 6 false (.one 7 false (.one 8 false .nil))))))))) _ (by kernel_rfl) (by kernel_rfl) Conv.refl ?_
    repeat (first | refine wLd1 ?_ | (refine kLd1 ?_; (first | rintro _ _ ⟨rfl, rfl⟩ | rintro _ _ ⟨_, rfl, rfl⟩ | rintro _ _ ⟨_, _, ⟨_, _⟩, rfl, rfl⟩); try refine ⟨sConv, ?_⟩) | refine Dr.two ?_ ?_)
    exact ⟨i + 1, sHolds, sConv, by omega, by omega⟩
  · obtain rfl : i = n := by omega
    repeat (first | refine wLd1 ?_ | (refine kLd1 ?_; (first | rintro _ _ ⟨rfl, rfl⟩ | rintro _ _ ⟨_, rfl, rfl⟩ | rintro _ _ ⟨_, _, ⟨_, _⟩, rfl, rfl⟩); try refine ⟨sConv, ?_⟩) | refine Dr.two ?_ ?_)
    exact ret1 rfl sRet sConv (⟨rfl, rfl⟩)
theorem keys22 (A : Option Addr) (n c : Nat) (B : Option Addr) (m d : Nat) (l : List Keyv) (hr : Rd E keyT A n c l) (hr2 : Rd E keyT B m d l) : Tri Try.prog E 22 #[.slice A n c, .slice B m d] [] fun e H' => e = .returned (.bool true) ∧ H' = [] := by
  have hcap := hr.cap
  have hcap2 := hr2.cap
  have hn := hr.len
  have hm := hr2.len
  have hmax : maxLen = 9223372036854775807 := rfl
  refine tri Try.func22 rfl Try.ntmps22 (by simp) ?_
  repeat (first | refine wLd1 ?_ | (refine kLd1 ?_; (first | rintro _ _ ⟨rfl, rfl⟩ | rintro _ _ ⟨_, rfl, rfl⟩ | rintro _ _ ⟨_, _, ⟨_, _⟩, rfl, rfl⟩); try refine ⟨sConv, ?_⟩) | refine Dr.two ?_ ?_)
  refine C.loop (X := Nat) (fun i => [(0, .slice A n c), (1, .slice B m d), (5, .int .i64 i)]) (fun _ => []) (fun i => i ≤ n) (fun i => n - i) 0 sHolds sConv (Nat.zero_le _) ?_
  intro i G hi
  by_cases hlt : i < n
  · have hx : l[i]? = some l[i] := List.getElem?_eq_getElem (by omega)
    generalize l[i] = x at hx
    have hd : (!decide ((⟨⟨x.id.rep, x.id.seq⟩, x.ord, x.undo⟩ : Keyv) = ⟨⟨x.id.rep, x.id.seq⟩, x.ord, x.undo⟩)) = false := by rw [decide_eq_true rfl]; rfl
    repeat (first | refine wLd1 ?_ | (refine kLd1 ?_; (first | rintro _ _ ⟨rfl, rfl⟩ | rintro _ _ ⟨_, rfl, rfl⟩ | rintro _ _ ⟨_, _, ⟨_, _⟩, rfl, rfl⟩); try refine ⟨sConv, ?_⟩) | refine Dr.two ?_ ?_)
    refine C.regionA 100000 (.one 0 false (.one 1 false (.one 2 false (.one 3 false (.one 4 false (.one 5 false (.one 6 false (.one 7 false (.one 8 false .nil))))))))) _ (by kernel_rfl) (by kernel_rfl) Conv.refl ?_
    repeat (first | refine wLd1 ?_ | (refine kLd1 ?_; (first | rintro _ _ ⟨rfl, rfl⟩ | rintro _ _ ⟨_, rfl, rfl⟩ | rintro _ _ ⟨_, _, ⟨_, _⟩, rfl, rfl⟩); try refine ⟨sConv, ?_⟩) | refine Dr.two ?_ ?_)
    exact ⟨i + 1, sHolds, sConv, by omega, by omega⟩
  · obtain rfl : i = n := by omega
    repeat (first | refine wLd1 ?_ | (refine kLd1 ?_; (first | rintro _ _ ⟨rfl, rfl⟩ | rintro _ _ ⟨_, rfl, rfl⟩ | rintro _ _ ⟨_, _, ⟨_, _⟩, rfl, rfl⟩); try refine ⟨sConv, ?_⟩) | refine Dr.two ?_ ?_)
    exact ret1 rfl sRet sConv (⟨rfl, rfl⟩)
variable (g : Nat) (B : Option Addr) (n d : Nat) (r : Int) (ls : List Lnv)
def BPut (g : Nat) (r : Int) (ps : List S21) : Ending → List Asn → Prop := fun x H' =>
  ∃ B' n' d' ls', x = .returned (.bool true) ∧ LOk r ls' ∧ n' = ls'.length ∧ (n' ≤ d' ∧ d' ≤ maxLen) ∧ ls'.map Lnv.s = ps ∧ H' = bst g B' n' d' r ls'
theorem bput_no (s : Int) (v : Value) (hn : n ≤ 100000) (h : s < 1 ∨ (n : Int) + 1 < s) : Tri Try.prog E 102 #[.pointer (some ⟨g, 0, none⟩), .int .i64 s, v] [bg g B n d r] fun e H' => e = .returned (.bool false) ∧ H' = [bg g B n d r] := by
  have hmax : maxLen = 9223372036854775807 := rfl
  have hw : IntKind.i64.wrap ((n : Int) + 1) = (n : Int) + 1 := IntWalk.i64_in _ (by omega)
  refine tri Try.func102 rfl Try.ntmps102 (by simp) ?_
  by_cases h1 : s < 1
  · repeat (first | refine wLd1 ?_ | (refine kLd1 ?_; (first | rintro _ _ ⟨rfl, rfl⟩ | rintro _ _ ⟨_, rfl, rfl⟩ | rintro _ _ ⟨_, _, ⟨_, _⟩, rfl, rfl⟩); try refine ⟨sConv, ?_⟩) | refine Dr.two ?_ ?_)
    exact ret1 rfl sRet sConv (⟨rfl, rfl⟩)
  · repeat (first | refine wLd1 ?_ | (refine kLd1 ?_; (first | rintro _ _ ⟨rfl, rfl⟩ | rintro _ _ ⟨_, rfl, rfl⟩ | rintro _ _ ⟨_, _, ⟨_, _⟩, rfl, rfl⟩); try refine ⟨sConv, ?_⟩) | refine Dr.two ?_ ?_)
    exact ret1 rfl sRet sConv (⟨rfl, rfl⟩)
theorem bput (i : Nat) (hn : n ≤ 100000) (hi : i ≤ n) (hnl : n = ls.length) (hnd : n ≤ d ∧ d ≤ maxLen) (hok : LOk r ls) (X : Option Addr) (nx cx : Nat) (w : List Eff) (hw : Rd E effT X nx cx w) (hx : nx ≤ 8) (hwo : ∀ f ∈ w, f.ok) :
    Tri Try.prog E 102 #[.pointer (some ⟨g, 0, none⟩), .int .i64 ((i + 1 : Nat) : Int), .slice X nx cx] (bst g B n d r ls) (BPut g r (put22 (ls.map Lnv.s) i w)) := by
  have hmax : maxLen = 9223372036854775807 := rfl
  have hwl := hw.len
  have hw1 : IntKind.i64.wrap ((n : Int) + 1) = (n : Int) + 1 := IntWalk.i64_in _ (by omega)
  have hw2 : IntKind.i64.wrap (((i + 1 : Nat) : Int) - 1) = (i : Int) := by rw [IntWalk.i64_in _ (by omega)]; omega
  have hnm : n ≤ maxLen := by omega
  unfold BPut bst
  refine tri Try.func102 rfl Try.ntmps102 (by simp) ?_
  repeat ((fail_if_success (refine C.seq (x := Code.region 3 _ _) ?_)); first | refine vLd1 ?_ | (refine kLd1 ?_; (first | rintro _ _ ⟨rfl, rfl⟩ | rintro _ _ ⟨_, rfl, rfl⟩ | rintro _ _ ⟨_, _, ⟨_, _⟩, rfl, rfl⟩); try refine ⟨sConv, ?_⟩) | refine Dr.two ?_ ?_)
  refine C.mid (X := Option Addr × Nat × Nat × List Lnv) (fun _ => [(0, .pointer (some ⟨g, 0, none⟩)), (1, .int .i64 ((i + 1 : Nat) : Int)), (2, .slice X nx cx)]) (fun x => [bg g x.1 x.2.1 x.2.2.1 r, own rchT x.1 x.2.1 x.2.2.1 x.2.2.2, each bStk x.2.2.2, each lWnt x.2.2.2])
    (fun x => LOk r x.2.2.2 ∧ x.2.1 = x.2.2.2.length ∧ x.2.1 ≤ 200000 ∧ i < x.2.1 ∧ (x.2.1 ≤ x.2.2.1 ∧ x.2.2.1 ≤ maxLen) ∧ ∀ e, x.2.2.2[i]? = some e → (x.2.2.2.map Lnv.s).set i (e.s.put w) = put22 (ls.map Lnv.s) i w) ?_ ?_
  · by_cases hlt : i < n
    · repeat (first | refine wLd1 ?_ | (refine kLd1 ?_; (first | rintro _ _ ⟨rfl, rfl⟩ | rintro _ _ ⟨_, rfl, rfl⟩ | rintro _ _ ⟨_, _, ⟨_, _⟩, rfl, rfl⟩); try refine ⟨sConv, ?_⟩) | refine Dr.two ?_ ?_)
      exact ⟨(B, n, d, ls), sHolds, sConv, ⟨hok, hnl, by dsimp only; omega, hlt, hnd, fun e he => (put22_old (by rw [List.getElem?_map, he]; rfl)).symm⟩⟩
    · obtain rfl : i = n := by omega
      repeat (first | refine wLd1 ?_ | (refine kLd1 ?_; (first | rintro _ _ ⟨rfl, rfl⟩ | rintro _ _ ⟨_, rfl, rfl⟩ | rintro _ _ ⟨_, _, ⟨_, _⟩, rfl, rfl⟩); try refine ⟨sConv, ?_⟩) | refine Dr.two ?_ ?_)
      refine C.regionA 16 (.one 0 false (.one 1 false (.one 2 false (.one 3 false (.one 4 false (.one 5 false (.one 6 false (.one 7 false (.one 8 false (.one 9 false (.one 10 false (.one 11 false (.one 12 true (.one 13 true (.one 14 false (.one 15 false (.one 16 true .nil))))))))))))))))) ([bg g B i d r]) (by kernel_rfl) (by kernel_rfl) sConv ?_
      repeat (first | refine wLd1 ?_ | (refine kLd1 ?_; (first | rintro _ _ ⟨rfl, rfl⟩ | rintro _ _ ⟨_, rfl, rfl⟩ | rintro _ _ ⟨_, _, ⟨_, _⟩, rfl, rfl⟩); try refine ⟨sConv, ?_⟩) | refine Dr.two ?_ ?_)
      refine Dr.goK rfl (by rintro k ⟨⟩ <;> decide) sGon (S.buildSlice1K (T := rchT) (e := (ln0 r i)) rfl rfl rfl rfl (by decide)) ?_; rintro _ _ ⟨_, rfl, rfl⟩; refine ⟨sConv, ?_⟩
      repeat (first | refine wLd1 ?_ | (refine kLd1 ?_; (first | rintro _ _ ⟨rfl, rfl⟩ | rintro _ _ ⟨_, rfl, rfl⟩ | rintro _ _ ⟨_, _, ⟨_, _⟩, rfl, rfl⟩); try refine ⟨sConv, ?_⟩) | refine Dr.two ?_ ?_)
      rename_i B' d' h1 h2
      have hlen : (ls.map Lnv.s).length = i := by rw [List.length_map, ← hnl]
      have hlast : (ls ++ [ln0 r i])[i]? = some (ln0 r i) := by rw [hnl]; simp
      refine ⟨(B', i + 1, d', ls ++ [ln0 r i]), sHolds, ?_, ⟨hok.push (by rw [← hnl]; exact ln0_ok r i), by dsimp only; rw [List.length_append, ← hnl]; rfl, by dsimp only; omega, by dsimp only; omega, ⟨h1, h2⟩, fun e he => ?_⟩⟩
      · dsimp only
        refine Conv.trans (Conv.nil0 enrT none) ?_
        refine Conv.trans (Conv.push (f := bStk) (l := ls) (x := ln0 r i) sPicks) ?_
        refine Conv.trans (Conv.nil0 effT none) ?_
        refine Conv.trans (Conv.push (f := lWnt) (l := ls) (x := ln0 r i) sPicks) ?_
        exact sConv
      · dsimp only at he ⊢
        rw [hlast] at he
        injection he with he
        subst he
        have := put22_new (ps := ls.map Lnv.s) (w := w)
        rw [hlen] at this
        rw [this, List.map_append]
        rfl
  rintro ⟨B1, n1, d1, l1⟩ F ⟨hok1, hn1, hb1, hi1, hd1, hput⟩
  dsimp only at hok1 hn1 hb1 hi1 hd1 hput ⊢
  obtain ⟨e, he⟩ : ∃ e, l1[i]? = some e := ⟨_, List.getElem?_eq_getElem (by omega)⟩
  have hoe := hok1 i e he
  have hel : e.n ≤ 1000000 := by have h1 := hoe.s.len; have h2 := hoe.s.made1; have h3 := hoe.n; unfold Lnv.s at h1 h2; dsimp only at h1 h2; omega
  have hx2 : nx ≤ 1000000 := by omega
  have hpo : (e.s.put w).ok := S21.put_ok hoe.s hwo (by omega)
  repeat (first | refine wLd1 ?_ | (refine kLd1 ?_; (first | rintro _ _ ⟨rfl, rfl⟩ | rintro _ _ ⟨_, rfl, rfl⟩ | rintro _ _ ⟨_, _, ⟨_, _⟩, rfl, rfl⟩); try refine ⟨sConv, ?_⟩) | refine Dr.two ?_ ?_)
  apply L.conv; (· exact Conv.elt' (T := rchT) (A := B1) (n := n1) (c := d1) (l := l1) (k := i) (e := e) (cs := [.int .i64 e.id.rep, .int .i64 e.id.seq, .int .i64 e.made, .slice e.A e.n e.c, .slice e.X e.nx e.cx]) he rfl sRepl)
  refine L.step (by decide) (S.call rfl rfl Try.func129 (by kernel_rfl) rfl sPicks (fun E' hE => rsettleE E' B1 n1 d1 l1 i e.id e.made e.A e.n e.c e.l w e.X e.nx e.cx X nx cx (Sub.each (f := bStk) hE sHas he rfl) (hw.sub hE) hel hx2) ?_)
  unfold SetPostE
  rintro x H' ⟨A', c', Y, cy, rfl, hc', hcy, rfl⟩
  refine ⟨_, rfl, _, sCat, ?_⟩
  repeat (first | refine wLd1 ?_ | (refine kLd1 ?_; (first | rintro _ _ ⟨rfl, rfl⟩ | rintro _ _ ⟨_, rfl, rfl⟩ | rintro _ _ ⟨_, _, ⟨_, _⟩, rfl, rfl⟩); try refine ⟨sConv, ?_⟩) | refine Dr.two ?_ ?_)
  have hnew : (⟨e.id, e.made, A', e.n, c', settle w e.l, Y, nx, cy, w⟩ : Lnv).ok r i := ⟨hoe.id, by show e.n = (settle w e.l).length; rw [settle_length]; exact hoe.n, hc', hwl, hcy, hpo⟩
  refine postF_conv2 (Conv.swap (f := bStk) (l := l1) (i := i) (x := e) (x' := ⟨e.id, e.made, A', e.n, c', settle w e.l, Y, nx, cy, w⟩) he sPicks) ?_
  refine postF_conv2 (Conv.swap (f := lWnt) (l := l1) (i := i) (x := e) (x' := ⟨e.id, e.made, A', e.n, c', settle w e.l, Y, nx, cy, w⟩) he sPicks) ?_
  refine postF_conv2 (Conv.uneltB ⟨e.id, e.made, A', e.n, c', settle w e.l, Y, nx, cy, w⟩ rfl sRepl) ?_
  exact ret1 rfl sRet sConv (⟨B1, n1, d1, l1.set i ⟨e.id, e.made, A', e.n, c', settle w e.l, Y, nx, cy, w⟩, rfl, hok1.set hnew, by rw [List.length_set]; exact hn1, hd1, by rw [map_set]; exact hput e he, rfl⟩)
end
end Go.Proofs.Ytkhmplaocfjpjaa.Sep
/- the law of the ledger: any call of the ledger, and of the book, answers as by lists. -/
namespace Go.Proofs.Ytkhmplaocfjpjaa.Sep
open Go.RowKit Go.Proofs.Ytkhmplaocfjpjaa.Reg
open Go.Proofs.Ytkhmplaocfjpjaa.Mem hiding Rd Own
set_option maxRecDepth 100000
def nxt22 (r : Int) (ps : List S21) (s : Int) : Option Req := if 1 ≤ s ∧ s ≤ ps.length then (ps.getD (s - 1).toNat s0).nxt (idAt r (s - 1).toNat) else none
def try22 (r : Int) (ps : List S21) (k : Keyv) (now : Int) : Bool × List S21 :=
  if Here r ps.length k.id then ((ps.getD (k.id.seq - 1).toNat s0).hit k.id k && (tried k.id (ps.getD (k.id.seq - 1).toNat s0).made (ps.getD (k.id.seq - 1).toNat s0).l (ps.getD (k.id.seq - 1).toNat s0).w now).isSome,
    ps.set (k.id.seq - 1).toNat (if (ps.getD (k.id.seq - 1).toNat s0).hit k.id k then (ps.getD (k.id.seq - 1).toNat s0).try_ k.id now else ps.getD (k.id.seq - 1).toNat s0)) else (false, ps)
def ack22 (r : Int) (ps : List S21) (k : Keyv) : Bool × List S21 :=
  if Here r ps.length k.id then ((acked k.id (ps.getD (k.id.seq - 1).toNat s0).l k).isSome, ps.set (k.id.seq - 1).toNat ((ps.getD (k.id.seq - 1).toNat s0).ack k.id k)) else (false, ps)
def puts22 (ps : List S21) (s : Int) (w : List Eff) : Bool × List S21 := if 1 ≤ s ∧ s ≤ ps.length + 1 then (true, put22 ps (s - 1).toNat w) else (false, ps)
theorem getD_at {ps : List S21} {i : Nat} {s : S21} (h : ps[i]? = some s) : ps.getD i s0 = s := by rw [List.getD_eq_getElem?_getD, h]; rfl
theorem here_at {r : Int} {n : Nat} {k : Keyv} (h : Here r n k.id) : ∃ (i : Nat) (o : Int) (u : Bool), i < n ∧ k = ⟨⟨r, ((i + 1 : Nat) : Int)⟩, o, u⟩ := by
  obtain ⟨⟨a, s⟩, o, u⟩ := k
  obtain ⟨h1, h2, h3⟩ := h
  dsimp only at h1 h2 h3
  subst h1
  exact ⟨(s - 1).toNat, o, u, by omega, by rw [show (((s - 1).toNat + 1 : Nat) : Int) = s by omega]⟩
theorem seq_at {s : Int} {n : Nat} (h : 1 ≤ s ∧ s ≤ n) : ∃ i : Nat, i < n ∧ s = ((i + 1 : Nat) : Int) := ⟨(s - 1).toNat, by omega, by omega⟩
theorem toNat_at (i : Nat) : (((i + 1 : Nat) : Int) - 1).toNat = i := by omega
theorem try22_at {r : Int} {ps : List S21} {i : Nat} {s : S21} (h : ps[i]? = some s) (o : Int) (u : Bool) (now : Int) :
    try22 r ps ⟨⟨r, ((i + 1 : Nat) : Int)⟩, o, u⟩ now = (s.hit (idAt r i) ⟨idAt r i, o, u⟩ && (tried (idAt r i) s.made s.l s.w now).isSome, ps.set i (if s.hit (idAt r i) ⟨idAt r i, o, u⟩ then s.try_ (idAt r i) now else s)) := by
  have hlt := (List.getElem?_eq_some_iff.1 h).1
  unfold try22
  rw [if_pos ⟨rfl, by dsimp only; omega, by dsimp only; omega⟩]
  dsimp only
  rw [toNat_at, getD_at h]; rfl
theorem ack22_at {r : Int} {ps : List S21} {i : Nat} {s : S21} (h : ps[i]? = some s) (o : Int) (u : Bool) :
    ack22 r ps ⟨⟨r, ((i + 1 : Nat) : Int)⟩, o, u⟩ = ((acked (idAt r i) s.l ⟨idAt r i, o, u⟩).isSome, ps.set i (s.ack (idAt r i) ⟨idAt r i, o, u⟩)) := by
  have hlt := (List.getElem?_eq_some_iff.1 h).1
  unfold ack22
  rw [if_pos ⟨rfl, by dsimp only; omega, by dsimp only; omega⟩]
  dsimp only
  rw [toNat_at, getD_at h]; rfl
theorem nxt22_at {r : Int} {ps : List S21} {i : Nat} {s : S21} (h : ps[i]? = some s) : nxt22 r ps ((i + 1 : Nat) : Int) = s.nxt (idAt r i) := by
  have hlt := (List.getElem?_eq_some_iff.1 h).1
  unfold nxt22
  rw [if_pos ⟨by omega, by omega⟩, toNat_at, getD_at h]
def LPA (g : Nat) (B : Option Addr) (n d : Nat) (r : Int) (z : Bool × List S21) : Ending → List Asn → Prop := fun x H' =>
  ∃ ls', x = .returned (.bool z.1) ∧ LOk r ls' ∧ n = ls'.length ∧ ls'.map Lnv.s = z.2 ∧ H' = lst g B n d r ls'
def BPA (g : Nat) (B : Option Addr) (n d : Nat) (r : Int) (z : Bool × List S21) : Ending → List Asn → Prop := fun x H' =>
  ∃ ls', x = .returned (.bool z.1) ∧ LOk r ls' ∧ n = ls'.length ∧ ls'.map Lnv.s = z.2 ∧ H' = bst g B n d r ls'
def LPB (g : Nat) (r : Int) (z : Bool × List S21) : Ending → List Asn → Prop := fun x H' =>
  ∃ B n d ls', x = .returned (.bool z.1) ∧ LOk r ls' ∧ n = ls'.length ∧ (n ≤ d ∧ d ≤ maxLen) ∧ ls'.map Lnv.s = z.2 ∧ H' = lst g B n d r ls'
def BPB (g : Nat) (r : Int) (z : Bool × List S21) : Ending → List Asn → Prop := fun x H' =>
  ∃ B n d ls', x = .returned (.bool z.1) ∧ LOk r ls' ∧ n = ls'.length ∧ (n ≤ d ∧ d ≤ maxLen) ∧ ls'.map Lnv.s = z.2 ∧ H' = bst g B n d r ls'
section
variable (E : Env) (g : Nat) (B : Option Addr) (n d : Nat) (r : Int) (ls : List Lnv)
theorem ltry_any (k : Keyv) (now : Int) (hn : n ≤ 100000) (hnl : n = ls.length) (hok : LOk r ls) (hnow : I64 now) :
    Tri Try.prog E 47 #[.pointer (some ⟨g, 0, none⟩), .agg k.cs.toArray, .int .i64 now] (lst g B n d r ls) (LPA g B n d r (try22 r (ls.map Lnv.s) k now)) := by
  by_cases h : Here r n k.id
  · obtain ⟨i, o, u, hi, rfl⟩ := here_at h
    obtain ⟨e, he⟩ : ∃ e, ls[i]? = some e := ⟨_, List.getElem?_eq_getElem (by omega)⟩
    have hid : e.id = idAt r i := (hok i e he).id
    rw [try22_at (ls_at he)]
    refine (ltry E g B n d r ls i hn hi hok he o u now hnow).mono ?_
    rintro x H' ⟨ls', rfl, h1, h2, h3, rfl⟩
    rw [hid] at h3 ⊢
    exact ⟨ls', rfl, h1, by omega, h3, rfl⟩
  · have hv : try22 r (ls.map Lnv.s) k now = (false, ls.map Lnv.s) := by unfold try22; rw [if_neg (by rw [List.length_map, ← hnl]; exact h)]
    rw [hv]
    refine Tri.frame (Hp := [lg g B n d r]) (R := [own lineT B n d ls, each lStk ls, each lWnt ls]) sPicks fun E' _ => ?_
    refine (ltry_no E' g B n d r k now hn h).mono ?_
    rintro x H' ⟨rfl, rfl⟩
    exact ⟨ls, rfl, hok, hnl, rfl, rfl⟩
theorem lack_any (k : Keyv) (hn : n ≤ 100000) (hnl : n = ls.length) (hok : LOk r ls) :
    Tri Try.prog E 48 #[.pointer (some ⟨g, 0, none⟩), .agg k.cs.toArray] (lst g B n d r ls) (LPA g B n d r (ack22 r (ls.map Lnv.s) k)) := by
  by_cases h : Here r n k.id
  · obtain ⟨i, o, u, hi, rfl⟩ := here_at h
    obtain ⟨e, he⟩ : ∃ e, ls[i]? = some e := ⟨_, List.getElem?_eq_getElem (by omega)⟩
    have hid : e.id = idAt r i := (hok i e he).id
    rw [ack22_at (ls_at he)]
    refine (lack E g B n d r ls i hn hi hok he o u).mono ?_
    rintro x H' ⟨ls', rfl, h1, h2, h3, rfl⟩
    rw [hid] at h3 ⊢
    exact ⟨ls', rfl, h1, by omega, h3, rfl⟩
  · have hv : ack22 r (ls.map Lnv.s) k = (false, ls.map Lnv.s) := by unfold ack22; rw [if_neg (by rw [List.length_map, ← hnl]; exact h)]
    rw [hv]
    refine Tri.frame (Hp := [lg g B n d r]) (R := [own lineT B n d ls, each lStk ls, each lWnt ls]) sPicks fun E' _ => ?_
    refine (lack_no E' g B n d r k hn h).mono ?_
    rintro x H' ⟨rfl, rfl⟩
    exact ⟨ls, rfl, hok, hnl, rfl, rfl⟩
theorem lnext_any (s : Int) (hn : n ≤ 100000) (hnl : n = ls.length) (hok : LOk r ls) : Tri Try.prog E 46 #[.pointer (some ⟨g, 0, none⟩), .int .i64 s] (lst g B n d r ls) fun x H' => Nxt (nxt22 r (ls.map Lnv.s) s) x ∧ H' = lst g B n d r ls := by
  by_cases h : 1 ≤ s ∧ s ≤ n
  · obtain ⟨i, hi, rfl⟩ := seq_at h
    obtain ⟨e, he⟩ : ∃ e, ls[i]? = some e := ⟨_, List.getElem?_eq_getElem (by omega)⟩
    have hid : e.id = idAt r i := (hok i e he).id
    rw [nxt22_at (ls_at he), ← hid]
    exact lnext_yes E g B n d r ls i hn hi hok he
  · have hv : nxt22 r (ls.map Lnv.s) s = none := by unfold nxt22; rw [if_neg (by rw [List.length_map, ← hnl]; exact h)]
    rw [hv]
    refine Tri.frame (Hp := [lg g B n d r]) (R := [own lineT B n d ls, each lStk ls, each lWnt ls]) sPicks fun E' _ => ?_
    refine (lnext_no E' g B n d r s hn h).mono ?_
    rintro x H' ⟨h1, rfl⟩
    exact ⟨h1, rfl⟩
theorem lput_any (s : Int) (hn : n ≤ 100000) (hnl : n = ls.length) (hnd : n ≤ d ∧ d ≤ maxLen) (hok : LOk r ls) (X : Option Addr) (nx cx : Nat) (w : List Eff) (hw : Rd E effT X nx cx w) (hx : nx ≤ 8) (hwo : ∀ f ∈ w, f.ok) :
    Tri Try.prog E 26 #[.pointer (some ⟨g, 0, none⟩), .int .i64 s, .slice X nx cx] (lst g B n d r ls) (LPB g r (puts22 (ls.map Lnv.s) s w)) := by
  by_cases h : 1 ≤ s ∧ s ≤ n + 1
  · have h' : 1 ≤ s ∧ s ≤ ((n + 1 : Nat) : Int) := by omega
    obtain ⟨i, hi, rfl⟩ := seq_at h'
    have hv : puts22 (ls.map Lnv.s) ((i + 1 : Nat) : Int) w = (true, put22 (ls.map Lnv.s) i w) := by unfold puts22; rw [if_pos (by rw [List.length_map, ← hnl]; exact h), toNat_at]
    rw [hv]
    refine (lput E g B n d r ls i hn (by omega) hnl hnd hok X nx cx w hw hx hwo).mono ?_
    rintro x H' ⟨B', n', d', ls', rfl, h1, h2, h3, h4, rfl⟩
    exact ⟨B', n', d', ls', rfl, h1, h2, h3, h4, rfl⟩
  · have hv : puts22 (ls.map Lnv.s) s w = (false, ls.map Lnv.s) := by unfold puts22; rw [if_neg (by rw [List.length_map, ← hnl]; exact h)]
    rw [hv]
    refine Tri.frame (Hp := [lg g B n d r]) (R := [own lineT B n d ls, each lStk ls, each lWnt ls]) sPicks fun E' _ => ?_
    refine (lput_no E' g B n d r s _ hn (by omega)).mono ?_
    rintro x H' ⟨rfl, rfl⟩
    exact ⟨B, n, d, ls, rfl, hok, hnl, hnd, rfl, rfl⟩
theorem btry_any (k : Keyv) (now : Int) (hn : n ≤ 100000) (hnl : n = ls.length) (hok : LOk r ls) (hnow : I64 now) :
    Tri Try.prog E 104 #[.pointer (some ⟨g, 0, none⟩), .agg k.cs.toArray, .int .i64 now] (bst g B n d r ls) (BPA g B n d r (try22 r (ls.map Lnv.s) k now)) := by
  by_cases h : Here r n k.id
  · obtain ⟨i, o, u, hi, rfl⟩ := here_at h
    obtain ⟨e, he⟩ : ∃ e, ls[i]? = some e := ⟨_, List.getElem?_eq_getElem (by omega)⟩
    have hid : e.id = idAt r i := (hok i e he).id
    rw [try22_at (ls_at he)]
    refine (btry E g B n d r ls i hn hi hok he o u now hnow).mono ?_
    rintro x H' ⟨ls', rfl, h1, h2, h3, rfl⟩
    rw [hid] at h3 ⊢
    exact ⟨ls', rfl, h1, by omega, h3, rfl⟩
  · have hv : try22 r (ls.map Lnv.s) k now = (false, ls.map Lnv.s) := by unfold try22; rw [if_neg (by rw [List.length_map, ← hnl]; exact h)]
    rw [hv]
    refine Tri.frame (Hp := [bg g B n d r]) (R := [own rchT B n d ls, each bStk ls, each lWnt ls]) sPicks fun E' _ => ?_
    refine (btry_no E' g B n d r k now hn h).mono ?_
    rintro x H' ⟨rfl, rfl⟩
    exact ⟨ls, rfl, hok, hnl, rfl, rfl⟩
theorem back_any (k : Keyv) (hn : n ≤ 100000) (hnl : n = ls.length) (hok : LOk r ls) :
    Tri Try.prog E 105 #[.pointer (some ⟨g, 0, none⟩), .agg k.cs.toArray] (bst g B n d r ls) (BPA g B n d r (ack22 r (ls.map Lnv.s) k)) := by
  by_cases h : Here r n k.id
  · obtain ⟨i, o, u, hi, rfl⟩ := here_at h
    obtain ⟨e, he⟩ : ∃ e, ls[i]? = some e := ⟨_, List.getElem?_eq_getElem (by omega)⟩
    have hid : e.id = idAt r i := (hok i e he).id
    rw [ack22_at (ls_at he)]
    refine (back E g B n d r ls i hn hi hok he o u).mono ?_
    rintro x H' ⟨ls', rfl, h1, h2, h3, rfl⟩
    rw [hid] at h3 ⊢
    exact ⟨ls', rfl, h1, by omega, h3, rfl⟩
  · have hv : ack22 r (ls.map Lnv.s) k = (false, ls.map Lnv.s) := by unfold ack22; rw [if_neg (by rw [List.length_map, ← hnl]; exact h)]
    rw [hv]
    refine Tri.frame (Hp := [bg g B n d r]) (R := [own rchT B n d ls, each bStk ls, each lWnt ls]) sPicks fun E' _ => ?_
    refine (back_no E' g B n d r k hn h).mono ?_
    rintro x H' ⟨rfl, rfl⟩
    exact ⟨ls, rfl, hok, hnl, rfl, rfl⟩
theorem bnext_any (s : Int) (hn : n ≤ 100000) (hnl : n = ls.length) (hok : LOk r ls) : Tri Try.prog E 103 #[.pointer (some ⟨g, 0, none⟩), .int .i64 s] (bst g B n d r ls) fun x H' => Nxt (nxt22 r (ls.map Lnv.s) s) x ∧ H' = bst g B n d r ls := by
  by_cases h : 1 ≤ s ∧ s ≤ n
  · obtain ⟨i, hi, rfl⟩ := seq_at h
    obtain ⟨e, he⟩ : ∃ e, ls[i]? = some e := ⟨_, List.getElem?_eq_getElem (by omega)⟩
    have hid : e.id = idAt r i := (hok i e he).id
    rw [nxt22_at (ls_at he), ← hid]
    exact bnext_yes E g B n d r ls i hn hi hok he
  · have hv : nxt22 r (ls.map Lnv.s) s = none := by unfold nxt22; rw [if_neg (by rw [List.length_map, ← hnl]; exact h)]
    rw [hv]
    refine Tri.frame (Hp := [bg g B n d r]) (R := [own rchT B n d ls, each bStk ls, each lWnt ls]) sPicks fun E' _ => ?_
    refine (bnext_no E' g B n d r s hn h).mono ?_
    rintro x H' ⟨h1, rfl⟩
    exact ⟨h1, rfl⟩
theorem bput_any (s : Int) (hn : n ≤ 100000) (hnl : n = ls.length) (hnd : n ≤ d ∧ d ≤ maxLen) (hok : LOk r ls) (X : Option Addr) (nx cx : Nat) (w : List Eff) (hw : Rd E effT X nx cx w) (hx : nx ≤ 8) (hwo : ∀ f ∈ w, f.ok) :
    Tri Try.prog E 102 #[.pointer (some ⟨g, 0, none⟩), .int .i64 s, .slice X nx cx] (bst g B n d r ls) (BPB g r (puts22 (ls.map Lnv.s) s w)) := by
  by_cases h : 1 ≤ s ∧ s ≤ n + 1
  · have h' : 1 ≤ s ∧ s ≤ ((n + 1 : Nat) : Int) := by omega
    obtain ⟨i, hi, rfl⟩ := seq_at h'
    have hv : puts22 (ls.map Lnv.s) ((i + 1 : Nat) : Int) w = (true, put22 (ls.map Lnv.s) i w) := by unfold puts22; rw [if_pos (by rw [List.length_map, ← hnl]; exact h), toNat_at]
    rw [hv]
    refine (bput E g B n d r ls i hn (by omega) hnl hnd hok X nx cx w hw hx hwo).mono ?_
    rintro x H' ⟨B', n', d', ls', rfl, h1, h2, h3, h4, rfl⟩
    exact ⟨B', n', d', ls', rfl, h1, h2, h3, h4, rfl⟩
  · have hv : puts22 (ls.map Lnv.s) s w = (false, ls.map Lnv.s) := by unfold puts22; rw [if_neg (by rw [List.length_map, ← hnl]; exact h)]
    rw [hv]
    refine Tri.frame (Hp := [bg g B n d r]) (R := [own rchT B n d ls, each bStk ls, each lWnt ls]) sPicks fun E' _ => ?_
    refine (bput_no E' g B n d r s _ hn (by omega)).mono ?_
    rintro x H' ⟨rfl, rfl⟩
    exact ⟨B, n, d, ls, rfl, hok, hnl, hnd, rfl, rfl⟩
end
end Go.Proofs.Ytkhmplaocfjpjaa.Sep
/- the law of the ledger: one call, of both; all that is told; all calls. By parts of memory. -/
namespace Go.Proofs.Ytkhmplaocfjpjaa.Sep
open Go.RowKit Go.Proofs.Ytkhmplaocfjpjaa.Reg
open Go.Proofs.Ytkhmplaocfjpjaa.Mem hiding Rd Own
-- types: entT enrT effT lineT rchT chvT efsT op22T keyT reqT
-- recs: idnT_rec effT_rec cfgT_rec entT_rec enrT_rec keyT_rec reqT_rec chain_rec chref_rec op22T_rec lineT_rec ledger_rec bk22_rec
-- eqs: idnT_eqa effT_eqa entT_eqa enrT_eqa keyT_eqa reqT_eqa
-- funcs
-- flds
-- elts
-- eachs
set_option maxRecDepth 100000
set_option maxHeartbeats 4000000
def key22 (r : Int) (ps : List S21) (x : Op22) : Keyv := if x.kind = 2 ∨ x.kind = 3 then ((nxt22 r ps x.seq).getD reqT_z).key else x.key
def step22 (r : Int) (ps : List S21) (x : Op22) : List S21 :=
  if x.kind = 1 then (puts22 ps x.seq x.want.l).2 else if x.kind = 2 ∨ x.kind = 4 then (try22 r ps (key22 r ps x) x.now).2 else if x.kind = 3 ∨ x.kind = 5 then (ack22 r ps (key22 r ps x)).2 else ps
abbrev all22 (g gb : Nat) (r : Int) (n : Nat) (B : Option Addr) (d : Nat) (ls : List Lnv) (Bb : Option Addr) (db : Nat) (bs : List Lnv) : List Asn := [lg g B n d r, own lineT B n d ls, each lStk ls, each lWnt ls, bg gb Bb n db r, own rchT Bb n db bs, each bStk bs, each lWnt bs]
structure S22 (r : Int) (ps : List S21) (n d db : Nat) (ls bs : List Lnv) : Prop where
  hn : n = ps.length
  hd : n ≤ d ∧ d ≤ maxLen
  hdb : n ≤ db ∧ db ≤ maxLen
  lok : LOk r ls
  bok : LOk r bs
  hl : ls.map Lnv.s = ps
  hb : bs.map Lnv.s = ps
theorem S22.nl {r : Int} {ps : List S21} {n d db : Nat} {ls bs : List Lnv} (h : S22 r ps n d db ls bs) : n = ls.length := by rw [h.hn, ← h.hl, List.length_map]
theorem S22.nb {r : Int} {ps : List S21} {n d db : Nat} {ls bs : List Lnv} (h : S22 r ps n d db ls bs) : n = bs.length := by rw [h.hn, ← h.hb, List.length_map]
def Step22 (g gb : Nat) (r : Int) (ps : List S21) : Ending → List Asn → Prop := fun e H' => ∃ n B d ls Bb db bs, e = .returned (.bool true) ∧ S22 r ps n d db ls bs ∧ H' = all22 g gb r n B d ls Bb db bs
section
variable (E : Env) (g gb : Nat) (r : Int) (ps : List S21) (n : Nat) (B : Option Addr) (d : Nat) (ls : List Lnv) (Bb : Option Addr) (db : Nat) (bs : List Lnv)
theorem step22_1 (hs : S22 r ps n d db ls bs) (hn : n ≤ 1000) (x : Op22) (hk : x.kind = 1) (hw : Rd E effT x.want.A x.want.n x.want.c x.want.l) (hx : x.want.n ≤ 8) (hwo : ∀ f ∈ x.want.l, f.ok) :
    Tri Try.prog E 60 #[.pointer (some ⟨gb, 0, none⟩), .pointer (some ⟨g, 0, none⟩), .agg x.cs.toArray] (all22 g gb r n B d ls Bb db bs) (Step22 g gb r (step22 r ps x)) := by
  have hbt : ∀ b : Bool, (b == b) = true := fun b => by cases b <;> rfl
  have hn5 : n ≤ 100000 := by omega
  obtain ⟨z, hz⟩ : ∃ z, puts22 ps x.seq x.want.l = z := ⟨_, rfl⟩
  have hb1 := hbt z.1
  have hst : step22 r ps x = z.2 := by unfold step22; rw [if_pos hk, hz]
  rw [hst]
  unfold Step22
  refine tri Try.func60 rfl Try.ntmps60 (by simp) ?_
  repeat (first | refine wLd5 ?_ | (refine kLd5 ?_; (first | rintro _ _ ⟨rfl, rfl⟩ | rintro _ _ ⟨_, rfl, rfl⟩ | rintro _ _ ⟨_, _, ⟨_, _⟩, rfl, rfl⟩); try refine ⟨sConv, ?_⟩) | refine Dr.two ?_ ?_)
  rename_i g3
  refine C.regionA 100000 (.one 0 false (.one 1 false (.one 2 false (.one 3 false (.one 4 false (.one 6 false (.one 7 false (.one 8 false (.one 9 false (.one 10 false (.one 5 true (.one 11 true (.one 12 false (.one 13 false .nil)))))))))))))) ([blk g3 63 x.cs]) (by kernel_rfl) (by kernel_rfl) sConv ?_
  repeat (first | refine wLd5 ?_ | (refine kLd5 ?_; (first | rintro _ _ ⟨rfl, rfl⟩ | rintro _ _ ⟨_, rfl, rfl⟩ | rintro _ _ ⟨_, _, ⟨_, _⟩, rfl, rfl⟩); try refine ⟨sConv, ?_⟩) | refine Dr.two ?_ ?_)
  refine Dr.go rfl (by rintro k ⟨⟩ <;> decide) sGon (S.call rfl rfl Try.func26 (by kernel_rfl) rfl sPicks (fun E' hE => lput_any E' g B n d r ls x.seq hn5 hs.nl hs.hd hs.lok x.want.A x.want.n x.want.c x.want.l (hw.sub hE) hx hwo) ?_)
  rw [hs.hl, hz]
  unfold LPB
  rintro y H' ⟨B1, n1, d1, l1, rfl, h1, h2, h3, h4, rfl⟩
  refine ⟨_, rfl, _, sCat, sConv, ?_⟩
  repeat (first | refine wLd5 ?_ | (refine kLd5 ?_; (first | rintro _ _ ⟨rfl, rfl⟩ | rintro _ _ ⟨_, rfl, rfl⟩ | rintro _ _ ⟨_, _, ⟨_, _⟩, rfl, rfl⟩); try refine ⟨sConv, ?_⟩) | refine Dr.two ?_ ?_)
  refine Dr.go rfl (by rintro k ⟨⟩ <;> decide) sGon (S.call rfl rfl Try.func102 (by kernel_rfl) rfl sPicks (fun E' hE => bput_any E' gb Bb n db r bs x.seq hn5 hs.nb hs.hdb hs.bok x.want.A x.want.n x.want.c x.want.l (hw.sub hE) hx hwo) ?_)
  rw [hs.hb, hz]
  unfold BPB
  rintro y H' ⟨B2, n2, d2, l2, rfl, k1, k2, k3, k4, rfl⟩
  obtain rfl : n2 = n1 := by have e1 := congrArg List.length h4; have e2 := congrArg List.length k4; rw [List.length_map] at e1 e2; omega
  refine ⟨_, rfl, _, sCat, sConv, ?_⟩
  repeat (first | refine wLd5 ?_ | (refine kLd5 ?_; (first | rintro _ _ ⟨rfl, rfl⟩ | rintro _ _ ⟨_, rfl, rfl⟩ | rintro _ _ ⟨_, _, ⟨_, _⟩, rfl, rfl⟩); try refine ⟨sConv, ?_⟩) | refine Dr.two ?_ ?_)
  exact ret1 rfl sRet sConv (⟨n2, B1, d1, l1, B2, d2, l2, by rw [hb1], ⟨by rw [← h4, List.length_map]; exact h2, h3, k3, h1, k1, h4, k4⟩, rfl⟩)
theorem step22_0 (hs : S22 r ps n d db ls bs) (hn : n ≤ 1000) (x : Op22) (hk : x.kind ≠ 1) (hnow : I64 x.now) :
    Tri Try.prog E 60 #[.pointer (some ⟨gb, 0, none⟩), .pointer (some ⟨g, 0, none⟩), .agg x.cs.toArray] (all22 g gb r n B d ls Bb db bs) (Step22 g gb r (step22 r ps x)) := by
  have hbb : ∀ b : Bool, (!(b == b)) = false := fun b => by cases b <;> rfl
  have hbt : ∀ b : Bool, (b == b) = true := fun b => by cases b <;> rfl
  have hn5 : n ≤ 100000 := by omega
  have hst : step22 r ps x = if x.kind = 2 ∨ x.kind = 4 then (try22 r ps (key22 r ps x) x.now).2 else if x.kind = 3 ∨ x.kind = 5 then (ack22 r ps (key22 r ps x)).2 else ps := by unfold step22; rw [if_neg hk]
  have hke : key22 r ps x = if x.kind = 2 ∨ x.kind = 3 then ((nxt22 r ps x.seq).getD reqT_z).key else x.key := rfl
  rw [hst]
  revert hke
  generalize key22 r ps x = k
  intro hke
  unfold Step22
  refine tri Try.func60 rfl Try.ntmps60 (by simp) ?_
  repeat (first | refine wLd5 ?_ | (refine kLd5 ?_; (first | rintro _ _ ⟨rfl, rfl⟩ | rintro _ _ ⟨_, rfl, rfl⟩ | rintro _ _ ⟨_, _, ⟨_, _⟩, rfl, rfl⟩); try refine ⟨sConv, ?_⟩) | refine Dr.two ?_ ?_)
  rename_i g3
  refine L.step (by decide) (S.call rfl rfl Try.func46 (by kernel_rfl) rfl sPicks (fun E' hE => lnext_any E' g B n d r ls x.seq hn5 hs.nl hs.lok) ?_)
  unfold Nxt
  rw [hs.hl]
  obtain ⟨q, hq⟩ : ∃ q, (nxt22 r ps x.seq).getD reqT_z = q := ⟨_, rfl⟩
  obtain ⟨b, hb⟩ : ∃ b, (nxt22 r ps x.seq).isSome = b := ⟨_, rfl⟩
  rw [hq] at hke
  rw [hq, hb]
  rintro y H' ⟨rfl, rfl⟩
  refine ⟨_, rfl, _, sCat, ?_⟩
  repeat (first | refine wLd5 ?_ | (refine kLd5 ?_; (first | rintro _ _ ⟨rfl, rfl⟩ | rintro _ _ ⟨_, rfl, rfl⟩ | rintro _ _ ⟨_, _, ⟨_, _⟩, rfl, rfl⟩); try refine ⟨sConv, ?_⟩) | refine Dr.two ?_ ?_)
  refine L.step (by decide) (S.call rfl rfl Try.func103 (by kernel_rfl) rfl sPicks (fun E' hE => bnext_any E' gb Bb n db r bs x.seq hn5 hs.nb hs.bok) ?_)
  unfold Nxt
  rw [hs.hb, hq, hb]
  rintro y H' ⟨rfl, rfl⟩
  refine ⟨_, rfl, _, sCat, ?_⟩
  have hqe : (!decide ((⟨⟨⟨q.key.id.rep, q.key.id.seq⟩, q.key.ord, q.key.undo⟩, ⟨q.what.kind, q.what.a, q.what.n, ⟨q.what.ref.rep, q.what.ref.seq⟩⟩⟩ : Req) = ⟨⟨⟨q.key.id.rep, q.key.id.seq⟩, q.key.ord, q.key.undo⟩, ⟨q.what.kind, q.what.a, q.what.n, ⟨q.what.ref.rep, q.what.ref.seq⟩⟩⟩)) = false := by rw [decide_eq_true rfl]; rfl
  have hb2 := hbb b
  repeat ((fail_if_success (refine C.seq (x := Code.region 8 _ _) ?_)); first | refine vLd5 ?_ | (refine kLd5 ?_; (first | rintro _ _ ⟨rfl, rfl⟩ | rintro _ _ ⟨_, rfl, rfl⟩ | rintro _ _ ⟨_, _, ⟨_, _⟩, rfl, rfl⟩); try refine ⟨sConv, ?_⟩) | refine Dr.two ?_ ?_)
  rename_i g7 g9 g11
  refine C.mid (X := Unit) (fun _ => [(0, .pointer (some ⟨gb, 0, none⟩)), (1, .pointer (some ⟨g, 0, none⟩)), (5, .pointer (some ⟨g3, 0, none⟩)), (11, .pointer (some ⟨g11, 0, none⟩))])
    (fun _ => blk g11 45 k.cs :: blk g3 63 x.cs :: all22 g gb r n B d ls Bb db bs) (fun _ => True) ?_ ?_
  · by_cases h2 : x.kind = 2
    · rw [if_pos (.inl h2)] at hke
      subst hke
      repeat (first | refine wLd5 ?_ | (refine kLd5 ?_; (first | rintro _ _ ⟨rfl, rfl⟩ | rintro _ _ ⟨_, rfl, rfl⟩ | rintro _ _ ⟨_, _, ⟨_, _⟩, rfl, rfl⟩); try refine ⟨sConv, ?_⟩) | refine Dr.two ?_ ?_)
      exact ⟨(), sHolds, sConv, trivial⟩
    by_cases h3 : x.kind = 3
    · rw [if_pos (.inr h3)] at hke
      subst hke
      repeat (first | refine wLd5 ?_ | (refine kLd5 ?_; (first | rintro _ _ ⟨rfl, rfl⟩ | rintro _ _ ⟨_, rfl, rfl⟩ | rintro _ _ ⟨_, _, ⟨_, _⟩, rfl, rfl⟩); try refine ⟨sConv, ?_⟩) | refine Dr.two ?_ ?_)
      exact ⟨(), sHolds, sConv, trivial⟩
    rw [if_neg (by omega)] at hke
    subst hke
    repeat (first | refine wLd5 ?_ | (refine kLd5 ?_; (first | rintro _ _ ⟨rfl, rfl⟩ | rintro _ _ ⟨_, rfl, rfl⟩ | rintro _ _ ⟨_, _, ⟨_, _⟩, rfl, rfl⟩); try refine ⟨sConv, ?_⟩) | refine Dr.two ?_ ?_)
    exact ⟨(), sHolds, sConv, trivial⟩
  rintro - F -
  by_cases ht : x.kind = 2 ∨ x.kind = 4
  · rw [if_pos ht]
    obtain ⟨z, hz⟩ : ∃ z, try22 r ps k x.now = z := ⟨_, rfl⟩
    have hb1 := hbt z.1
    rw [hz]
    rcases ht with ht | ht
    · repeat (first | refine wLd5 ?_ | (refine kLd5 ?_; (first | rintro _ _ ⟨rfl, rfl⟩ | rintro _ _ ⟨_, rfl, rfl⟩ | rintro _ _ ⟨_, _, ⟨_, _⟩, rfl, rfl⟩); try refine ⟨sConv, ?_⟩) | refine Dr.two ?_ ?_)
      refine C.regionA 100000 (.one 0 false (.one 1 false (.one 2 false (.one 3 false (.one 5 false (.one 6 false (.one 7 false (.one 8 false (.one 4 true (.one 9 true (.one 10 false (.one 11 false .nil)))))))))))) ([blk g11 45 k.cs, blk g3 63 x.cs]) (by kernel_rfl) (by kernel_rfl) sConv ?_
      repeat (first | refine wLd5 ?_ | (refine kLd5 ?_; (first | rintro _ _ ⟨rfl, rfl⟩ | rintro _ _ ⟨_, rfl, rfl⟩ | rintro _ _ ⟨_, _, ⟨_, _⟩, rfl, rfl⟩); try refine ⟨sConv, ?_⟩) | refine Dr.two ?_ ?_)
      refine Dr.go rfl (by rintro k ⟨⟩ <;> decide) sGon (S.call rfl rfl Try.func47 (by kernel_rfl) rfl sPicks (fun E' hE => ltry_any E' g B n d r ls k x.now hn5 hs.nl hs.lok hnow) ?_)
      rw [hs.hl, hz]
      unfold LPA
      rintro y H' ⟨l1, rfl, h1, h2, h4, rfl⟩
      refine ⟨_, rfl, _, sCat, sConv, ?_⟩
      repeat (first | refine wLd5 ?_ | (refine kLd5 ?_; (first | rintro _ _ ⟨rfl, rfl⟩ | rintro _ _ ⟨_, rfl, rfl⟩ | rintro _ _ ⟨_, _, ⟨_, _⟩, rfl, rfl⟩); try refine ⟨sConv, ?_⟩) | refine Dr.two ?_ ?_)
      refine Dr.go rfl (by rintro k ⟨⟩ <;> decide) sGon (S.call rfl rfl Try.func104 (by kernel_rfl) rfl sPicks (fun E' hE => btry_any E' gb Bb n db r bs k x.now hn5 hs.nb hs.bok hnow) ?_)
      rw [hs.hb, hz]
      unfold BPA
      rintro y H' ⟨l2, rfl, k1, k2, k4, rfl⟩
      refine ⟨_, rfl, _, sCat, sConv, ?_⟩
      repeat (first | refine wLd5 ?_ | (refine kLd5 ?_; (first | rintro _ _ ⟨rfl, rfl⟩ | rintro _ _ ⟨_, rfl, rfl⟩ | rintro _ _ ⟨_, _, ⟨_, _⟩, rfl, rfl⟩); try refine ⟨sConv, ?_⟩) | refine Dr.two ?_ ?_)
      exact ret1 rfl sRet sConv (⟨n, B, d, l1, Bb, db, l2, by rw [hb1], ⟨by rw [← h4, List.length_map]; exact h2, hs.hd, hs.hdb, h1, k1, h4, k4⟩, rfl⟩)
    · repeat (first | refine wLd5 ?_ | (refine kLd5 ?_; (first | rintro _ _ ⟨rfl, rfl⟩ | rintro _ _ ⟨_, rfl, rfl⟩ | rintro _ _ ⟨_, _, ⟨_, _⟩, rfl, rfl⟩); try refine ⟨sConv, ?_⟩) | refine Dr.two ?_ ?_)
      refine C.regionA 100000 (.one 0 false (.one 1 false (.one 2 false (.one 3 false (.one 5 false (.one 6 false (.one 7 false (.one 8 false (.one 4 true (.one 9 true (.one 10 false (.one 11 false .nil)))))))))))) ([blk g11 45 k.cs, blk g3 63 x.cs]) (by kernel_rfl) (by kernel_rfl) sConv ?_
      repeat (first | refine wLd5 ?_ | (refine kLd5 ?_; (first | rintro _ _ ⟨rfl, rfl⟩ | rintro _ _ ⟨_, rfl, rfl⟩ | rintro _ _ ⟨_, _, ⟨_, _⟩, rfl, rfl⟩); try refine ⟨sConv, ?_⟩) | refine Dr.two ?_ ?_)
      refine Dr.go rfl (by rintro k ⟨⟩ <;> decide) sGon (S.call rfl rfl Try.func47 (by kernel_rfl) rfl sPicks (fun E' hE => ltry_any E' g B n d r ls k x.now hn5 hs.nl hs.lok hnow) ?_)
      rw [hs.hl, hz]
      unfold LPA
      rintro y H' ⟨l1, rfl, h1, h2, h4, rfl⟩
      refine ⟨_, rfl, _, sCat, sConv, ?_⟩
      repeat (first | refine wLd5 ?_ | (refine kLd5 ?_; (first | rintro _ _ ⟨rfl, rfl⟩ | rintro _ _ ⟨_, rfl, rfl⟩ | rintro _ _ ⟨_, _, ⟨_, _⟩, rfl, rfl⟩); try refine ⟨sConv, ?_⟩) | refine Dr.two ?_ ?_)
      refine Dr.go rfl (by rintro k ⟨⟩ <;> decide) sGon (S.call rfl rfl Try.func104 (by kernel_rfl) rfl sPicks (fun E' hE => btry_any E' gb Bb n db r bs k x.now hn5 hs.nb hs.bok hnow) ?_)
      rw [hs.hb, hz]
      unfold BPA
      rintro y H' ⟨l2, rfl, k1, k2, k4, rfl⟩
      refine ⟨_, rfl, _, sCat, sConv, ?_⟩
      repeat (first | refine wLd5 ?_ | (refine kLd5 ?_; (first | rintro _ _ ⟨rfl, rfl⟩ | rintro _ _ ⟨_, rfl, rfl⟩ | rintro _ _ ⟨_, _, ⟨_, _⟩, rfl, rfl⟩); try refine ⟨sConv, ?_⟩) | refine Dr.two ?_ ?_)
      exact ret1 rfl sRet sConv (⟨n, B, d, l1, Bb, db, l2, by rw [hb1], ⟨by rw [← h4, List.length_map]; exact h2, hs.hd, hs.hdb, h1, k1, h4, k4⟩, rfl⟩)
  rw [if_neg ht]
  by_cases ha : x.kind = 3 ∨ x.kind = 5
  · rw [if_pos ha]
    obtain ⟨z, hz⟩ : ∃ z, ack22 r ps k = z := ⟨_, rfl⟩
    have hb1 := hbt z.1
    rw [hz]
    rcases ha with ha | ha
    · repeat (first | refine wLd5 ?_ | (refine kLd5 ?_; (first | rintro _ _ ⟨rfl, rfl⟩ | rintro _ _ ⟨_, rfl, rfl⟩ | rintro _ _ ⟨_, _, ⟨_, _⟩, rfl, rfl⟩); try refine ⟨sConv, ?_⟩) | refine Dr.two ?_ ?_)
      refine C.regionA 100000 (.one 0 false (.one 1 false (.one 3 false (.one 4 false (.one 2 true (.one 5 true (.one 6 false (.one 7 false .nil)))))))) ([blk g11 45 k.cs]) (by kernel_rfl) (by kernel_rfl) sConv ?_
      repeat (first | refine wLd5 ?_ | (refine kLd5 ?_; (first | rintro _ _ ⟨rfl, rfl⟩ | rintro _ _ ⟨_, rfl, rfl⟩ | rintro _ _ ⟨_, _, ⟨_, _⟩, rfl, rfl⟩); try refine ⟨sConv, ?_⟩) | refine Dr.two ?_ ?_)
      refine Dr.go rfl (by rintro k ⟨⟩ <;> decide) sGon (S.call rfl rfl Try.func48 (by kernel_rfl) rfl sPicks (fun E' hE => lack_any E' g B n d r ls k hn5 hs.nl hs.lok) ?_)
      rw [hs.hl, hz]
      unfold LPA
      rintro y H' ⟨l1, rfl, h1, h2, h4, rfl⟩
      refine ⟨_, rfl, _, sCat, sConv, ?_⟩
      repeat (first | refine wLd5 ?_ | (refine kLd5 ?_; (first | rintro _ _ ⟨rfl, rfl⟩ | rintro _ _ ⟨_, rfl, rfl⟩ | rintro _ _ ⟨_, _, ⟨_, _⟩, rfl, rfl⟩); try refine ⟨sConv, ?_⟩) | refine Dr.two ?_ ?_)
      refine Dr.go rfl (by rintro k ⟨⟩ <;> decide) sGon (S.call rfl rfl Try.func105 (by kernel_rfl) rfl sPicks (fun E' hE => back_any E' gb Bb n db r bs k hn5 hs.nb hs.bok) ?_)
      rw [hs.hb, hz]
      unfold BPA
      rintro y H' ⟨l2, rfl, k1, k2, k4, rfl⟩
      refine ⟨_, rfl, _, sCat, sConv, ?_⟩
      repeat (first | refine wLd5 ?_ | (refine kLd5 ?_; (first | rintro _ _ ⟨rfl, rfl⟩ | rintro _ _ ⟨_, rfl, rfl⟩ | rintro _ _ ⟨_, _, ⟨_, _⟩, rfl, rfl⟩); try refine ⟨sConv, ?_⟩) | refine Dr.two ?_ ?_)
      exact ret1 rfl sRet sConv (⟨n, B, d, l1, Bb, db, l2, by rw [hb1], ⟨by rw [← h4, List.length_map]; exact h2, hs.hd, hs.hdb, h1, k1, h4, k4⟩, rfl⟩)
    · repeat (first | refine wLd5 ?_ | (refine kLd5 ?_; (first | rintro _ _ ⟨rfl, rfl⟩ | rintro _ _ ⟨_, rfl, rfl⟩ | rintro _ _ ⟨_, _, ⟨_, _⟩, rfl, rfl⟩); try refine ⟨sConv, ?_⟩) | refine Dr.two ?_ ?_)
      refine C.regionA 100000 (.one 0 false (.one 1 false (.one 3 false (.one 4 false (.one 2 true (.one 5 true (.one 6 false (.one 7 false .nil)))))))) ([blk g11 45 k.cs]) (by kernel_rfl) (by kernel_rfl) sConv ?_
      repeat (first | refine wLd5 ?_ | (refine kLd5 ?_; (first | rintro _ _ ⟨rfl, rfl⟩ | rintro _ _ ⟨_, rfl, rfl⟩ | rintro _ _ ⟨_, _, ⟨_, _⟩, rfl, rfl⟩); try refine ⟨sConv, ?_⟩) | refine Dr.two ?_ ?_)
      refine Dr.go rfl (by rintro k ⟨⟩ <;> decide) sGon (S.call rfl rfl Try.func48 (by kernel_rfl) rfl sPicks (fun E' hE => lack_any E' g B n d r ls k hn5 hs.nl hs.lok) ?_)
      rw [hs.hl, hz]
      unfold LPA
      rintro y H' ⟨l1, rfl, h1, h2, h4, rfl⟩
      refine ⟨_, rfl, _, sCat, sConv, ?_⟩
      repeat (first | refine wLd5 ?_ | (refine kLd5 ?_; (first | rintro _ _ ⟨rfl, rfl⟩ | rintro _ _ ⟨_, rfl, rfl⟩ | rintro _ _ ⟨_, _, ⟨_, _⟩, rfl, rfl⟩); try refine ⟨sConv, ?_⟩) | refine Dr.two ?_ ?_)
      refine Dr.go rfl (by rintro k ⟨⟩ <;> decide) sGon (S.call rfl rfl Try.func105 (by kernel_rfl) rfl sPicks (fun E' hE => back_any E' gb Bb n db r bs k hn5 hs.nb hs.bok) ?_)
      rw [hs.hb, hz]
      unfold BPA
      rintro y H' ⟨l2, rfl, k1, k2, k4, rfl⟩
      refine ⟨_, rfl, _, sCat, sConv, ?_⟩
      repeat (first | refine wLd5 ?_ | (refine kLd5 ?_; (first | rintro _ _ ⟨rfl, rfl⟩ | rintro _ _ ⟨_, rfl, rfl⟩ | rintro _ _ ⟨_, _, ⟨_, _⟩, rfl, rfl⟩); try refine ⟨sConv, ?_⟩) | refine Dr.two ?_ ?_)
      exact ret1 rfl sRet sConv (⟨n, B, d, l1, Bb, db, l2, by rw [hb1], ⟨by rw [← h4, List.length_map]; exact h2, hs.hd, hs.hdb, h1, k1, h4, k4⟩, rfl⟩)
  rw [if_neg ha]
  repeat (first | refine wLd5 ?_ | (refine kLd5 ?_; (first | rintro _ _ ⟨rfl, rfl⟩ | rintro _ _ ⟨_, rfl, rfl⟩ | rintro _ _ ⟨_, _, ⟨_, _⟩, rfl, rfl⟩); try refine ⟨sConv, ?_⟩) | refine Dr.two ?_ ?_)
  exact ret1 rfl sRet sConv (⟨n, B, d, ls, Bb, db, bs, rfl, hs, rfl⟩)
end
end Go.Proofs.Ytkhmplaocfjpjaa.Sep
/- the law of the ledger: all that is told; all calls. By parts of memory. -/
namespace Go.Proofs.Ytkhmplaocfjpjaa.Sep
open Go.RowKit Go.Proofs.Ytkhmplaocfjpjaa.Reg
open Go.Proofs.Ytkhmplaocfjpjaa.Mem hiding Rd Own
-- types: entT enrT effT lineT rchT chvT efsT op22T keyT reqT
-- recs: idnT_rec effT_rec cfgT_rec entT_rec enrT_rec keyT_rec reqT_rec chain_rec chref_rec op22T_rec lineT_rec ledger_rec bk22_rec
-- eqs: idnT_eqa effT_eqa entT_eqa enrT_eqa keyT_eqa reqT_eqa
-- funcs
-- flds
-- elts
-- eachs
set_option maxRecDepth 100000
set_option maxHeartbeats 4000000
theorem same_at {r : Int} {ps : List S21} {n d db : Nat} {ls bs : List Lnv} (hs : S22 r ps n d db ls bs) {i : Nat} {e : Lnv} (he : bs[i]? = some e) : ∃ f, ls[i]? = some f ∧ f.id = e.id ∧ f.made = e.made ∧ f.l = e.l ∧ f.w = e.w ∧ f.n = e.n ∧ f.nx = e.nx := by
  have h1 : (bs.map Lnv.s)[i]? = some e.s := by rw [List.getElem?_map, he]; rfl
  rw [hs.hb, ← hs.hl, List.getElem?_map] at h1
  obtain ⟨f, hf, hfe⟩ := Option.map_eq_some_iff.1 h1
  have ho := hs.lok i f hf
  have hb := hs.bok i e he
  have g1 : f.made = e.made := congrArg S21.made hfe
  have g2 : f.l = e.l := congrArg S21.l hfe
  have g3 : f.w = e.w := congrArg S21.w hfe
  exact ⟨f, hf, by rw [ho.id, hb.id], g1, g2, g3, by rw [ho.n, hb.n, g2], by rw [ho.nx, hb.nx, g3]⟩
theorem quietP_succ {ps : List S21} {i : Nat} {s : S21} (h : ps[i]? = some s) : quietP (ps.take (i + 1)) = (quietP (ps.take i) && quiet s.l s.w) := by
  unfold quietP
  rw [List.take_add_one, h, List.all_append]
  simp
section
variable (E : Env) (g gb : Nat) (r : Int) (ps : List S21) (n : Nat) (B : Option Addr) (d : Nat) (ls : List Lnv) (Bb : Option Addr) (db : Nat) (bs : List Lnv)
theorem told22 (hs : S22 r ps n d db ls bs) (hn : n ≤ 1000) : Tri Try.prog E 28 #[.pointer (some ⟨gb, 0, none⟩), .pointer (some ⟨g, 0, none⟩)] (all22 g gb r n B d ls Bb db bs) fun e H' => e = .returned (.bool true) ∧ H' = all22 g gb r n B d ls Bb db bs := by
  have hmax : maxLen = 9223372036854775807 := rfl
  have hbt : ∀ b : Bool, (b == b) = true := fun b => by cases b <;> rfl
  have hbq := hbt (quietP ps)
  have hnb := hs.nb
  have hdb1 := hs.hdb
  refine tri Try.func28 rfl Try.ntmps28 (by simp) ?_
  repeat (first | refine wLd5 ?_ | (refine kLd5 ?_; (first | rintro _ _ ⟨rfl, rfl⟩ | rintro _ _ ⟨_, rfl, rfl⟩ | rintro _ _ ⟨_, _, ⟨_, _⟩, rfl, rfl⟩); try refine ⟨sConv, ?_⟩) | refine Dr.two ?_ ?_)
  refine L.step (by decide) (S.call rfl rfl Try.func24 (by kernel_rfl) rfl sPicks (fun E' hE => lchains E' g B n d r ls hn hs.nl hs.lok) ?_)
  rintro e H' ⟨O, oc, cl, rfl, hcl, hcat, rfl⟩
  refine ⟨_, rfl, _, sCat, ?_⟩
  repeat (first | refine wLd5 ?_ | (refine kLd5 ?_; (first | rintro _ _ ⟨rfl, rfl⟩ | rintro _ _ ⟨_, rfl, rfl⟩ | rintro _ _ ⟨_, _, ⟨_, _⟩, rfl, rfl⟩); try refine ⟨sConv, ?_⟩) | refine Dr.two ?_ ?_)
  refine L.step (by decide) (S.call rfl rfl Try.func25 (by kernel_rfl) rfl sPicks (fun E' hE => lwants E' g B n d r ls hn hs.nl hs.lok) ?_)
  rintro e H' ⟨O2, oc2, fl, rfl, hfl, hfat, rfl⟩
  refine ⟨_, rfl, _, sCat, ?_⟩
  have hcl2 : n = cl.length := hcl.symm
  have hfl2 : n = fl.length := hfl.symm
  repeat (first | refine wLd5 ?_ | (refine kLd5 ?_; (first | rintro _ _ ⟨rfl, rfl⟩ | rintro _ _ ⟨_, rfl, rfl⟩ | rintro _ _ ⟨_, _, ⟨_, _⟩, rfl, rfl⟩); try refine ⟨sConv, ?_⟩) | refine Dr.two ?_ ?_)
  refine C.loop (X := Nat) (fun i => [(0, .pointer (some ⟨gb, 0, none⟩)), (1, .pointer (some ⟨g, 0, none⟩)), (5, .slice O n oc), (6, .slice O2 n oc2), (7, .bool (quietP (ps.take i))), (8, .int .i64 i)])
    (fun _ => [own chvT O n oc cl, each cStk cl, own efsT O2 n oc2 fl, each fWnt fl, lg g B n d r, own lineT B n d ls, each lStk ls, each lWnt ls, bg gb Bb n db r, own rchT Bb n db bs, each bStk bs, each lWnt bs]) (fun i => i ≤ n) (fun i => n - i) 0 sHolds sConv (Nat.zero_le _) ?_
  rintro i F hi
  by_cases hlt : i < n
  · obtain ⟨e, he⟩ : ∃ e, bs[i]? = some e := ⟨_, List.getElem?_eq_getElem (by omega)⟩
    have hpe : ps[i]? = some e.s := by rw [← hs.hb, List.getElem?_map, he]; rfl
    have hoe := hs.bok i e he
    have hqs := quietP_succ hpe
    obtain ⟨f, hf, f1, f2, f3, f4, f5, f6⟩ := same_at hs he
    obtain ⟨vA, vc, hv, hvc⟩ : ∃ vA vc, cl[i]? = some (⟨e.id, e.made, vA, e.n, vc, e.l⟩ : Chv) ∧ (e.n ≤ vc ∧ vc ≤ maxLen) := by
      obtain ⟨⟨a, b, c, m, k, l⟩, h0, h1, h2, h3, h4, h5⟩ := hcat i f hf
      dsimp only at h1 h2 h3 h4 h5
      subst h1 h2 h3 h4
      rw [f1, f2, f3, f5] at h0
      exact ⟨c, k, h0, by omega⟩
    obtain ⟨uA, uc, hu, huc⟩ : ∃ uA uc, fl[i]? = some (⟨uA, e.nx, uc, e.w⟩ : Efs) ∧ (e.nx ≤ uc ∧ uc ≤ maxLen) := by
      obtain ⟨⟨c, m, k, l⟩, h0, h3, h4, h5⟩ := hfat i f hf
      dsimp only at h3 h4 h5
      subst h3 h4
      rw [f4, f6] at h0
      exact ⟨c, k, h0, by omega⟩
    have hel : e.n ≤ 1000000 := by have h1 := hoe.s.len; have h2 := hoe.s.made1; have h3 := hoe.n; unfold Lnv.s at h1 h2; dsimp only at h1 h2; omega
    have hel2 := hoe.n
    have hec := hoe.c
    have hmd : decide (e.made ≠ e.made) = false := by simp
    have hnd : decide (((e.n : Nat) : Int) ≠ ((e.n : Nat) : Int)) = false := by simp
    have hnm : e.n ≤ maxLen := by omega
    have hid : (!decide ((⟨e.id.rep, e.id.seq⟩ : Idn) = ⟨e.id.rep, e.id.seq⟩)) = false := by rw [decide_eq_true rfl]; rfl
    repeat (first | refine wLd5 ?_ | (refine kLd5 ?_; (first | rintro _ _ ⟨rfl, rfl⟩ | rintro _ _ ⟨_, rfl, rfl⟩ | rintro _ _ ⟨_, _, ⟨_, _⟩, rfl, rfl⟩); try refine ⟨sConv, ?_⟩) | refine Dr.two ?_ ?_)
    rename_i g9
    refine C.regionA 100000 (.one 0 false (.one 1 false (.one 2 false (.one 3 false (.one 4 false (.one 5 false (.one 6 false (.one 7 false (.one 8 false (.one 9 false (.one 10 false (.one 11 false (.one 12 false (.one 13 false (.one 14 false (.one 15 false (.one 16 false (.one 17 false (.one 18 false (.one 19 false (.one 20 false (.one 21 false (.one 22 false (.one 23 false (.one 24 false (.one 25 false (.one 26 false (.one 27 false (.one 28 false (.one 29 false (.one 30 false (.one 31 false (.one 32 false (.one 33 false (.one 34 false (.one 35 false (.one 36 false (.one 37 true (.one 38 false (.one 39 false .nil)))))))))))))))))))))))))))))))))))))))) _ (by kernel_rfl) (by kernel_rfl) Conv.refl ?_
    repeat (first | refine wLd5 ?_ | (refine kLd5 ?_; (first | rintro _ _ ⟨rfl, rfl⟩ | rintro _ _ ⟨_, rfl, rfl⟩ | rintro _ _ ⟨_, _, ⟨_, _⟩, rfl, rfl⟩); try refine ⟨sConv, ?_⟩) | refine Dr.two ?_ ?_)
    refine Dr.go rfl (by rintro k ⟨⟩ <;> decide) sGon (S.call rfl rfl Try.func76 (by kernel_rfl) rfl sPicks (fun E' hE => effs22 E' uA e.nx uc e.X e.nx e.cx e.w (Sub.each (f := fWnt) hE sHas hu rfl) (Sub.each (f := lWnt) hE sHas he rfl)) ?_)
    rintro y H' ⟨rfl, rfl⟩
    refine ⟨_, rfl, _, sCat, sConv, ?_⟩
    repeat (first | refine wLd5 ?_ | (refine kLd5 ?_; (first | rintro _ _ ⟨rfl, rfl⟩ | rintro _ _ ⟨_, rfl, rfl⟩ | rintro _ _ ⟨_, _, ⟨_, _⟩, rfl, rfl⟩); try refine ⟨sConv, ?_⟩) | refine Dr.two ?_ ?_)
    refine C.loop (X := Nat) (fun k => [(0, .pointer (some ⟨gb, 0, none⟩)), (1, .pointer (some ⟨g, 0, none⟩)), (5, .slice O n oc), (6, .slice O2 n oc2), (7, .bool (quietP (ps.take i))), (8, .int .i64 i), (9, .pointer (some ⟨g9, 0, none⟩)), (10, .int .i64 k)])
      (fun _ => [mch g9 e.id e.made e.A e.n e.c e.X e.nx e.cx, own chvT O n oc cl, each cStk cl, own efsT O2 n oc2 fl, each fWnt fl, lg g B n d r, own lineT B n d ls, each lStk ls, each lWnt ls, bg gb Bb n db r, own rchT Bb n db bs, each bStk bs, each lWnt bs]) (fun k => k ≤ e.n) (fun k => e.n - k) 0 sHolds sConv (Nat.zero_le _) ?_
    rintro k F2 hk
    by_cases hkl : k < e.n
    · have hx : e.l[k]? = some e.l[k] := List.getElem?_eq_getElem (by omega)
      generalize e.l[k] = z at hx
      have hde : (!decide ((⟨z.ord, ⟨z.what.kind, z.what.a, z.what.n, ⟨z.what.ref.rep, z.what.ref.seq⟩⟩, z.sent, z.last, z.acked, z.gone, z.back, z.backLast⟩ : Ent) = ⟨z.ord, ⟨z.what.kind, z.what.a, z.what.n, ⟨z.what.ref.rep, z.what.ref.seq⟩⟩, z.sent, z.last, z.acked, z.gone, z.back, z.backLast⟩)) = false := by rw [decide_eq_true rfl]; rfl
      repeat (first | refine wLd5 ?_ | (refine kLd5 ?_; (first | rintro _ _ ⟨rfl, rfl⟩ | rintro _ _ ⟨_, rfl, rfl⟩ | rintro _ _ ⟨_, _, ⟨_, _⟩, rfl, rfl⟩); try refine ⟨sConv, ?_⟩) | refine Dr.two ?_ ?_)
      rename_i g11
      refine C.conv (H' := [each bStk bs, blk g11 73 z.cs, mch g9 e.id e.made e.A e.n e.c e.X e.nx e.cx, own chvT O n oc cl, each cStk cl, own efsT O2 n oc2 fl, each fWnt fl, lg g B n d r, own lineT B n d ls, each lStk ls, each lWnt ls, bg gb Bb n db r, own rchT Bb n db bs, each lWnt bs]) sConv ?_
      refine C.regionA 100000 (.one 0 false (.one 1 false (.one 2 false (.one 3 false (.one 4 false (.one 5 false (.one 6 false (.one 7 false (.one 8 false (.one 9 false (.one 10 false (.one 11 false (.one 12 false (.one 13 false (.one 14 false (.one 15 false (.one 16 false (.one 17 false (.one 18 false (.one 19 false (.one 20 false (.one 21 false (.one 22 false .nil))))))))))))))))))))))) _ (by kernel_rfl) (by kernel_rfl) Conv.refl ?_
      repeat (first | refine wLd5 ?_ | (refine kLd5 ?_; (first | rintro _ _ ⟨rfl, rfl⟩ | rintro _ _ ⟨_, rfl, rfl⟩ | rintro _ _ ⟨_, _, ⟨_, _⟩, rfl, rfl⟩); try refine ⟨sConv, ?_⟩) | refine Dr.two ?_ ?_)
      exact ⟨k + 1, sHolds, sConv, by omega, by omega⟩
    obtain rfl : k = e.n := by omega
    rcases Bool.eq_false_or_eq_true (quietP (ps.take i)) with hq | hq
    · rw [hq] at hqs
      repeat (first | refine wLd5 ?_ | (refine kLd5 ?_; (first | rintro _ _ ⟨rfl, rfl⟩ | rintro _ _ ⟨_, rfl, rfl⟩ | rintro _ _ ⟨_, _, ⟨_, _⟩, rfl, rfl⟩); try refine ⟨sConv, ?_⟩) | refine Dr.two ?_ ?_)
      refine L.step (by decide) (S.call rfl rfl Try.func77 (by kernel_rfl) rfl sPicks (fun E' hE => rquiet E' g9 e.id e.made e.A e.n e.c e.l e.w e.X e.nx e.cx (Sub.each (f := bStk) hE sHas he rfl) (Sub.each (f := lWnt) hE sHas he rfl)) ?_)
      rintro y H' ⟨rfl, rfl⟩
      refine ⟨_, rfl, _, sCat, ?_⟩
      repeat (first | refine wLd5 ?_ | (refine kLd5 ?_; (first | rintro _ _ ⟨rfl, rfl⟩ | rintro _ _ ⟨_, rfl, rfl⟩ | rintro _ _ ⟨_, _, ⟨_, _⟩, rfl, rfl⟩); try refine ⟨sConv, ?_⟩) | refine Dr.two ?_ ?_)
      exact ⟨i + 1, by rw [hqs]; exact sHolds, sConv, by omega, by omega⟩
    · rw [hq] at hqs
      repeat (first | refine wLd5 ?_ | (refine kLd5 ?_; (first | rintro _ _ ⟨rfl, rfl⟩ | rintro _ _ ⟨_, rfl, rfl⟩ | rintro _ _ ⟨_, _, ⟨_, _⟩, rfl, rfl⟩); try refine ⟨sConv, ?_⟩) | refine Dr.two ?_ ?_)
      exact ⟨i + 1, by rw [hqs]; exact sHolds, sConv, by omega, by omega⟩
  obtain rfl : i = n := by omega
  rw [List.take_of_length_le (by rw [← hs.hn]; exact Nat.le_refl _)]
  repeat (first | refine wLd5 ?_ | (refine kLd5 ?_; (first | rintro _ _ ⟨rfl, rfl⟩ | rintro _ _ ⟨_, rfl, rfl⟩ | rintro _ _ ⟨_, _, ⟨_, _⟩, rfl, rfl⟩); try refine ⟨sConv, ?_⟩) | refine Dr.two ?_ ?_)
  refine L.step (by decide) (S.call rfl rfl Try.func49 (by kernel_rfl) rfl sPicks (fun E' hE => lquiet E' g B i d r ls) ?_)
  rw [hs.hl]
  rintro y H' ⟨rfl, rfl⟩
  refine ⟨_, rfl, _, sCat, ?_⟩
  repeat (first | refine wLd5 ?_ | (refine kLd5 ?_; (first | rintro _ _ ⟨rfl, rfl⟩ | rintro _ _ ⟨_, rfl, rfl⟩ | rintro _ _ ⟨_, _, ⟨_, _⟩, rfl, rfl⟩); try refine ⟨sConv, ?_⟩) | refine Dr.two ?_ ?_)
  exact ret1 rfl sRet sConv (⟨by rw [hbq], rfl⟩)
end
end Go.Proofs.Ytkhmplaocfjpjaa.Sep
/- the law of the ledger: all calls, of both. By parts of memory. -/
namespace Go.Proofs.Ytkhmplaocfjpjaa.Sep
open Go.RowKit Go.Proofs.Ytkhmplaocfjpjaa.Reg
open Go.Proofs.Ytkhmplaocfjpjaa.Mem hiding Rd Own
-- types: entT enrT effT lineT rchT chvT efsT op22T keyT reqT
-- recs: idnT_rec effT_rec cfgT_rec entT_rec enrT_rec keyT_rec reqT_rec chain_rec chref_rec op22T_rec lineT_rec ledger_rec bk22_rec
-- eqs: idnT_eqa effT_eqa entT_eqa enrT_eqa keyT_eqa reqT_eqa
-- funcs
-- flds
-- elts
-- eachs
set_option maxRecDepth 100000
set_option maxHeartbeats 4000000
def runs22 (r : Int) (ps : List S21) (l : List Op22) : List S21 := l.foldl (step22 r) ps
theorem runs22_succ {r : Int} {ps : List S21} {l : List Op22} {i : Nat} (h : i < l.length) : runs22 r ps (l.take (i + 1)) = step22 r (runs22 r ps (l.take i)) l[i] := by
  unfold runs22
  rw [List.take_succ_eq_append_getElem h, List.foldl_append]; rfl
theorem put22_length (ps : List S21) (i : Nat) (w : List Eff) : (put22 ps i w).length ≤ ps.length + 1 := by
  unfold put22
  split
  · rw [List.length_set]; omega
  · rw [List.length_append]; exact Nat.le_refl _
theorem step22_length (r : Int) (ps : List S21) (x : Op22) : (step22 r ps x).length ≤ ps.length + 1 := by
  unfold step22
  split
  · unfold puts22
    split
    · exact put22_length _ _ _
    · exact Nat.le_succ _
  · split
    · unfold try22
      split
      · dsimp only; rw [List.length_set]; omega
      · exact Nat.le_succ _
    · split
      · unfold ack22
        split
        · dsimp only; rw [List.length_set]; omega
        · exact Nat.le_succ _
      · exact Nat.le_succ _
/-- what is known of a call that is given -/
structure In22 (E : Env) (x : Op22) : Prop where
  w : Rd E effT x.want.A x.want.n x.want.c x.want.l
  ok : ∀ f ∈ x.want.l, f.ok
  now : I64 x.now
theorem In22.sub {E E' : Env} {R : List Asn} {x : Op22} (hE : Sub E R E') (h : In22 E x) : In22 E' x := ⟨h.w.sub hE, h.ok, h.now⟩
theorem In22.few {E : Env} {l : List Op22} (h : ∀ x ∈ l, In22 E x) : ∀ x ∈ few22 l, In22 E x := by
  intro x hx
  have hw := Ws22.few (fun y hy => (h y hy).w) x hx
  obtain ⟨y, hy, rfl⟩ := List.mem_map.1 hx
  obtain ⟨h1, h2, h3⟩ := h y (List.mem_of_mem_take hy)
  refine ⟨hw, fun f hf => h2 f ?_, h3⟩
  unfold Op22.cut Efs.cut6 at hf
  dsimp only at hf
  split at hf
  · exact List.mem_of_mem_take hf
  · exact hf
section
variable (E : Env) (g gb : Nat) (r : Int) (ps : List S21) (n : Nat) (B : Option Addr) (d : Nat) (ls : List Lnv) (Bb : Option Addr) (db : Nat) (bs : List Lnv)
theorem step22_any (hs : S22 r ps n d db ls bs) (hn : n ≤ 1000) (x : Op22) (hx : In22 E x) (hx8 : x.want.n ≤ 8) :
    Tri Try.prog E 60 #[.pointer (some ⟨gb, 0, none⟩), .pointer (some ⟨g, 0, none⟩), .agg x.cs.toArray] (all22 g gb r n B d ls Bb db bs) (Step22 g gb r (step22 r ps x)) := by
  by_cases hk : x.kind = 1
  · exact step22_1 E g gb r ps n B d ls Bb db bs hs hn x hk hx.w hx8 hx.ok
  · exact step22_0 E g gb r ps n B d ls Bb db bs hs hn x hk hx.now
theorem run22 (O : Option Addr) (m co : Nat) (ops : List Op22) (hr : Rd E op22T O m co ops) (hin : ∀ x ∈ ops, In22 E x) (h8 : ∀ x ∈ ops, x.want.n ≤ 8) (hs : S22 r ps n d db ls bs) (hb : n + m ≤ 1000) :
    Tri Try.prog E 13 #[.pointer (some ⟨gb, 0, none⟩), .pointer (some ⟨g, 0, none⟩), .slice O m co] (all22 g gb r n B d ls Bb db bs) (Step22 g gb r (runs22 r ps ops)) := by
  have hm := hr.len
  have hmc := hr.cap
  have hmax : maxLen = 9223372036854775807 := rfl
  unfold Step22
  refine tri Try.func13 rfl Try.ntmps13 (by simp) ?_
  repeat (first | refine wLd5 ?_ | (refine kLd5 ?_; (first | rintro _ _ ⟨rfl, rfl⟩ | rintro _ _ ⟨_, rfl, rfl⟩ | rintro _ _ ⟨_, _, ⟨_, _⟩, rfl, rfl⟩); try refine ⟨sConv, ?_⟩) | refine Dr.two ?_ ?_)
  refine C.loop (X := Nat × Nat × (Option Addr × Nat × List Lnv) × (Option Addr × Nat × List Lnv)) (fun x => [(0, .pointer (some ⟨gb, 0, none⟩)), (1, .pointer (some ⟨g, 0, none⟩)), (2, .slice O m co), (7, .int .i64 x.1)])
    (fun x => all22 g gb r x.2.1 x.2.2.1.1 x.2.2.1.2.1 x.2.2.1.2.2 x.2.2.2.1 x.2.2.2.2.1 x.2.2.2.2.2)
    (fun x => x.1 ≤ m ∧ S22 r (runs22 r ps (ops.take x.1)) x.2.1 x.2.2.1.2.1 x.2.2.2.2.1 x.2.2.1.2.2 x.2.2.2.2.2 ∧ x.2.1 ≤ n + x.1) (fun x => m - x.1) (0, n, (B, d, ls), (Bb, db, bs)) sHolds Conv.refl ⟨Nat.zero_le _, hs, Nat.le_refl _⟩ ?_
  rintro ⟨i, n1, ⟨B1, d1, l1⟩, ⟨B2, d2, l2⟩⟩ F ⟨hi, hs1, hn1⟩
  dsimp only at hi hs1 hn1 ⊢
  by_cases hlt : i < m
  · have hx : ops[i]? = some ops[i] := List.getElem?_eq_getElem (by omega)
    have hrun := runs22_succ (r := r) (ps := ps) (l := ops) (i := i) (by omega)
    have hxi := hin ops[i] (List.getElem_mem _)
    have hx8 := h8 ops[i] (List.getElem_mem _)
    generalize ops[i] = x at hx hrun hxi hx8
    have hlen := step22_length r (runs22 r ps (ops.take i)) x
    generalize runs22 r ps (ops.take i) = t at *
    have hn1k : n1 ≤ 1000 := by omega
    have h1t := hs1.hn
    repeat (first | refine wLd5 ?_ | (refine kLd5 ?_; (first | rintro _ _ ⟨rfl, rfl⟩ | rintro _ _ ⟨_, rfl, rfl⟩ | rintro _ _ ⟨_, _, ⟨_, _⟩, rfl, rfl⟩); try refine ⟨sConv, ?_⟩) | refine Dr.two ?_ ?_)
    refine L.step (by decide) (S.call rfl rfl Try.func60 (by kernel_rfl) rfl sPicks (fun E' hE => step22_any E' g gb r t n1 B1 d1 l1 B2 d2 l2 hs1 hn1k x (hxi.sub hE) hx8) ?_)
    unfold Step22
    rintro y H' ⟨n3, B3, d3, l3, B4, d4, l4, rfl, hs3, rfl⟩
    refine ⟨_, rfl, _, sCat, ?_⟩
    repeat (first | refine wLd5 ?_ | (refine kLd5 ?_; (first | rintro _ _ ⟨rfl, rfl⟩ | rintro _ _ ⟨_, rfl, rfl⟩ | rintro _ _ ⟨_, _, ⟨_, _⟩, rfl, rfl⟩); try refine ⟨sConv, ?_⟩) | refine Dr.two ?_ ?_)
    have h3t := hs3.hn
    exact ⟨(i + 1, n3, (B3, d3, l3), (B4, d4, l4)), sHolds, Conv.refl, ⟨by dsimp only; omega, by dsimp only; rw [hrun]; exact hs3, by dsimp only; omega⟩, by dsimp only; omega⟩
  obtain rfl : i = m := by omega
  rw [List.take_of_length_le (by omega)] at hs1
  have hn1k : n1 ≤ 1000 := by omega
  repeat (first | refine wLd5 ?_ | (refine kLd5 ?_; (first | rintro _ _ ⟨rfl, rfl⟩ | rintro _ _ ⟨_, rfl, rfl⟩ | rintro _ _ ⟨_, _, ⟨_, _⟩, rfl, rfl⟩); try refine ⟨sConv, ?_⟩) | refine Dr.two ?_ ?_)
  refine L.step (by decide) (S.call rfl rfl Try.func28 (by kernel_rfl) rfl sPicks (fun E' hE => told22 E' g gb r _ n1 B1 d1 l1 B2 d2 l2 hs1 hn1k) ?_)
  rintro y H' ⟨rfl, rfl⟩
  refine ⟨_, rfl, _, sCat, ?_⟩
  repeat (first | refine wLd5 ?_ | (refine kLd5 ?_; (first | rintro _ _ ⟨rfl, rfl⟩ | rintro _ _ ⟨_, rfl, rfl⟩ | rintro _ _ ⟨_, _, ⟨_, _⟩, rfl, rfl⟩); try refine ⟨sConv, ?_⟩) | refine Dr.two ?_ ?_)
  exact ret1 rfl sRet sConv (⟨n1, B1, d1, l1, B2, d2, l2, rfl, hs1, rfl⟩)
end
theorem S22.zero (r : Int) : S22 r [] 0 0 0 [] [] := ⟨rfl, ⟨Nat.le_refl _, Nat.zero_le _⟩, ⟨Nat.le_refl _, Nat.zero_le _⟩, fun i e h => by simp at h, fun i e h => by simp at h, rfl, rfl⟩
theorem conv22 {E : Env} {H : List Asn} : Conv E H (own lineT none 0 0 [] :: each lStk [] :: each lWnt [] :: own rchT none 0 0 [] :: each bStk [] :: each lWnt [] :: H) :=
  (Conv.each0 lWnt).trans ((Conv.each0 bStk).trans ((Conv.nil0 rchT none).trans ((Conv.each0 lWnt).trans ((Conv.each0 lStk).trans (Conv.nil0 lineT none)))))
abbrev f122 : Eff := ⟨1, 0, 0, ⟨0, 0⟩⟩
theorem b1 : puts22 [] 1 [f122] = (true, [⟨0, [], [f122]⟩]) := by kernel_rfl
theorem b2 : nxt22 2 [⟨0, [], [f122]⟩] 1 = some ⟨⟨⟨2, 1⟩, 1, false⟩, f122⟩ := by kernel_rfl
theorem b3 : accum (readyF 2 ⟨0, 0, 1, 0, 0⟩ 0) [⟨0, [], [f122]⟩] 1 = [⟨⟨⟨2, 1⟩, 1, false⟩, f122⟩] := by kernel_rfl
theorem b4 : try22 2 [⟨0, [], [f122]⟩] ⟨⟨2, 1⟩, 1, false⟩ 3 = (true, [⟨1, [⟨1, f122, 1, 3, false, false, 0, 0⟩], [f122]⟩]) := by kernel_rfl
theorem b5 : ack22 2 [⟨1, [⟨1, f122, 1, 3, false, false, 0, 0⟩], [f122]⟩] ⟨⟨2, 1⟩, 1, false⟩ = (true, [⟨1, [⟨1, f122, 1, 3, true, false, 0, 0⟩], [f122]⟩]) := by kernel_rfl
theorem b6 : puts22 [⟨1, [⟨1, f122, 1, 3, true, false, 0, 0⟩], [f122]⟩] 3 [] = (false, [⟨1, [⟨1, f122, 1, 3, true, false, 0, 0⟩], [f122]⟩]) := by kernel_rfl
theorem b7 : quietP [⟨1, [⟨1, f122, 1, 3, true, false, 0, 0⟩], [f122]⟩] = true := by kernel_rfl
end Go.Proofs.Ytkhmplaocfjpjaa.Sep
/- the law of the ledger: a chain that is tried and answered; LedgerRuns. By parts of memory. -/
namespace Go.Proofs.Ytkhmplaocfjpjaa.Sep
open Go.RowKit Go.Proofs.Ytkhmplaocfjpjaa.Reg
open Go.Proofs.Ytkhmplaocfjpjaa.Mem hiding Rd Own
-- types: entT enrT effT lineT rchT chvT efsT op22T keyT reqT
-- recs: idnT_rec effT_rec cfgT_rec entT_rec enrT_rec keyT_rec reqT_rec chain_rec chref_rec op22T_rec lineT_rec ledger_rec bk22_rec
-- eqs: idnT_eqa effT_eqa entT_eqa enrT_eqa keyT_eqa reqT_eqa
-- funcs
-- flds
-- elts
-- eachs
set_option maxRecDepth 100000
set_option maxHeartbeats 4000000
theorem alive22 (E : Env) : Tri Try.prog E 12 #[] [] fun r H' => r = .returned (.bool true) ∧ H' = [] := by
  have hmax : maxLen = 9223372036854775807 := rfl
  have i0 : I64 0 := by unfold I64; decide
  have i3 : I64 3 := by unfold I64; decide
  have z0 : 0 ≤ 0 ∧ 0 ≤ maxLen := ⟨Nat.le_refl _, Nat.zero_le _⟩
  have d0 : (0 : Nat) ≤ 100000 := by decide
  have d1 : (1 : Nat) ≤ 100000 := by decide
  have e1 : (1 : Nat) ≤ 1000 := by decide
  have e8 : (1 : Nat) ≤ 8 := by decide
  have o8 : (0 : Nat) ≤ 8 := by decide
  have lok0 : LOk 2 [] := fun i e h => by simp at h
  have fok : ∀ f ∈ [f122], f.ok := by
    intro f hf
    rw [List.mem_singleton] at hf
    subst hf
    have i1 : I64 1 := by unfold I64; decide
    exact ⟨i1, i0, i0, i0, i0⟩
  have nok : ∀ f ∈ ([] : List Eff), f.ok := fun f hf => (List.not_mem_nil hf).elim
  have hk : decide ((⟨⟨2, 1⟩, 1, false⟩ : Keyv) = ⟨⟨2, 1⟩, 1, false⟩) = true := decide_eq_true rfl
  refine tri Try.func12 rfl Try.ntmps12 (by simp) ?_
  repeat (first | refine wLd5 ?_ | (refine kLd5 ?_; (first | rintro _ _ ⟨rfl, rfl⟩ | rintro _ _ ⟨_, rfl, rfl⟩ | rintro _ _ ⟨_, _, ⟨_, _⟩, rfl, rfl⟩); try refine ⟨sConv, ?_⟩) | refine Dr.two ?_ ?_)
  refine L.step (by decide) (S.call rfl rfl Try.func14 (by kernel_rfl) rfl sPicks (fun E' hE => lnew E' 2) ?_)
  rintro x H' ⟨g, rfl, rfl⟩
  refine ⟨_, rfl, _, sCat, ?_⟩
  repeat (first | refine wLd5 ?_ | (refine kLd5 ?_; (first | rintro _ _ ⟨rfl, rfl⟩ | rintro _ _ ⟨_, rfl, rfl⟩ | rintro _ _ ⟨_, _, ⟨_, _⟩, rfl, rfl⟩); try refine ⟨sConv, ?_⟩) | refine Dr.two ?_ ?_)
  refine L.stepK (by decide) (S.buildSlice1K (T := effT) (e := f122) rfl rfl rfl rfl (by decide)) ?_; rintro _ _ ⟨_, rfl, rfl⟩
  rename_i gX
  refine L.conv ((Conv.each0 lWnt).trans ((Conv.each0 lStk).trans (Conv.nil0 lineT none))) ?_
  refine L.step (by decide) (S.call rfl rfl Try.func26 (by kernel_rfl) rfl sPicks (fun E' hE => lput_any E' g none 0 0 2 [] 1 d0 rfl z0 lok0 (some ⟨gX, 0, none⟩) 1 1 [f122] sRd e8 fok) ?_)
  unfold LPB
  rw [show ([] : List Lnv).map Lnv.s = [] from rfl, b1]
  rintro x H' ⟨B1, n1, c1, l1, rfl, k1, k2, k3, k4, rfl⟩
  dsimp only at k4 ⊢
  obtain rfl : n1 = 1 := by have := congrArg List.length k4; rw [List.length_map] at this; simpa [k2] using this
  refine ⟨_, rfl, _, sCat, ?_⟩
  repeat (first | refine wLd5 ?_ | (refine kLd5 ?_; (first | rintro _ _ ⟨rfl, rfl⟩ | rintro _ _ ⟨_, rfl, rfl⟩ | rintro _ _ ⟨_, _, ⟨_, _⟩, rfl, rfl⟩); try refine ⟨sConv, ?_⟩) | refine Dr.two ?_ ?_)
  refine L.step (by decide) (S.call rfl rfl Try.func46 (by kernel_rfl) rfl sPicks (fun E' hE => lnext_any E' g B1 1 c1 2 l1 1 d1 k2 k1) ?_)
  unfold Nxt
  rw [k4, b2]
  dsimp only [Option.getD, Option.isSome]
  rintro x H' ⟨rfl, rfl⟩
  refine ⟨_, rfl, _, sCat, ?_⟩
  repeat (first | refine wLd5 ?_ | (refine kLd5 ?_; (first | rintro _ _ ⟨rfl, rfl⟩ | rintro _ _ ⟨_, rfl, rfl⟩ | rintro _ _ ⟨_, _, ⟨_, _⟩, rfl, rfl⟩); try refine ⟨sConv, ?_⟩) | refine Dr.two ?_ ?_)
  refine L.step (by decide) (S.call rfl rfl Try.func21 (by kernel_rfl) rfl sPicks (fun E' hE => lready E' g B1 1 c1 2 l1 ⟨0, 0, 1, 0, 0⟩ 0 e1 k2 k1) ?_)
  rw [k4, b3]
  rintro x H' ⟨O, m, oc, rfl, hm, rfl⟩
  change m = 1 at hm
  subst hm
  refine ⟨_, rfl, _, sCat, ?_⟩
  repeat (first | refine wLd5 ?_ | (refine kLd5 ?_; (first | rintro _ _ ⟨rfl, rfl⟩ | rintro _ _ ⟨_, rfl, rfl⟩ | rintro _ _ ⟨_, _, ⟨_, _⟩, rfl, rfl⟩); try refine ⟨sConv, ?_⟩) | refine Dr.two ?_ ?_)
  rename_i gq
  refine C.regionA 100000 (.one 0 false (.one 1 false (.one 2 false (.one 4 false (.one 5 false (.one 6 false (.one 3 true (.one 7 true (.one 8 false (.one 9 false .nil)))))))))) ([blk gq 49 (⟨⟨⟨2, 1⟩, 1, false⟩, f122⟩ : Req).cs]) (by kernel_rfl) (by kernel_rfl) sConv ?_
  repeat (first | refine wLd5 ?_ | (refine kLd5 ?_; (first | rintro _ _ ⟨rfl, rfl⟩ | rintro _ _ ⟨_, rfl, rfl⟩ | rintro _ _ ⟨_, _, ⟨_, _⟩, rfl, rfl⟩); try refine ⟨sConv, ?_⟩) | refine Dr.two ?_ ?_)
  refine Dr.go rfl (by rintro k ⟨⟩ <;> decide) sGon (S.call rfl rfl Try.func47 (by kernel_rfl) rfl sPicks (fun E' hE => ltry_any E' g B1 1 c1 2 l1 ⟨⟨2, 1⟩, 1, false⟩ 3 d1 k2 k1 i3) ?_)
  rw [k4, b4]
  unfold LPA
  rintro x H' ⟨l2, rfl, m1, m2, m4, rfl⟩
  dsimp only at m4 ⊢
  refine ⟨_, rfl, _, sCat, sConv, ?_⟩
  repeat (first | refine wLd5 ?_ | (refine kLd5 ?_; (first | rintro _ _ ⟨rfl, rfl⟩ | rintro _ _ ⟨_, rfl, rfl⟩ | rintro _ _ ⟨_, _, ⟨_, _⟩, rfl, rfl⟩); try refine ⟨sConv, ?_⟩) | refine Dr.two ?_ ?_)
  refine Dr.go rfl (by rintro k ⟨⟩ <;> decide) sGon (S.call rfl rfl Try.func48 (by kernel_rfl) rfl sPicks (fun E' hE => lack_any E' g B1 1 c1 2 l2 ⟨⟨2, 1⟩, 1, false⟩ d1 m2 m1) ?_)
  rw [m4, b5]
  unfold LPA
  rintro x H' ⟨l3, rfl, p1, p2, p4, rfl⟩
  dsimp only at p4 ⊢
  refine ⟨_, rfl, _, sCat, sConv, ?_⟩
  repeat (first | refine wLd5 ?_ | (refine kLd5 ?_; (first | rintro _ _ ⟨rfl, rfl⟩ | rintro _ _ ⟨_, rfl, rfl⟩ | rintro _ _ ⟨_, _, ⟨_, _⟩, rfl, rfl⟩); try refine ⟨sConv, ?_⟩) | refine Dr.two ?_ ?_)
  refine L.step (by decide) (S.call rfl rfl Try.func26 (by kernel_rfl) rfl sPicks (fun E' hE => lput_any E' g B1 1 c1 2 l3 3 d1 p2 k3 p1 none 0 0 [] (Rd.nil _ _) o8 nok) ?_)
  rw [p4, b6]
  unfold LPB
  rintro x H' ⟨B5, n5, c5, l5, rfl, q1, q2, q3, q4, rfl⟩
  dsimp only at q4 ⊢
  obtain rfl : n5 = 1 := by have := congrArg List.length q4; rw [List.length_map] at this; simpa [q2] using this
  refine ⟨_, rfl, _, sCat, ?_⟩
  repeat (first | refine wLd5 ?_ | (refine kLd5 ?_; (first | rintro _ _ ⟨rfl, rfl⟩ | rintro _ _ ⟨_, rfl, rfl⟩ | rintro _ _ ⟨_, _, ⟨_, _⟩, rfl, rfl⟩); try refine ⟨sConv, ?_⟩) | refine Dr.two ?_ ?_)
  refine L.step (by decide) (S.call rfl rfl Try.func49 (by kernel_rfl) rfl sPicks (fun E' hE => lquiet E' g B5 1 c5 2 l5) ?_)
  rw [q4, b7]
  rintro x H' ⟨rfl, rfl⟩
  refine ⟨_, rfl, _, sCat, ?_⟩
  repeat (first | refine wLd5 ?_ | (refine kLd5 ?_; (first | rintro _ _ ⟨rfl, rfl⟩ | rintro _ _ ⟨_, rfl, rfl⟩ | rintro _ _ ⟨_, _, ⟨_, _⟩, rfl, rfl⟩); try refine ⟨sConv, ?_⟩) | refine Dr.two ?_ ?_)
  refine L.step (by decide) (S.call rfl rfl Try.func24 (by kernel_rfl) rfl sPicks (fun E' hE => lchains E' g B5 1 c5 2 l5 e1 q2 q1) ?_)
  rintro x H' ⟨O6, c6, cl6, rfl, -, -, rfl⟩
  refine ⟨_, rfl, _, sCat, ?_⟩
  repeat (first | refine wLd5 ?_ | (refine kLd5 ?_; (first | rintro _ _ ⟨rfl, rfl⟩ | rintro _ _ ⟨_, rfl, rfl⟩ | rintro _ _ ⟨_, _, ⟨_, _⟩, rfl, rfl⟩); try refine ⟨sConv, ?_⟩) | refine Dr.two ?_ ?_)
  exact ret1 rfl sRet sConv (⟨rfl, rfl⟩)
theorem runs22L (E : Env) (r : Int) (A : Option Addr) (n c : Nat) (l : List Op22) (hr : Rd E op22T A n c l) (hin : ∀ x ∈ l, In22 E x) : Tri Try.prog E 3 #[.int .i64 r, .slice A n c] [] fun r _ => r = .returned (.bool true) := by
  have hfew := In22.few hin
  have hf6 := few22_n (l := l)
  refine tri Try.func3 rfl Try.ntmps3 (by simp) ?_
  repeat (first | refine wLd5 ?_ | (refine kLd5 ?_; (first | rintro _ _ ⟨rfl, rfl⟩ | rintro _ _ ⟨_, rfl, rfl⟩ | rintro _ _ ⟨_, _, ⟨_, _⟩, rfl, rfl⟩); try refine ⟨sConv, ?_⟩) | refine Dr.two ?_ ?_)
  refine L.step (by decide) (S.call rfl rfl Try.func12 (by kernel_rfl) rfl sPicks (fun E' hE => alive22 E') ?_)
  rintro x H' ⟨rfl, rfl⟩
  refine ⟨_, rfl, _, sCat, ?_⟩
  repeat (first | refine wLd5 ?_ | (refine kLd5 ?_; (first | rintro _ _ ⟨rfl, rfl⟩ | rintro _ _ ⟨_, rfl, rfl⟩ | rintro _ _ ⟨_, _, ⟨_, _⟩, rfl, rfl⟩); try refine ⟨sConv, ?_⟩) | refine Dr.two ?_ ?_)
  rename_i gb
  refine L.step (by decide) (S.call rfl rfl Try.func14 (by kernel_rfl) rfl sPicks (fun E' hE => lnew E' r) ?_)
  rintro x H' ⟨g, rfl, rfl⟩
  refine ⟨_, rfl, _, sCat, ?_⟩
  repeat (first | refine wLd5 ?_ | (refine kLd5 ?_; (first | rintro _ _ ⟨rfl, rfl⟩ | rintro _ _ ⟨_, rfl, rfl⟩ | rintro _ _ ⟨_, _, ⟨_, _⟩, rfl, rfl⟩); try refine ⟨sConv, ?_⟩) | refine Dr.two ?_ ?_)
  refine L.step (by decide) (S.call rfl rfl Try.func15 (by kernel_rfl) rfl sPicks (fun E' hE => few22_any E' A n c l sRd (fun x hx => ((hin x hx).sub hE).w)) ?_)
  rintro x H' ⟨O, m, co, rfl, hm, hm60, hco, rfl⟩
  refine ⟨_, rfl, _, sCat, ?_⟩
  repeat (first | refine wLd5 ?_ | (refine kLd5 ?_; (first | rintro _ _ ⟨rfl, rfl⟩ | rintro _ _ ⟨_, rfl, rfl⟩ | rintro _ _ ⟨_, _, ⟨_, _⟩, rfl, rfl⟩); try refine ⟨sConv, ?_⟩) | refine Dr.two ?_ ?_)
  refine L.conv conv22 ?_
  refine L.step (by decide) (S.call rfl rfl Try.func13 (by kernel_rfl) rfl sPicks (fun E' hE => run22 E' g gb r [] 0 none 0 [] none 0 [] O m co (few22 l) sRd (fun x hx => (hfew x hx).sub hE) (fun x hx => Nat.le_trans (hf6 x hx) (by decide)) (S22.zero r) (by omega)) ?_)
  unfold Step22
  rintro x H' ⟨n2, B2, d2, l2, B3, d3, l3, rfl, -, rfl⟩
  refine ⟨_, rfl, _, sCat, ?_⟩
  repeat (first | refine wLd5 ?_ | (refine kLd5 ?_; (first | rintro _ _ ⟨rfl, rfl⟩ | rintro _ _ ⟨_, rfl, rfl⟩ | rintro _ _ ⟨_, _, ⟨_, _⟩, rfl, rfl⟩); try refine ⟨sConv, ?_⟩) | refine Dr.two ?_ ?_)
  exact ret1 rfl sRet sConv (rfl)
end Go.Proofs.Ytkhmplaocfjpjaa.Sep
