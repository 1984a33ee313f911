/- msg's reader: a number, an Id, a key. -/
import Derived.Test.YtihblcljkndpgaaMsg3
import Derived.Test.YtihblcljkndpgaaMsgLaw
import Derived.Test.YtihblcljkndpgaaChange3
import Derived.Test.YtihblcljkndpgaaPutw
import Derived.Test.YtihblcljkndpgaaEnt7
import Derived.Test.YtihblcljkndpgaaEffPlain
namespace Go.Proofs.Ytihblcljkndpgaa.Sep
open Go.RowKit Go.Proofs.Ytihblcljkndpgaa.Reg Go.Proofs.Ytihblcljkndpgaa.Oct
open Go.Proofs.Ytihblcljkndpgaa.Mem hiding Rd Own
-- types: octT idnT chgT intT
-- recs: rec_Reader idnT_rec effT_rec chgT_rec keyT_rec mgT_rec rgT_rec wrT_rec rdT_rec
-- eqs: idnT_eqa effT_eqa chgT_eqa keyT_eqa
-- eqrs: k4_eqr
-- zeros: z_octs z_rdr
-- funcs
-- flds
-- arrp
set_option maxRecDepth 100000
set_option maxHeartbeats 6000000
/-- what a reader answers, and its state behind it -/
def MT (g : Nat) (A : Option Addr) (n c : Nat) (l : List UInt8) (s : Rs) (v : Value) (e : Ending) (H' : List Asn) : Prop := ∃ A' n' c', e = .returned v ∧ Also A n c l A' n' c' s.2 ∧ H' = [rdr g true s.1 A' n' c']
abbrev rv (g : Nat) : Value := .agg #[.pointer (some ⟨g, 0, none⟩)]
section
variable (E : Env) (g : Nat) (A : Option Addr) (n c : Nat)
theorem mtake (s s' : Rs) (w : Nat) (v : Int) (hs : stp s w = s') (hv : ((vl s w : Nat) : Int) = v) (W : Int) (hW : W = w) (hw : w = 1 ∨ w = 2) (hr : Rd E octT A n c s.2) :
    Tri Try.prog E 18 #[rv g, .int .i64 W] [rdr g true s.1 A n c] (MT g A n c s.2 s' (.int .i64 v)) := by
  subst hs hv
  have hwid : wid W = (w : Int) := by unfold wid; rw [if_neg (by omega)]; exact hW
  have hlt := vl_lt s w
  have hlt3 : 256 ^ w ≤ 65536 := by rcases hw with rfl | rfl <;> decide
  have hlt2 : vl s w < 18446744073709551616 := by omega
  have hc : IntKind.i64.wrap ((vl s w : Nat) : Int) = ((vl s w : Nat) : Int) := (wrap_sgn hlt2).trans (sgn_small (by omega))
  refine tri Try.func18 rfl Try.ntmps18 (by simp) ?_
  repeat (first | refine wMh ?_ | (refine kMh ?_; (first | rintro _ _ ⟨rfl, rfl⟩ | rintro _ _ ⟨_, rfl, rfl⟩ | rintro _ _ ⟨_, _, ⟨_, _⟩, rfl, rfl⟩); try refine ⟨sConv, ?_⟩) | refine Dr.two ?_ ?_)
  refine L.step (by decide) (S.call rfl rfl Try.func41 (by kernel_rfl) rfl sPicks (fun E' hE => take_any E' g s.1 A n c s.2 W sRd) ?_)
  obtain ⟨o, ho⟩ : ∃ o, nx s.1 s.2 (w : Int) = (o, stp s w) := ⟨_, rfl⟩
  have htk := tk_vl s w
  rw [ho] at htk
  rw [hwid, ho]
  rintro e H' ⟨A', n', c', rfl, hal, rfl⟩
  dsimp only at htk hal ⊢
  rw [htk]
  refine ⟨_, rfl, _, sCat, ?_⟩
  repeat (first | refine wMh ?_ | (refine kMh ?_; (first | rintro _ _ ⟨rfl, rfl⟩ | rintro _ _ ⟨_, rfl, rfl⟩ | rintro _ _ ⟨_, _, ⟨_, _⟩, rfl, rfl⟩); try refine ⟨sConv, ?_⟩) | refine Dr.two ?_ ?_)
  exact ret1 rfl sRet sConv (⟨_, _, _, rfl, hal, rfl⟩)
theorem mid (s : Rs) (hr : Rd E octT A n c s.2) : Tri Try.prog E 45 #[rv g] [rdr g true s.1 A n c] (MT g A n c s.2 (idSt s) (.agg (idAt s).cs.toArray)) := by
  refine tri Try.func45 rfl Try.ntmps45 (by simp) ?_
  repeat (first | refine wMh ?_ | (refine kMh ?_; (first | rintro _ _ ⟨rfl, rfl⟩ | rintro _ _ ⟨_, rfl, rfl⟩ | rintro _ _ ⟨_, _, ⟨_, _⟩, rfl, rfl⟩); try refine ⟨sConv, ?_⟩) | refine Dr.two ?_ ?_)
  rename_i gb gr
  refine C.regionA 100000 (.one 0 false (.one 2 false (.one 1 true (.one 3 true (.one 4 false (.one 5 true .nil)))))) ([blk gb 57 [.pointer (some ⟨g, 0, none⟩)]]) (by kernel_rfl) (by kernel_rfl) sConv ?_
  repeat (first | refine wMh ?_ | (refine kMh ?_; (first | rintro _ _ ⟨rfl, rfl⟩ | rintro _ _ ⟨_, rfl, rfl⟩ | rintro _ _ ⟨_, _, ⟨_, _⟩, rfl, rfl⟩); try refine ⟨sConv, ?_⟩) | refine Dr.two ?_ ?_)
  refine Dr.go rfl (by rintro k ⟨⟩ <;> decide) sGon (S.call rfl rfl Try.func18 (by kernel_rfl) rfl sPicks (fun E' hE => mtake E' g A n c s (stp s 1) 1 _ rfl rfl 1 rfl (.inl rfl) sRd) ?_)
  rintro e H' ⟨A1, n1, c1, rfl, hal1, rfl⟩
  refine ⟨_, rfl, _, sCat, sConv, ?_⟩
  repeat (first | refine wMh ?_ | (refine kMh ?_; (first | rintro _ _ ⟨rfl, rfl⟩ | rintro _ _ ⟨_, rfl, rfl⟩ | rintro _ _ ⟨_, _, ⟨_, _⟩, rfl, rfl⟩); try refine ⟨sConv, ?_⟩) | refine Dr.two ?_ ?_)
  refine Dr.go rfl (by rintro k ⟨⟩ <;> decide) sGon (S.call rfl rfl Try.func18 (by kernel_rfl) rfl sPicks (fun E' hE => mtake E' g A1 n1 c1 (stp s 1) (idSt s) 2 _ rfl rfl 2 rfl (.inr rfl) (hal1 _ sRd)) ?_)
  rintro e H' ⟨A2, n2, c2, rfl, hal2, rfl⟩
  refine ⟨_, rfl, _, sCat, sConv, ?_⟩
  repeat (first | refine wMh ?_ | (refine kMh ?_; (first | rintro _ _ ⟨rfl, rfl⟩ | rintro _ _ ⟨_, rfl, rfl⟩ | rintro _ _ ⟨_, _, ⟨_, _⟩, rfl, rfl⟩); try refine ⟨sConv, ?_⟩) | refine Dr.two ?_ ?_)
  apply retC1; (· exact rfl); (· exact sRet); (· exact rfl); (· exact rfl); (· exact rfl); (· exact sHas); (· exact rfl); rotate_left; (· exact (⟨_, _, _, rfl, hal1.trans hal2, rfl⟩)); (· exact sConv)
theorem mkey (s : Rs) (hr : Rd E octT A n c s.2) : Tri Try.prog E 48 #[rv g] [rdr g true s.1 A n c] (MT g A n c s.2 (keySt s) (.agg (keyVs s).cs.toArray)) := by
  refine tri Try.func48 rfl Try.ntmps48 (by simp) ?_
  repeat (first | refine wMh ?_ | (refine kMh ?_; (first | rintro _ _ ⟨rfl, rfl⟩ | rintro _ _ ⟨_, rfl, rfl⟩ | rintro _ _ ⟨_, _, ⟨_, _⟩, rfl, rfl⟩); try refine ⟨sConv, ?_⟩) | refine Dr.two ?_ ?_)
  rename_i gb gr
  refine C.regionA 100000 (.one 0 false (.one 2 false (.one 4 false (.one 1 true (.one 3 true (.one 5 true (.one 6 false (.one 7 false (.one 8 true .nil))))))))) ([blk gb 57 [.pointer (some ⟨g, 0, none⟩)]]) (by kernel_rfl) (by kernel_rfl) sConv ?_
  repeat (first | refine wMh ?_ | (refine kMh ?_; (first | rintro _ _ ⟨rfl, rfl⟩ | rintro _ _ ⟨_, rfl, rfl⟩ | rintro _ _ ⟨_, _, ⟨_, _⟩, rfl, rfl⟩); try refine ⟨sConv, ?_⟩) | refine Dr.two ?_ ?_)
  refine Dr.go rfl (by rintro k ⟨⟩ <;> decide) sGon (S.call rfl rfl Try.func45 (by kernel_rfl) rfl sPicks (fun E' hE => mid E' g A n c s sRd) ?_)
  rintro e H' ⟨A1, n1, c1, rfl, hal1, rfl⟩
  refine ⟨_, rfl, _, sCat, sConv, ?_⟩
  repeat (first | refine wMh ?_ | (refine kMh ?_; (first | rintro _ _ ⟨rfl, rfl⟩ | rintro _ _ ⟨_, rfl, rfl⟩ | rintro _ _ ⟨_, _, ⟨_, _⟩, rfl, rfl⟩); try refine ⟨sConv, ?_⟩) | refine Dr.two ?_ ?_)
  refine Dr.go rfl (by rintro k ⟨⟩ <;> decide) sGon (S.call rfl rfl Try.func18 (by kernel_rfl) rfl sPicks (fun E' hE => mtake E' g A1 n1 c1 (idSt s) (stp (idSt s) 1) 1 _ rfl rfl 1 rfl (.inl rfl) (hal1 _ sRd)) ?_)
  rintro e H' ⟨A2, n2, c2, rfl, hal2, rfl⟩
  refine ⟨_, rfl, _, sCat, sConv, ?_⟩
  repeat (first | refine wMh ?_ | (refine kMh ?_; (first | rintro _ _ ⟨rfl, rfl⟩ | rintro _ _ ⟨_, rfl, rfl⟩ | rintro _ _ ⟨_, _, ⟨_, _⟩, rfl, rfl⟩); try refine ⟨sConv, ?_⟩) | refine Dr.two ?_ ?_)
  refine Dr.go rfl (by rintro k ⟨⟩ <;> decide) sGon (S.call rfl rfl Try.func18 (by kernel_rfl) rfl sPicks (fun E' hE => mtake E' g A2 n2 c2 (stp (idSt s) 1) (keySt s) 1 _ rfl rfl 1 rfl (.inl rfl) (hal2 _ (hal1 _ sRd))) ?_)
  rintro e H' ⟨A3, n3, c3, rfl, hal3, rfl⟩
  refine ⟨_, rfl, _, sCat, sConv, ?_⟩
  repeat (first | refine wMh ?_ | (refine kMh ?_; (first | rintro _ _ ⟨rfl, rfl⟩ | rintro _ _ ⟨_, rfl, rfl⟩ | rintro _ _ ⟨_, _, ⟨_, _⟩, rfl, rfl⟩); try refine ⟨sConv, ?_⟩) | refine Dr.two ?_ ?_)
  apply retC1; (· exact rfl); (· exact sRet); (· exact rfl); (· exact rfl); (· exact rfl); (· exact sHas); (· exact rfl); rotate_left; (· exact (⟨_, _, _, rfl, (hal1.trans hal2).trans hal3, rfl⟩)); (· exact sConv)
end
end Go.Proofs.Ytihblcljkndpgaa.Sep
/- msg's reader: what a message's kind has. -/
namespace Go.Proofs.Ytihblcljkndpgaa.Sep
open Go.RowKit Go.Proofs.Ytihblcljkndpgaa.Reg Go.Proofs.Ytihblcljkndpgaa.Oct
open Go.Proofs.Ytihblcljkndpgaa.Mem hiding Rd Own
-- types: octT idnT chgT intT
-- recs: rec_Reader idnT_rec effT_rec chgT_rec keyT_rec mgT_rec rgT_rec wrT_rec rdT_rec
-- eqs: idnT_eqa effT_eqa chgT_eqa keyT_eqa
-- eqrs: k4_eqr
-- zeros: z_octs z_rdr
-- funcs
-- flds
-- arrp
set_option maxRecDepth 100000
set_option maxHeartbeats 6000000
theorem Tri.monoC {P : Program} {E : Env} {f : FuncId} {args : Array Value} {H : List Asn} {Q Q' : Ending → List Asn → Prop} (h : Tri P E f args H Q) (hq : ∀ e H', Q e H' → ∃ H'', Q' e H'' ∧ Conv E H' H'') : Tri P E f args H Q' := by
  exact fun w hw => (h w hw).mono fun _ _ ⟨H', h1, h2⟩ => (hq _ _ h2).elim fun H'' h3 => ⟨H'', h3.2 _ h1, h3.1⟩
theorem postF_conv2 {P : Program} {E : Env} {fn : Func} {R : Ending → List Asn → Prop} {F : Nat → Value} {H H1 : List Asn} {e : Ex} (hc : Conv E H H1) (h : postF P E fn R e F H1) : postF P E fn R e F H := by
  cases e with
  | normal => obtain ⟨v, H', h1, h2, h3⟩ := h; exact ⟨v, H', fun w hw => h1 w (hc w hw), hc.trans h2, h3⟩
  | ret => obtain ⟨v, H', h1, h2, h3⟩ := h; exact ⟨v, H', fun w hw => h1 w (hc w hw), hc.trans h2, h3⟩
  | exit id => exact h
theorem stp_len (s : Rs) (w : Nat) : (stp s w).2.length ≤ s.2.length := by
  unfold stp nx
  split
  · exact Nat.le_refl _
  · split
    · exact Nat.le_refl _
    · simp
theorem idsSt_len (s : Rs) (i : Nat) : (idsSt s i).2.length ≤ s.2.length := by
  induction i with
  | zero => exact Nat.le_refl _
  | succ i ih => exact Nat.le_trans (Nat.le_trans (stp_len _ _) (stp_len _ _)) ih
def kTup (s : Rs) : Nat → Int × Int × Int × Int
  | 0 => (0, 0, 0, 0)
  | 1 => (kVl s 0, 0, 0, 0)
  | 2 => (kVl s 0, kVl s 1, 0, 0)
  | 3 => (kVl s 0, kVl s 1, kVl s 2, 0)
  | _ => (kVl s 0, kVl s 1, kVl s 2, kVl s 3)
section
variable (E : Env) (A : Option Addr) (n c : Nat)
theorem mlist (l : List UInt8) (hr : Rd E octT A n c l) (hl : n ≤ 140737488355300) : Tri Try.prog E 47 #[.slice A n c] [] fun e H' => ∃ O co ek, e = .returned (.tuple #[.slice O (lch l).length co, .int .i64 ek]) ∧ H' = [own chgT O (lch l).length co (lch l)] := by
  by_cases h : ∃ x t, l = x :: t ∧ x.toNat ≤ 48 ∧ t.length = 22 * x.toNat
  · obtain ⟨x, t, rfl, h1, h2⟩ := h
    refine Tri.monoC (clist_ok E A n c x t hr h1 h2) ?_
    have hl : lch (x :: t) = (pieces x.toNat t).getD [] := if_pos ⟨h1, h2⟩
    rw [hl]
    cases pieces x.toNat t with
    | none =>
      rintro e H' ⟨rfl, rfl⟩
      exact ⟨_, ⟨none, 0, 16, rfl, rfl⟩, Conv.nil chgT⟩
    | some xs =>
      rintro e H' ⟨O, co, rfl, rfl⟩
      exact ⟨_, ⟨O, co, 0, rfl, rfl⟩, Conv.refl⟩
  · refine Tri.monoC (clist_bad E A n c l hr hl fun x t he hq => h ⟨x, t, he, hq⟩) ?_
    have hl : lch l = [] := by
      unfold lch
      split
      · rfl
      · exact if_neg fun hq => h ⟨_, _, rfl, hq⟩
    rw [hl]
    rintro e H' ⟨rfl, rfl⟩
    exact ⟨_, ⟨none, 0, 16, rfl, rfl⟩, Conv.nil chgT⟩
theorem fget_nil (hr : Rd E octT A n c []) : Tri Try.prog E 49 #[.slice A n c] [] fun e H' => e = .returned (.tuple #[.agg eff0.cs.toArray, .int .i64 16]) ∧ H' = [] := by
  have hn := hr.len
  have hcap := hr.cap
  have o1 : 1 ≤ 1 ∧ 1 ≤ 8 := by omega
  have o2 : 1 ≤ 2 ∧ 2 ≤ 8 := by omega
  have o8 : 1 ≤ 8 ∧ 8 ≤ 8 := by omega
  have hst : st effW [] 5 = (true, []) := rfl
  have v0 : va effW [] 0 = 0 := rfl
  have v1 : va effW [] 1 = 0 := rfl
  have v2 : va effW [] 2 = 0 := rfl
  have v3 : va effW [] 3 = 0 := rfl
  have v4 : va effW [] 4 = 0 := rfl
  refine tri Try.func49 rfl Try.ntmps49 (by simp) ?_
  repeat (first | refine wMh ?_ | (refine kMh ?_; (first | rintro _ _ ⟨rfl, rfl⟩ | rintro _ _ ⟨_, rfl, rfl⟩ | rintro _ _ ⟨_, _, ⟨_, _⟩, rfl, rfl⟩); try refine ⟨sConv, ?_⟩) | refine Dr.two ?_ ?_)
  refine L.step (by decide) (S.call rfl rfl Try.func17 (by kernel_rfl) rfl sPicks (fun E' hE => new_any E' A n c [] sRd (by simp at hn; omega)) ?_)
  rintro e H' ⟨g, A0, c0, rfl, h5, h6, rfl⟩
  refine ⟨_, rfl, _, sCat, ?_⟩
  unfold adr
  repeat (first | refine wMh ?_ | (refine kMh ?_; (first | rintro _ _ ⟨rfl, rfl⟩ | rintro _ _ ⟨_, rfl, rfl⟩ | rintro _ _ ⟨_, _, ⟨_, _⟩, rfl, rfl⟩); try refine ⟨sConv, ?_⟩) | refine Dr.two ?_ ?_)
  rename_i gres gr
  refine L.step (by decide) (S.callV rfl sLk rfl rfl Try.func74 (by kernel_rfl) rfl sPicks (fun E' hE => takeu_any E' gr g (false, []) (st effW [] 1) 1 0 rfl v0 A0 n c0 1 rfl o1 sRd) ?_)
  rintro e H' ⟨A1, n1, c1, rfl, hal1, rfl⟩
  refine ⟨_, rfl, _, sCat, ?_⟩
  repeat (first | refine wMh ?_ | (refine kMh ?_; (first | rintro _ _ ⟨rfl, rfl⟩ | rintro _ _ ⟨_, rfl, rfl⟩ | rintro _ _ ⟨_, _, ⟨_, _⟩, rfl, rfl⟩); try refine ⟨sConv, ?_⟩) | refine Dr.two ?_ ?_)
  refine L.step (by decide) (S.callV rfl sLk rfl rfl Try.func74 (by kernel_rfl) rfl sPicks (fun E' hE => takeu_any E' gr g (st effW [] 1) (st effW [] 2) 1 0 rfl v1 A1 n1 c1 1 rfl o1 (hal1 _ sRd)) ?_)
  rintro e H' ⟨A2, n2, c2, rfl, hal2, rfl⟩
  refine ⟨_, rfl, _, sCat, ?_⟩
  repeat (first | refine wMh ?_ | (refine kMh ?_; (first | rintro _ _ ⟨rfl, rfl⟩ | rintro _ _ ⟨_, rfl, rfl⟩ | rintro _ _ ⟨_, _, ⟨_, _⟩, rfl, rfl⟩); try refine ⟨sConv, ?_⟩) | refine Dr.two ?_ ?_)
  refine L.step (by decide) (S.callV rfl sLk rfl rfl Try.func74 (by kernel_rfl) rfl sPicks (fun E' hE => takeu_any E' gr g (st effW [] 2) (st effW [] 3) 8 0 rfl v2 A2 n2 c2 8 rfl o8 (hal2 _ (hal1 _ sRd))) ?_)
  rintro e H' ⟨A3, n3, c3, rfl, hal3, rfl⟩
  refine ⟨_, rfl, _, sCat, ?_⟩
  repeat (first | refine wMh ?_ | (refine kMh ?_; (first | rintro _ _ ⟨rfl, rfl⟩ | rintro _ _ ⟨_, rfl, rfl⟩ | rintro _ _ ⟨_, _, ⟨_, _⟩, rfl, rfl⟩); try refine ⟨sConv, ?_⟩) | refine Dr.two ?_ ?_)
  refine L.step (by decide) (S.callV rfl sLk rfl rfl Try.func74 (by kernel_rfl) rfl sPicks (fun E' hE => takeu_any E' gr g (st effW [] 3) (st effW [] 4) 1 0 rfl v3 A3 n3 c3 1 rfl o1 (hal3 _ (hal2 _ (hal1 _ sRd)))) ?_)
  rintro e H' ⟨A4, n4, c4, rfl, hal4, rfl⟩
  refine ⟨_, rfl, _, sCat, ?_⟩
  repeat (first | refine wMh ?_ | (refine kMh ?_; (first | rintro _ _ ⟨rfl, rfl⟩ | rintro _ _ ⟨_, rfl, rfl⟩ | rintro _ _ ⟨_, _, ⟨_, _⟩, rfl, rfl⟩); try refine ⟨sConv, ?_⟩) | refine Dr.two ?_ ?_)
  refine L.step (by decide) (S.callV rfl sLk rfl rfl Try.func74 (by kernel_rfl) rfl sPicks (fun E' hE => takeu_any E' gr g (st effW [] 4) (st effW [] 5) 2 0 rfl v4 A4 n4 c4 2 rfl o2 (hal4 _ (hal3 _ (hal2 _ (hal1 _ sRd))))) ?_)
  rintro e H' ⟨A5, n5, c5, rfl, hal5, rfl⟩
  refine ⟨_, rfl, _, sCat, ?_⟩
  repeat (first | refine wMh ?_ | (refine kMh ?_; (first | rintro _ _ ⟨rfl, rfl⟩ | rintro _ _ ⟨_, rfl, rfl⟩ | rintro _ _ ⟨_, _, ⟨_, _⟩, rfl, rfl⟩); try refine ⟨sConv, ?_⟩) | refine Dr.two ?_ ?_)
  rw [hst] at hal5 ⊢
  dsimp only at hal5 ⊢
  refine L.step (by decide) (S.call rfl rfl Try.func75 (by kernel_rfl) rfl sPicks (fun E' hE => done_any E' g true A5 n5 c5 [] (hal5 _ (hal4 _ (hal3 _ (hal2 _ (hal1 _ sRd)))))) ?_)
  rintro e H' ⟨rfl, rfl⟩
  refine ⟨_, rfl, _, sCat, ?_⟩
  repeat (first | refine wMh ?_ | (refine kMh ?_; (first | rintro _ _ ⟨rfl, rfl⟩ | rintro _ _ ⟨_, rfl, rfl⟩ | rintro _ _ ⟨_, _, ⟨_, _⟩, rfl, rfl⟩); try refine ⟨sConv, ?_⟩) | refine Dr.two ?_ ?_)
  apply retC2; (· exact rfl); (· exact sRet); (· exact rfl); (· exact rfl); (· exact rfl); (· exact sHas); (· exact rfl); (· exact sRet); rotate_left; (· exact (⟨rfl, rfl⟩)); (· exact sConv)
theorem mfget (o : Option (List UInt8)) (ho : ∀ y, o = some y → y.length = 13) (hr : Rd E octT A n c (o.getD [])) : Tri Try.prog E 49 #[.slice A n c] [] fun e H' => ∃ ek, e = .returned (.tuple #[.agg ((o.bind fget13).getD eff0).cs.toArray, .int .i64 ek]) ∧ H' = [] := by
  cases o with
  | none =>
    refine Tri.mono (fget_nil E A n c hr) ?_
    rintro e H' ⟨rfl, rfl⟩
    exact ⟨16, rfl, rfl⟩
  | some y =>
    have hl := hr.len
    refine Tri.mono (fget_any E A n c y _ rfl hr (hl.trans (ho y rfl))) ?_
    rintro e H' ⟨rfl, rfl⟩
    exact ⟨_, rfl, rfl⟩
end
end Go.Proofs.Ytihblcljkndpgaa.Sep
/- msg's reader: each kind's body. -/
namespace Go.Proofs.Ytihblcljkndpgaa.Sep
open Go.RowKit Go.Proofs.Ytihblcljkndpgaa.Reg Go.Proofs.Ytihblcljkndpgaa.Oct
open Go.Proofs.Ytihblcljkndpgaa.Mem hiding Rd Own
-- types: octT idnT chgT intT
-- recs: rec_Reader idnT_rec effT_rec chgT_rec keyT_rec mgT_rec rgT_rec wrT_rec rdT_rec
-- eqs: idnT_eqa effT_eqa chgT_eqa keyT_eqa
-- eqrs: k4_eqr
-- zeros: z_octs z_rdr
-- funcs
-- flds
-- arrp
set_option maxRecDepth 100000
set_option maxHeartbeats 6000000
abbrev kz : Keyv := ⟨⟨0, 0⟩, 0, false⟩
abbrev ez : Eff := ⟨0, 0, 0, ⟨0, 0⟩⟩
abbrev mst (kd fr to : Int) : Mg := ⟨kd, fr, to, 0, 0, 0, 0, 0, [], [], kz, ez⟩
section
variable (E : Env) (g gm : Nat) (A : Option Addr) (n c : Nat) (s : Rs) (fr to : Int)
def MB (g gm : Nat) (m : Mg) (e : Ending) (H' : List Asn) : Prop := ∃ O p q B k d s' A' n' c', e = .returned (.tuple #[]) ∧ H' = [blk gm 34 (mcs m O p q B k d), own idnT O p q m.ids, own chgT B k d m.chs, rdr g true s' A' n' c']
theorem mb1 (hr : Rd E octT A n c s.2) : Tri Try.prog E 19 #[rv g, .pointer (some ⟨gm, 0, none⟩)] [blk gm 34 (mcs (mst 1 fr to) none 0 0 none 0 0), rdr g true s.1 A n c] (MB g gm ⟨1, fr, to, kVl s 0, kVl s 1, kVl s 2, kVl s 3, (vl (kSt s 4) 1 : Nat), [], [], kz, ez⟩) := by
  refine tri Try.func19 rfl Try.ntmps19 (by simp) ?_
  repeat (first | refine wMh ?_ | (refine kMh ?_; (first | rintro _ _ ⟨rfl, rfl⟩ | rintro _ _ ⟨_, rfl, rfl⟩ | rintro _ _ ⟨_, _, ⟨_, _⟩, rfl, rfl⟩); try refine ⟨sConv, ?_⟩) | refine Dr.two ?_ ?_)
  rename_i gb
  refine C.loop (X := Nat × (Int × Int × Int × Int) × Option Addr × Nat × Nat) (fun x => [(1, .pointer (some ⟨gm, 0, none⟩)), (2, .pointer (some ⟨gb, 0, none⟩)), (12, .int .i64 1), (15, .int .i64 x.1)]) (fun x => [blk gb 57 [.pointer (some ⟨g, 0, none⟩)], blk gm 34 (mcs ⟨1, fr, to, x.2.1.1, x.2.1.2.1, x.2.1.2.2.1, x.2.1.2.2.2, 0, [], [], kz, ez⟩ none 0 0 none 0 0), rdr g true (kSt s x.1).1 x.2.2.1 x.2.2.2.1 x.2.2.2.2]) (fun x => x.1 ≤ 4 ∧ x.2.1 = kTup s x.1 ∧ Also A n c s.2 x.2.2.1 x.2.2.2.1 x.2.2.2.2 (kSt s x.1).2) (fun x => 4 - x.1) (0, (0, 0, 0, 0), A, n, c) sHolds sConv ⟨Nat.zero_le _, rfl, Also.refl⟩ ?_
  rintro ⟨i, t, A1, n1, c1⟩ G ⟨hi, ht, hal⟩
  dsimp only at hi ht hal ⊢
  subst ht
  rcases (show i = 0 ∨ i = 1 ∨ i = 2 ∨ i = 3 ∨ i = 4 by omega) with rfl | rfl | rfl | rfl | rfl
  · dsimp only [kTup]
    repeat (first | refine wMh ?_ | (refine kMh ?_; (first | rintro _ _ ⟨rfl, rfl⟩ | rintro _ _ ⟨_, rfl, rfl⟩ | rintro _ _ ⟨_, _, ⟨_, _⟩, rfl, rfl⟩); try refine ⟨sConv, ?_⟩) | refine Dr.two ?_ ?_)
    refine C.regionA 100000 (.one 0 false (.one 1 false (.one 2 false (.one 4 false (.one 5 false (.one 3 true (.one 6 false (.one 7 true .nil)))))))) ([blk gb 57 [.pointer (some ⟨g, 0, none⟩)]]) (by kernel_rfl) (by kernel_rfl) sConv ?_
    repeat (first | refine wMh ?_ | (refine kMh ?_; (first | rintro _ _ ⟨rfl, rfl⟩ | rintro _ _ ⟨_, rfl, rfl⟩ | rintro _ _ ⟨_, _, ⟨_, _⟩, rfl, rfl⟩); try refine ⟨sConv, ?_⟩) | refine Dr.two ?_ ?_)
    refine Dr.go rfl (by rintro k ⟨⟩ <;> decide) sGon (S.call rfl rfl Try.func18 (by kernel_rfl) rfl sPicks (fun E' hE => mtake E' g A1 n1 c1 (kSt s 0) (kSt s 1) 2 (kVl s 0) rfl rfl 2 rfl (.inr rfl) (hal _ sRd)) ?_)
    rintro e H' ⟨A2, n2, c2, rfl, hal2, rfl⟩
    refine ⟨_, rfl, _, sCat, sConv, ?_⟩
    repeat (first | refine wMh ?_ | (refine kMh ?_; (first | rintro _ _ ⟨rfl, rfl⟩ | rintro _ _ ⟨_, rfl, rfl⟩ | rintro _ _ ⟨_, _, ⟨_, _⟩, rfl, rfl⟩); try refine ⟨sConv, ?_⟩) | refine Dr.two ?_ ?_)
    exact ⟨(1, (kVl s 0, 0, 0, 0), A2, n2, c2), sHolds, sConv, ⟨by dsimp only; omega, rfl, hal.trans hal2⟩, by dsimp only; omega⟩
  · dsimp only [kTup]
    repeat (first | refine wMh ?_ | (refine kMh ?_; (first | rintro _ _ ⟨rfl, rfl⟩ | rintro _ _ ⟨_, rfl, rfl⟩ | rintro _ _ ⟨_, _, ⟨_, _⟩, rfl, rfl⟩); try refine ⟨sConv, ?_⟩) | refine Dr.two ?_ ?_)
    refine C.regionA 100000 (.one 0 false (.one 1 false (.one 2 false (.one 4 false (.one 5 false (.one 3 true (.one 6 false (.one 7 true .nil)))))))) ([blk gb 57 [.pointer (some ⟨g, 0, none⟩)]]) (by kernel_rfl) (by kernel_rfl) sConv ?_
    repeat (first | refine wMh ?_ | (refine kMh ?_; (first | rintro _ _ ⟨rfl, rfl⟩ | rintro _ _ ⟨_, rfl, rfl⟩ | rintro _ _ ⟨_, _, ⟨_, _⟩, rfl, rfl⟩); try refine ⟨sConv, ?_⟩) | refine Dr.two ?_ ?_)
    refine Dr.go rfl (by rintro k ⟨⟩ <;> decide) sGon (S.call rfl rfl Try.func18 (by kernel_rfl) rfl sPicks (fun E' hE => mtake E' g A1 n1 c1 (kSt s 1) (kSt s 2) 2 (kVl s 1) rfl rfl 2 rfl (.inr rfl) (hal _ sRd)) ?_)
    rintro e H' ⟨A2, n2, c2, rfl, hal2, rfl⟩
    refine ⟨_, rfl, _, sCat, sConv, ?_⟩
    repeat (first | refine wMh ?_ | (refine kMh ?_; (first | rintro _ _ ⟨rfl, rfl⟩ | rintro _ _ ⟨_, rfl, rfl⟩ | rintro _ _ ⟨_, _, ⟨_, _⟩, rfl, rfl⟩); try refine ⟨sConv, ?_⟩) | refine Dr.two ?_ ?_)
    exact ⟨(2, (kVl s 0, kVl s 1, 0, 0), A2, n2, c2), sHolds, sConv, ⟨by dsimp only; omega, rfl, hal.trans hal2⟩, by dsimp only; omega⟩
  · dsimp only [kTup]
    repeat (first | refine wMh ?_ | (refine kMh ?_; (first | rintro _ _ ⟨rfl, rfl⟩ | rintro _ _ ⟨_, rfl, rfl⟩ | rintro _ _ ⟨_, _, ⟨_, _⟩, rfl, rfl⟩); try refine ⟨sConv, ?_⟩) | refine Dr.two ?_ ?_)
    refine C.regionA 100000 (.one 0 false (.one 1 false (.one 2 false (.one 4 false (.one 5 false (.one 3 true (.one 6 false (.one 7 true .nil)))))))) ([blk gb 57 [.pointer (some ⟨g, 0, none⟩)]]) (by kernel_rfl) (by kernel_rfl) sConv ?_
    repeat (first | refine wMh ?_ | (refine kMh ?_; (first | rintro _ _ ⟨rfl, rfl⟩ | rintro _ _ ⟨_, rfl, rfl⟩ | rintro _ _ ⟨_, _, ⟨_, _⟩, rfl, rfl⟩); try refine ⟨sConv, ?_⟩) | refine Dr.two ?_ ?_)
    refine Dr.go rfl (by rintro k ⟨⟩ <;> decide) sGon (S.call rfl rfl Try.func18 (by kernel_rfl) rfl sPicks (fun E' hE => mtake E' g A1 n1 c1 (kSt s 2) (kSt s 3) 2 (kVl s 2) rfl rfl 2 rfl (.inr rfl) (hal _ sRd)) ?_)
    rintro e H' ⟨A2, n2, c2, rfl, hal2, rfl⟩
    refine ⟨_, rfl, _, sCat, sConv, ?_⟩
    repeat (first | refine wMh ?_ | (refine kMh ?_; (first | rintro _ _ ⟨rfl, rfl⟩ | rintro _ _ ⟨_, rfl, rfl⟩ | rintro _ _ ⟨_, _, ⟨_, _⟩, rfl, rfl⟩); try refine ⟨sConv, ?_⟩) | refine Dr.two ?_ ?_)
    exact ⟨(3, (kVl s 0, kVl s 1, kVl s 2, 0), A2, n2, c2), sHolds, sConv, ⟨by dsimp only; omega, rfl, hal.trans hal2⟩, by dsimp only; omega⟩
  · dsimp only [kTup]
    repeat (first | refine wMh ?_ | (refine kMh ?_; (first | rintro _ _ ⟨rfl, rfl⟩ | rintro _ _ ⟨_, rfl, rfl⟩ | rintro _ _ ⟨_, _, ⟨_, _⟩, rfl, rfl⟩); try refine ⟨sConv, ?_⟩) | refine Dr.two ?_ ?_)
    refine C.regionA 100000 (.one 0 false (.one 1 false (.one 2 false (.one 4 false (.one 5 false (.one 3 true (.one 6 false (.one 7 true .nil)))))))) ([blk gb 57 [.pointer (some ⟨g, 0, none⟩)]]) (by kernel_rfl) (by kernel_rfl) sConv ?_
    repeat (first | refine wMh ?_ | (refine kMh ?_; (first | rintro _ _ ⟨rfl, rfl⟩ | rintro _ _ ⟨_, rfl, rfl⟩ | rintro _ _ ⟨_, _, ⟨_, _⟩, rfl, rfl⟩); try refine ⟨sConv, ?_⟩) | refine Dr.two ?_ ?_)
    refine Dr.go rfl (by rintro k ⟨⟩ <;> decide) sGon (S.call rfl rfl Try.func18 (by kernel_rfl) rfl sPicks (fun E' hE => mtake E' g A1 n1 c1 (kSt s 3) (kSt s 4) 2 (kVl s 3) rfl rfl 2 rfl (.inr rfl) (hal _ sRd)) ?_)
    rintro e H' ⟨A2, n2, c2, rfl, hal2, rfl⟩
    refine ⟨_, rfl, _, sCat, sConv, ?_⟩
    repeat (first | refine wMh ?_ | (refine kMh ?_; (first | rintro _ _ ⟨rfl, rfl⟩ | rintro _ _ ⟨_, rfl, rfl⟩ | rintro _ _ ⟨_, _, ⟨_, _⟩, rfl, rfl⟩); try refine ⟨sConv, ?_⟩) | refine Dr.two ?_ ?_)
    exact ⟨(4, (kVl s 0, kVl s 1, kVl s 2, kVl s 3), A2, n2, c2), sHolds, sConv, ⟨by dsimp only; omega, rfl, hal.trans hal2⟩, by dsimp only; omega⟩
  · dsimp only [kTup]
    repeat (first | refine wMh ?_ | (refine kMh ?_; (first | rintro _ _ ⟨rfl, rfl⟩ | rintro _ _ ⟨_, rfl, rfl⟩ | rintro _ _ ⟨_, _, ⟨_, _⟩, rfl, rfl⟩); try refine ⟨sConv, ?_⟩) | refine Dr.two ?_ ?_)
    refine L.step (by decide) (S.call rfl rfl Try.func18 (by kernel_rfl) rfl sPicks (fun E' hE => mtake E' g A1 n1 c1 (kSt s 4) (stp (kSt s 4) 1) 1 (vl (kSt s 4) 1 : Nat) rfl rfl 1 rfl (.inl rfl) (hal _ sRd)) ?_)
    rintro e H' ⟨A2, n2, c2, rfl, hal2, rfl⟩
    refine ⟨_, rfl, _, sCat, ?_⟩
    repeat (first | refine wMh ?_ | (refine kMh ?_; (first | rintro _ _ ⟨rfl, rfl⟩ | rintro _ _ ⟨_, rfl, rfl⟩ | rintro _ _ ⟨_, _, ⟨_, _⟩, rfl, rfl⟩); try refine ⟨sConv, ?_⟩) | refine Dr.two ?_ ?_)
    refine postF_conv2 ((Conv.nil chgT).trans (Conv.nil idnT)) ?_
    exact end0 rfl sConv (⟨none, 0, 0, none, 0, 0, _, _, _, _, rfl, rfl⟩)
theorem mb4 (hr : Rd E octT A n c s.2) : Tri Try.prog E 19 #[rv g, .pointer (some ⟨gm, 0, none⟩)] [blk gm 34 (mcs (mst 4 fr to) none 0 0 none 0 0), rdr g true s.1 A n c] (MB g gm ⟨4, fr, to, 0, 0, 0, 0, 0, [], [], keyVs s, ez⟩) := by
  refine tri Try.func19 rfl Try.ntmps19 (by simp) ?_
  repeat (first | refine wMh ?_ | (refine kMh ?_; (first | rintro _ _ ⟨rfl, rfl⟩ | rintro _ _ ⟨_, rfl, rfl⟩ | rintro _ _ ⟨_, _, ⟨_, _⟩, rfl, rfl⟩); try refine ⟨sConv, ?_⟩) | refine Dr.two ?_ ?_)
  refine L.step (by decide) (S.call rfl rfl Try.func48 (by kernel_rfl) rfl sPicks (fun E' hE => mkey E' g A n c s sRd) ?_)
  rintro e H' ⟨A2, n2, c2, rfl, hal2, rfl⟩
  refine ⟨_, rfl, _, sCat, ?_⟩
  generalize keyVs s = ky at *
  repeat (first | refine wMh ?_ | (refine kMh ?_; (first | rintro _ _ ⟨rfl, rfl⟩ | rintro _ _ ⟨_, rfl, rfl⟩ | rintro _ _ ⟨_, _, ⟨_, _⟩, rfl, rfl⟩); try refine ⟨sConv, ?_⟩) | refine Dr.two ?_ ?_)
  refine postF_conv2 ((Conv.nil chgT).trans (Conv.nil idnT)) ?_
  exact end0 rfl sConv (⟨none, 0, 0, none, 0, 0, _, _, _, _, rfl, rfl⟩)
theorem mb0 (kd : Int) (hk : ¬ (1 ≤ kd ∧ kd ≤ 4)) : Tri Try.prog E 19 #[rv g, .pointer (some ⟨gm, 0, none⟩)] [blk gm 34 (mcs (mst kd fr to) none 0 0 none 0 0), rdr g true s.1 A n c] (MB g gm (mst kd fr to)) := by
  have k1 : decide (kd = 1) = false := decide_eq_false (by omega)
  have k2 : decide (kd = 2) = false := decide_eq_false (by omega)
  have k3 : decide (kd = 3) = false := decide_eq_false (by omega)
  have k4 : decide (kd = 4) = false := decide_eq_false (by omega)
  refine tri Try.func19 rfl Try.ntmps19 (by simp) ?_
  repeat (first | refine wMh ?_ | (refine kMh ?_; (first | rintro _ _ ⟨rfl, rfl⟩ | rintro _ _ ⟨_, rfl, rfl⟩ | rintro _ _ ⟨_, _, ⟨_, _⟩, rfl, rfl⟩); try refine ⟨sConv, ?_⟩) | refine Dr.two ?_ ?_)
  refine postF_conv2 ((Conv.nil chgT).trans (Conv.nil idnT)) ?_
  exact end0 rfl sConv (⟨none, 0, 0, none, 0, 0, _, _, _, _, rfl, rfl⟩)
theorem mb3 (hr : Rd E octT A n c s.2) (hl : s.2.length ≤ 140737488355300) : Tri Try.prog E 19 #[rv g, .pointer (some ⟨gm, 0, none⟩)] [blk gm 34 (mcs (mst 3 fr to) none 0 0 none 0 0), rdr g true s.1 A n c] (MB g gm ⟨3, fr, to, 0, 0, 0, 0, 0, [], [], keyVs s, reqE (keySt s)⟩) := by
  have hl2 : (keySt s).2.length ≤ 140737488355328 := Nat.le_trans (Nat.le_trans (Nat.le_trans (stp_len _ _) (stp_len _ _)) (Nat.le_trans (stp_len _ _) (stp_len _ _))) (Nat.le_trans hl (by decide))
  refine tri Try.func19 rfl Try.ntmps19 (by simp) ?_
  repeat (first | refine wMh ?_ | (refine kMh ?_; (first | rintro _ _ ⟨rfl, rfl⟩ | rintro _ _ ⟨_, rfl, rfl⟩ | rintro _ _ ⟨_, _, ⟨_, _⟩, rfl, rfl⟩); try refine ⟨sConv, ?_⟩) | refine Dr.two ?_ ?_)
  refine L.step (by decide) (S.call rfl rfl Try.func48 (by kernel_rfl) rfl sPicks (fun E' hE => mkey E' g A n c s sRd) ?_)
  rintro e H' ⟨A2, n2, c2, rfl, hal2, rfl⟩
  refine ⟨_, rfl, _, sCat, ?_⟩
  generalize keyVs s = ky at *
  generalize keySt s = s2 at *
  repeat (first | refine wMh ?_ | (refine kMh ?_; (first | rintro _ _ ⟨rfl, rfl⟩ | rintro _ _ ⟨_, rfl, rfl⟩ | rintro _ _ ⟨_, _, ⟨_, _⟩, rfl, rfl⟩); try refine ⟨sConv, ?_⟩) | refine Dr.two ?_ ?_)
  refine L.step (by decide) (S.call rfl rfl Try.func43 (by kernel_rfl) rfl sPicks (fun E' hE => bytes_any E' g s2.1 A2 n2 c2 s2.2 13 (hal2 _ sRd) hl2) ?_)
  have ho : ∀ y, (nx s2.1 s2.2 13).1 = some y → y.length = 13 := fun y hy => by have := (nx_width hy).2; omega
  have he : reqE s2 = ((nx s2.1 s2.2 13).1.bind fget13).getD eff0 := rfl
  generalize nx s2.1 s2.2 13 = o at *
  rintro e H' ⟨A3, n3, c3, B, d, rfl, hal3, hmd, hd3, rfl⟩
  refine ⟨_, rfl, _, sCat, ?_⟩
  repeat (first | refine wMh ?_ | (refine kMh ?_; (first | rintro _ _ ⟨rfl, rfl⟩ | rintro _ _ ⟨_, rfl, rfl⟩ | rintro _ _ ⟨_, _, ⟨_, _⟩, rfl, rfl⟩); try refine ⟨sConv, ?_⟩) | refine Dr.two ?_ ?_)
  refine L.step (by decide) (S.call rfl rfl Try.func49 (by kernel_rfl) rfl sPicks (fun E' hE => mfget E' B _ d o.1 ho sRd) ?_)
  rw [← he]
  generalize reqE s2 = f at *
  rintro e H' ⟨ek, rfl, rfl⟩
  refine ⟨_, rfl, _, sCat, ?_⟩
  repeat (first | refine wMh ?_ | (refine kMh ?_; (first | rintro _ _ ⟨rfl, rfl⟩ | rintro _ _ ⟨_, rfl, rfl⟩ | rintro _ _ ⟨_, _, ⟨_, _⟩, rfl, rfl⟩); try refine ⟨sConv, ?_⟩) | refine Dr.two ?_ ?_)
  refine postF_conv2 ((Conv.nil chgT).trans (Conv.nil idnT)) ?_
  exact end0 rfl sConv (⟨none, 0, 0, none, 0, 0, _, _, _, _, rfl, rfl⟩)
theorem mb2 (hr : Rd E octT A n c s.2) (hl : s.2.length ≤ 140737488355300) : Tri Try.prog E 19 #[rv g, .pointer (some ⟨gm, 0, none⟩)] [blk gm 34 (mcs (mst 2 fr to) none 0 0 none 0 0), rdr g true s.1 A n c] (MB g gm ⟨2, fr, to, 0, 0, 0, 0, (vl s 1 : Nat), idsVs (stp (stp s 1) 1) (idN (stp s 1)), lch (lft (idsSt (stp (stp s 1) 1) (idN (stp s 1)))), kz, ez⟩) := by
  refine tri Try.func19 rfl Try.ntmps19 (by simp) ?_
  repeat (first | refine wMh ?_ | (refine kMh ?_; (first | rintro _ _ ⟨rfl, rfl⟩ | rintro _ _ ⟨_, rfl, rfl⟩ | rintro _ _ ⟨_, _, ⟨_, _⟩, rfl, rfl⟩); try refine ⟨sConv, ?_⟩) | refine Dr.two ?_ ?_)
  refine L.step (by decide) (S.call rfl rfl Try.func18 (by kernel_rfl) rfl sPicks (fun E' hE => mtake E' g A n c s (stp s 1) 1 (vl s 1 : Nat) rfl rfl 1 rfl (.inl rfl) sRd) ?_)
  rintro e H' ⟨A1, n1, c1, rfl, hal1, rfl⟩
  refine ⟨_, rfl, _, sCat, ?_⟩
  repeat (first | refine wMh ?_ | (refine kMh ?_; (first | rintro _ _ ⟨rfl, rfl⟩ | rintro _ _ ⟨_, rfl, rfl⟩ | rintro _ _ ⟨_, _, ⟨_, _⟩, rfl, rfl⟩); try refine ⟨sConv, ?_⟩) | refine Dr.two ?_ ?_)
  refine L.step (by decide) (S.call rfl rfl Try.func18 (by kernel_rfl) rfl sPicks (fun E' hE => mtake E' g A1 n1 c1 (stp s 1) (stp (stp s 1) 1) 1 (vl (stp s 1) 1 : Nat) rfl rfl 1 rfl (.inl rfl) (hal1 _ sRd)) ?_)
  rintro e H' ⟨A2, n2, c2, rfl, hal2, rfl⟩
  refine ⟨_, rfl, _, sCat, ?_⟩
  have hmin : min (vl (stp s 1) 1 : Int) 16 = (idN (stp s 1) : Nat) := by unfold idN; omega
  have hsl : (stp (stp s 1) 1).2.length ≤ 140737488355300 := Nat.le_trans (Nat.le_trans (stp_len _ _) (stp_len _ _)) hl
  have hN : idN (stp s 1) ≤ 16 := Nat.min_le_right _ _
  have hal : Also A n c s.2 A2 n2 c2 (stp (stp s 1) 1).2 := hal1.trans hal2
  generalize idN (stp s 1) = N at *
  generalize stp (stp s 1) 1 = s2 at *
  generalize vl s 1 = base at *
  repeat (first | refine wMh ?_ | (refine kMh ?_; (first | rintro _ _ ⟨rfl, rfl⟩ | rintro _ _ ⟨_, rfl, rfl⟩ | rintro _ _ ⟨_, _, ⟨_, _⟩, rfl, rfl⟩); try refine ⟨sConv, ?_⟩) | refine Dr.two ?_ ?_)
  rw [hmin]
  rename_i gb
  refine C.loop (X := Nat × (Option Addr × Nat) × Option Addr × Nat × Nat) (fun x => [(1, .pointer (some ⟨gm, 0, none⟩)), (2, .pointer (some ⟨gb, 0, none⟩)), (12, .int .i64 2), (40, .int .i64 N), (41, .int .i64 x.1)]) (fun x => [blk gb 57 [.pointer (some ⟨g, 0, none⟩)], blk gm 34 (mcs ⟨2, fr, to, 0, 0, 0, 0, base, [], [], kz, ez⟩ x.2.1.1 x.1 x.2.1.2 none 0 0), own idnT x.2.1.1 x.1 x.2.1.2 (idsVs s2 x.1), rdr g true (idsSt s2 x.1).1 x.2.2.1 x.2.2.2.1 x.2.2.2.2]) (fun x => x.1 ≤ N ∧ Also A n c s.2 x.2.2.1 x.2.2.2.1 x.2.2.2.2 (idsSt s2 x.1).2) (fun x => N - x.1) (0, (none, 0), A2, n2, c2) sHolds (by simp only [idsVs, idsSt]; exact (Conv.nil idnT).trans sConv) ⟨Nat.zero_le _, hal⟩ ?_
  rintro ⟨i, ⟨O, co⟩, A3, n3, c3⟩ G ⟨hi, hal3⟩
  dsimp only at hi hal3 ⊢
  by_cases hlt : i < N
  · repeat (first | refine wMh ?_ | (refine kMh ?_; (first | rintro _ _ ⟨rfl, rfl⟩ | rintro _ _ ⟨_, rfl, rfl⟩ | rintro _ _ ⟨_, _, ⟨_, _⟩, rfl, rfl⟩); try refine ⟨sConv, ?_⟩) | refine Dr.two ?_ ?_)
    refine C.regionA 11 (.one 0 false (.one 1 false (.one 2 false (.one 3 false (.one 4 false (.one 5 false (.one 6 true (.one 7 true (.one 8 true (.one 9 false (.one 10 false (.one 11 true .nil)))))))))))) ([blk gb 57 [.pointer (some ⟨g, 0, none⟩)], blk gm 34 (mcs ⟨2, fr, to, 0, 0, 0, 0, base, [], [], kz, ez⟩ O i co none 0 0)]) (by kernel_rfl) (by kernel_rfl) sConv ?_
    repeat (first | refine wMh ?_ | (refine kMh ?_; (first | rintro _ _ ⟨rfl, rfl⟩ | rintro _ _ ⟨_, rfl, rfl⟩ | rintro _ _ ⟨_, _, ⟨_, _⟩, rfl, rfl⟩); try refine ⟨sConv, ?_⟩) | refine Dr.two ?_ ?_)
    refine Dr.go rfl (by rintro k ⟨⟩ <;> decide) sGon (S.call rfl rfl Try.func45 (by kernel_rfl) rfl sPicks (fun E' hE => mid E' g A3 n3 c3 (idsSt s2 i) (hal3 _ sRd)) ?_)
    rintro e H' ⟨A4, n4, c4, rfl, hal4, rfl⟩
    refine ⟨_, rfl, _, sCat, sConv, ?_⟩
    have hq : idSt (idsSt s2 i) = idsSt s2 (i + 1) := rfl
    rw [hq] at hal4 ⊢
    have hz : idsVs s2 i ++ [idAt (idsSt s2 i)] = idsVs s2 (i + 1) := rfl
    have hlv := idsVs_length s2 i
    generalize idAt (idsSt s2 i) = a at *
    repeat (first | refine wMh ?_ | (refine kMh ?_; (first | rintro _ _ ⟨rfl, rfl⟩ | rintro _ _ ⟨_, rfl, rfl⟩ | rintro _ _ ⟨_, _, ⟨_, _⟩, rfl, rfl⟩); try refine ⟨sConv, ?_⟩) | refine Dr.two ?_ ?_)
    rename_i O' co' _ _
    rw [hz]
    exact ⟨(i + 1, (O', co'), A4, n4, c4), sHolds, sConv, ⟨by dsimp only; omega, hal3.trans hal4⟩, by dsimp only; omega⟩
  · obtain rfl : i = N := by omega
    have hlv := idsVs_length s2 i
    have hsl3 : (idsSt s2 i).2.length ≤ 140737488355328 := Nat.le_trans (idsSt_len _ _) (Nat.le_trans hsl (by decide))
    have hnl := nx_lft (idsSt s2 i)
    have hll : (lft (idsSt s2 i)).length ≤ 140737488355300 := by unfold lft; split; (· exact Nat.zero_le _); (· exact Nat.le_trans (idsSt_len _ _) hsl)
    generalize idsSt s2 i = s3 at *
    repeat (first | refine wMh ?_ | (refine kMh ?_; (first | rintro _ _ ⟨rfl, rfl⟩ | rintro _ _ ⟨_, rfl, rfl⟩ | rintro _ _ ⟨_, _, ⟨_, _⟩, rfl, rfl⟩); try refine ⟨sConv, ?_⟩) | refine Dr.two ?_ ?_)
    refine C.regionA 100000 (.one 0 false (.one 1 false (.one 2 false (.one 3 false (.one 4 true (.one 5 true (.one 6 false (.one 7 false (.one 8 false (.one 9 false (.one 10 false .nil))))))))))) ([blk gb 57 [.pointer (some ⟨g, 0, none⟩)]]) (by kernel_rfl) (by kernel_rfl) sConv ?_
    repeat (first | refine wMh ?_ | (refine kMh ?_; (first | rintro _ _ ⟨rfl, rfl⟩ | rintro _ _ ⟨_, rfl, rfl⟩ | rintro _ _ ⟨_, _, ⟨_, _⟩, rfl, rfl⟩); try refine ⟨sConv, ?_⟩) | refine Dr.two ?_ ?_)
    refine Dr.go rfl (by rintro k ⟨⟩ <;> decide) sGon (S.call rfl rfl Try.func46 (by kernel_rfl) rfl sPicks (fun E' hE => left_any E' g s3.1 A3 n3 c3 s3.2 (hal3 _ sRd)) ?_)
    rintro e H' ⟨rfl, rfl⟩
    refine ⟨_, rfl, _, sCat, sConv, ?_⟩
    repeat (first | refine wMh ?_ | (refine kMh ?_; (first | rintro _ _ ⟨rfl, rfl⟩ | rintro _ _ ⟨_, rfl, rfl⟩ | rintro _ _ ⟨_, _, ⟨_, _⟩, rfl, rfl⟩); try refine ⟨sConv, ?_⟩) | refine Dr.two ?_ ?_)
    refine Dr.go rfl (by rintro k ⟨⟩ <;> decide) sGon (S.call rfl rfl Try.func43 (by kernel_rfl) rfl sPicks (fun E' hE => bytes_any E' g s3.1 A3 n3 c3 s3.2 _ (hal3 _ sRd) hsl3) ?_)
    generalize nx s3.1 s3.2 _ = o at *
    rintro e H' ⟨A4, n4, c4, B, d, rfl, hal4, hmd, hd3, rfl⟩
    refine ⟨_, rfl, _, sCat, sConv, ?_⟩
    rw [hnl]
    generalize lft s3 = y at *
    repeat (first | refine wMh ?_ | (refine kMh ?_; (first | rintro _ _ ⟨rfl, rfl⟩ | rintro _ _ ⟨_, rfl, rfl⟩ | rintro _ _ ⟨_, _, ⟨_, _⟩, rfl, rfl⟩); try refine ⟨sConv, ?_⟩) | refine Dr.two ?_ ?_)
    refine L.step (by decide) (S.call rfl rfl Try.func47 (by kernel_rfl) rfl sPicks (fun E' hE => mlist E' B y.length d y sRd hll) ?_)
    rintro e H' ⟨Q, cq, ek, rfl, rfl⟩
    refine ⟨_, rfl, _, sCat, ?_⟩
    generalize lch y = ch at *
    repeat (first | refine wMh ?_ | (refine kMh ?_; (first | rintro _ _ ⟨rfl, rfl⟩ | rintro _ _ ⟨_, rfl, rfl⟩ | rintro _ _ ⟨_, _, ⟨_, _⟩, rfl, rfl⟩); try refine ⟨sConv, ?_⟩) | refine Dr.two ?_ ?_)
    exact end0 rfl sConv (⟨_, _, _, _, _, _, _, _, _, _, rfl, rfl⟩)
end
end Go.Proofs.Ytihblcljkndpgaa.Sep
