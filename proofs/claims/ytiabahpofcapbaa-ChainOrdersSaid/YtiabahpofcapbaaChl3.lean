/- the law of chains: all calls; by parts of memory. -/
import Derived.Test.YtiabahpofcapbaaChl2
namespace Go.Proofs.Ytiabahpofcapbaa.Sep
open Go.RowKit Go.Proofs.Ytiabahpofcapbaa.Reg
open Go.Proofs.Ytiabahpofcapbaa.Mem hiding Rd Own
-- types: entT enrT effT opT
-- recs: idnT_rec effT_rec cfgT_rec entT_rec enrT_rec keyT_rec reqT_rec opT_rec chain_rec chref_rec pair_rec
-- eqs: idnT_eqa effT_eqa entT_eqa enrT_eqa keyT_eqa reqT_eqa
-- funcs
-- flds
set_option maxRecDepth 100000
set_option maxHeartbeats 8000000
section
variable (E : Env) (gp gM : Nat) (id : Idn) (s : S21) (A : Option Addr) (n c : Nat) (B : Option Addr) (cb : Nat) (X : Option Addr) (nx cx : Nat)
theorem step21_any (x : Op21) (hs : s.ok) (hx : x.ok) (hw : Rd E effT x.want.A x.want.n x.want.c x.want.l) (hn : n = s.l.length) (hcap : n ≤ c ∧ c ≤ maxLen) (hcb : n ≤ cb ∧ cb ≤ maxLen) (hnx : nx = s.w.length) (hcx : nx ≤ cx ∧ cx ≤ maxLen) :
    Tri Try.prog E 17 #[.pointer (some ⟨gp, 0, none⟩), .agg x.cs.toArray] (st21 gp gM id s.made s.l s.w A n c B cb X nx cx) (Step21 gp gM id (S21.step id s x)) := by
  have h0 := hs.made0
  have h1 := hs.made1
  have h2 := hs.len
  have hl : n ≤ 255 := by omega
  have hm : I64 s.made := by unfold I64; omega
  have hx8 : x.want.n ≤ 8 := by have := hw.len; have := hx.wide; omega
  by_cases k1 : x.kind = 1
  · exact step21_1 E gp gM id s.made s.l s.w A n c B cb X nx cx x k1 hw hn hl hx8
  by_cases k2 : x.kind = 2
  · exact step21_2 E gp gM id s.made s.l s.w A n c B cb X nx cx x k2 hn hcap hcb hnx hcx hl hs.ents hm
  by_cases k3 : x.kind = 3
  · exact step21_3 E gp gM id s.made s.l s.w A n c B cb X nx cx x k3 hn hcap hcb hnx hcx hl hs.ents hm
  by_cases k4 : x.kind = 4
  · exact step21_4 E gp gM id s.made s.l s.w A n c B cb X nx cx x k4 hn hcap hcb hnx hcx hl hs.ents hm
  by_cases k5 : x.kind = 5
  · exact step21_5 E gp gM id s.made s.l s.w A n c B cb X nx cx x k5 hn hcap hcb hnx hcx hl hs.ents hm
  · exact step21_0 E gp gM id s.made s.l s.w A n c B cb X nx cx x (by omega) hn hcap hcb hnx hcx hl hs.ents hm
theorem run21 (O : Option Addr) (m co : Nat) (ops : List Op21) (hr : Rd E opT O m co ops) (hws : Ws E ops) (hs : s.ok) (hops : ∀ x ∈ ops, x.ok) (hn : n = s.l.length) (hcap : n ≤ c ∧ c ≤ maxLen) (hcb : n ≤ cb ∧ cb ≤ maxLen) (hnx : nx = s.w.length) (hcx : nx ≤ cx ∧ cx ≤ maxLen) :
    Tri Try.prog E 14 #[.pointer (some ⟨gp, 0, none⟩), .slice O m co] (st21 gp gM id s.made s.l s.w A n c B cb X nx cx) (Step21 gp gM id (S21.run id s ops)) := by
  have hm := hr.len
  have hmc := hr.cap
  have hmax : maxLen = 9223372036854775807 := rfl
  unfold Step21
  refine tri Try.func14 rfl Try.ntmps14 (by simp) ?_
  repeat (first | refine wCh1 ?_ | (refine kCh1 ?_; (first | rintro _ _ ⟨rfl, rfl⟩ | rintro _ _ ⟨_, rfl, rfl⟩ | rintro _ _ ⟨_, _, ⟨_, _⟩, rfl, rfl⟩); try refine ⟨sConv, ?_⟩) | refine Dr.two ?_ ?_)
  refine C.loop (X := Nat × (Option Addr × Nat × Nat) × (Option Addr × Nat) × (Option Addr × Nat × Nat)) (fun x => [(0, .pointer (some ⟨gp, 0, none⟩)), (1, .slice O m co), (5, .int .i64 x.1)])
    (fun x => st21 gp gM id (S21.run id s (ops.take x.1)).made (S21.run id s (ops.take x.1)).l (S21.run id s (ops.take x.1)).w x.2.1.1 x.2.1.2.1 x.2.1.2.2 x.2.2.1.1 x.2.2.1.2 x.2.2.2.1 x.2.2.2.2.1 x.2.2.2.2.2)
    (fun x => x.1 ≤ m ∧ x.2.1.2.1 = (S21.run id s (ops.take x.1)).l.length ∧ (x.2.1.2.1 ≤ x.2.1.2.2 ∧ x.2.1.2.2 ≤ maxLen) ∧ (x.2.1.2.1 ≤ x.2.2.1.2 ∧ x.2.2.1.2 ≤ maxLen) ∧ x.2.2.2.2.1 = (S21.run id s (ops.take x.1)).w.length ∧ (x.2.2.2.2.1 ≤ x.2.2.2.2.2 ∧ x.2.2.2.2.2 ≤ maxLen))
    (fun x => m - x.1) (0, (A, n, c), (B, cb), (X, nx, cx)) sHolds Conv.refl ⟨Nat.zero_le _, hn, hcap, hcb, hnx, hcx⟩ ?_
  rintro ⟨i, ⟨A1, n1, c1⟩, ⟨B1, cb1⟩, ⟨X1, nx1, cx1⟩⟩ G ⟨hi, e1, e2, e3, e4, e5⟩
  dsimp only at hi e1 e2 e3 e4 e5 ⊢
  have hsi : (S21.run id s (ops.take i)).ok := S21.run_ok hs fun x hx => hops x (List.mem_of_mem_take hx)
  by_cases hlt : i < m
  · have hx : ops[i]? = some ops[i] := List.getElem?_eq_getElem (by omega)
    have hrun := S21.run_succ (id := id) (s := s) (l := ops) (i := i) (by omega)
    have hxo := hops ops[i] (List.getElem_mem _)
    have hxw := hws ops[i] (List.getElem_mem _)
    generalize ops[i] = x at hx hrun hxo hxw
    generalize S21.run id s (ops.take i) = t at *
    repeat (first | refine wCh1 ?_ | (refine kCh1 ?_; (first | rintro _ _ ⟨rfl, rfl⟩ | rintro _ _ ⟨_, rfl, rfl⟩ | rintro _ _ ⟨_, _, ⟨_, _⟩, rfl, rfl⟩); try refine ⟨sConv, ?_⟩) | refine Dr.two ?_ ?_)
    refine L.step (by decide) (S.call rfl rfl Try.func17 (by kernel_rfl) rfl sPicks (fun E' hE => step21_any E' gp gM id t A1 n1 c1 B1 cb1 X1 nx1 cx1 x hsi hxo (hxw.sub hE) e1 e2 e3 e4 e5) ?_)
    unfold Step21
    rintro r H' ⟨A2, n2, c2, B2, cb2, X2, nx2, cx2, rfl, k1, k2, k3, k4, k5, rfl⟩
    refine ⟨_, rfl, _, sCat, ?_⟩
    repeat (first | refine wCh1 ?_ | (refine kCh1 ?_; (first | rintro _ _ ⟨rfl, rfl⟩ | rintro _ _ ⟨_, rfl, rfl⟩ | rintro _ _ ⟨_, _, ⟨_, _⟩, rfl, rfl⟩); try refine ⟨sConv, ?_⟩) | refine Dr.two ?_ ?_)
    exact ⟨(i + 1, (A2, n2, c2), (B2, cb2), (X2, nx2, cx2)), sHolds, by dsimp only; rw [hrun]; exact sConv, ⟨by dsimp only; omega, by dsimp only; rw [hrun]; exact k1, k3, k4, by dsimp only; rw [hrun]; exact k2, k5⟩, by dsimp only; omega⟩
  · obtain rfl : i = m := by omega
    rw [List.take_of_length_le (by omega)] at *
    repeat (first | refine wCh1 ?_ | (refine kCh1 ?_; (first | rintro _ _ ⟨rfl, rfl⟩ | rintro _ _ ⟨_, rfl, rfl⟩ | rintro _ _ ⟨_, _, ⟨_, _⟩, rfl, rfl⟩); try refine ⟨sConv, ?_⟩) | refine Dr.two ?_ ?_)
    exact ret1 rfl sRet sConv (⟨_, _, _, _, _, _, _, _, rfl, e1, e4, e2, e3, e5, rfl⟩)
end
abbrev f1 : Eff := ⟨1, 0, 0, ⟨0, 0⟩⟩
abbrev f3 : Eff := ⟨3, 0, 0, ⟨0, 0⟩⟩
theorem a1 : tried ⟨0, 0⟩ 0 [] [f1] 1 = some (1, [⟨1, f1, 1, 1, false, false, 0, 0⟩]) := by kernel_rfl
theorem a2 : acked ⟨0, 0⟩ [⟨1, f1, 1, 1, false, false, 0, 0⟩] ⟨⟨0, 0⟩, 1, false⟩ = some [⟨1, f1, 1, 1, true, false, 0, 0⟩] := by kernel_rfl
theorem a3 : quiet [⟨1, f1, 1, 1, true, false, 0, 0⟩] [f1] = true := by kernel_rfl
theorem a4 : settle [f3] [⟨1, f1, 1, 1, true, false, 0, 0⟩] = [⟨1, f1, 1, 1, true, true, 0, 0⟩] := by kernel_rfl
theorem a5 : next ⟨0, 0⟩ 1 [⟨1, f1, 1, 1, true, true, 0, 0⟩] [f3] = some ⟨⟨⟨0, 0⟩, 1, true⟩, f1⟩ := by kernel_rfl
theorem a6 : tried ⟨0, 0⟩ 1 [⟨1, f1, 1, 1, true, true, 0, 0⟩] [f3] 2 = some (1, [⟨1, f1, 1, 1, true, true, 1, 2⟩]) := by kernel_rfl
theorem a7 : acked ⟨0, 0⟩ [⟨1, f1, 1, 1, true, true, 1, 2⟩] ⟨⟨0, 0⟩, 1, true⟩ = some [] := by kernel_rfl
theorem a8 : next ⟨0, 0⟩ 1 [] [f3] = some ⟨⟨⟨0, 0⟩, 2, false⟩, f3⟩ := by kernel_rfl
theorem e_ok {o : Int} {a g : Bool} {b k : Int} (h1 : I64 o) (h2 : I64 b) (h3 : I64 k) : ∀ e ∈ [(⟨o, f1, 1, 1, a, g, b, k⟩ : Ent)], e.ok := by
  intro e he
  rw [List.mem_singleton] at he
  subst he
  have i1 : I64 1 := by unfold I64; decide
  have i0 : I64 0 := by unfold I64; decide
  exact ⟨h1, ⟨i1, i0, i0, i0, i0⟩, i1, i1, h2, h3⟩
theorem alive21 (E : Env) : Tri Try.prog E 12 #[] [] fun r H' => r = .returned (.bool true) ∧ H' = [] := by
  have i1 : I64 1 := by unfold I64; decide
  have i0 : I64 0 := by unfold I64; decide
  have d0 : (0 : Nat) ≤ 1000000 := by decide
  have d1 : (1 : Nat) ≤ 1000000 := by decide
  have n0 : ∀ e ∈ ([] : List Ent), e.ok := fun e he => by cases he
  refine tri Try.func12 rfl Try.ntmps12 (by simp) ?_
  repeat (first | refine wCh1 ?_ | (refine kCh1 ?_; (first | rintro _ _ ⟨rfl, rfl⟩ | rintro _ _ ⟨_, rfl, rfl⟩ | rintro _ _ ⟨_, _, ⟨_, _⟩, rfl, rfl⟩); try refine ⟨sConv, ?_⟩) | refine Dr.two ?_ ?_)
  refine L.stepK (by decide) (S.buildSlice1K (T := effT) (e := f1) rfl rfl rfl rfl (by decide)) ?_; rintro _ _ ⟨_, rfl, rfl⟩
  repeat (first | refine wCh1 ?_ | (refine kCh1 ?_; (first | rintro _ _ ⟨rfl, rfl⟩ | rintro _ _ ⟨_, rfl, rfl⟩ | rintro _ _ ⟨_, _, ⟨_, _⟩, rfl, rfl⟩); try refine ⟨sConv, ?_⟩) | refine Dr.two ?_ ?_)
  refine L.stepK (by decide) (S.buildSlice1K (T := effT) (e := f3) rfl rfl rfl rfl (by decide)) ?_; rintro _ _ ⟨_, rfl, rfl⟩
  rename_i g1 g2
  repeat (first | refine wCh1 ?_ | (refine kCh1 ?_; (first | rintro _ _ ⟨rfl, rfl⟩ | rintro _ _ ⟨_, rfl, rfl⟩ | rintro _ _ ⟨_, _, ⟨_, _⟩, rfl, rfl⟩); try refine ⟨sConv, ?_⟩) | refine Dr.two ?_ ?_)
  refine L.step (by decide) (S.call rfl rfl Try.func20 (by kernel_rfl) rfl sPicks (fun E' hE => ctry E' ⟨0, 0⟩ 0 none 0 0 [] [f1] (some ⟨g1, 0, none⟩) 1 1 1 (Rd.nil _ _) sRd d0 n0 i0) ?_)
  unfold TryPost
  rw [a1]
  dsimp only [Option.getD, Option.isSome]
  rintro r H' ⟨A1, n1, c1, rfl, hn1, -, rfl⟩
  change n1 = 1 at hn1
  subst hn1
  refine ⟨_, rfl, _, sCat, ?_⟩
  repeat (first | refine wCh1 ?_ | (refine kCh1 ?_; (first | rintro _ _ ⟨rfl, rfl⟩ | rintro _ _ ⟨_, rfl, rfl⟩ | rintro _ _ ⟨_, _, ⟨_, _⟩, rfl, rfl⟩); try refine ⟨sConv, ?_⟩) | refine Dr.two ?_ ?_)
  refine L.step (by decide) (S.call rfl rfl Try.func21 (by kernel_rfl) rfl sPicks (fun E' hE => cack E' ⟨0, 0⟩ 1 A1 1 c1 _ ⟨⟨0, 0⟩, 1, false⟩ sRd d1) ?_)
  unfold AckPost
  rw [a2]
  dsimp only [Option.getD, Option.isSome]
  rintro r H' ⟨A2, n2, c2, rfl, hn2, -, rfl⟩
  change n2 = 1 at hn2
  subst hn2
  refine ⟨_, rfl, _, sCat, ?_⟩
  repeat (first | refine wCh1 ?_ | (refine kCh1 ?_; (first | rintro _ _ ⟨rfl, rfl⟩ | rintro _ _ ⟨_, rfl, rfl⟩ | rintro _ _ ⟨_, _, ⟨_, _⟩, rfl, rfl⟩); try refine ⟨sConv, ?_⟩) | refine Dr.two ?_ ?_)
  refine L.step (by decide) (S.call rfl rfl Try.func19 (by kernel_rfl) rfl sPicks (fun E' hE => cquiet E' ⟨0, 0⟩ 1 A2 1 c2 _ [f1] (some ⟨g1, 0, none⟩) 1 1 sRd sRd) ?_)
  rw [a3]
  rintro r H' ⟨rfl, rfl⟩
  refine ⟨_, rfl, _, sCat, ?_⟩
  repeat (first | refine wCh1 ?_ | (refine kCh1 ?_; (first | rintro _ _ ⟨rfl, rfl⟩ | rintro _ _ ⟨_, rfl, rfl⟩ | rintro _ _ ⟨_, _, ⟨_, _⟩, rfl, rfl⟩); try refine ⟨sConv, ?_⟩) | refine Dr.two ?_ ?_)
  refine L.step (by decide) (S.call rfl rfl Try.func16 (by kernel_rfl) rfl sPicks (fun E' hE => csettle E' ⟨0, 0⟩ 1 A2 1 c2 _ [f3] (some ⟨g2, 0, none⟩) 1 1 sRd sRd d1) ?_)
  rw [a4]
  rintro r H' ⟨A3, c3, rfl, -, rfl⟩
  refine ⟨_, rfl, _, sCat, ?_⟩
  repeat (first | refine wCh1 ?_ | (refine kCh1 ?_; (first | rintro _ _ ⟨rfl, rfl⟩ | rintro _ _ ⟨_, rfl, rfl⟩ | rintro _ _ ⟨_, _, ⟨_, _⟩, rfl, rfl⟩); try refine ⟨sConv, ?_⟩) | refine Dr.two ?_ ?_)
  refine L.step (by decide) (S.call rfl rfl Try.func18 (by kernel_rfl) rfl sPicks (fun E' hE => cnext E' ⟨0, 0⟩ 1 A3 1 c3 _ [f3] (some ⟨g2, 0, none⟩) 1 1 sRd sRd (e_ok i1 i0 i0) i1) ?_)
  unfold Nxt
  rw [a5]
  dsimp only [Option.getD, Option.isSome]
  rintro r H' ⟨rfl, rfl⟩
  refine ⟨_, rfl, _, sCat, ?_⟩
  repeat (first | refine wCh1 ?_ | (refine kCh1 ?_; (first | rintro _ _ ⟨rfl, rfl⟩ | rintro _ _ ⟨_, rfl, rfl⟩ | rintro _ _ ⟨_, _, ⟨_, _⟩, rfl, rfl⟩); try refine ⟨sConv, ?_⟩) | refine Dr.two ?_ ?_)
  refine L.step (by decide) (S.call rfl rfl Try.func20 (by kernel_rfl) rfl sPicks (fun E' hE => ctry E' ⟨0, 0⟩ 1 A3 1 c3 _ [f3] (some ⟨g2, 0, none⟩) 1 1 2 sRd sRd d1 (e_ok i1 i0 i0) i1) ?_)
  unfold TryPost
  rw [a6]
  dsimp only [Option.getD, Option.isSome]
  rintro r H' ⟨A4, n4, c4, rfl, hn4, -, rfl⟩
  change n4 = 1 at hn4
  subst hn4
  refine ⟨_, rfl, _, sCat, ?_⟩
  repeat (first | refine wCh1 ?_ | (refine kCh1 ?_; (first | rintro _ _ ⟨rfl, rfl⟩ | rintro _ _ ⟨_, rfl, rfl⟩ | rintro _ _ ⟨_, _, ⟨_, _⟩, rfl, rfl⟩); try refine ⟨sConv, ?_⟩) | refine Dr.two ?_ ?_)
  refine L.step (by decide) (S.call rfl rfl Try.func21 (by kernel_rfl) rfl sPicks (fun E' hE => cack E' ⟨0, 0⟩ 1 A4 1 c4 _ ⟨⟨0, 0⟩, 1, true⟩ sRd d1) ?_)
  unfold AckPost
  rw [a7]
  dsimp only [Option.getD, Option.isSome]
  rintro r H' ⟨A5, n5, c5, rfl, hn5, -, rfl⟩
  change n5 = 0 at hn5
  subst hn5
  refine ⟨_, rfl, _, sCat, ?_⟩
  repeat (first | refine wCh1 ?_ | (refine kCh1 ?_; (first | rintro _ _ ⟨rfl, rfl⟩ | rintro _ _ ⟨_, rfl, rfl⟩ | rintro _ _ ⟨_, _, ⟨_, _⟩, rfl, rfl⟩); try refine ⟨sConv, ?_⟩) | refine Dr.two ?_ ?_)
  refine L.step (by decide) (S.call rfl rfl Try.func18 (by kernel_rfl) rfl sPicks (fun E' hE => cnext E' ⟨0, 0⟩ 1 A5 0 c5 _ [f3] (some ⟨g2, 0, none⟩) 1 1 sRd sRd n0 i1) ?_)
  unfold Nxt
  rw [a8]
  dsimp only [Option.getD, Option.isSome]
  rintro r H' ⟨rfl, rfl⟩
  refine ⟨_, rfl, _, sCat, ?_⟩
  have hx : ([f3] : List Eff)[0]? = some f3 := rfl
  repeat (first | refine wCh1 ?_ | (refine kCh1 ?_; (first | rintro _ _ ⟨rfl, rfl⟩ | rintro _ _ ⟨_, rfl, rfl⟩ | rintro _ _ ⟨_, _, ⟨_, _⟩, rfl, rfl⟩); try refine ⟨sConv, ?_⟩) | refine Dr.two ?_ ?_)
  refine C.regionA 100000 (.one 0 false (.one 1 false (.one 2 false (.one 3 false (.one 4 false (.one 5 false (.one 6 false (.one 7 false (.one 8 false (.one 9 false (.one 10 false (.one 11 false (.one 12 false (.one 13 false (.one 14 false (.one 15 false (.one 16 false (.one 17 false (.one 18 false (.one 19 false (.one 20 false (.one 21 false (.one 22 false (.one 23 false (.one 24 false (.one 25 false (.one 26 false (.one 27 false (.one 28 false (.one 29 false (.one 30 false (.one 31 false (.one 32 false (.one 33 false (.one 34 false (.one 35 false (.one 36 false (.one 37 false (.one 38 false (.one 39 false (.one 40 false (.one 41 false (.one 42 false (.one 43 false (.one 44 false .nil))))))))))))))))))))))))))))))))))))))))))))) _ (by kernel_rfl) (by kernel_rfl) Conv.refl ?_
  repeat (first | refine wCh1 ?_ | (refine kCh1 ?_; (first | rintro _ _ ⟨rfl, rfl⟩ | rintro _ _ ⟨_, rfl, rfl⟩ | rintro _ _ ⟨_, _, ⟨_, _⟩, rfl, rfl⟩); try refine ⟨sConv, ?_⟩) | refine Dr.two ?_ ?_)
  exact ret1 rfl sRet sConv (⟨rfl, rfl⟩)
end Go.Proofs.Ytiabahpofcapbaa.Sep
