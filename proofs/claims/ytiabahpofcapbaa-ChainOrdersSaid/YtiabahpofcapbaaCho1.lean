/- the law ChainOrders, by parts of memory. -/
import Derived.Test.YtiabahpofcapbaaChl4
import Derived.Test.YtiabahpofcapbaaChoPlain
namespace Go.Proofs.Ytiabahpofcapbaa.Sep
open Go.RowKit Go.Proofs.Ytiabahpofcapbaa.Reg
open Go.Proofs.Ytiabahpofcapbaa.Mem hiding Rd Own
-- types: entT enrT effT opT
-- recs: idnT_rec effT_rec cfgT_rec entT_rec enrT_rec keyT_rec reqT_rec opT_rec chain_rec chref_rec pair_rec
-- eqs: idnT_eqa effT_eqa entT_eqa enrT_eqa keyT_eqa reqT_eqa
-- funcs
-- flds
set_option maxRecDepth 100000
set_option maxHeartbeats 8000000
theorem run_ord {id : Idn} {l : List Op21} (hl : ∀ x ∈ l, x.ok) : Ord21 (S21.run id s0 l).made (S21.run id s0 l).l := by
  suffices h : ∀ (l : List Op21) (s : S21), s.ok → Ord21 s.made s.l → (∀ x ∈ l, x.ok) → Ord21 (S21.run id s l).made (S21.run id s l).l from h l s0 s0_ok Ord21.nil hl
  intro l
  induction l with
  | nil => intro s _ h _; exact h
  | cons x l ih =>
    intro s hs h hl
    exact ih (S21.step id s x) (S21.step_ok hs (hl x (List.mem_cons_self ..))) (Ord21.step h hs.made0).1 (fun y hy => hl y (List.mem_cons_of_mem _ hy))
theorem orders21 (E : Env) (id : Idn) (A : Option Addr) (n c : Nat) (l : List Op21) (hr : Rd E opT A n c l) (hin : ∀ x ∈ l, In21 E x) : Tri Try.prog E 5 #[.agg id.cs.toArray, .slice A n c] [] fun r _ => r = .returned (.bool true) := by
  have hws := In21.ws hin
  have hops := few21_ok hin
  have hws2 := hws.few
  have hf60 := few21_length (l := l)
  have z0 : 0 ≤ 0 ∧ 0 ≤ maxLen := ⟨Nat.le_refl _, Nat.zero_le _⟩
  have hmax : maxLen = 9223372036854775807 := rfl
  refine tri Try.func5 rfl Try.ntmps5 (by simp) ?_
  repeat (first | refine wCh1 ?_ | (refine kCh1 ?_; (first | rintro _ _ ⟨rfl, rfl⟩ | rintro _ _ ⟨_, rfl, rfl⟩ | rintro _ _ ⟨_, _, ⟨_, _⟩, rfl, rfl⟩); try refine ⟨sConv, ?_⟩) | refine Dr.two ?_ ?_)
  refine L.step (by decide) (S.call rfl rfl Try.func12 (by kernel_rfl) rfl sPicks (fun E' hE => alive21 E') ?_)
  rintro r H' ⟨rfl, rfl⟩
  refine ⟨_, rfl, _, sCat, ?_⟩
  repeat (first | refine wCh1 ?_ | (refine kCh1 ?_; (first | rintro _ _ ⟨rfl, rfl⟩ | rintro _ _ ⟨_, rfl, rfl⟩ | rintro _ _ ⟨_, _, ⟨_, _⟩, rfl, rfl⟩); try refine ⟨sConv, ?_⟩) | refine Dr.two ?_ ?_)
  refine L.step (by decide) (S.call rfl rfl Try.func13 (by kernel_rfl) rfl sPicks (fun E' hE => begin21 E' id) ?_)
  rintro r H' ⟨gp, gM, rfl, rfl⟩
  refine ⟨_, rfl, _, sCat, ?_⟩
  repeat (first | refine wCh1 ?_ | (refine kCh1 ?_; (first | rintro _ _ ⟨rfl, rfl⟩ | rintro _ _ ⟨_, rfl, rfl⟩ | rintro _ _ ⟨_, _, ⟨_, _⟩, rfl, rfl⟩); try refine ⟨sConv, ?_⟩) | refine Dr.two ?_ ?_)
  refine L.step (by decide) (S.call rfl rfl Try.func15 (by kernel_rfl) rfl sPicks (fun E' hE => few21_any E' A n c l sRd (hws.sub hE)) ?_)
  rintro r H' ⟨O, m, co, rfl, hm, hco, rfl⟩
  refine ⟨_, rfl, _, sCat, ?_⟩
  generalize few21 l = ops at *
  repeat (first | refine wCh1 ?_ | (refine kCh1 ?_; (first | rintro _ _ ⟨rfl, rfl⟩ | rintro _ _ ⟨_, rfl, rfl⟩ | rintro _ _ ⟨_, _, ⟨_, _⟩, rfl, rfl⟩); try refine ⟨sConv, ?_⟩) | refine Dr.two ?_ ?_)
  refine C.conv conv3 ?_
  refine C.loop (X := Nat × (Option Addr × Nat × Nat) × (Option Addr × Nat) × (Option Addr × Nat × Nat)) (fun x => [(1, .slice O m co), (5, .pointer (some ⟨gp, 0, none⟩)), (6, .int .i64 x.1)])
    (fun x => [pr gp gM id (S21.run id s0 (ops.take x.1)).made x.2.1.1 x.2.1.2.1 x.2.1.2.2, own entT x.2.1.1 x.2.1.2.1 x.2.1.2.2 (S21.run id s0 (ops.take x.1)).l, mch gM id (S21.run id s0 (ops.take x.1)).made x.2.2.1.1 x.2.1.2.1 x.2.2.1.2 x.2.2.2.1 x.2.2.2.2.1 x.2.2.2.2.2, own enrT x.2.2.1.1 x.2.1.2.1 x.2.2.1.2 (S21.run id s0 (ops.take x.1)).l, own effT x.2.2.2.1 x.2.2.2.2.1 x.2.2.2.2.2 (S21.run id s0 (ops.take x.1)).w, own opT O m co ops])
    (fun x => x.1 ≤ m ∧ x.2.1.2.1 = (S21.run id s0 (ops.take x.1)).l.length ∧ (x.2.1.2.1 ≤ x.2.1.2.2 ∧ x.2.1.2.2 ≤ maxLen) ∧ (x.2.1.2.1 ≤ x.2.2.1.2 ∧ x.2.2.1.2 ≤ maxLen) ∧ x.2.2.2.2.1 = (S21.run id s0 (ops.take x.1)).w.length ∧ (x.2.2.2.2.1 ≤ x.2.2.2.2.2 ∧ x.2.2.2.2.2 ≤ maxLen))
    (fun x => m - x.1) (0, (none, 0, 0), (none, 0), (none, 0, 0)) sHolds (by show Conv _ _ [pr gp gM id 0 none 0 0, own entT none 0 0 [], mch gM id 0 none 0 0 none 0 0, own enrT none 0 0 [], own effT none 0 0 [], own opT O m co ops]; exact sConv) ⟨Nat.zero_le _, rfl, z0, z0, rfl, z0⟩ ?_
  rintro ⟨i, ⟨A1, n1, c1⟩, ⟨B1, cb1⟩, ⟨X1, nx1, cx1⟩⟩ G ⟨hi, e1, e2, e3, e4, e5⟩
  dsimp only at hi e1 e2 e3 e4 e5 ⊢
  have hsi : (S21.run id s0 (ops.take i)).ok := S21.run_ok s0_ok fun x hx => hops x (List.mem_of_mem_take hx)
  have hoi := run_ord (id := id) (l := ops.take i) fun x hx => hops x (List.mem_of_mem_take hx)
  by_cases hlt : i < m
  case neg =>
    repeat (first | refine wCh1 ?_ | (refine kCh1 ?_; (first | rintro _ _ ⟨rfl, rfl⟩ | rintro _ _ ⟨_, rfl, rfl⟩ | rintro _ _ ⟨_, _, ⟨_, _⟩, rfl, rfl⟩); try refine ⟨sConv, ?_⟩) | refine Dr.two ?_ ?_)
    exact ret1 rfl sRet sConv (rfl)
  have hx : ops[i]? = some ops[i] := List.getElem?_eq_getElem (by omega)
  have hrun := S21.run_succ (id := id) (s := s0) (l := ops) (i := i) (by omega)
  have hxo := hops ops[i] (List.getElem_mem _)
  have hxw := hws2 ops[i] (List.getElem_mem _)
  generalize ops[i] = x at hx hrun hxo hxw
  generalize S21.run id s0 (ops.take i) = s at *
  have hto := S21.step_ok (id := id) hsi hxo
  obtain ⟨hord, hmade⟩ := Ord21.step (id := id) (x := x) hoi hsi.made0
  repeat (first | refine wCh1 ?_ | (refine kCh1 ?_; (first | rintro _ _ ⟨rfl, rfl⟩ | rintro _ _ ⟨_, rfl, rfl⟩ | rintro _ _ ⟨_, _, ⟨_, _⟩, rfl, rfl⟩); try refine ⟨sConv, ?_⟩) | refine Dr.two ?_ ?_)
  refine L.step (by decide) (S.call rfl rfl Try.func17 (by kernel_rfl) rfl sPicks (fun E' hE => step21_any E' gp gM id s A1 n1 c1 B1 cb1 X1 nx1 cx1 x hsi hxo (hxw.sub hE) e1 e2 e3 e4 e5) ?_)
  unfold Step21
  rintro r H' ⟨A2, n2, c2, B2, cb2, X2, nx2, cx2, rfl, k1, k2, k3, k4, k5, rfl⟩
  refine ⟨_, rfl, _, sCat, ?_⟩
  generalize S21.step id s x = t at *
  have t0 := hto.made0
  have t1 := hto.made1
  have t2 := hto.len
  have tl := lastOrd_le hord t0
  have hm1 : I64 t.made := by unfold I64; omega
  have hmw : IntKind.i64.wrap (t.made + 1) = t.made + 1 := IntWalk.i64_in _ (by omega)
  repeat (first | refine wCh1 ?_ | (refine kCh1 ?_; (first | rintro _ _ ⟨rfl, rfl⟩ | rintro _ _ ⟨_, rfl, rfl⟩ | rintro _ _ ⟨_, _, ⟨_, _⟩, rfl, rfl⟩); try refine ⟨sConv, ?_⟩) | refine Dr.two ?_ ?_)
  refine C.loop (X := Nat) (fun k => [(1, .slice O m co), (5, .pointer (some ⟨gp, 0, none⟩)), (6, .int .i64 i), (7, .int .i64 s.made), (8, .slice A2 n2 c2), (9, .int .i64 (lastOrd t.l k)), (10, .int .i64 k)])
    (fun _ => [pr gp gM id t.made A2 n2 c2, own entT A2 n2 c2 t.l, mch gM id t.made B2 n2 cb2 X2 nx2 cx2, own enrT B2 n2 cb2 t.l, own effT X2 nx2 cx2 t.w, own opT O m co ops]) (fun k => k ≤ n2) (fun k => n2 - k) 0 sHolds sConv (Nat.zero_le _) ?_
  rintro k G2 hk
  by_cases hlt2 : k < n2
  · obtain ⟨e, hy⟩ : ∃ e, t.l[k]? = some e := ⟨_, List.getElem?_eq_getElem (by omega)⟩
    have hlo := lastOrd_lt hord hy
    have hls := lastOrd_succ hy
    have hdp := fun h => hord.deep k e h hy
    by_cases hd : k + 1 < n2
    · have ha := hdp (by omega)
      have ha2 : (!e.acked) = false := by rw [ha]; rfl
      repeat (first | refine wCh1 ?_ | (refine kCh1 ?_; (first | rintro _ _ ⟨rfl, rfl⟩ | rintro _ _ ⟨_, rfl, rfl⟩ | rintro _ _ ⟨_, _, ⟨_, _⟩, rfl, rfl⟩); try refine ⟨sConv, ?_⟩) | refine Dr.two ?_ ?_)
      exact ⟨k + 1, by rw [hls]; exact sHolds, sConv, by omega, by omega⟩
    · repeat (first | refine wCh1 ?_ | (refine kCh1 ?_; (first | rintro _ _ ⟨rfl, rfl⟩ | rintro _ _ ⟨_, rfl, rfl⟩ | rintro _ _ ⟨_, _, ⟨_, _⟩, rfl, rfl⟩); try refine ⟨sConv, ?_⟩) | refine Dr.two ?_ ?_)
      exact ⟨k + 1, by rw [hls]; exact sHolds, sConv, by omega, by omega⟩
  obtain rfl : k = n2 := by omega
  rw [← k1] at tl
  have hno : ∀ q, next id t.made t.l t.w = some q → q.key.ord = lastOrd t.l k ∨ q.key.ord = t.made + 1 := fun q h => by rw [k1]; exact next_ord h
  obtain ⟨q, hq⟩ : ∃ q, next id t.made t.l t.w = q := ⟨_, rfl⟩
  rw [hq] at hno
  generalize lastOrd t.l k = lo at *
  repeat ((fail_if_success (refine C.seq (x := Code.region 19 _ _) ?_)); first | refine vCh1 ?_ | (refine kCh1 ?_; (first | rintro _ _ ⟨rfl, rfl⟩ | rintro _ _ ⟨_, rfl, rfl⟩ | rintro _ _ ⟨_, _, ⟨_, _⟩, rfl, rfl⟩); try refine ⟨sConv, ?_⟩) | refine Dr.two ?_ ?_)
  refine C.cut (X := Nat) (fun g => [(1, .slice O m co), (5, .pointer (some ⟨gp, 0, none⟩)), (6, .int .i64 i), (7, .int .i64 s.made), (9, .int .i64 lo), (11, .pointer (some ⟨g, 0, none⟩)), (12, .bool q.isSome)])
    (fun g => [blk g 50 (q.getD reqT_z).cs, pr gp gM id t.made A2 k c2, own entT A2 k c2 t.l, mch gM id t.made B2 k cb2 X2 nx2 cx2, own enrT B2 k cb2 t.l, own effT X2 nx2 cx2 t.w, own opT O m co ops]) (fun _ => True) ?_ ?_
  · refine C.regionA 100000 (.one 0 false (.one 1 false (.one 2 false (.one 3 false (.one 4 false (.one 5 false (.one 6 false (.one 7 false (.one 8 false (.one 9 false (.one 10 false (.two 11 (.one 12 false (.one 13 false (.one 14 false (.one 15 true (.one 16 true (.one 17 false .nil)))))) 15 (.one 11 true (.one 12 false (.one 13 false (.one 14 false (.one 16 true (.one 17 false .nil)))))))))))))))))) _ (by kernel_rfl) (by kernel_rfl) Conv.refl ?_
    repeat (first | refine wCh1 ?_ | (refine kCh1 ?_; (first | rintro _ _ ⟨rfl, rfl⟩ | rintro _ _ ⟨_, rfl, rfl⟩ | rintro _ _ ⟨_, _, ⟨_, _⟩, rfl, rfl⟩); try refine ⟨sConv, ?_⟩) | refine Dr.two ?_ ?_)
    · refine Go1.go rfl (by rintro k ⟨⟩ <;> decide) sGon (S.call rfl rfl Try.func18 (by kernel_rfl) rfl sPicks (fun E' hE => cnext E' id t.made A2 k c2 t.l t.w X2 nx2 cx2 sRd sRd hto.ents hm1) ?_)
      unfold Nxt
      rw [hq]
      rintro r H' ⟨rfl, rfl⟩
      refine ⟨_, rfl, _, sCat, sConv, ?_⟩
      repeat (first | refine wCh1 ?_ | (refine kCh1 ?_; (first | rintro _ _ ⟨rfl, rfl⟩ | rintro _ _ ⟨_, rfl, rfl⟩ | rintro _ _ ⟨_, _, ⟨_, _⟩, rfl, rfl⟩); try refine ⟨sConv, ?_⟩) | refine Dr.two ?_ ?_)
      exact ⟨_, sHolds, sConv, trivial⟩
    · repeat (first | refine wCh1 ?_ | (refine kCh1 ?_; (first | rintro _ _ ⟨rfl, rfl⟩ | rintro _ _ ⟨_, rfl, rfl⟩ | rintro _ _ ⟨_, _, ⟨_, _⟩, rfl, rfl⟩); try refine ⟨sConv, ?_⟩) | refine Dr.two ?_ ?_)
      refine Dr.go rfl (by rintro k ⟨⟩ <;> decide) sGon (S.call rfl rfl Try.func18 (by kernel_rfl) rfl sPicks (fun E' hE => cnext E' id t.made A2 k c2 t.l t.w X2 nx2 cx2 sRd sRd hto.ents hm1) ?_)
      unfold Nxt
      rw [hq]
      rintro r H' ⟨rfl, rfl⟩
      refine ⟨_, rfl, _, sCat, sConv, ?_⟩
      repeat (first | refine wCh1 ?_ | (refine kCh1 ?_; (first | rintro _ _ ⟨rfl, rfl⟩ | rintro _ _ ⟨_, rfl, rfl⟩ | rintro _ _ ⟨_, _, ⟨_, _⟩, rfl, rfl⟩); try refine ⟨sConv, ?_⟩) | refine Dr.two ?_ ?_)
      exact ⟨_, sHolds, sConv, trivial⟩
  rintro g11 G3 -
  cases q with
  | none =>
    dsimp only [Option.getD, Option.isSome]
    repeat (first | refine wCh1 ?_ | (refine kCh1 ?_; (first | rintro _ _ ⟨rfl, rfl⟩ | rintro _ _ ⟨_, rfl, rfl⟩ | rintro _ _ ⟨_, _, ⟨_, _⟩, rfl, rfl⟩); try refine ⟨sConv, ?_⟩) | refine Dr.two ?_ ?_)
    refine C.regionA 100000 (.one 0 false (.one 1 false (.one 2 false (.one 3 false (.one 4 false (.one 5 false (.one 6 false (.one 7 false (.one 8 false (.one 9 false (.one 10 false (.one 11 false (.one 12 false (.one 13 false (.one 14 false (.one 15 false (.one 16 false (.one 17 false (.one 18 false (.one 19 false (.one 20 false (.one 21 false (.one 22 false (.one 23 false (.one 24 false (.one 25 false (.one 26 false (.one 27 false (.one 28 false (.one 29 false (.one 30 false (.one 31 false (.one 32 false (.one 33 false (.one 34 false (.one 35 false (.one 36 false (.one 37 false .nil)))))))))))))))))))))))))))))))))))))) _ (by kernel_rfl) (by kernel_rfl) Conv.refl ?_
    repeat (first | refine wCh1 ?_ | (refine kCh1 ?_; (first | rintro _ _ ⟨rfl, rfl⟩ | rintro _ _ ⟨_, rfl, rfl⟩ | rintro _ _ ⟨_, _, ⟨_, _⟩, rfl, rfl⟩); try refine ⟨sConv, ?_⟩) | refine Dr.two ?_ ?_)
    exact ⟨(i + 1, (A2, k, c2), (B2, cb2), (X2, nx2, cx2)), sHolds, by dsimp only; rw [hrun]; exact sConv, ⟨by dsimp only; omega, by dsimp only; rw [hrun]; exact k1, k3, k4, by dsimp only; rw [hrun]; exact k2, k5⟩, by dsimp only; omega⟩
  | some q =>
    dsimp only [Option.getD, Option.isSome]
    have hno := hno q rfl
    by_cases hql : q.key.ord = lo
    · repeat (first | refine wCh1 ?_ | (refine kCh1 ?_; (first | rintro _ _ ⟨rfl, rfl⟩ | rintro _ _ ⟨_, rfl, rfl⟩ | rintro _ _ ⟨_, _, ⟨_, _⟩, rfl, rfl⟩); try refine ⟨sConv, ?_⟩) | refine Dr.two ?_ ?_)
      refine C.regionA 100000 (.one 0 false (.one 1 false (.one 2 false (.one 3 false (.one 4 false (.one 5 false (.one 6 false (.one 7 false (.one 8 false (.one 9 false (.one 10 false (.one 11 false (.one 12 false (.one 13 false (.one 14 false (.one 15 false (.one 16 false (.one 17 false (.one 18 false (.one 19 false (.one 20 false (.one 21 false (.one 22 false (.one 23 false (.one 24 false (.one 25 false (.one 26 false (.one 27 false (.one 28 false (.one 29 false (.one 30 false (.one 31 false (.one 32 false (.one 33 false (.one 34 false (.one 35 false (.one 36 false (.one 37 false .nil)))))))))))))))))))))))))))))))))))))) _ (by kernel_rfl) (by kernel_rfl) Conv.refl ?_
      repeat (first | refine wCh1 ?_ | (refine kCh1 ?_; (first | rintro _ _ ⟨rfl, rfl⟩ | rintro _ _ ⟨_, rfl, rfl⟩ | rintro _ _ ⟨_, _, ⟨_, _⟩, rfl, rfl⟩); try refine ⟨sConv, ?_⟩) | refine Dr.two ?_ ?_)
      exact ⟨(i + 1, (A2, k, c2), (B2, cb2), (X2, nx2, cx2)), sHolds, by dsimp only; rw [hrun]; exact sConv, ⟨by dsimp only; omega, by dsimp only; rw [hrun]; exact k1, k3, k4, by dsimp only; rw [hrun]; exact k2, k5⟩, by dsimp only; omega⟩
    · have hqm : q.key.ord = t.made + 1 := by
        rcases hno with h | h
        · exact absurd h hql
        · exact h
      repeat (first | refine wCh1 ?_ | (refine kCh1 ?_; (first | rintro _ _ ⟨rfl, rfl⟩ | rintro _ _ ⟨_, rfl, rfl⟩ | rintro _ _ ⟨_, _, ⟨_, _⟩, rfl, rfl⟩); try refine ⟨sConv, ?_⟩) | refine Dr.two ?_ ?_)
      refine C.regionA 100000 (.one 0 false (.one 1 false (.one 2 false (.one 3 false (.one 4 false (.one 5 false (.one 6 false (.one 7 false (.one 8 false (.one 9 false (.one 10 false (.one 11 false (.one 12 false (.one 13 false (.one 14 false (.one 15 false (.one 16 false (.one 17 false (.one 18 false (.one 19 false (.one 20 false (.one 21 false (.one 22 false (.one 23 false (.one 24 false (.one 25 false (.one 26 false (.one 27 false (.one 28 false (.one 29 false (.one 30 false (.one 31 false (.one 32 false (.one 33 false (.one 34 false (.one 35 false (.one 36 false (.one 37 false .nil)))))))))))))))))))))))))))))))))))))) _ (by kernel_rfl) (by kernel_rfl) Conv.refl ?_
      repeat (first | refine wCh1 ?_ | (refine kCh1 ?_; (first | rintro _ _ ⟨rfl, rfl⟩ | rintro _ _ ⟨_, rfl, rfl⟩ | rintro _ _ ⟨_, _, ⟨_, _⟩, rfl, rfl⟩); try refine ⟨sConv, ?_⟩) | refine Dr.two ?_ ?_)
      exact ⟨(i + 1, (A2, k, c2), (B2, cb2), (X2, nx2, cx2)), sHolds, by dsimp only; rw [hrun]; exact sConv, ⟨by dsimp only; omega, by dsimp only; rw [hrun]; exact k1, k3, k4, by dsimp only; rw [hrun]; exact k2, k5⟩, by dsimp only; omega⟩
end Go.Proofs.Ytiabahpofcapbaa.Sep
