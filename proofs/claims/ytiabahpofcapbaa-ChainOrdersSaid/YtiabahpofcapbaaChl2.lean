/- the law of chains: one call, of both; by parts of memory. -/
import Derived.Test.YtiabahpofcapbaaChl1
import Derived.Test.YtiabahpofcapbaaChlPlain
namespace Go.Proofs.Ytiabahpofcapbaa.Sep
open Go.RowKit Go.Proofs.Ytiabahpofcapbaa.Reg
open Go.Proofs.Ytiabahpofcapbaa.Mem hiding Rd Own
-- types: entT enrT effT opT
-- recs: idnT_rec effT_rec cfgT_rec entT_rec enrT_rec keyT_rec reqT_rec opT_rec chain_rec chref_rec pair_rec
-- eqs: idnT_eqa effT_eqa entT_eqa enrT_eqa keyT_eqa reqT_eqa
-- funcs
-- flds
set_option maxRecDepth 100000
set_option maxHeartbeats 8000000
/-- both chains, alike -/
abbrev st21 (gp gM : Nat) (id : Idn) (made : Int) (l : List Ent) (w : List Eff) (A : Option Addr) (n c : Nat) (B : Option Addr) (cb : Nat) (X : Option Addr) (nx cx : Nat) : List Asn :=
  [pr gp gM id made A n c, own entT A n c l, mch gM id made B n cb X nx cx, own enrT B n cb l, own effT X nx cx w]
/-- what a call leaves -/
def Step21 (gp gM : Nat) (id : Idn) (s : S21) : Ending → List Asn → Prop := fun r H' =>
  ∃ A n c B cb X nx cx, r = .returned (.bool true) ∧ n = s.l.length ∧ nx = s.w.length ∧ (n ≤ c ∧ c ≤ maxLen) ∧ (n ≤ cb ∧ cb ≤ maxLen) ∧ (nx ≤ cx ∧ cx ≤ maxLen) ∧ H' = st21 gp gM id s.made s.l s.w A n c B cb X nx cx
theorem req_eta (x y : Req) : decide ((⟨⟨⟨x.key.id.rep, x.key.id.seq⟩, x.key.ord, x.key.undo⟩, ⟨x.what.kind, x.what.a, x.what.n, ⟨x.what.ref.rep, x.what.ref.seq⟩⟩⟩ : Req) = ⟨⟨⟨y.key.id.rep, y.key.id.seq⟩, y.key.ord, y.key.undo⟩, ⟨y.what.kind, y.what.a, y.what.n, ⟨y.what.ref.rep, y.what.ref.seq⟩⟩⟩) = decide (x = y) := rfl
section
variable (E : Env) (gp gM : Nat) (id : Idn) (made : Int) (l : List Ent) (w : List Eff) (A : Option Addr) (n c : Nat) (B : Option Addr) (cb : Nat) (X : Option Addr) (nx cx : Nat)
theorem step21_1 (x : Op21) (hk : x.kind = 1) (hw : Rd E effT x.want.A x.want.n x.want.c x.want.l) (hn : n = l.length) (hl : n ≤ 255) (hx : x.want.n ≤ 8) :
    Tri Try.prog E 17 #[.pointer (some ⟨gp, 0, none⟩), .agg x.cs.toArray] (st21 gp gM id made l w A n c B cb X nx cx) (Step21 gp gM id (S21.step id ⟨made, l, w⟩ x)) := by
  have hsl := settle_length x.want.l l
  have hxl := hw.len
  have hxc := hw.cap
  have hl2 : n ≤ 1000000 := by omega
  have hx2 : x.want.n ≤ 1000000 := by omega
  unfold Step21 S21.step
  rw [if_pos hk]
  dsimp only
  refine tri Try.func17 rfl Try.ntmps17 (by simp) ?_
  repeat (first | refine wCh1 ?_ | (refine kCh1 ?_; (first | rintro _ _ ⟨rfl, rfl⟩ | rintro _ _ ⟨_, rfl, rfl⟩ | rintro _ _ ⟨_, _, ⟨_, _⟩, rfl, rfl⟩); try refine ⟨sConv, ?_⟩) | refine Dr.two ?_ ?_)
  rename_i g3
  refine C.regionA 10 (.one 0 false (.one 1 false (.one 2 false (.one 3 false (.one 4 false (.one 5 false (.one 6 false (.one 7 true (.one 8 false (.one 9 false (.one 10 true .nil))))))))))) _ (by kernel_rfl) (by kernel_rfl) Conv.refl ?_
  repeat (first | refine wCh1 ?_ | (refine kCh1 ?_; (first | rintro _ _ ⟨rfl, rfl⟩ | rintro _ _ ⟨_, rfl, rfl⟩ | rintro _ _ ⟨_, _, ⟨_, _⟩, rfl, rfl⟩); try refine ⟨sConv, ?_⟩) | refine Dr.two ?_ ?_)
  refine Dr.go rfl (by rintro k ⟨⟩ <;> decide) sGon (S.call rfl rfl Try.func16 (by kernel_rfl) rfl sPicks (fun E' hE => csettle E' id made A n c l x.want.l x.want.A x.want.n x.want.c sRd sRd hl2) ?_)
  rintro r H' ⟨A', c', rfl, ⟨hc1, hc2⟩, rfl⟩
  refine ⟨_, rfl, _, sCat, sConv, ?_⟩
  repeat (first | refine wCh1 ?_ | (refine kCh1 ?_; (first | rintro _ _ ⟨rfl, rfl⟩ | rintro _ _ ⟨_, rfl, rfl⟩ | rintro _ _ ⟨_, _, ⟨_, _⟩, rfl, rfl⟩); try refine ⟨sConv, ?_⟩) | refine Dr.two ?_ ?_)
  refine C.regionA 100000 (.one 0 false (.one 1 false (.one 2 false (.one 3 false (.one 4 false (.one 5 false (.one 6 true .nil))))))) ([pr gp gM id made A' n c', blk g3 48 x.cs]) (by kernel_rfl) (by kernel_rfl) sConv ?_
  repeat (first | refine wCh1 ?_ | (refine kCh1 ?_; (first | rintro _ _ ⟨rfl, rfl⟩ | rintro _ _ ⟨_, rfl, rfl⟩ | rintro _ _ ⟨_, _, ⟨_, _⟩, rfl, rfl⟩); try refine ⟨sConv, ?_⟩) | refine Dr.two ?_ ?_)
  refine Dr.go rfl (by rintro k ⟨⟩ <;> decide) sGon (S.call rfl rfl Try.func39 (by kernel_rfl) rfl sPicks (fun E' hE => rsettle E' gM id made B n cb l x.want.l X nx cx x.want.A x.want.n x.want.c sRd sRd hl2 hx2) ?_)
  rintro r H' ⟨B', cb', O, cy, rfl, ⟨hd1, hd2⟩, ⟨he1, he2⟩, rfl⟩
  refine ⟨_, rfl, _, sCat, sConv, ?_⟩
  generalize settle x.want.l l = z at *
  repeat (first | refine wCh1 ?_ | (refine kCh1 ?_; (first | rintro _ _ ⟨rfl, rfl⟩ | rintro _ _ ⟨_, rfl, rfl⟩ | rintro _ _ ⟨_, _, ⟨_, _⟩, rfl, rfl⟩); try refine ⟨sConv, ?_⟩) | refine Dr.two ?_ ?_)
  refine C.regionA 100000 (.one 0 false (.one 1 false (.one 2 false (.one 3 false (.one 4 false (.one 5 false (.one 6 false (.one 7 false (.one 8 true (.one 9 false .nil)))))))))) _ (by kernel_rfl) (by kernel_rfl) Conv.refl ?_
  repeat (first | refine wCh1 ?_ | (refine kCh1 ?_; (first | rintro _ _ ⟨rfl, rfl⟩ | rintro _ _ ⟨_, rfl, rfl⟩ | rintro _ _ ⟨_, _, ⟨_, _⟩, rfl, rfl⟩); try refine ⟨sConv, ?_⟩) | refine Dr.two ?_ ?_)
  refine Dr.go rfl (by rintro k ⟨⟩ <;> decide) sGon (S.call rfl rfl Try.func24 (by kernel_rfl) rfl sPicks (fun E' hE => same21 E' gM id made A' n c' z B' cb' O x.want.n cy sRd sRd) ?_)
  rintro r H' ⟨rfl, rfl⟩
  refine ⟨_, rfl, _, sCat, sConv, ?_⟩
  repeat (first | refine wCh1 ?_ | (refine kCh1 ?_; (first | rintro _ _ ⟨rfl, rfl⟩ | rintro _ _ ⟨_, rfl, rfl⟩ | rintro _ _ ⟨_, _, ⟨_, _⟩, rfl, rfl⟩); try refine ⟨sConv, ?_⟩) | refine Dr.two ?_ ?_)
  exact ret1 rfl sRet sConv (⟨_, _, _, _, _, _, _, _, rfl, by rw [hn]; exact hsl.symm, hxl, ⟨hc1, hc2⟩, ⟨hd1, hd2⟩, ⟨he1, he2⟩, rfl⟩)
theorem step21_2 (x : Op21) (hk : x.kind = 2) (hn : n = l.length) (hcap : n ≤ c ∧ c ≤ maxLen) (hcb : n ≤ cb ∧ cb ≤ maxLen) (hnx : nx = w.length) (hcx : nx ≤ cx ∧ cx ≤ maxLen) (hl : n ≤ 255) (hok : ∀ e ∈ l, e.ok) (hm : I64 made) :
    Tri Try.prog E 17 #[.pointer (some ⟨gp, 0, none⟩), .agg x.cs.toArray] (st21 gp gM id made l w A n c B cb X nx cx) (Step21 gp gM id (S21.step id ⟨made, l, w⟩ x)) := by
  have hmax : maxLen = 9223372036854775807 := rfl
  have hl2 : n ≤ 1000000 := by omega
  have hbb : ∀ b : Bool, (!(b == b)) = false := fun b => by cases b <;> rfl
  have hbt : ∀ b : Bool, (b == b) = true := fun b => by cases b <;> rfl
  unfold Step21 S21.step
  rw [if_neg (by omega), if_pos hk]
  unfold S21.try_
  dsimp only
  refine tri Try.func17 rfl Try.ntmps17 (by simp) ?_
  repeat (first | refine wCh1 ?_ | (refine kCh1 ?_; (first | rintro _ _ ⟨rfl, rfl⟩ | rintro _ _ ⟨_, rfl, rfl⟩ | rintro _ _ ⟨_, _, ⟨_, _⟩, rfl, rfl⟩); try refine ⟨sConv, ?_⟩) | refine Dr.two ?_ ?_)
  refine L.step (by decide) (S.call rfl rfl Try.func40 (by kernel_rfl) rfl sPicks (fun E' hE => rnext E' gM id made B n cb l w X nx cx sRd sRd hm) ?_)
  rintro r H' ⟨rfl, rfl⟩
  refine ⟨_, rfl, _, sCat, ?_⟩
  repeat ((fail_if_success (refine C.seq (x := Code.region 6 _ _) ?_)); first | refine vCh1 ?_ | (refine kCh1 ?_; (first | rintro _ _ ⟨rfl, rfl⟩ | rintro _ _ ⟨_, rfl, rfl⟩ | rintro _ _ ⟨_, _, ⟨_, _⟩, rfl, rfl⟩); try refine ⟨sConv, ?_⟩) | refine Dr.two ?_ ?_)
  rename_i g3 g5
  obtain ⟨q, hq⟩ : ∃ q, (next id made l w).getD reqT_z = q := ⟨_, rfl⟩
  obtain ⟨b, hb⟩ : ∃ b, (next id made l w).isSome = b := ⟨_, rfl⟩
  rw [hq, hb]
  have hqe : (!decide ((⟨⟨⟨q.key.id.rep, q.key.id.seq⟩, q.key.ord, q.key.undo⟩, ⟨q.what.kind, q.what.a, q.what.n, ⟨q.what.ref.rep, q.what.ref.seq⟩⟩⟩ : Req) = ⟨⟨⟨q.key.id.rep, q.key.id.seq⟩, q.key.ord, q.key.undo⟩, ⟨q.what.kind, q.what.a, q.what.n, ⟨q.what.ref.rep, q.what.ref.seq⟩⟩⟩)) = false := by rw [decide_eq_true rfl]; rfl
  have hb2 := hbb b
  have hb3 := hbt b
  refine C.cut (X := Nat) (fun g7 => [(0, .pointer (some ⟨gp, 0, none⟩)), (3, .pointer (some ⟨g3, 0, none⟩)), (5, .pointer (some ⟨g5, 0, none⟩)), (6, .bool b), (7, .pointer (some ⟨g7, 0, none⟩)), (8, .bool b)]) (fun g7 => [blk g7 50 q.cs, blk g5 50 q.cs, blk g3 48 x.cs, pr gp gM id made A n c, own entT A n c l, mch gM id made B n cb X nx cx, own enrT B n cb l, own effT X nx cx w]) (fun _ => True) ?_ ?_
  · refine C.regionA 100000 (.one 0 false (.one 1 false (.one 2 false (.one 3 false (.one 4 false (.one 5 false (.one 6 false (.one 7 false (.one 8 false (.one 9 false (.one 10 false (.two 11 (.one 12 false (.one 13 false (.one 14 false (.one 15 true (.one 16 true (.one 17 false .nil)))))) 15 (.one 11 true (.one 12 false (.one 13 false (.one 14 false (.one 16 true (.one 17 false .nil)))))))))))))))))) _ (by kernel_rfl) (by kernel_rfl) Conv.refl ?_
    repeat (first | refine wCh1 ?_ | (refine kCh1 ?_; (first | rintro _ _ ⟨rfl, rfl⟩ | rintro _ _ ⟨_, rfl, rfl⟩ | rintro _ _ ⟨_, _, ⟨_, _⟩, rfl, rfl⟩); try refine ⟨sConv, ?_⟩) | refine Dr.two ?_ ?_)
    · refine Go1.go rfl (by rintro k ⟨⟩ <;> decide) sGon (S.call rfl rfl Try.func18 (by kernel_rfl) rfl sPicks (fun E' hE => cnext E' id made A n c l w X nx cx sRd sRd hok hm) ?_)
      unfold Nxt
      rw [hq, hb]
      rintro r H' ⟨rfl, rfl⟩
      refine ⟨_, rfl, _, sCat, sConv, ?_⟩
      repeat (first | refine wCh1 ?_ | (refine kCh1 ?_; (first | rintro _ _ ⟨rfl, rfl⟩ | rintro _ _ ⟨_, rfl, rfl⟩ | rintro _ _ ⟨_, _, ⟨_, _⟩, rfl, rfl⟩); try refine ⟨sConv, ?_⟩) | refine Dr.two ?_ ?_)
      exact ⟨_, sHolds, sConv, trivial⟩
    · repeat (first | refine wCh1 ?_ | (refine kCh1 ?_; (first | rintro _ _ ⟨rfl, rfl⟩ | rintro _ _ ⟨_, rfl, rfl⟩ | rintro _ _ ⟨_, _, ⟨_, _⟩, rfl, rfl⟩); try refine ⟨sConv, ?_⟩) | refine Dr.two ?_ ?_)
      refine Dr.go rfl (by rintro k ⟨⟩ <;> decide) sGon (S.call rfl rfl Try.func18 (by kernel_rfl) rfl sPicks (fun E' hE => cnext E' id made A n c l w X nx cx sRd sRd hok hm) ?_)
      unfold Nxt
      rw [hq, hb]
      rintro r H' ⟨rfl, rfl⟩
      refine ⟨_, rfl, _, sCat, sConv, ?_⟩
      repeat (first | refine wCh1 ?_ | (refine kCh1 ?_; (first | rintro _ _ ⟨rfl, rfl⟩ | rintro _ _ ⟨_, rfl, rfl⟩ | rintro _ _ ⟨_, _, ⟨_, _⟩, rfl, rfl⟩); try refine ⟨sConv, ?_⟩) | refine Dr.two ?_ ?_)
      exact ⟨_, sHolds, sConv, trivial⟩
  rintro g7 G -
  obtain ⟨t, ht⟩ : ∃ t, (tried id made l w x.now).getD (made, l) = t := ⟨_, rfl⟩
  obtain ⟨d, hd⟩ : ∃ d, (tried id made l w x.now).isSome = d := ⟨_, rfl⟩
  have hd3 := hbt d
  rw [ht]
  repeat ((fail_if_success (refine C.seq (x := Code.region 11 _ _) ?_)); first | refine vCh1 ?_ | (refine kCh1 ?_; (first | rintro _ _ ⟨rfl, rfl⟩ | rintro _ _ ⟨_, rfl, rfl⟩ | rintro _ _ ⟨_, _, ⟨_, _⟩, rfl, rfl⟩); try refine ⟨sConv, ?_⟩) | refine Dr.two ?_ ?_)
  refine C.cut (X := Nat × Option Addr × Nat × Nat) (fun y => [(0, .pointer (some ⟨gp, 0, none⟩)), (3, .pointer (some ⟨g3, 0, none⟩)), (5, .pointer (some ⟨g5, 0, none⟩)), (9, .pointer (some ⟨y.1, 0, none⟩)), (10, .bool d)]) (fun y => [blk y.1 33 [.int .i64 id.rep, .int .i64 id.seq, .int .i64 t.1, .slice y.2.1 y.2.2.1 y.2.2.2], own entT y.2.1 y.2.2.1 y.2.2.2 t.2, blk g5 50 q.cs, blk g3 48 x.cs, pr gp gM id made A n c, mch gM id made B n cb X nx cx, own enrT B n cb l, own effT X nx cx w]) (fun y => y.2.2.1 = t.2.length ∧ y.2.2.1 ≤ y.2.2.2 ∧ y.2.2.2 ≤ maxLen) ?_ ?_
  · refine C.regionA 100000 (.one 0 false (.one 1 false (.one 2 false (.one 3 false (.one 4 false (.one 5 false (.one 6 false (.one 7 false (.one 8 false (.one 9 false (.one 10 false (.one 11 false (.one 12 false (.two 13 (.one 14 false (.one 15 false (.one 16 false (.one 17 true (.one 18 true (.one 19 false .nil)))))) 17 (.one 13 true (.one 14 false (.one 15 false (.one 16 false (.one 18 true (.one 19 false .nil)))))))))))))))))))) _ (by kernel_rfl) (by kernel_rfl) Conv.refl ?_
    repeat (first | refine wCh1 ?_ | (refine kCh1 ?_; (first | rintro _ _ ⟨rfl, rfl⟩ | rintro _ _ ⟨_, rfl, rfl⟩ | rintro _ _ ⟨_, _, ⟨_, _⟩, rfl, rfl⟩); try refine ⟨sConv, ?_⟩) | refine Dr.two ?_ ?_)
    · refine Go1.go rfl (by rintro k ⟨⟩ <;> decide) sGon (S.call rfl rfl Try.func20 (by kernel_rfl) rfl sPicks (fun E' hE => ctry E' id made A n c l w X nx cx x.now sRd sRd hl2 hok hm) ?_)
      unfold TryPost
      rw [ht, hd]
      rintro r H' ⟨A', n', c', rfl, hn', ⟨hc1, hc2⟩, rfl⟩
      refine ⟨_, rfl, _, sCat, sConv, ?_⟩
      repeat (first | refine wCh1 ?_ | (refine kCh1 ?_; (first | rintro _ _ ⟨rfl, rfl⟩ | rintro _ _ ⟨_, rfl, rfl⟩ | rintro _ _ ⟨_, _, ⟨_, _⟩, rfl, rfl⟩); try refine ⟨sConv, ?_⟩) | refine Dr.two ?_ ?_)
      exact ⟨(_, _, _, _), sHolds, sConv, hn', hc1, hc2⟩
    · repeat (first | refine wCh1 ?_ | (refine kCh1 ?_; (first | rintro _ _ ⟨rfl, rfl⟩ | rintro _ _ ⟨_, rfl, rfl⟩ | rintro _ _ ⟨_, _, ⟨_, _⟩, rfl, rfl⟩); try refine ⟨sConv, ?_⟩) | refine Dr.two ?_ ?_)
      refine Dr.go rfl (by rintro k ⟨⟩ <;> decide) sGon (S.call rfl rfl Try.func20 (by kernel_rfl) rfl sPicks (fun E' hE => ctry E' id made A n c l w X nx cx x.now sRd sRd hl2 hok hm) ?_)
      unfold TryPost
      rw [ht, hd]
      rintro r H' ⟨A', n', c', rfl, hn', ⟨hc1, hc2⟩, rfl⟩
      refine ⟨_, rfl, _, sCat, sConv, ?_⟩
      repeat (first | refine wCh1 ?_ | (refine kCh1 ?_; (first | rintro _ _ ⟨rfl, rfl⟩ | rintro _ _ ⟨_, rfl, rfl⟩ | rintro _ _ ⟨_, _, ⟨_, _⟩, rfl, rfl⟩); try refine ⟨sConv, ?_⟩) | refine Dr.two ?_ ?_)
      exact ⟨(_, _, _, _), sHolds, sConv, hn', hc1, hc2⟩
  rintro ⟨g9, A', n', c'⟩ G ⟨hn', hc1, hc2⟩
  dsimp only at hn' hc1 hc2 ⊢
  repeat (first | refine wCh1 ?_ | (refine kCh1 ?_; (first | rintro _ _ ⟨rfl, rfl⟩ | rintro _ _ ⟨_, rfl, rfl⟩ | rintro _ _ ⟨_, _, ⟨_, _⟩, rfl, rfl⟩); try refine ⟨sConv, ?_⟩) | refine Dr.two ?_ ?_)
  refine C.regionA 100000 (.one 0 false (.one 1 false (.one 2 false (.one 3 false (.one 4 false (.one 5 false (.one 6 true (.one 7 false .nil)))))))) ([pr gp gM id t.1 A' n' c', blk g3 48 x.cs]) (by kernel_rfl) (by kernel_rfl) sConv ?_
  repeat (first | refine wCh1 ?_ | (refine kCh1 ?_; (first | rintro _ _ ⟨rfl, rfl⟩ | rintro _ _ ⟨_, rfl, rfl⟩ | rintro _ _ ⟨_, _, ⟨_, _⟩, rfl, rfl⟩); try refine ⟨sConv, ?_⟩) | refine Dr.two ?_ ?_)
  refine Dr.go rfl (by rintro k ⟨⟩ <;> decide) sGon (S.call rfl rfl Try.func41 (by kernel_rfl) rfl sPicks (fun E' hE => rtry E' gM id made B n cb l w X nx cx x.now sRd hn hcb hl2 hok hm) ?_)
  unfold RTry
  rw [ht, hd]
  rintro r H' ⟨B', nb', cb', rfl, hnb, ⟨hb1, hb2'⟩, rfl⟩
  obtain rfl : nb' = n' := by omega
  refine ⟨_, rfl, _, sCat, sConv, ?_⟩
  repeat (first | refine wCh1 ?_ | (refine kCh1 ?_; (first | rintro _ _ ⟨rfl, rfl⟩ | rintro _ _ ⟨_, rfl, rfl⟩ | rintro _ _ ⟨_, _, ⟨_, _⟩, rfl, rfl⟩); try refine ⟨sConv, ?_⟩) | refine Dr.two ?_ ?_)
  refine C.regionA 100000 (.one 0 false (.one 1 false (.one 2 false (.one 3 false (.one 4 false (.one 5 false (.one 6 false (.one 7 false (.one 8 false (.one 9 false (.one 10 false (.one 11 false (.one 12 true (.one 13 false (.one 14 false .nil))))))))))))))) _ (by kernel_rfl) (by kernel_rfl) Conv.refl ?_
  repeat (first | refine wCh1 ?_ | (refine kCh1 ?_; (first | rintro _ _ ⟨rfl, rfl⟩ | rintro _ _ ⟨_, rfl, rfl⟩ | rintro _ _ ⟨_, _, ⟨_, _⟩, rfl, rfl⟩); try refine ⟨sConv, ?_⟩) | refine Dr.two ?_ ?_)
  refine Dr.go rfl (by rintro k ⟨⟩ <;> decide) sGon (S.call rfl rfl Try.func24 (by kernel_rfl) rfl sPicks (fun E' hE => same21 E' gM id t.1 A' nb' c' t.2 B' cb' X nx cx sRd sRd) ?_)
  rintro r H' ⟨rfl, rfl⟩
  refine ⟨_, rfl, _, sCat, sConv, ?_⟩
  repeat (first | refine wCh1 ?_ | (refine kCh1 ?_; (first | rintro _ _ ⟨rfl, rfl⟩ | rintro _ _ ⟨_, rfl, rfl⟩ | rintro _ _ ⟨_, _, ⟨_, _⟩, rfl, rfl⟩); try refine ⟨sConv, ?_⟩) | refine Dr.two ?_ ?_)
  exact ret1 rfl sRet sConv (⟨_, _, _, _, _, _, _, _, rfl, hn', hnx, ⟨hc1, hc2⟩, ⟨hb1, hb2'⟩, hcx, rfl⟩)
theorem step21_3 (x : Op21) (hk : x.kind = 3) (hn : n = l.length) (hcap : n ≤ c ∧ c ≤ maxLen) (hcb : n ≤ cb ∧ cb ≤ maxLen) (hnx : nx = w.length) (hcx : nx ≤ cx ∧ cx ≤ maxLen) (hl : n ≤ 255) (hok : ∀ e ∈ l, e.ok) (hm : I64 made) :
    Tri Try.prog E 17 #[.pointer (some ⟨gp, 0, none⟩), .agg x.cs.toArray] (st21 gp gM id made l w A n c B cb X nx cx) (Step21 gp gM id (S21.step id ⟨made, l, w⟩ x)) := by
  have hkey : x.k id (next id made l w) = (if x.kind = 3 then ((next id made l w).getD reqT_z).key else if x.kind = 5 then ⟨id, x.key.ord, x.key.undo⟩ else x.key) := rfl
  rw [if_pos hk] at hkey
  have hmax : maxLen = 9223372036854775807 := rfl
  have hl2 : n ≤ 1000000 := by omega
  have hbb : ∀ b : Bool, (!(b == b)) = false := fun b => by cases b <;> rfl
  have hbt : ∀ b : Bool, (b == b) = true := fun b => by cases b <;> rfl
  unfold Step21 S21.step
  rw [if_neg (by omega), if_neg (by omega), if_pos (by omega)]
  unfold S21.ack S21.nxt
  dsimp only
  rw [hkey]
  clear hkey
  refine tri Try.func17 rfl Try.ntmps17 (by simp) ?_
  repeat (first | refine wCh1 ?_ | (refine kCh1 ?_; (first | rintro _ _ ⟨rfl, rfl⟩ | rintro _ _ ⟨_, rfl, rfl⟩ | rintro _ _ ⟨_, _, ⟨_, _⟩, rfl, rfl⟩); try refine ⟨sConv, ?_⟩) | refine Dr.two ?_ ?_)
  refine L.step (by decide) (S.call rfl rfl Try.func40 (by kernel_rfl) rfl sPicks (fun E' hE => rnext E' gM id made B n cb l w X nx cx sRd sRd hm) ?_)
  rintro r H' ⟨rfl, rfl⟩
  refine ⟨_, rfl, _, sCat, ?_⟩
  repeat ((fail_if_success (refine C.seq (x := Code.region 6 _ _) ?_)); first | refine vCh1 ?_ | (refine kCh1 ?_; (first | rintro _ _ ⟨rfl, rfl⟩ | rintro _ _ ⟨_, rfl, rfl⟩ | rintro _ _ ⟨_, _, ⟨_, _⟩, rfl, rfl⟩); try refine ⟨sConv, ?_⟩) | refine Dr.two ?_ ?_)
  rename_i g3 g5
  obtain ⟨q, hq⟩ : ∃ q, (next id made l w).getD reqT_z = q := ⟨_, rfl⟩
  obtain ⟨b, hb⟩ : ∃ b, (next id made l w).isSome = b := ⟨_, rfl⟩
  rw [hq, hb]
  have hqe : (!decide ((⟨⟨⟨q.key.id.rep, q.key.id.seq⟩, q.key.ord, q.key.undo⟩, ⟨q.what.kind, q.what.a, q.what.n, ⟨q.what.ref.rep, q.what.ref.seq⟩⟩⟩ : Req) = ⟨⟨⟨q.key.id.rep, q.key.id.seq⟩, q.key.ord, q.key.undo⟩, ⟨q.what.kind, q.what.a, q.what.n, ⟨q.what.ref.rep, q.what.ref.seq⟩⟩⟩)) = false := by rw [decide_eq_true rfl]; rfl
  have hb2 := hbb b
  have hb3 := hbt b
  refine C.cut (X := Nat) (fun g7 => [(0, .pointer (some ⟨gp, 0, none⟩)), (3, .pointer (some ⟨g3, 0, none⟩)), (5, .pointer (some ⟨g5, 0, none⟩)), (6, .bool b), (7, .pointer (some ⟨g7, 0, none⟩)), (8, .bool b)]) (fun g7 => [blk g7 50 q.cs, blk g5 50 q.cs, blk g3 48 x.cs, pr gp gM id made A n c, own entT A n c l, mch gM id made B n cb X nx cx, own enrT B n cb l, own effT X nx cx w]) (fun _ => True) ?_ ?_
  · refine C.regionA 100000 (.one 0 false (.one 1 false (.one 2 false (.one 3 false (.one 4 false (.one 5 false (.one 6 false (.one 7 false (.one 8 false (.one 9 false (.one 10 false (.two 11 (.one 12 false (.one 13 false (.one 14 false (.one 15 true (.one 16 true (.one 17 false .nil)))))) 15 (.one 11 true (.one 12 false (.one 13 false (.one 14 false (.one 16 true (.one 17 false .nil)))))))))))))))))) _ (by kernel_rfl) (by kernel_rfl) Conv.refl ?_
    repeat (first | refine wCh1 ?_ | (refine kCh1 ?_; (first | rintro _ _ ⟨rfl, rfl⟩ | rintro _ _ ⟨_, rfl, rfl⟩ | rintro _ _ ⟨_, _, ⟨_, _⟩, rfl, rfl⟩); try refine ⟨sConv, ?_⟩) | refine Dr.two ?_ ?_)
    · refine Go1.go rfl (by rintro k ⟨⟩ <;> decide) sGon (S.call rfl rfl Try.func18 (by kernel_rfl) rfl sPicks (fun E' hE => cnext E' id made A n c l w X nx cx sRd sRd hok hm) ?_)
      unfold Nxt
      rw [hq, hb]
      rintro r H' ⟨rfl, rfl⟩
      refine ⟨_, rfl, _, sCat, sConv, ?_⟩
      repeat (first | refine wCh1 ?_ | (refine kCh1 ?_; (first | rintro _ _ ⟨rfl, rfl⟩ | rintro _ _ ⟨_, rfl, rfl⟩ | rintro _ _ ⟨_, _, ⟨_, _⟩, rfl, rfl⟩); try refine ⟨sConv, ?_⟩) | refine Dr.two ?_ ?_)
      exact ⟨_, sHolds, sConv, trivial⟩
    · repeat (first | refine wCh1 ?_ | (refine kCh1 ?_; (first | rintro _ _ ⟨rfl, rfl⟩ | rintro _ _ ⟨_, rfl, rfl⟩ | rintro _ _ ⟨_, _, ⟨_, _⟩, rfl, rfl⟩); try refine ⟨sConv, ?_⟩) | refine Dr.two ?_ ?_)
      refine Dr.go rfl (by rintro k ⟨⟩ <;> decide) sGon (S.call rfl rfl Try.func18 (by kernel_rfl) rfl sPicks (fun E' hE => cnext E' id made A n c l w X nx cx sRd sRd hok hm) ?_)
      unfold Nxt
      rw [hq, hb]
      rintro r H' ⟨rfl, rfl⟩
      refine ⟨_, rfl, _, sCat, sConv, ?_⟩
      repeat (first | refine wCh1 ?_ | (refine kCh1 ?_; (first | rintro _ _ ⟨rfl, rfl⟩ | rintro _ _ ⟨_, rfl, rfl⟩ | rintro _ _ ⟨_, _, ⟨_, _⟩, rfl, rfl⟩); try refine ⟨sConv, ?_⟩) | refine Dr.two ?_ ?_)
      exact ⟨_, sHolds, sConv, trivial⟩
  rintro g7 G -
  obtain ⟨t, ht⟩ : ∃ t, (acked id l q.key).getD l = t := ⟨_, rfl⟩
  obtain ⟨d, hd⟩ : ∃ d, (acked id l q.key).isSome = d := ⟨_, rfl⟩
  have hd3 := hbt d
  rw [ht]
  repeat ((fail_if_success (refine C.seq (x := Code.region 21 _ _) ?_)); first | refine vCh1 ?_ | (refine kCh1 ?_; (first | rintro _ _ ⟨rfl, rfl⟩ | rintro _ _ ⟨_, rfl, rfl⟩ | rintro _ _ ⟨_, _, ⟨_, _⟩, rfl, rfl⟩); try refine ⟨sConv, ?_⟩) | refine Dr.two ?_ ?_)
  rename_i g11
  refine C.cut (X := Nat × Option Addr × Nat × Nat) (fun y => [(0, .pointer (some ⟨gp, 0, none⟩)), (11, .pointer (some ⟨g11, 0, none⟩)), (12, .pointer (some ⟨y.1, 0, none⟩)), (13, .bool d)]) (fun y => [blk y.1 33 [.int .i64 id.rep, .int .i64 id.seq, .int .i64 made, .slice y.2.1 y.2.2.1 y.2.2.2], own entT y.2.1 y.2.2.1 y.2.2.2 t, blk g11 46 (q.key : Keyv).cs, pr gp gM id made A n c, mch gM id made B n cb X nx cx, own enrT B n cb l, own effT X nx cx w]) (fun y => y.2.2.1 = t.length ∧ y.2.2.1 ≤ y.2.2.2 ∧ y.2.2.2 ≤ maxLen) ?_ ?_
  · refine C.regionA 100000 (.one 0 false (.one 1 false (.one 2 false (.one 3 false (.one 4 false (.two 5 (.one 6 false (.one 7 false (.one 8 false (.one 9 true (.one 10 true (.one 11 false .nil)))))) 9 (.one 5 true (.one 6 false (.one 7 false (.one 8 false (.one 10 true (.one 11 false .nil)))))))))))) _ (by kernel_rfl) (by kernel_rfl) Conv.refl ?_
    repeat (first | refine wCh1 ?_ | (refine kCh1 ?_; (first | rintro _ _ ⟨rfl, rfl⟩ | rintro _ _ ⟨_, rfl, rfl⟩ | rintro _ _ ⟨_, _, ⟨_, _⟩, rfl, rfl⟩); try refine ⟨sConv, ?_⟩) | refine Dr.two ?_ ?_)
    · refine Go1.go rfl (by rintro k ⟨⟩ <;> decide) sGon (S.call rfl rfl Try.func21 (by kernel_rfl) rfl sPicks (fun E' hE => cack E' id made A n c l q.key sRd hl2) ?_)
      unfold AckPost
      rw [ht, hd]
      rintro r H' ⟨A', n', c', rfl, hn', ⟨hc1, hc2⟩, rfl⟩
      refine ⟨_, rfl, _, sCat, sConv, ?_⟩
      repeat (first | refine wCh1 ?_ | (refine kCh1 ?_; (first | rintro _ _ ⟨rfl, rfl⟩ | rintro _ _ ⟨_, rfl, rfl⟩ | rintro _ _ ⟨_, _, ⟨_, _⟩, rfl, rfl⟩); try refine ⟨sConv, ?_⟩) | refine Dr.two ?_ ?_)
      exact ⟨(_, _, _, _), sHolds, sConv, hn', hc1, hc2⟩
    · repeat (first | refine wCh1 ?_ | (refine kCh1 ?_; (first | rintro _ _ ⟨rfl, rfl⟩ | rintro _ _ ⟨_, rfl, rfl⟩ | rintro _ _ ⟨_, _, ⟨_, _⟩, rfl, rfl⟩); try refine ⟨sConv, ?_⟩) | refine Dr.two ?_ ?_)
      refine Dr.go rfl (by rintro k ⟨⟩ <;> decide) sGon (S.call rfl rfl Try.func21 (by kernel_rfl) rfl sPicks (fun E' hE => cack E' id made A n c l q.key sRd hl2) ?_)
      unfold AckPost
      rw [ht, hd]
      rintro r H' ⟨A', n', c', rfl, hn', ⟨hc1, hc2⟩, rfl⟩
      refine ⟨_, rfl, _, sCat, sConv, ?_⟩
      repeat (first | refine wCh1 ?_ | (refine kCh1 ?_; (first | rintro _ _ ⟨rfl, rfl⟩ | rintro _ _ ⟨_, rfl, rfl⟩ | rintro _ _ ⟨_, _, ⟨_, _⟩, rfl, rfl⟩); try refine ⟨sConv, ?_⟩) | refine Dr.two ?_ ?_)
      exact ⟨(_, _, _, _), sHolds, sConv, hn', hc1, hc2⟩
  rintro ⟨g12, A', n', c'⟩ G ⟨hn', hc1, hc2⟩
  dsimp only at hn' hc1 hc2 ⊢
  repeat (first | refine wCh1 ?_ | (refine kCh1 ?_; (first | rintro _ _ ⟨rfl, rfl⟩ | rintro _ _ ⟨_, rfl, rfl⟩ | rintro _ _ ⟨_, _, ⟨_, _⟩, rfl, rfl⟩); try refine ⟨sConv, ?_⟩) | refine Dr.two ?_ ?_)
  refine C.regionA 100000 (.one 0 false (.one 1 false (.one 2 false (.one 3 false (.one 4 false (.one 5 true (.one 6 false .nil))))))) ([pr gp gM id made A' n' c', blk g11 46 (q.key : Keyv).cs]) (by kernel_rfl) (by kernel_rfl) sConv ?_
  repeat (first | refine wCh1 ?_ | (refine kCh1 ?_; (first | rintro _ _ ⟨rfl, rfl⟩ | rintro _ _ ⟨_, rfl, rfl⟩ | rintro _ _ ⟨_, _, ⟨_, _⟩, rfl, rfl⟩); try refine ⟨sConv, ?_⟩) | refine Dr.two ?_ ?_)
  refine Dr.go rfl (by rintro k ⟨⟩ <;> decide) sGon (S.call rfl rfl Try.func42 (by kernel_rfl) rfl sPicks (fun E' hE => rack E' gM id made B n cb l X nx cx q.key hn hcb hl2) ?_)
  unfold RAck
  rw [ht, hd]
  rintro r H' ⟨B', nb', cb', rfl, hnb, ⟨hb1, hb2'⟩, rfl⟩
  obtain rfl : nb' = n' := by omega
  refine ⟨_, rfl, _, sCat, sConv, ?_⟩
  repeat (first | refine wCh1 ?_ | (refine kCh1 ?_; (first | rintro _ _ ⟨rfl, rfl⟩ | rintro _ _ ⟨_, rfl, rfl⟩ | rintro _ _ ⟨_, _, ⟨_, _⟩, rfl, rfl⟩); try refine ⟨sConv, ?_⟩) | refine Dr.two ?_ ?_)
  refine C.regionA 100000 (.one 0 false (.one 1 false (.one 2 false (.one 3 false (.one 4 false (.one 5 false (.one 6 false (.one 7 false (.one 8 false (.one 9 false (.one 10 false (.one 11 false (.one 12 true (.one 13 false (.one 14 false .nil))))))))))))))) _ (by kernel_rfl) (by kernel_rfl) Conv.refl ?_
  repeat (first | refine wCh1 ?_ | (refine kCh1 ?_; (first | rintro _ _ ⟨rfl, rfl⟩ | rintro _ _ ⟨_, rfl, rfl⟩ | rintro _ _ ⟨_, _, ⟨_, _⟩, rfl, rfl⟩); try refine ⟨sConv, ?_⟩) | refine Dr.two ?_ ?_)
  refine Dr.go rfl (by rintro k ⟨⟩ <;> decide) sGon (S.call rfl rfl Try.func24 (by kernel_rfl) rfl sPicks (fun E' hE => same21 E' gM id made A' nb' c' t B' cb' X nx cx sRd sRd) ?_)
  rintro r H' ⟨rfl, rfl⟩
  refine ⟨_, rfl, _, sCat, sConv, ?_⟩
  repeat (first | refine wCh1 ?_ | (refine kCh1 ?_; (first | rintro _ _ ⟨rfl, rfl⟩ | rintro _ _ ⟨_, rfl, rfl⟩ | rintro _ _ ⟨_, _, ⟨_, _⟩, rfl, rfl⟩); try refine ⟨sConv, ?_⟩) | refine Dr.two ?_ ?_)
  exact ret1 rfl sRet sConv (⟨_, _, _, _, _, _, _, _, rfl, hn', hnx, ⟨hc1, hc2⟩, ⟨hb1, hb2'⟩, hcx, rfl⟩)
theorem step21_4 (x : Op21) (hk : x.kind = 4) (hn : n = l.length) (hcap : n ≤ c ∧ c ≤ maxLen) (hcb : n ≤ cb ∧ cb ≤ maxLen) (hnx : nx = w.length) (hcx : nx ≤ cx ∧ cx ≤ maxLen) (hl : n ≤ 255) (hok : ∀ e ∈ l, e.ok) (hm : I64 made) :
    Tri Try.prog E 17 #[.pointer (some ⟨gp, 0, none⟩), .agg x.cs.toArray] (st21 gp gM id made l w A n c B cb X nx cx) (Step21 gp gM id (S21.step id ⟨made, l, w⟩ x)) := by
  have hkey : x.k id (next id made l w) = (if x.kind = 3 then ((next id made l w).getD reqT_z).key else if x.kind = 5 then ⟨id, x.key.ord, x.key.undo⟩ else x.key) := rfl
  rw [if_neg (by omega), if_neg (by omega)] at hkey
  have hmax : maxLen = 9223372036854775807 := rfl
  have hl2 : n ≤ 1000000 := by omega
  have hbb : ∀ b : Bool, (!(b == b)) = false := fun b => by cases b <;> rfl
  have hbt : ∀ b : Bool, (b == b) = true := fun b => by cases b <;> rfl
  unfold Step21 S21.step
  rw [if_neg (by omega), if_neg (by omega), if_pos (by omega)]
  unfold S21.ack S21.nxt
  dsimp only
  rw [hkey]
  clear hkey
  refine tri Try.func17 rfl Try.ntmps17 (by simp) ?_
  repeat (first | refine wCh1 ?_ | (refine kCh1 ?_; (first | rintro _ _ ⟨rfl, rfl⟩ | rintro _ _ ⟨_, rfl, rfl⟩ | rintro _ _ ⟨_, _, ⟨_, _⟩, rfl, rfl⟩); try refine ⟨sConv, ?_⟩) | refine Dr.two ?_ ?_)
  refine L.step (by decide) (S.call rfl rfl Try.func40 (by kernel_rfl) rfl sPicks (fun E' hE => rnext E' gM id made B n cb l w X nx cx sRd sRd hm) ?_)
  rintro r H' ⟨rfl, rfl⟩
  refine ⟨_, rfl, _, sCat, ?_⟩
  repeat ((fail_if_success (refine C.seq (x := Code.region 6 _ _) ?_)); first | refine vCh1 ?_ | (refine kCh1 ?_; (first | rintro _ _ ⟨rfl, rfl⟩ | rintro _ _ ⟨_, rfl, rfl⟩ | rintro _ _ ⟨_, _, ⟨_, _⟩, rfl, rfl⟩); try refine ⟨sConv, ?_⟩) | refine Dr.two ?_ ?_)
  rename_i g3 g5
  obtain ⟨q, hq⟩ : ∃ q, (next id made l w).getD reqT_z = q := ⟨_, rfl⟩
  obtain ⟨b, hb⟩ : ∃ b, (next id made l w).isSome = b := ⟨_, rfl⟩
  rw [hq, hb]
  have hqe : (!decide ((⟨⟨⟨q.key.id.rep, q.key.id.seq⟩, q.key.ord, q.key.undo⟩, ⟨q.what.kind, q.what.a, q.what.n, ⟨q.what.ref.rep, q.what.ref.seq⟩⟩⟩ : Req) = ⟨⟨⟨q.key.id.rep, q.key.id.seq⟩, q.key.ord, q.key.undo⟩, ⟨q.what.kind, q.what.a, q.what.n, ⟨q.what.ref.rep, q.what.ref.seq⟩⟩⟩)) = false := by rw [decide_eq_true rfl]; rfl
  have hb2 := hbb b
  have hb3 := hbt b
  refine C.cut (X := Nat) (fun g7 => [(0, .pointer (some ⟨gp, 0, none⟩)), (3, .pointer (some ⟨g3, 0, none⟩)), (5, .pointer (some ⟨g5, 0, none⟩)), (6, .bool b), (7, .pointer (some ⟨g7, 0, none⟩)), (8, .bool b)]) (fun g7 => [blk g7 50 q.cs, blk g5 50 q.cs, blk g3 48 x.cs, pr gp gM id made A n c, own entT A n c l, mch gM id made B n cb X nx cx, own enrT B n cb l, own effT X nx cx w]) (fun _ => True) ?_ ?_
  · refine C.regionA 100000 (.one 0 false (.one 1 false (.one 2 false (.one 3 false (.one 4 false (.one 5 false (.one 6 false (.one 7 false (.one 8 false (.one 9 false (.one 10 false (.two 11 (.one 12 false (.one 13 false (.one 14 false (.one 15 true (.one 16 true (.one 17 false .nil)))))) 15 (.one 11 true (.one 12 false (.one 13 false (.one 14 false (.one 16 true (.one 17 false .nil)))))))))))))))))) _ (by kernel_rfl) (by kernel_rfl) Conv.refl ?_
    repeat (first | refine wCh1 ?_ | (refine kCh1 ?_; (first | rintro _ _ ⟨rfl, rfl⟩ | rintro _ _ ⟨_, rfl, rfl⟩ | rintro _ _ ⟨_, _, ⟨_, _⟩, rfl, rfl⟩); try refine ⟨sConv, ?_⟩) | refine Dr.two ?_ ?_)
    · refine Go1.go rfl (by rintro k ⟨⟩ <;> decide) sGon (S.call rfl rfl Try.func18 (by kernel_rfl) rfl sPicks (fun E' hE => cnext E' id made A n c l w X nx cx sRd sRd hok hm) ?_)
      unfold Nxt
      rw [hq, hb]
      rintro r H' ⟨rfl, rfl⟩
      refine ⟨_, rfl, _, sCat, sConv, ?_⟩
      repeat (first | refine wCh1 ?_ | (refine kCh1 ?_; (first | rintro _ _ ⟨rfl, rfl⟩ | rintro _ _ ⟨_, rfl, rfl⟩ | rintro _ _ ⟨_, _, ⟨_, _⟩, rfl, rfl⟩); try refine ⟨sConv, ?_⟩) | refine Dr.two ?_ ?_)
      exact ⟨_, sHolds, sConv, trivial⟩
    · repeat (first | refine wCh1 ?_ | (refine kCh1 ?_; (first | rintro _ _ ⟨rfl, rfl⟩ | rintro _ _ ⟨_, rfl, rfl⟩ | rintro _ _ ⟨_, _, ⟨_, _⟩, rfl, rfl⟩); try refine ⟨sConv, ?_⟩) | refine Dr.two ?_ ?_)
      refine Dr.go rfl (by rintro k ⟨⟩ <;> decide) sGon (S.call rfl rfl Try.func18 (by kernel_rfl) rfl sPicks (fun E' hE => cnext E' id made A n c l w X nx cx sRd sRd hok hm) ?_)
      unfold Nxt
      rw [hq, hb]
      rintro r H' ⟨rfl, rfl⟩
      refine ⟨_, rfl, _, sCat, sConv, ?_⟩
      repeat (first | refine wCh1 ?_ | (refine kCh1 ?_; (first | rintro _ _ ⟨rfl, rfl⟩ | rintro _ _ ⟨_, rfl, rfl⟩ | rintro _ _ ⟨_, _, ⟨_, _⟩, rfl, rfl⟩); try refine ⟨sConv, ?_⟩) | refine Dr.two ?_ ?_)
      exact ⟨_, sHolds, sConv, trivial⟩
  rintro g7 G -
  obtain ⟨t, ht⟩ : ∃ t, (acked id l x.key).getD l = t := ⟨_, rfl⟩
  obtain ⟨d, hd⟩ : ∃ d, (acked id l x.key).isSome = d := ⟨_, rfl⟩
  have hd3 := hbt d
  rw [ht]
  repeat ((fail_if_success (refine C.seq (x := Code.region 21 _ _) ?_)); first | refine vCh1 ?_ | (refine kCh1 ?_; (first | rintro _ _ ⟨rfl, rfl⟩ | rintro _ _ ⟨_, rfl, rfl⟩ | rintro _ _ ⟨_, _, ⟨_, _⟩, rfl, rfl⟩); try refine ⟨sConv, ?_⟩) | refine Dr.two ?_ ?_)
  rename_i g11
  refine C.cut (X := Nat × Option Addr × Nat × Nat) (fun y => [(0, .pointer (some ⟨gp, 0, none⟩)), (11, .pointer (some ⟨g11, 0, none⟩)), (12, .pointer (some ⟨y.1, 0, none⟩)), (13, .bool d)]) (fun y => [blk y.1 33 [.int .i64 id.rep, .int .i64 id.seq, .int .i64 made, .slice y.2.1 y.2.2.1 y.2.2.2], own entT y.2.1 y.2.2.1 y.2.2.2 t, blk g11 46 (x.key : Keyv).cs, pr gp gM id made A n c, mch gM id made B n cb X nx cx, own enrT B n cb l, own effT X nx cx w]) (fun y => y.2.2.1 = t.length ∧ y.2.2.1 ≤ y.2.2.2 ∧ y.2.2.2 ≤ maxLen) ?_ ?_
  · refine C.regionA 100000 (.one 0 false (.one 1 false (.one 2 false (.one 3 false (.one 4 false (.two 5 (.one 6 false (.one 7 false (.one 8 false (.one 9 true (.one 10 true (.one 11 false .nil)))))) 9 (.one 5 true (.one 6 false (.one 7 false (.one 8 false (.one 10 true (.one 11 false .nil)))))))))))) _ (by kernel_rfl) (by kernel_rfl) Conv.refl ?_
    repeat (first | refine wCh1 ?_ | (refine kCh1 ?_; (first | rintro _ _ ⟨rfl, rfl⟩ | rintro _ _ ⟨_, rfl, rfl⟩ | rintro _ _ ⟨_, _, ⟨_, _⟩, rfl, rfl⟩); try refine ⟨sConv, ?_⟩) | refine Dr.two ?_ ?_)
    · refine Go1.go rfl (by rintro k ⟨⟩ <;> decide) sGon (S.call rfl rfl Try.func21 (by kernel_rfl) rfl sPicks (fun E' hE => cack E' id made A n c l x.key sRd hl2) ?_)
      unfold AckPost
      rw [ht, hd]
      rintro r H' ⟨A', n', c', rfl, hn', ⟨hc1, hc2⟩, rfl⟩
      refine ⟨_, rfl, _, sCat, sConv, ?_⟩
      repeat (first | refine wCh1 ?_ | (refine kCh1 ?_; (first | rintro _ _ ⟨rfl, rfl⟩ | rintro _ _ ⟨_, rfl, rfl⟩ | rintro _ _ ⟨_, _, ⟨_, _⟩, rfl, rfl⟩); try refine ⟨sConv, ?_⟩) | refine Dr.two ?_ ?_)
      exact ⟨(_, _, _, _), sHolds, sConv, hn', hc1, hc2⟩
    · repeat (first | refine wCh1 ?_ | (refine kCh1 ?_; (first | rintro _ _ ⟨rfl, rfl⟩ | rintro _ _ ⟨_, rfl, rfl⟩ | rintro _ _ ⟨_, _, ⟨_, _⟩, rfl, rfl⟩); try refine ⟨sConv, ?_⟩) | refine Dr.two ?_ ?_)
      refine Dr.go rfl (by rintro k ⟨⟩ <;> decide) sGon (S.call rfl rfl Try.func21 (by kernel_rfl) rfl sPicks (fun E' hE => cack E' id made A n c l x.key sRd hl2) ?_)
      unfold AckPost
      rw [ht, hd]
      rintro r H' ⟨A', n', c', rfl, hn', ⟨hc1, hc2⟩, rfl⟩
      refine ⟨_, rfl, _, sCat, sConv, ?_⟩
      repeat (first | refine wCh1 ?_ | (refine kCh1 ?_; (first | rintro _ _ ⟨rfl, rfl⟩ | rintro _ _ ⟨_, rfl, rfl⟩ | rintro _ _ ⟨_, _, ⟨_, _⟩, rfl, rfl⟩); try refine ⟨sConv, ?_⟩) | refine Dr.two ?_ ?_)
      exact ⟨(_, _, _, _), sHolds, sConv, hn', hc1, hc2⟩
  rintro ⟨g12, A', n', c'⟩ G ⟨hn', hc1, hc2⟩
  dsimp only at hn' hc1 hc2 ⊢
  repeat (first | refine wCh1 ?_ | (refine kCh1 ?_; (first | rintro _ _ ⟨rfl, rfl⟩ | rintro _ _ ⟨_, rfl, rfl⟩ | rintro _ _ ⟨_, _, ⟨_, _⟩, rfl, rfl⟩); try refine ⟨sConv, ?_⟩) | refine Dr.two ?_ ?_)
  refine C.regionA 100000 (.one 0 false (.one 1 false (.one 2 false (.one 3 false (.one 4 false (.one 5 true (.one 6 false .nil))))))) ([pr gp gM id made A' n' c', blk g11 46 (x.key : Keyv).cs]) (by kernel_rfl) (by kernel_rfl) sConv ?_
  repeat (first | refine wCh1 ?_ | (refine kCh1 ?_; (first | rintro _ _ ⟨rfl, rfl⟩ | rintro _ _ ⟨_, rfl, rfl⟩ | rintro _ _ ⟨_, _, ⟨_, _⟩, rfl, rfl⟩); try refine ⟨sConv, ?_⟩) | refine Dr.two ?_ ?_)
  refine Dr.go rfl (by rintro k ⟨⟩ <;> decide) sGon (S.call rfl rfl Try.func42 (by kernel_rfl) rfl sPicks (fun E' hE => rack E' gM id made B n cb l X nx cx x.key hn hcb hl2) ?_)
  unfold RAck
  rw [ht, hd]
  rintro r H' ⟨B', nb', cb', rfl, hnb, ⟨hb1, hb2'⟩, rfl⟩
  obtain rfl : nb' = n' := by omega
  refine ⟨_, rfl, _, sCat, sConv, ?_⟩
  repeat (first | refine wCh1 ?_ | (refine kCh1 ?_; (first | rintro _ _ ⟨rfl, rfl⟩ | rintro _ _ ⟨_, rfl, rfl⟩ | rintro _ _ ⟨_, _, ⟨_, _⟩, rfl, rfl⟩); try refine ⟨sConv, ?_⟩) | refine Dr.two ?_ ?_)
  refine C.regionA 100000 (.one 0 false (.one 1 false (.one 2 false (.one 3 false (.one 4 false (.one 5 false (.one 6 false (.one 7 false (.one 8 false (.one 9 false (.one 10 false (.one 11 false (.one 12 true (.one 13 false (.one 14 false .nil))))))))))))))) _ (by kernel_rfl) (by kernel_rfl) Conv.refl ?_
  repeat (first | refine wCh1 ?_ | (refine kCh1 ?_; (first | rintro _ _ ⟨rfl, rfl⟩ | rintro _ _ ⟨_, rfl, rfl⟩ | rintro _ _ ⟨_, _, ⟨_, _⟩, rfl, rfl⟩); try refine ⟨sConv, ?_⟩) | refine Dr.two ?_ ?_)
  refine Dr.go rfl (by rintro k ⟨⟩ <;> decide) sGon (S.call rfl rfl Try.func24 (by kernel_rfl) rfl sPicks (fun E' hE => same21 E' gM id made A' nb' c' t B' cb' X nx cx sRd sRd) ?_)
  rintro r H' ⟨rfl, rfl⟩
  refine ⟨_, rfl, _, sCat, sConv, ?_⟩
  repeat (first | refine wCh1 ?_ | (refine kCh1 ?_; (first | rintro _ _ ⟨rfl, rfl⟩ | rintro _ _ ⟨_, rfl, rfl⟩ | rintro _ _ ⟨_, _, ⟨_, _⟩, rfl, rfl⟩); try refine ⟨sConv, ?_⟩) | refine Dr.two ?_ ?_)
  exact ret1 rfl sRet sConv (⟨_, _, _, _, _, _, _, _, rfl, hn', hnx, ⟨hc1, hc2⟩, ⟨hb1, hb2'⟩, hcx, rfl⟩)
theorem step21_5 (x : Op21) (hk : x.kind = 5) (hn : n = l.length) (hcap : n ≤ c ∧ c ≤ maxLen) (hcb : n ≤ cb ∧ cb ≤ maxLen) (hnx : nx = w.length) (hcx : nx ≤ cx ∧ cx ≤ maxLen) (hl : n ≤ 255) (hok : ∀ e ∈ l, e.ok) (hm : I64 made) :
    Tri Try.prog E 17 #[.pointer (some ⟨gp, 0, none⟩), .agg x.cs.toArray] (st21 gp gM id made l w A n c B cb X nx cx) (Step21 gp gM id (S21.step id ⟨made, l, w⟩ x)) := by
  have hkey : x.k id (next id made l w) = (if x.kind = 3 then ((next id made l w).getD reqT_z).key else if x.kind = 5 then ⟨id, x.key.ord, x.key.undo⟩ else x.key) := rfl
  rw [if_neg (by omega), if_pos hk] at hkey
  have hmax : maxLen = 9223372036854775807 := rfl
  have hl2 : n ≤ 1000000 := by omega
  have hbb : ∀ b : Bool, (!(b == b)) = false := fun b => by cases b <;> rfl
  have hbt : ∀ b : Bool, (b == b) = true := fun b => by cases b <;> rfl
  unfold Step21 S21.step
  rw [if_neg (by omega), if_neg (by omega), if_pos (by omega)]
  unfold S21.ack S21.nxt
  dsimp only
  rw [hkey]
  clear hkey
  refine tri Try.func17 rfl Try.ntmps17 (by simp) ?_
  repeat (first | refine wCh1 ?_ | (refine kCh1 ?_; (first | rintro _ _ ⟨rfl, rfl⟩ | rintro _ _ ⟨_, rfl, rfl⟩ | rintro _ _ ⟨_, _, ⟨_, _⟩, rfl, rfl⟩); try refine ⟨sConv, ?_⟩) | refine Dr.two ?_ ?_)
  refine L.step (by decide) (S.call rfl rfl Try.func40 (by kernel_rfl) rfl sPicks (fun E' hE => rnext E' gM id made B n cb l w X nx cx sRd sRd hm) ?_)
  rintro r H' ⟨rfl, rfl⟩
  refine ⟨_, rfl, _, sCat, ?_⟩
  repeat ((fail_if_success (refine C.seq (x := Code.region 6 _ _) ?_)); first | refine vCh1 ?_ | (refine kCh1 ?_; (first | rintro _ _ ⟨rfl, rfl⟩ | rintro _ _ ⟨_, rfl, rfl⟩ | rintro _ _ ⟨_, _, ⟨_, _⟩, rfl, rfl⟩); try refine ⟨sConv, ?_⟩) | refine Dr.two ?_ ?_)
  rename_i g3 g5
  obtain ⟨q, hq⟩ : ∃ q, (next id made l w).getD reqT_z = q := ⟨_, rfl⟩
  obtain ⟨b, hb⟩ : ∃ b, (next id made l w).isSome = b := ⟨_, rfl⟩
  rw [hq, hb]
  have hqe : (!decide ((⟨⟨⟨q.key.id.rep, q.key.id.seq⟩, q.key.ord, q.key.undo⟩, ⟨q.what.kind, q.what.a, q.what.n, ⟨q.what.ref.rep, q.what.ref.seq⟩⟩⟩ : Req) = ⟨⟨⟨q.key.id.rep, q.key.id.seq⟩, q.key.ord, q.key.undo⟩, ⟨q.what.kind, q.what.a, q.what.n, ⟨q.what.ref.rep, q.what.ref.seq⟩⟩⟩)) = false := by rw [decide_eq_true rfl]; rfl
  have hb2 := hbb b
  have hb3 := hbt b
  refine C.cut (X := Nat) (fun g7 => [(0, .pointer (some ⟨gp, 0, none⟩)), (3, .pointer (some ⟨g3, 0, none⟩)), (5, .pointer (some ⟨g5, 0, none⟩)), (6, .bool b), (7, .pointer (some ⟨g7, 0, none⟩)), (8, .bool b)]) (fun g7 => [blk g7 50 q.cs, blk g5 50 q.cs, blk g3 48 x.cs, pr gp gM id made A n c, own entT A n c l, mch gM id made B n cb X nx cx, own enrT B n cb l, own effT X nx cx w]) (fun _ => True) ?_ ?_
  · refine C.regionA 100000 (.one 0 false (.one 1 false (.one 2 false (.one 3 false (.one 4 false (.one 5 false (.one 6 false (.one 7 false (.one 8 false (.one 9 false (.one 10 false (.two 11 (.one 12 false (.one 13 false (.one 14 false (.one 15 true (.one 16 true (.one 17 false .nil)))))) 15 (.one 11 true (.one 12 false (.one 13 false (.one 14 false (.one 16 true (.one 17 false .nil)))))))))))))))))) _ (by kernel_rfl) (by kernel_rfl) Conv.refl ?_
    repeat (first | refine wCh1 ?_ | (refine kCh1 ?_; (first | rintro _ _ ⟨rfl, rfl⟩ | rintro _ _ ⟨_, rfl, rfl⟩ | rintro _ _ ⟨_, _, ⟨_, _⟩, rfl, rfl⟩); try refine ⟨sConv, ?_⟩) | refine Dr.two ?_ ?_)
    · refine Go1.go rfl (by rintro k ⟨⟩ <;> decide) sGon (S.call rfl rfl Try.func18 (by kernel_rfl) rfl sPicks (fun E' hE => cnext E' id made A n c l w X nx cx sRd sRd hok hm) ?_)
      unfold Nxt
      rw [hq, hb]
      rintro r H' ⟨rfl, rfl⟩
      refine ⟨_, rfl, _, sCat, sConv, ?_⟩
      repeat (first | refine wCh1 ?_ | (refine kCh1 ?_; (first | rintro _ _ ⟨rfl, rfl⟩ | rintro _ _ ⟨_, rfl, rfl⟩ | rintro _ _ ⟨_, _, ⟨_, _⟩, rfl, rfl⟩); try refine ⟨sConv, ?_⟩) | refine Dr.two ?_ ?_)
      exact ⟨_, sHolds, sConv, trivial⟩
    · repeat (first | refine wCh1 ?_ | (refine kCh1 ?_; (first | rintro _ _ ⟨rfl, rfl⟩ | rintro _ _ ⟨_, rfl, rfl⟩ | rintro _ _ ⟨_, _, ⟨_, _⟩, rfl, rfl⟩); try refine ⟨sConv, ?_⟩) | refine Dr.two ?_ ?_)
      refine Dr.go rfl (by rintro k ⟨⟩ <;> decide) sGon (S.call rfl rfl Try.func18 (by kernel_rfl) rfl sPicks (fun E' hE => cnext E' id made A n c l w X nx cx sRd sRd hok hm) ?_)
      unfold Nxt
      rw [hq, hb]
      rintro r H' ⟨rfl, rfl⟩
      refine ⟨_, rfl, _, sCat, sConv, ?_⟩
      repeat (first | refine wCh1 ?_ | (refine kCh1 ?_; (first | rintro _ _ ⟨rfl, rfl⟩ | rintro _ _ ⟨_, rfl, rfl⟩ | rintro _ _ ⟨_, _, ⟨_, _⟩, rfl, rfl⟩); try refine ⟨sConv, ?_⟩) | refine Dr.two ?_ ?_)
      exact ⟨_, sHolds, sConv, trivial⟩
  rintro g7 G -
  obtain ⟨t, ht⟩ : ∃ t, (acked id l ⟨id, x.key.ord, x.key.undo⟩).getD l = t := ⟨_, rfl⟩
  obtain ⟨d, hd⟩ : ∃ d, (acked id l ⟨id, x.key.ord, x.key.undo⟩).isSome = d := ⟨_, rfl⟩
  have hd3 := hbt d
  rw [ht]
  repeat ((fail_if_success (refine C.seq (x := Code.region 21 _ _) ?_)); first | refine vCh1 ?_ | (refine kCh1 ?_; (first | rintro _ _ ⟨rfl, rfl⟩ | rintro _ _ ⟨_, rfl, rfl⟩ | rintro _ _ ⟨_, _, ⟨_, _⟩, rfl, rfl⟩); try refine ⟨sConv, ?_⟩) | refine Dr.two ?_ ?_)
  rename_i g11
  refine C.cut (X := Nat × Option Addr × Nat × Nat) (fun y => [(0, .pointer (some ⟨gp, 0, none⟩)), (11, .pointer (some ⟨g11, 0, none⟩)), (12, .pointer (some ⟨y.1, 0, none⟩)), (13, .bool d)]) (fun y => [blk y.1 33 [.int .i64 id.rep, .int .i64 id.seq, .int .i64 made, .slice y.2.1 y.2.2.1 y.2.2.2], own entT y.2.1 y.2.2.1 y.2.2.2 t, blk g11 46 (⟨id, x.key.ord, x.key.undo⟩ : Keyv).cs, pr gp gM id made A n c, mch gM id made B n cb X nx cx, own enrT B n cb l, own effT X nx cx w]) (fun y => y.2.2.1 = t.length ∧ y.2.2.1 ≤ y.2.2.2 ∧ y.2.2.2 ≤ maxLen) ?_ ?_
  · refine C.regionA 100000 (.one 0 false (.one 1 false (.one 2 false (.one 3 false (.one 4 false (.two 5 (.one 6 false (.one 7 false (.one 8 false (.one 9 true (.one 10 true (.one 11 false .nil)))))) 9 (.one 5 true (.one 6 false (.one 7 false (.one 8 false (.one 10 true (.one 11 false .nil)))))))))))) _ (by kernel_rfl) (by kernel_rfl) Conv.refl ?_
    repeat (first | refine wCh1 ?_ | (refine kCh1 ?_; (first | rintro _ _ ⟨rfl, rfl⟩ | rintro _ _ ⟨_, rfl, rfl⟩ | rintro _ _ ⟨_, _, ⟨_, _⟩, rfl, rfl⟩); try refine ⟨sConv, ?_⟩) | refine Dr.two ?_ ?_)
    · refine Go1.go rfl (by rintro k ⟨⟩ <;> decide) sGon (S.call rfl rfl Try.func21 (by kernel_rfl) rfl sPicks (fun E' hE => cack E' id made A n c l ⟨id, x.key.ord, x.key.undo⟩ sRd hl2) ?_)
      unfold AckPost
      rw [ht, hd]
      rintro r H' ⟨A', n', c', rfl, hn', ⟨hc1, hc2⟩, rfl⟩
      refine ⟨_, rfl, _, sCat, sConv, ?_⟩
      repeat (first | refine wCh1 ?_ | (refine kCh1 ?_; (first | rintro _ _ ⟨rfl, rfl⟩ | rintro _ _ ⟨_, rfl, rfl⟩ | rintro _ _ ⟨_, _, ⟨_, _⟩, rfl, rfl⟩); try refine ⟨sConv, ?_⟩) | refine Dr.two ?_ ?_)
      exact ⟨(_, _, _, _), sHolds, sConv, hn', hc1, hc2⟩
    · repeat (first | refine wCh1 ?_ | (refine kCh1 ?_; (first | rintro _ _ ⟨rfl, rfl⟩ | rintro _ _ ⟨_, rfl, rfl⟩ | rintro _ _ ⟨_, _, ⟨_, _⟩, rfl, rfl⟩); try refine ⟨sConv, ?_⟩) | refine Dr.two ?_ ?_)
      refine Dr.go rfl (by rintro k ⟨⟩ <;> decide) sGon (S.call rfl rfl Try.func21 (by kernel_rfl) rfl sPicks (fun E' hE => cack E' id made A n c l ⟨id, x.key.ord, x.key.undo⟩ sRd hl2) ?_)
      unfold AckPost
      rw [ht, hd]
      rintro r H' ⟨A', n', c', rfl, hn', ⟨hc1, hc2⟩, rfl⟩
      refine ⟨_, rfl, _, sCat, sConv, ?_⟩
      repeat (first | refine wCh1 ?_ | (refine kCh1 ?_; (first | rintro _ _ ⟨rfl, rfl⟩ | rintro _ _ ⟨_, rfl, rfl⟩ | rintro _ _ ⟨_, _, ⟨_, _⟩, rfl, rfl⟩); try refine ⟨sConv, ?_⟩) | refine Dr.two ?_ ?_)
      exact ⟨(_, _, _, _), sHolds, sConv, hn', hc1, hc2⟩
  rintro ⟨g12, A', n', c'⟩ G ⟨hn', hc1, hc2⟩
  dsimp only at hn' hc1 hc2 ⊢
  repeat (first | refine wCh1 ?_ | (refine kCh1 ?_; (first | rintro _ _ ⟨rfl, rfl⟩ | rintro _ _ ⟨_, rfl, rfl⟩ | rintro _ _ ⟨_, _, ⟨_, _⟩, rfl, rfl⟩); try refine ⟨sConv, ?_⟩) | refine Dr.two ?_ ?_)
  refine C.regionA 100000 (.one 0 false (.one 1 false (.one 2 false (.one 3 false (.one 4 false (.one 5 true (.one 6 false .nil))))))) ([pr gp gM id made A' n' c', blk g11 46 (⟨id, x.key.ord, x.key.undo⟩ : Keyv).cs]) (by kernel_rfl) (by kernel_rfl) sConv ?_
  repeat (first | refine wCh1 ?_ | (refine kCh1 ?_; (first | rintro _ _ ⟨rfl, rfl⟩ | rintro _ _ ⟨_, rfl, rfl⟩ | rintro _ _ ⟨_, _, ⟨_, _⟩, rfl, rfl⟩); try refine ⟨sConv, ?_⟩) | refine Dr.two ?_ ?_)
  refine Dr.go rfl (by rintro k ⟨⟩ <;> decide) sGon (S.call rfl rfl Try.func42 (by kernel_rfl) rfl sPicks (fun E' hE => rack E' gM id made B n cb l X nx cx ⟨id, x.key.ord, x.key.undo⟩ hn hcb hl2) ?_)
  unfold RAck
  rw [ht, hd]
  rintro r H' ⟨B', nb', cb', rfl, hnb, ⟨hb1, hb2'⟩, rfl⟩
  obtain rfl : nb' = n' := by omega
  refine ⟨_, rfl, _, sCat, sConv, ?_⟩
  repeat (first | refine wCh1 ?_ | (refine kCh1 ?_; (first | rintro _ _ ⟨rfl, rfl⟩ | rintro _ _ ⟨_, rfl, rfl⟩ | rintro _ _ ⟨_, _, ⟨_, _⟩, rfl, rfl⟩); try refine ⟨sConv, ?_⟩) | refine Dr.two ?_ ?_)
  refine C.regionA 100000 (.one 0 false (.one 1 false (.one 2 false (.one 3 false (.one 4 false (.one 5 false (.one 6 false (.one 7 false (.one 8 false (.one 9 false (.one 10 false (.one 11 false (.one 12 true (.one 13 false (.one 14 false .nil))))))))))))))) _ (by kernel_rfl) (by kernel_rfl) Conv.refl ?_
  repeat (first | refine wCh1 ?_ | (refine kCh1 ?_; (first | rintro _ _ ⟨rfl, rfl⟩ | rintro _ _ ⟨_, rfl, rfl⟩ | rintro _ _ ⟨_, _, ⟨_, _⟩, rfl, rfl⟩); try refine ⟨sConv, ?_⟩) | refine Dr.two ?_ ?_)
  refine Dr.go rfl (by rintro k ⟨⟩ <;> decide) sGon (S.call rfl rfl Try.func24 (by kernel_rfl) rfl sPicks (fun E' hE => same21 E' gM id made A' nb' c' t B' cb' X nx cx sRd sRd) ?_)
  rintro r H' ⟨rfl, rfl⟩
  refine ⟨_, rfl, _, sCat, sConv, ?_⟩
  repeat (first | refine wCh1 ?_ | (refine kCh1 ?_; (first | rintro _ _ ⟨rfl, rfl⟩ | rintro _ _ ⟨_, rfl, rfl⟩ | rintro _ _ ⟨_, _, ⟨_, _⟩, rfl, rfl⟩); try refine ⟨sConv, ?_⟩) | refine Dr.two ?_ ?_)
  exact ret1 rfl sRet sConv (⟨_, _, _, _, _, _, _, _, rfl, hn', hnx, ⟨hc1, hc2⟩, ⟨hb1, hb2'⟩, hcx, rfl⟩)
theorem step21_0 (x : Op21) (hk : ¬ (1 ≤ x.kind ∧ x.kind ≤ 5)) (hn : n = l.length) (hcap : n ≤ c ∧ c ≤ maxLen) (hcb : n ≤ cb ∧ cb ≤ maxLen) (hnx : nx = w.length) (hcx : nx ≤ cx ∧ cx ≤ maxLen) (hl : n ≤ 255) (hok : ∀ e ∈ l, e.ok) (hm : I64 made) :
    Tri Try.prog E 17 #[.pointer (some ⟨gp, 0, none⟩), .agg x.cs.toArray] (st21 gp gM id made l w A n c B cb X nx cx) (Step21 gp gM id (S21.step id ⟨made, l, w⟩ x)) := by
  have hmax : maxLen = 9223372036854775807 := rfl
  have hl2 : n ≤ 1000000 := by omega
  have hbb : ∀ b : Bool, (!(b == b)) = false := fun b => by cases b <;> rfl
  have hbt : ∀ b : Bool, (b == b) = true := fun b => by cases b <;> rfl
  unfold Step21 S21.step
  rw [if_neg (by omega), if_neg (by omega), if_neg (by omega)]
  dsimp only
  refine tri Try.func17 rfl Try.ntmps17 (by simp) ?_
  repeat (first | refine wCh1 ?_ | (refine kCh1 ?_; (first | rintro _ _ ⟨rfl, rfl⟩ | rintro _ _ ⟨_, rfl, rfl⟩ | rintro _ _ ⟨_, _, ⟨_, _⟩, rfl, rfl⟩); try refine ⟨sConv, ?_⟩) | refine Dr.two ?_ ?_)
  refine L.step (by decide) (S.call rfl rfl Try.func40 (by kernel_rfl) rfl sPicks (fun E' hE => rnext E' gM id made B n cb l w X nx cx sRd sRd hm) ?_)
  rintro r H' ⟨rfl, rfl⟩
  refine ⟨_, rfl, _, sCat, ?_⟩
  repeat ((fail_if_success (refine C.seq (x := Code.region 6 _ _) ?_)); first | refine vCh1 ?_ | (refine kCh1 ?_; (first | rintro _ _ ⟨rfl, rfl⟩ | rintro _ _ ⟨_, rfl, rfl⟩ | rintro _ _ ⟨_, _, ⟨_, _⟩, rfl, rfl⟩); try refine ⟨sConv, ?_⟩) | refine Dr.two ?_ ?_)
  rename_i g3 g5
  obtain ⟨q, hq⟩ : ∃ q, (next id made l w).getD reqT_z = q := ⟨_, rfl⟩
  obtain ⟨b, hb⟩ : ∃ b, (next id made l w).isSome = b := ⟨_, rfl⟩
  rw [hq, hb]
  have hqe : (!decide ((⟨⟨⟨q.key.id.rep, q.key.id.seq⟩, q.key.ord, q.key.undo⟩, ⟨q.what.kind, q.what.a, q.what.n, ⟨q.what.ref.rep, q.what.ref.seq⟩⟩⟩ : Req) = ⟨⟨⟨q.key.id.rep, q.key.id.seq⟩, q.key.ord, q.key.undo⟩, ⟨q.what.kind, q.what.a, q.what.n, ⟨q.what.ref.rep, q.what.ref.seq⟩⟩⟩)) = false := by rw [decide_eq_true rfl]; rfl
  have hb2 := hbb b
  have hb3 := hbt b
  refine C.cut (X := Nat) (fun g7 => [(0, .pointer (some ⟨gp, 0, none⟩)), (3, .pointer (some ⟨g3, 0, none⟩)), (5, .pointer (some ⟨g5, 0, none⟩)), (6, .bool b), (7, .pointer (some ⟨g7, 0, none⟩)), (8, .bool b)]) (fun g7 => [blk g7 50 q.cs, blk g5 50 q.cs, blk g3 48 x.cs, pr gp gM id made A n c, own entT A n c l, mch gM id made B n cb X nx cx, own enrT B n cb l, own effT X nx cx w]) (fun _ => True) ?_ ?_
  · refine C.regionA 100000 (.one 0 false (.one 1 false (.one 2 false (.one 3 false (.one 4 false (.one 5 false (.one 6 false (.one 7 false (.one 8 false (.one 9 false (.one 10 false (.two 11 (.one 12 false (.one 13 false (.one 14 false (.one 15 true (.one 16 true (.one 17 false .nil)))))) 15 (.one 11 true (.one 12 false (.one 13 false (.one 14 false (.one 16 true (.one 17 false .nil)))))))))))))))))) _ (by kernel_rfl) (by kernel_rfl) Conv.refl ?_
    repeat (first | refine wCh1 ?_ | (refine kCh1 ?_; (first | rintro _ _ ⟨rfl, rfl⟩ | rintro _ _ ⟨_, rfl, rfl⟩ | rintro _ _ ⟨_, _, ⟨_, _⟩, rfl, rfl⟩); try refine ⟨sConv, ?_⟩) | refine Dr.two ?_ ?_)
    · refine Go1.go rfl (by rintro k ⟨⟩ <;> decide) sGon (S.call rfl rfl Try.func18 (by kernel_rfl) rfl sPicks (fun E' hE => cnext E' id made A n c l w X nx cx sRd sRd hok hm) ?_)
      unfold Nxt
      rw [hq, hb]
      rintro r H' ⟨rfl, rfl⟩
      refine ⟨_, rfl, _, sCat, sConv, ?_⟩
      repeat (first | refine wCh1 ?_ | (refine kCh1 ?_; (first | rintro _ _ ⟨rfl, rfl⟩ | rintro _ _ ⟨_, rfl, rfl⟩ | rintro _ _ ⟨_, _, ⟨_, _⟩, rfl, rfl⟩); try refine ⟨sConv, ?_⟩) | refine Dr.two ?_ ?_)
      exact ⟨_, sHolds, sConv, trivial⟩
    · repeat (first | refine wCh1 ?_ | (refine kCh1 ?_; (first | rintro _ _ ⟨rfl, rfl⟩ | rintro _ _ ⟨_, rfl, rfl⟩ | rintro _ _ ⟨_, _, ⟨_, _⟩, rfl, rfl⟩); try refine ⟨sConv, ?_⟩) | refine Dr.two ?_ ?_)
      refine Dr.go rfl (by rintro k ⟨⟩ <;> decide) sGon (S.call rfl rfl Try.func18 (by kernel_rfl) rfl sPicks (fun E' hE => cnext E' id made A n c l w X nx cx sRd sRd hok hm) ?_)
      unfold Nxt
      rw [hq, hb]
      rintro r H' ⟨rfl, rfl⟩
      refine ⟨_, rfl, _, sCat, sConv, ?_⟩
      repeat (first | refine wCh1 ?_ | (refine kCh1 ?_; (first | rintro _ _ ⟨rfl, rfl⟩ | rintro _ _ ⟨_, rfl, rfl⟩ | rintro _ _ ⟨_, _, ⟨_, _⟩, rfl, rfl⟩); try refine ⟨sConv, ?_⟩) | refine Dr.two ?_ ?_)
      exact ⟨_, sHolds, sConv, trivial⟩
  rintro g7 G -
  have htt := hbt true
  by_cases h3 : 3 ≤ x.kind
  · repeat (first | refine wCh1 ?_ | (refine kCh1 ?_; (first | rintro _ _ ⟨rfl, rfl⟩ | rintro _ _ ⟨_, rfl, rfl⟩ | rintro _ _ ⟨_, _, ⟨_, _⟩, rfl, rfl⟩); try refine ⟨sConv, ?_⟩) | refine Dr.two ?_ ?_)
    refine C.regionA 100000 (.one 0 false (.one 1 false (.one 2 false (.one 3 false (.one 4 false (.one 5 false (.one 6 false (.one 7 false (.one 8 false (.one 9 false (.one 10 false (.one 11 false (.one 12 true (.one 13 false (.one 14 false .nil))))))))))))))) _ (by kernel_rfl) (by kernel_rfl) Conv.refl ?_
    repeat (first | refine wCh1 ?_ | (refine kCh1 ?_; (first | rintro _ _ ⟨rfl, rfl⟩ | rintro _ _ ⟨_, rfl, rfl⟩ | rintro _ _ ⟨_, _, ⟨_, _⟩, rfl, rfl⟩); try refine ⟨sConv, ?_⟩) | refine Dr.two ?_ ?_)
    refine Dr.go rfl (by rintro k ⟨⟩ <;> decide) sGon (S.call rfl rfl Try.func24 (by kernel_rfl) rfl sPicks (fun E' hE => same21 E' gM id made A n c l B cb X nx cx sRd sRd) ?_)
    rintro r H' ⟨rfl, rfl⟩
    refine ⟨_, rfl, _, sCat, sConv, ?_⟩
    repeat (first | refine wCh1 ?_ | (refine kCh1 ?_; (first | rintro _ _ ⟨rfl, rfl⟩ | rintro _ _ ⟨_, rfl, rfl⟩ | rintro _ _ ⟨_, _, ⟨_, _⟩, rfl, rfl⟩); try refine ⟨sConv, ?_⟩) | refine Dr.two ?_ ?_)
    exact ret1 rfl sRet sConv (⟨_, _, _, _, _, _, _, _, rfl, hn, hnx, hcap, hcb, hcx, rfl⟩)
  · repeat (first | refine wCh1 ?_ | (refine kCh1 ?_; (first | rintro _ _ ⟨rfl, rfl⟩ | rintro _ _ ⟨_, rfl, rfl⟩ | rintro _ _ ⟨_, _, ⟨_, _⟩, rfl, rfl⟩); try refine ⟨sConv, ?_⟩) | refine Dr.two ?_ ?_)
    refine C.regionA 100000 (.one 0 false (.one 1 false (.one 2 false (.one 3 false (.one 4 false (.one 5 false (.one 6 false (.one 7 false (.one 8 false (.one 9 false (.one 10 false (.one 11 false (.one 12 true (.one 13 false (.one 14 false .nil))))))))))))))) _ (by kernel_rfl) (by kernel_rfl) Conv.refl ?_
    repeat (first | refine wCh1 ?_ | (refine kCh1 ?_; (first | rintro _ _ ⟨rfl, rfl⟩ | rintro _ _ ⟨_, rfl, rfl⟩ | rintro _ _ ⟨_, _, ⟨_, _⟩, rfl, rfl⟩); try refine ⟨sConv, ?_⟩) | refine Dr.two ?_ ?_)
    refine Dr.go rfl (by rintro k ⟨⟩ <;> decide) sGon (S.call rfl rfl Try.func24 (by kernel_rfl) rfl sPicks (fun E' hE => same21 E' gM id made A n c l B cb X nx cx sRd sRd) ?_)
    rintro r H' ⟨rfl, rfl⟩
    refine ⟨_, rfl, _, sCat, sConv, ?_⟩
    repeat (first | refine wCh1 ?_ | (refine kCh1 ?_; (first | rintro _ _ ⟨rfl, rfl⟩ | rintro _ _ ⟨_, rfl, rfl⟩ | rintro _ _ ⟨_, _, ⟨_, _⟩, rfl, rfl⟩); try refine ⟨sConv, ?_⟩) | refine Dr.two ?_ ?_)
    exact ret1 rfl sRet sConv (⟨_, _, _, _, _, _, _, _, rfl, hn, hnx, hcap, hcb, hcx, rfl⟩)
end
end Go.Proofs.Ytiabahpofcapbaa.Sep
