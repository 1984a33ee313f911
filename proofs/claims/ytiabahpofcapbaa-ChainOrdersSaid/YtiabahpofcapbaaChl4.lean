/- the laws ChainRuns, ChainAsks, by parts of memory. -/
import Derived.Test.YtiabahpofcapbaaChl3
namespace Go.Proofs.Ytiabahpofcapbaa.Sep
open Go.RowKit Go.Proofs.Ytiabahpofcapbaa.Reg
open Go.Proofs.Ytiabahpofcapbaa.Mem hiding Rd Own
-- types: entT enrT effT opT
-- recs: idnT_rec effT_rec cfgT_rec entT_rec enrT_rec keyT_rec reqT_rec opT_rec chain_rec chref_rec pair_rec
-- eqs: idnT_eqa effT_eqa entT_eqa enrT_eqa keyT_eqa reqT_eqa
-- funcs
-- flds
set_option maxRecDepth 100000
set_option maxHeartbeats 8000000
/-- what is known of a call that is given -/
def In21 (E : Env) (x : Op21) : Prop := Rd E effT x.want.A x.want.n x.want.c x.want.l ∧ (∀ f ∈ x.want.l, f.ok) ∧ I64 x.now
theorem few21_ok {E : Env} {l : List Op21} (h : ∀ x ∈ l, In21 E x) : ∀ x ∈ few21 l, x.ok := by
  intro x hx
  obtain ⟨y, hy, rfl⟩ := List.mem_map.1 hx
  obtain ⟨h1, h2, h3⟩ := h y (List.mem_of_mem_take hy)
  refine ⟨fun f hf => h2 f ?_, h3, ?_⟩
  · unfold Op21.cut Efs.cut at hf
    dsimp only at hf
    split at hf
    · exact List.mem_of_mem_take hf
    · exact hf
  · have hn := (Rd.efs h1).len
    have h8 := few21_n _ hx
    change y.want.cut.n ≤ 8 at h8
    change y.want.cut.l.length ≤ 8
    omega
abbrev s0 : S21 := ⟨0, [], []⟩
theorem s0_ok : s0.ok := ⟨fun e he => (List.not_mem_nil he).elim, fun f hf => (List.not_mem_nil hf).elim, by decide, by decide, by decide, by decide⟩
theorem In21.ws {E : Env} {l : List Op21} (h : ∀ x ∈ l, In21 E x) : Ws E l := fun x hx => (h x hx).1
theorem conv3 {E : Env} {H : List Asn} : Conv E H (own entT none 0 0 [] :: own enrT none 0 0 [] :: own effT none 0 0 [] :: H) := (Conv.nil0 effT none).trans ((Conv.nil0 enrT none).trans (Conv.nil0 entT none))
section
variable (E : Env) (id : Idn) (A : Option Addr) (n c : Nat) (l : List Op21)
theorem runs21 (hr : Rd E opT A n c l) (hin : ∀ x ∈ l, In21 E x) : Tri Try.prog E 3 #[.agg id.cs.toArray, .slice A n c] [] fun r _ => r = .returned (.bool true) := by
  have hws := In21.ws hin
  have hops := few21_ok hin
  have z0 : 0 ≤ 0 ∧ 0 ≤ maxLen := ⟨Nat.le_refl _, Nat.zero_le _⟩
  refine tri Try.func3 rfl Try.ntmps3 (by simp) ?_
  repeat (first | refine wCh1 ?_ | (refine kCh1 ?_; (first | rintro _ _ ⟨rfl, rfl⟩ | rintro _ _ ⟨_, rfl, rfl⟩ | rintro _ _ ⟨_, _, ⟨_, _⟩, rfl, rfl⟩); try refine ⟨sConv, ?_⟩) | refine Dr.two ?_ ?_)
  refine L.step (by decide) (S.call rfl rfl Try.func12 (by kernel_rfl) rfl sPicks (fun E' hE => alive21 E') ?_)
  rintro r H' ⟨rfl, rfl⟩
  refine ⟨_, rfl, _, sCat, ?_⟩
  repeat (first | refine wCh1 ?_ | (refine kCh1 ?_; (first | rintro _ _ ⟨rfl, rfl⟩ | rintro _ _ ⟨_, rfl, rfl⟩ | rintro _ _ ⟨_, _, ⟨_, _⟩, rfl, rfl⟩); try refine ⟨sConv, ?_⟩) | refine Dr.two ?_ ?_)
  refine L.step (by decide) (S.call rfl rfl Try.func13 (by kernel_rfl) rfl sPicks (fun E' hE => begin21 E' id) ?_)
  rintro r H' ⟨gp, gM, rfl, rfl⟩
  refine ⟨_, rfl, _, sCat, ?_⟩
  repeat (first | refine wCh1 ?_ | (refine kCh1 ?_; (first | rintro _ _ ⟨rfl, rfl⟩ | rintro _ _ ⟨_, rfl, rfl⟩ | rintro _ _ ⟨_, _, ⟨_, _⟩, rfl, rfl⟩); try refine ⟨sConv, ?_⟩) | refine Dr.two ?_ ?_)
  refine L.step (by decide) (S.call rfl rfl Try.func15 (by kernel_rfl) rfl sPicks (fun E' hE => few21_any E' A n c l sRd (hws.sub hE)) ?_)
  rintro r H' ⟨O, m, co, rfl, hm, hco, rfl⟩
  refine ⟨_, rfl, _, sCat, ?_⟩
  repeat (first | refine wCh1 ?_ | (refine kCh1 ?_; (first | rintro _ _ ⟨rfl, rfl⟩ | rintro _ _ ⟨_, rfl, rfl⟩ | rintro _ _ ⟨_, _, ⟨_, _⟩, rfl, rfl⟩); try refine ⟨sConv, ?_⟩) | refine Dr.two ?_ ?_)
  refine L.conv conv3 ?_
  refine L.step (by decide) (S.call rfl rfl Try.func14 (by kernel_rfl) rfl sPicks (fun E' hE => run21 E' gp gM id s0 none 0 0 none 0 none 0 0 O m co (few21 l) sRd (hws.sub hE).few s0_ok hops rfl z0 z0 rfl z0) ?_)
  unfold Step21
  rintro r H' ⟨A2, n2, c2, B2, cb2, X2, nx2, cx2, rfl, k1, k2, k3, k4, k5, rfl⟩
  refine ⟨_, rfl, _, sCat, ?_⟩
  repeat (first | refine wCh1 ?_ | (refine kCh1 ?_; (first | rintro _ _ ⟨rfl, rfl⟩ | rintro _ _ ⟨_, rfl, rfl⟩ | rintro _ _ ⟨_, _, ⟨_, _⟩, rfl, rfl⟩); try refine ⟨sConv, ?_⟩) | refine Dr.two ?_ ?_)
  exact ret1 rfl sRet sConv (rfl)
theorem asks21 (cf : Cfg) (now : Int) (hr : Rd E opT A n c l) (hin : ∀ x ∈ l, In21 E x) : Tri Try.prog E 8 #[.agg id.cs.toArray, .slice A n c, .agg cf.cs.toArray, .int .i64 now] [] fun r _ => r = .returned (.bool true) := by
  have hws := In21.ws hin
  have hops := few21_ok hin
  have z0 : 0 ≤ 0 ∧ 0 ≤ maxLen := ⟨Nat.le_refl _, Nat.zero_le _⟩
  refine tri Try.func8 rfl Try.ntmps8 (by simp) ?_
  repeat (first | refine wCh1 ?_ | (refine kCh1 ?_; (first | rintro _ _ ⟨rfl, rfl⟩ | rintro _ _ ⟨_, rfl, rfl⟩ | rintro _ _ ⟨_, _, ⟨_, _⟩, rfl, rfl⟩); try refine ⟨sConv, ?_⟩) | refine Dr.two ?_ ?_)
  refine L.step (by decide) (S.call rfl rfl Try.func12 (by kernel_rfl) rfl sPicks (fun E' hE => alive21 E') ?_)
  rintro r H' ⟨rfl, rfl⟩
  refine ⟨_, rfl, _, sCat, ?_⟩
  repeat (first | refine wCh1 ?_ | (refine kCh1 ?_; (first | rintro _ _ ⟨rfl, rfl⟩ | rintro _ _ ⟨_, rfl, rfl⟩ | rintro _ _ ⟨_, _, ⟨_, _⟩, rfl, rfl⟩); try refine ⟨sConv, ?_⟩) | refine Dr.two ?_ ?_)
  refine L.step (by decide) (S.call rfl rfl Try.func13 (by kernel_rfl) rfl sPicks (fun E' hE => begin21 E' id) ?_)
  rintro r H' ⟨gp, gM, rfl, rfl⟩
  refine ⟨_, rfl, _, sCat, ?_⟩
  repeat (first | refine wCh1 ?_ | (refine kCh1 ?_; (first | rintro _ _ ⟨rfl, rfl⟩ | rintro _ _ ⟨_, rfl, rfl⟩ | rintro _ _ ⟨_, _, ⟨_, _⟩, rfl, rfl⟩); try refine ⟨sConv, ?_⟩) | refine Dr.two ?_ ?_)
  refine L.step (by decide) (S.call rfl rfl Try.func15 (by kernel_rfl) rfl sPicks (fun E' hE => few21_any E' A n c l sRd (hws.sub hE)) ?_)
  rintro r H' ⟨O, m, co, rfl, hm, hco, rfl⟩
  refine ⟨_, rfl, _, sCat, ?_⟩
  repeat (first | refine wCh1 ?_ | (refine kCh1 ?_; (first | rintro _ _ ⟨rfl, rfl⟩ | rintro _ _ ⟨_, rfl, rfl⟩ | rintro _ _ ⟨_, _, ⟨_, _⟩, rfl, rfl⟩); try refine ⟨sConv, ?_⟩) | refine Dr.two ?_ ?_)
  refine L.conv conv3 ?_
  refine L.step (by decide) (S.call rfl rfl Try.func14 (by kernel_rfl) rfl sPicks (fun E' hE => run21 E' gp gM id s0 none 0 0 none 0 none 0 0 O m co (few21 l) sRd (hws.sub hE).few s0_ok hops rfl z0 z0 rfl z0) ?_)
  unfold Step21
  rintro r H' ⟨A2, n2, c2, B2, cb2, X2, nx2, cx2, rfl, k1, k2, k3, k4, k5, rfl⟩
  refine ⟨_, rfl, _, sCat, ?_⟩
  have hs := S21.run_ok (id := id) s0_ok hops
  generalize S21.run id s0 (few21 l) = s at *
  have hents := hs.ents
  have h0 := hs.made0
  have h1 := hs.made1
  have hm1 : I64 s.made := by unfold I64; omega
  obtain ⟨made, es, ws⟩ := s
  dsimp only at *
  have e1 : (readyC id made es ws cf now == readyC id made es ws cf now) = true := by simp
  have e2 : (quiet es ws == quiet es ws) = true := by simp
  have e3 : (deadC es cf now == deadC es cf now) = true := by simp
  repeat (first | refine wCh1 ?_ | (refine kCh1 ?_; (first | rintro _ _ ⟨rfl, rfl⟩ | rintro _ _ ⟨_, rfl, rfl⟩ | rintro _ _ ⟨_, _, ⟨_, _⟩, rfl, rfl⟩); try refine ⟨sConv, ?_⟩) | refine Dr.two ?_ ?_)
  refine C.regionA 100000 (.one 0 false (.one 1 false (.one 2 false (.one 3 false (.one 4 false (.one 5 false (.one 6 false (.one 7 false (.one 8 false (.one 9 false (.one 10 false (.one 11 false (.one 12 false (.one 14 false (.one 15 false (.one 16 false (.one 17 false (.one 18 false (.one 19 false (.one 13 true (.one 20 true (.one 21 false (.one 22 false (.one 23 false (.one 24 false (.one 25 false (.one 26 false (.one 27 false (.one 28 false (.one 29 false (.one 30 false (.one 31 false (.one 32 false (.one 33 false (.one 35 false (.one 36 false (.one 37 false (.one 38 false (.one 34 true (.one 39 true (.one 40 false (.one 41 false (.one 42 false (.one 43 false (.one 44 false (.one 45 false (.one 46 false (.one 47 false (.one 48 false (.one 50 false (.one 51 false (.one 52 false (.one 53 false (.one 54 false (.one 55 false (.one 49 true (.one 56 true (.one 57 false (.one 58 false (.one 59 false .nil)))))))))))))))))))))))))))))))))))))))))))))))))))))))))))) _ (by kernel_rfl) (by kernel_rfl) Conv.refl ?_
  repeat (first | refine wCh1 ?_ | (refine kCh1 ?_; (first | rintro _ _ ⟨rfl, rfl⟩ | rintro _ _ ⟨_, rfl, rfl⟩ | rintro _ _ ⟨_, _, ⟨_, _⟩, rfl, rfl⟩); try refine ⟨sConv, ?_⟩) | refine Dr.two ?_ ?_)
  refine Dr.go rfl (by rintro k ⟨⟩ <;> decide) sGon (S.call rfl rfl Try.func25 (by kernel_rfl) rfl sPicks (fun E' hE => cready E' id made A2 n2 c2 es ws X2 nx2 cx2 cf now sRd sRd hents hm1) ?_)
  rintro r H' ⟨rfl, rfl⟩
  refine ⟨_, rfl, _, sCat, sConv, ?_⟩
  repeat (first | refine wCh1 ?_ | (refine kCh1 ?_; (first | rintro _ _ ⟨rfl, rfl⟩ | rintro _ _ ⟨_, rfl, rfl⟩ | rintro _ _ ⟨_, _, ⟨_, _⟩, rfl, rfl⟩); try refine ⟨sConv, ?_⟩) | refine Dr.two ?_ ?_)
  refine Dr.go rfl (by rintro k ⟨⟩ <;> decide) sGon (S.call rfl rfl Try.func26 (by kernel_rfl) rfl sPicks (fun E' hE => rready E' gM id made B2 n2 cb2 es ws X2 nx2 cx2 cf now sRd sRd hm1) ?_)
  rintro r H' ⟨rfl, rfl⟩
  refine ⟨_, rfl, _, sCat, sConv, ?_⟩
  repeat (first | refine wCh1 ?_ | (refine kCh1 ?_; (first | rintro _ _ ⟨rfl, rfl⟩ | rintro _ _ ⟨_, rfl, rfl⟩ | rintro _ _ ⟨_, _, ⟨_, _⟩, rfl, rfl⟩); try refine ⟨sConv, ?_⟩) | refine Dr.two ?_ ?_)
  refine Dr.go rfl (by rintro k ⟨⟩ <;> decide) sGon (S.call rfl rfl Try.func19 (by kernel_rfl) rfl sPicks (fun E' hE => cquiet E' id made A2 n2 c2 es ws X2 nx2 cx2 sRd sRd) ?_)
  rintro r H' ⟨rfl, rfl⟩
  refine ⟨_, rfl, _, sCat, sConv, ?_⟩
  repeat (first | refine wCh1 ?_ | (refine kCh1 ?_; (first | rintro _ _ ⟨rfl, rfl⟩ | rintro _ _ ⟨_, rfl, rfl⟩ | rintro _ _ ⟨_, _, ⟨_, _⟩, rfl, rfl⟩); try refine ⟨sConv, ?_⟩) | refine Dr.two ?_ ?_)
  refine Dr.go rfl (by rintro k ⟨⟩ <;> decide) sGon (S.call rfl rfl Try.func27 (by kernel_rfl) rfl sPicks (fun E' hE => rquiet E' gM id made B2 n2 cb2 es ws X2 nx2 cx2 sRd sRd) ?_)
  rintro r H' ⟨rfl, rfl⟩
  refine ⟨_, rfl, _, sCat, sConv, ?_⟩
  repeat (first | refine wCh1 ?_ | (refine kCh1 ?_; (first | rintro _ _ ⟨rfl, rfl⟩ | rintro _ _ ⟨_, rfl, rfl⟩ | rintro _ _ ⟨_, _, ⟨_, _⟩, rfl, rfl⟩); try refine ⟨sConv, ?_⟩) | refine Dr.two ?_ ?_)
  refine Dr.go rfl (by rintro k ⟨⟩ <;> decide) sGon (S.call rfl rfl Try.func28 (by kernel_rfl) rfl sPicks (fun E' hE => cdead E' id made A2 n2 c2 es cf now sRd) ?_)
  rintro r H' ⟨rfl, rfl⟩
  refine ⟨_, rfl, _, sCat, sConv, ?_⟩
  repeat (first | refine wCh1 ?_ | (refine kCh1 ?_; (first | rintro _ _ ⟨rfl, rfl⟩ | rintro _ _ ⟨_, rfl, rfl⟩ | rintro _ _ ⟨_, _, ⟨_, _⟩, rfl, rfl⟩); try refine ⟨sConv, ?_⟩) | refine Dr.two ?_ ?_)
  refine Dr.go rfl (by rintro k ⟨⟩ <;> decide) sGon (S.call rfl rfl Try.func29 (by kernel_rfl) rfl sPicks (fun E' hE => rdead E' gM id made B2 n2 cb2 es X2 nx2 cx2 cf now sRd) ?_)
  rintro r H' ⟨rfl, rfl⟩
  refine ⟨_, rfl, _, sCat, sConv, ?_⟩
  repeat (first | refine wCh1 ?_ | (refine kCh1 ?_; (first | rintro _ _ ⟨rfl, rfl⟩ | rintro _ _ ⟨_, rfl, rfl⟩ | rintro _ _ ⟨_, _, ⟨_, _⟩, rfl, rfl⟩); try refine ⟨sConv, ?_⟩) | refine Dr.two ?_ ?_)
  exact ret1 rfl sRet sConv ((by rw [e3]))
end
end Go.Proofs.Ytiabahpofcapbaa.Sep
