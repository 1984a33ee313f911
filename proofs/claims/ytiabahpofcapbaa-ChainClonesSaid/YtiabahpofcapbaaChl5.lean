/- the law ChainClones, by parts of memory. -/
import Derived.Test.YtiabahpofcapbaaChl4
namespace Go.Proofs.Ytiabahpofcapbaa.Sep
open Go.RowKit Go.Proofs.Ytiabahpofcapbaa.Reg
open Go.Proofs.Ytiabahpofcapbaa.Mem hiding Rd Own
-- types: entT enrT effT opT
-- recs: idnT_rec effT_rec cfgT_rec entT_rec enrT_rec keyT_rec reqT_rec opT_rec chain_rec chref_rec pair_rec
-- eqs: idnT_eqa effT_eqa entT_eqa enrT_eqa keyT_eqa reqT_eqa
-- funcs
-- flds
set_option maxRecDepth 100000
set_option maxHeartbeats 8000000
def Ent.ord5 (e : Ent) : Ent := ⟨-5, e.what, e.sent, e.last, e.acked, e.gone, e.back, e.backLast⟩
theorem ord5_set (e : Ent) : Fset entT e 0 (.int .i64 (-5)) e.ord5 := Fset.mk1 rfl (by decide) rfl
theorem few21_one (x : Op21) : few21 [x] = [x.cut] := rfl
theorem clones21 (E : Env) (id : Idn) (A : Option Addr) (n c : Nat) (l : List Op21) (x : Op21) (hr : Rd E opT A n c l) (hin : ∀ x ∈ l, In21 E x) (hx : In21 E x) : Tri Try.prog E 7 #[.agg id.cs.toArray, .slice A n c, .agg x.cs.toArray] [] fun r _ => r = .returned (.bool true) := by
  have hws := In21.ws hin
  have hops := few21_ok hin
  have z0 : 0 ≤ 0 ∧ 0 ≤ maxLen := ⟨Nat.le_refl _, Nat.zero_le _⟩
  have hmax : maxLen = 9223372036854775807 := rfl
  have hxo : x.cut.ok := few21_ok (l := [x]) (fun y hy => by rw [List.mem_singleton] at hy; rw [hy]; exact hx) x.cut (by rw [few21_one]; exact List.mem_singleton.2 rfl)
  refine tri Try.func7 rfl Try.ntmps7 (by simp) ?_
  repeat (first | refine wCh1 ?_ | (refine kCh1 ?_; (first | rintro _ _ ⟨rfl, rfl⟩ | rintro _ _ ⟨_, rfl, rfl⟩ | rintro _ _ ⟨_, _, ⟨_, _⟩, rfl, rfl⟩); try refine ⟨sConv, ?_⟩) | refine Dr.two ?_ ?_)
  refine L.step (by decide) (S.call rfl rfl Try.func12 (by kernel_rfl) rfl sPicks (fun E' hE => alive21 E') ?_)
  rintro r H' ⟨rfl, rfl⟩
  refine ⟨_, rfl, _, sCat, ?_⟩
  repeat (first | refine wCh1 ?_ | (refine kCh1 ?_; (first | rintro _ _ ⟨rfl, rfl⟩ | rintro _ _ ⟨_, rfl, rfl⟩ | rintro _ _ ⟨_, _, ⟨_, _⟩, rfl, rfl⟩); try refine ⟨sConv, ?_⟩) | refine Dr.two ?_ ?_)
  refine L.step (by decide) (S.call rfl rfl Try.func13 (by kernel_rfl) rfl sPicks (fun E' hE => begin21 E' id) ?_)
  rintro r H' ⟨gp, gM, rfl, rfl⟩
  refine ⟨_, rfl, _, sCat, ?_⟩
  repeat (first | refine wCh1 ?_ | (refine kCh1 ?_; (first | rintro _ _ ⟨rfl, rfl⟩ | rintro _ _ ⟨_, rfl, rfl⟩ | rintro _ _ ⟨_, _, ⟨_, _⟩, rfl, rfl⟩); try refine ⟨sConv, ?_⟩) | refine Dr.two ?_ ?_)
  refine L.step (by decide) (S.call rfl rfl Try.func15 (by kernel_rfl) rfl sPicks (fun E' hE => few21_any E' A n c l sRd (hws.sub hE)) ?_)
  rintro r H' ⟨O, m, co, rfl, hm, hco, rfl⟩
  refine ⟨_, rfl, _, sCat, ?_⟩
  repeat (first | refine wCh1 ?_ | (refine kCh1 ?_; (first | rintro _ _ ⟨rfl, rfl⟩ | rintro _ _ ⟨_, rfl, rfl⟩ | rintro _ _ ⟨_, _, ⟨_, _⟩, rfl, rfl⟩); try refine ⟨sConv, ?_⟩) | refine Dr.two ?_ ?_)
  refine L.conv conv3 ?_
  refine L.step (by decide) (S.call rfl rfl Try.func14 (by kernel_rfl) rfl sPicks (fun E' hE => run21 E' gp gM id s0 none 0 0 none 0 none 0 0 O m co (few21 l) sRd (hws.sub hE).few s0_ok hops rfl z0 z0 rfl z0) ?_)
  unfold Step21
  rintro r H' ⟨A2, n2, c2, B2, cb2, X2, nx2, cx2, rfl, k1, k2, k3, k4, k5, rfl⟩
  refine ⟨_, rfl, _, sCat, ?_⟩
  have hs := S21.run_ok (id := id) s0_ok hops
  generalize S21.run id s0 (few21 l) = s at *
  have h0 := hs.made0
  have h1 := hs.made1
  have h2 := hs.len
  have h3 := hs.wide
  have hl2 : n2 ≤ 1000000 := by omega
  have hl3 : nx2 ≤ 1000000 := by omega
  repeat (first | refine wCh1 ?_ | (refine kCh1 ?_; (first | rintro _ _ ⟨rfl, rfl⟩ | rintro _ _ ⟨_, rfl, rfl⟩ | rintro _ _ ⟨_, _, ⟨_, _⟩, rfl, rfl⟩); try refine ⟨sConv, ?_⟩) | refine Dr.two ?_ ?_)
  refine L.step (by decide) (S.call rfl rfl Try.func22 (by kernel_rfl) rfl sPicks (fun E' hE => cclone E' id s.made A2 n2 c2 s.l sRd hl2) ?_)
  rintro r H' ⟨A3, c3, rfl, -, rfl⟩
  refine ⟨_, rfl, _, sCat, ?_⟩
  repeat (first | refine wCh1 ?_ | (refine kCh1 ?_; (first | rintro _ _ ⟨rfl, rfl⟩ | rintro _ _ ⟨_, rfl, rfl⟩ | rintro _ _ ⟨_, _, ⟨_, _⟩, rfl, rfl⟩); try refine ⟨sConv, ?_⟩) | refine Dr.two ?_ ?_)
  refine L.step (by decide) (S.call rfl rfl Try.func23 (by kernel_rfl) rfl sPicks (fun E' hE => rclone E' id s.made B2 n2 cb2 s.l s.w X2 nx2 cx2 sRd sRd hl2 hl3) ?_)
  rintro r H' ⟨B3, cb3, X3, cx3, rfl, rfl⟩
  refine ⟨_, rfl, _, sCat, ?_⟩
  repeat (first | refine wCh1 ?_ | (refine kCh1 ?_; (first | rintro _ _ ⟨rfl, rfl⟩ | rintro _ _ ⟨_, rfl, rfl⟩ | rintro _ _ ⟨_, _, ⟨_, _⟩, rfl, rfl⟩); try refine ⟨sConv, ?_⟩) | refine Dr.two ?_ ?_)
  rename_i g5 g8 g9 gq
  refine L.step (by decide) (S.call rfl rfl Try.func15 (by kernel_rfl) rfl sPicks (fun E' hE => few21_any E' (some ⟨gq, 0, none⟩) 1 1 [x] sRd (fun y hy => by rw [List.mem_singleton] at hy; rw [hy]; exact hx.1.sub hE)) ?_)
  rw [few21_one]
  rintro r H' ⟨O2, m2, co2, rfl, hm2, hco2, rfl⟩
  change m2 = 1 at hm2
  subst hm2
  refine ⟨_, rfl, _, sCat, ?_⟩
  have hx0 : ([x.cut] : List Op21)[0]? = some x.cut := rfl
  repeat (first | refine wCh1 ?_ | (refine kCh1 ?_; (first | rintro _ _ ⟨rfl, rfl⟩ | rintro _ _ ⟨_, rfl, rfl⟩ | rintro _ _ ⟨_, _, ⟨_, _⟩, rfl, rfl⟩); try refine ⟨sConv, ?_⟩) | refine Dr.two ?_ ?_)
  refine L.step (by decide) (S.call rfl rfl Try.func17 (by kernel_rfl) rfl sPicks (fun E' hE => step21_any E' gp gM id s A2 n2 c2 B2 cb2 X2 nx2 cx2 x.cut hs hxo ((Rd.efs hx.1).sub hE) k1 k3 k4 k2 k5) ?_)
  unfold Step21
  rintro r H' ⟨A4, n4, c4, B4, cb4, X4, nx4, cx4, rfl, j1, j2, j3, j4, j5, rfl⟩
  refine ⟨_, rfl, _, sCat, ?_⟩
  generalize S21.step id s x.cut = t at *
  repeat (first | refine wCh1 ?_ | (refine kCh1 ?_; (first | rintro _ _ ⟨rfl, rfl⟩ | rintro _ _ ⟨_, rfl, rfl⟩ | rintro _ _ ⟨_, _, ⟨_, _⟩, rfl, rfl⟩); try refine ⟨sConv, ?_⟩) | refine Dr.two ?_ ?_)
  refine C.loop (X := Nat × List Ent) (fun y => [(7, .pointer (some ⟨gp, 0, none⟩)), (8, .pointer (some ⟨g8, 0, none⟩)), (9, .pointer (some ⟨g9, 0, none⟩)), (11, .int .i64 y.1)])
    (fun y => [pr gp gM id t.made A4 n4 c4, own entT A4 n4 c4 y.2, blk g8 33 [.int .i64 id.rep, .int .i64 id.seq, .int .i64 s.made, .slice A3 n2 c3], mch g9 id s.made B3 n2 cb3 X3 nx2 cx3, own entT A3 n2 c3 s.l, own enrT B3 n2 cb3 s.l]) (fun y => y.1 ≤ n4 ∧ y.2.length = n4) (fun y => n4 - y.1) (0, t.l) sHolds sConv ⟨Nat.zero_le _, j1.symm⟩ ?_
  rintro ⟨i, y⟩ G ⟨hi, hy⟩
  dsimp only at hi hy ⊢
  by_cases hlt : i < n4
  · have he : y[i]? = some y[i] := List.getElem?_eq_getElem (by omega)
    generalize y[i] = e at he
    repeat (first | refine wCh1 ?_ | (refine kCh1 ?_; (first | rintro _ _ ⟨rfl, rfl⟩ | rintro _ _ ⟨_, rfl, rfl⟩ | rintro _ _ ⟨_, _, ⟨_, _⟩, rfl, rfl⟩); try refine ⟨sConv, ?_⟩) | refine Dr.two ?_ ?_)
    refine L.step0K (S.storeF0K (T := entT) (v := .int .i64 (-5)) rfl rfl rfl sRepl (ord5_set e) rfl he (by intro y hy; simp [Value.cells] at hy; subst hy; rfl) rfl rfl) ?_
    rintro _ _ ⟨rfl, rfl⟩
    repeat (first | refine wCh1 ?_ | (refine kCh1 ?_; (first | rintro _ _ ⟨rfl, rfl⟩ | rintro _ _ ⟨_, rfl, rfl⟩ | rintro _ _ ⟨_, _, ⟨_, _⟩, rfl, rfl⟩); try refine ⟨sConv, ?_⟩) | refine Dr.two ?_ ?_)
    exact ⟨(i + 1, y.set i e.ord5), sHolds, sConv, ⟨by dsimp only; omega, by dsimp only; rw [List.length_set]; exact hy⟩, by dsimp only; omega⟩
  · repeat (first | refine wCh1 ?_ | (refine kCh1 ?_; (first | rintro _ _ ⟨rfl, rfl⟩ | rintro _ _ ⟨_, rfl, rfl⟩ | rintro _ _ ⟨_, _, ⟨_, _⟩, rfl, rfl⟩); try refine ⟨sConv, ?_⟩) | refine Dr.two ?_ ?_)
    refine L.step (by decide) (S.call rfl rfl Try.func24 (by kernel_rfl) rfl sPicks (fun E' hE => same21 E' g9 id s.made A3 n2 c3 s.l B3 cb3 X3 nx2 cx3 sRd sRd) ?_)
    rintro r H' ⟨rfl, rfl⟩
    refine ⟨_, rfl, _, sCat, ?_⟩
    repeat (first | refine wCh1 ?_ | (refine kCh1 ?_; (first | rintro _ _ ⟨rfl, rfl⟩ | rintro _ _ ⟨_, rfl, rfl⟩ | rintro _ _ ⟨_, _, ⟨_, _⟩, rfl, rfl⟩); try refine ⟨sConv, ?_⟩) | refine Dr.two ?_ ?_)
    exact ret1 rfl sRet sConv (rfl)
end Go.Proofs.Ytiabahpofcapbaa.Sep
