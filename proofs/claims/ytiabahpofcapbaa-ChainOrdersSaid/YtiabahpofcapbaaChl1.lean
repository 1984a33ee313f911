/- the law of chains: few calls, the beginning, what is alike; by parts of memory. -/
import Derived.Test.YtiabahpofcapbaaChr2
namespace Go.Proofs.Ytiabahpofcapbaa.Sep
open Go.RowKit Go.Proofs.Ytiabahpofcapbaa.Reg
open Go.Proofs.Ytiabahpofcapbaa.Mem hiding Rd Own
-- types: entT enrT effT opT
-- recs: idnT_rec effT_rec cfgT_rec entT_rec enrT_rec keyT_rec reqT_rec opT_rec chain_rec chref_rec pair_rec
-- eqs: idnT_eqa effT_eqa entT_eqa enrT_eqa keyT_eqa reqT_eqa
-- funcs
-- flds
set_option maxRecDepth 100000
set_option maxHeartbeats 8000000
def Efs.cut (x : Efs) : Efs := if 8 < x.n then ⟨x.A, 8, x.c, x.l.take 8⟩ else x
def Op21.cut (x : Op21) : Op21 := ⟨x.kind, x.want.cut, x.key, x.now⟩
def few21 (l : List Op21) : List Op21 := (l.take 60).map Op21.cut
/-- what each wants reads so -/
def Ws (E : Env) (l : List Op21) : Prop := ∀ x ∈ l, Rd E effT x.want.A x.want.n x.want.c x.want.l
theorem Ws.sub {E E' : Env} {R : List Asn} {l : List Op21} (hE : Sub E R E') (h : Ws E l) : Ws E' l := fun x hx => (h x hx).sub hE
theorem Rd.efs {E : Env} {x : Efs} (h : Rd E effT x.A x.n x.c x.l) : Rd E effT x.cut.A x.cut.n x.cut.c x.cut.l := by
  unfold Efs.cut
  split
  · have := h.cap
    dsimp only
    exact h.upto (by omega) (by omega) (by omega)
  · exact h
theorem Ws.few {E : Env} {l : List Op21} (h : Ws E l) : Ws E (few21 l) := by
  intro x hx
  obtain ⟨y, hy, rfl⟩ := List.mem_map.1 hx
  exact Rd.efs (h y (List.mem_of_mem_take hy))
theorem few21_n {l : List Op21} : ∀ x ∈ few21 l, x.want.n ≤ 8 := by
  intro x hx
  obtain ⟨y, hy, rfl⟩ := List.mem_map.1 hx
  unfold Op21.cut Efs.cut
  dsimp only
  split
  · exact Nat.le_refl _
  · omega
theorem few21_length {l : List Op21} : (few21 l).length ≤ 60 := by unfold few21; simp; omega
theorem few21_any (E : Env) (A : Option Addr) (n c : Nat) (l : List Op21) (hr : Rd E opT A n c l) (hw : Ws E l) :
    Tri Try.prog E 15 #[.slice A n c] [] fun r H' => ∃ A' n' c', r = .returned (.slice A' n' c') ∧ n' = (few21 l).length ∧ (n' ≤ c' ∧ c' ≤ maxLen) ∧ H' = [own opT A' n' c' (few21 l)] := by
  have hn := hr.len
  have hcap := hr.cap
  have hmax : maxLen = 9223372036854775807 := rfl
  refine tri Try.func15 rfl Try.ntmps15 (by simp) ?_
  repeat (first | refine wCh1 ?_ | (refine kCh1 ?_; (first | rintro _ _ ⟨rfl, rfl⟩ | rintro _ _ ⟨_, rfl, rfl⟩ | rintro _ _ ⟨_, _, ⟨_, _⟩, rfl, rfl⟩); try refine ⟨sConv, ?_⟩) | refine Dr.two ?_ ?_)
  refine C.loop (X := Nat × Option Addr × Nat) (fun x => [(0, .slice A n c), (3, .slice x.2.1 x.1 x.2.2), (4, .int .i64 x.1)])
    (fun x => [own opT x.2.1 x.1 x.2.2 ((l.take x.1).map Op21.cut)]) (fun x => x.1 ≤ n ∧ x.1 ≤ 60 ∧ x.1 ≤ x.2.2 ∧ x.2.2 ≤ maxLen) (fun x => n - x.1) (0, none, 0) sHolds (by show Conv _ _ [own opT none 0 0 ((l.take 0).map Op21.cut)]; rw [List.take_zero]; exact Conv.nil0 opT none) ⟨Nat.zero_le _, Nat.zero_le _, Nat.le_refl _, Nat.zero_le _⟩ ?_
  rintro ⟨i, O, co⟩ G ⟨hi, hi60, hco, hco2⟩
  dsimp only at hi hi60 hco hco2 ⊢
  by_cases hlt : i < n ∧ i < 60
  · obtain ⟨h1, h2⟩ := hlt
    have hx : l[i]? = some l[i] := List.getElem?_eq_getElem (by omega)
    have hst : (l.take (i + 1)).map Op21.cut = (l.take i).map Op21.cut ++ [l[i].cut] := by rw [List.take_succ_eq_append_getElem (by omega), List.map_append]; rfl
    have hxw : Rd E effT l[i].want.A l[i].want.n l[i].want.c l[i].want.l := hw _ (List.getElem_mem _)
    generalize l[i] = x at hx hst hxw
    have hxc := hxw.cap
    by_cases h8 : 8 < x.want.n
    · have hcut : x.cut = ⟨x.kind, ⟨x.want.A, 8, x.want.c, x.want.l.take 8⟩, x.key, x.now⟩ := by unfold Op21.cut Efs.cut; rw [if_pos h8]
      rw [hcut] at hst
      repeat (first | refine wCh1 ?_ | (refine kCh1 ?_; (first | rintro _ _ ⟨rfl, rfl⟩ | rintro _ _ ⟨_, rfl, rfl⟩ | rintro _ _ ⟨_, _, ⟨_, _⟩, rfl, rfl⟩); try refine ⟨sConv, ?_⟩) | refine Dr.two ?_ ?_)
      refine L.stepK (by decide) (S.buildSlice1K (T := opT) (e := ⟨x.kind, ⟨x.want.A, 8, x.want.c, x.want.l.take 8⟩, x.key, x.now⟩) rfl rfl rfl rfl (by decide)) ?_; rintro _ _ ⟨_, rfl, rfl⟩
      repeat (first | refine wCh1 ?_ | (refine kCh1 ?_; (first | rintro _ _ ⟨rfl, rfl⟩ | rintro _ _ ⟨_, rfl, rfl⟩ | rintro _ _ ⟨_, _, ⟨_, _⟩, rfl, rfl⟩); try refine ⟨sConv, ?_⟩) | refine Dr.two ?_ ?_)
      rw [← hst]
      rename_i A2 c2 k1 k2
      exact ⟨(i + 1, A2, c2), sHolds, sConv, ⟨by dsimp only; omega, by dsimp only; omega, k1, k2⟩, by dsimp only; omega⟩
    · have hcut : x.cut = x := by unfold Op21.cut Efs.cut; rw [if_neg h8]
      rw [hcut] at hst
      repeat (first | refine wCh1 ?_ | (refine kCh1 ?_; (first | rintro _ _ ⟨rfl, rfl⟩ | rintro _ _ ⟨_, rfl, rfl⟩ | rintro _ _ ⟨_, _, ⟨_, _⟩, rfl, rfl⟩); try refine ⟨sConv, ?_⟩) | refine Dr.two ?_ ?_)
      rw [← hst]
      rename_i A2 c2 k1 k2
      exact ⟨(i + 1, A2, c2), sHolds, sConv, ⟨by dsimp only; omega, by dsimp only; omega, k1, k2⟩, by dsimp only; omega⟩
  · have hfin : (l.take i).map Op21.cut = few21 l := by
      unfold few21
      by_cases h60 : i = 60
      · rw [h60]
      · rw [List.take_of_length_le (by omega), List.take_of_length_le (by omega)]
    have hlen : i = (few21 l).length := by rw [← hfin]; simp; omega
    rw [hfin]
    by_cases h1 : i < n
    · repeat (first | refine wCh1 ?_ | (refine kCh1 ?_; (first | rintro _ _ ⟨rfl, rfl⟩ | rintro _ _ ⟨_, rfl, rfl⟩ | rintro _ _ ⟨_, _, ⟨_, _⟩, rfl, rfl⟩); try refine ⟨sConv, ?_⟩) | refine Dr.two ?_ ?_)
      exact ret1 rfl sRet sConv (⟨_, _, _, rfl, hlen, ⟨hco, hco2⟩, rfl⟩)
    · repeat (first | refine wCh1 ?_ | (refine kCh1 ?_; (first | rintro _ _ ⟨rfl, rfl⟩ | rintro _ _ ⟨_, rfl, rfl⟩ | rintro _ _ ⟨_, _, ⟨_, _⟩, rfl, rfl⟩); try refine ⟨sConv, ?_⟩) | refine Dr.two ?_ ?_)
      exact ret1 rfl sRet sConv (⟨_, _, _, rfl, hlen, ⟨hco, hco2⟩, rfl⟩)
abbrev pr (gp gM : Nat) (id : Idn) (made : Int) (A : Option Addr) (n c : Nat) : Asn := blk gp 43 [.int .i64 id.rep, .int .i64 id.seq, .int .i64 made, .slice A n c, .pointer (some ⟨gM, 0, none⟩)]
theorem begin21 (E : Env) (id : Idn) : Tri Try.prog E 13 #[.agg id.cs.toArray] [] fun r H' => ∃ gp gM, r = .returned (.pointer (some ⟨gp, 0, none⟩)) ∧ H' = [pr gp gM id 0 none 0 0, mch gM id 0 none 0 0 none 0 0] := by
  refine tri Try.func13 rfl Try.ntmps13 (by simp) ?_
  repeat (first | refine wCh1 ?_ | (refine kCh1 ?_; (first | rintro _ _ ⟨rfl, rfl⟩ | rintro _ _ ⟨_, rfl, rfl⟩ | rintro _ _ ⟨_, _, ⟨_, _⟩, rfl, rfl⟩); try refine ⟨sConv, ?_⟩) | refine Dr.two ?_ ?_)
  exact ret1 rfl sRet sConv (⟨_, _, rfl, rfl⟩)
theorem same21 (E : Env) (g : Nat) (id : Idn) (made : Int) (A : Option Addr) (n c : Nat) (l : List Ent) (B : Option Addr) (cb : Nat) (X : Option Addr) (nx cx : Nat) (hr : Rd E entT A n c l) (hq : Rd E enrT B n cb l) :
    Tri Try.prog E 24 #[chn id made A n c, .pointer (some ⟨g, 0, none⟩)] [mch g id made B n cb X nx cx] fun r H' => r = .returned (.bool true) ∧ H' = [mch g id made B n cb X nx cx] := by
  have hn := hr.len
  have hcap := hr.cap
  have hcapb := hq.cap
  have hmax : maxLen = 9223372036854775807 := rfl
  have hd : (!decide ((⟨id.rep, id.seq⟩ : Idn) = ⟨id.rep, id.seq⟩)) = false := by rw [decide_eq_true rfl]; rfl
  refine tri Try.func24 rfl Try.ntmps24 (by simp) ?_
  repeat (first | refine wCh1 ?_ | (refine kCh1 ?_; (first | rintro _ _ ⟨rfl, rfl⟩ | rintro _ _ ⟨_, rfl, rfl⟩ | rintro _ _ ⟨_, _, ⟨_, _⟩, rfl, rfl⟩); try refine ⟨sConv, ?_⟩) | refine Dr.two ?_ ?_)
  refine C.regionA 100000 (.one 0 false (.one 1 false (.one 2 false (.one 3 false (.one 4 false (.one 5 false (.one 6 false (.one 7 false (.one 8 false (.one 9 false (.one 10 false (.one 11 false (.one 12 false (.one 13 false (.one 14 false (.one 15 false (.one 16 false (.one 17 false (.one 18 false (.one 19 false (.one 20 false (.one 21 false (.one 22 false (.one 23 false (.one 24 false (.one 25 false (.one 26 false .nil))))))))))))))))))))))))))) _ (by kernel_rfl) (by kernel_rfl) Conv.refl ?_
  repeat (first | refine wCh1 ?_ | (refine kCh1 ?_; (first | rintro _ _ ⟨rfl, rfl⟩ | rintro _ _ ⟨_, rfl, rfl⟩ | rintro _ _ ⟨_, _, ⟨_, _⟩, rfl, rfl⟩); try refine ⟨sConv, ?_⟩) | refine Dr.two ?_ ?_)
  rename_i g2
  refine C.loop (X := Nat) (fun i => [(1, .pointer (some ⟨g, 0, none⟩)), (2, .pointer (some ⟨g2, 0, none⟩)), (5, .int .i64 i)])
    (fun _ => [blk g2 33 [.int .i64 id.rep, .int .i64 id.seq, .int .i64 made, .slice A n c], mch g id made B n cb X nx cx]) (fun i => i ≤ n) (fun i => n - i) 0 sHolds sConv (Nat.zero_le _) ?_
  rintro i G hi
  by_cases hlt : i < n
  · have hx : l[i]? = some l[i] := List.getElem?_eq_getElem (by omega)
    generalize l[i] = e at hx
    have hde : (!decide ((⟨e.ord, ⟨e.what.kind, e.what.a, e.what.n, ⟨e.what.ref.rep, e.what.ref.seq⟩⟩, e.sent, e.last, e.acked, e.gone, e.back, e.backLast⟩ : Ent) = ⟨e.ord, ⟨e.what.kind, e.what.a, e.what.n, ⟨e.what.ref.rep, e.what.ref.seq⟩⟩, e.sent, e.last, e.acked, e.gone, e.back, e.backLast⟩)) = false := by rw [decide_eq_true rfl]; rfl
    repeat (first | refine wCh1 ?_ | (refine kCh1 ?_; (first | rintro _ _ ⟨rfl, rfl⟩ | rintro _ _ ⟨_, rfl, rfl⟩ | rintro _ _ ⟨_, _, ⟨_, _⟩, rfl, rfl⟩); try refine ⟨sConv, ?_⟩) | refine Dr.two ?_ ?_)
    refine C.regionA 100000 (.one 0 false (.one 1 false (.one 2 false (.one 3 false (.one 4 false (.one 5 false (.one 6 false (.one 7 false (.one 8 false (.one 9 false (.one 10 false (.one 11 false (.one 12 false (.one 13 false (.one 14 false (.one 15 false (.one 16 false (.one 17 false (.one 18 false (.one 19 false (.one 20 false (.one 21 false (.one 22 false (.one 23 false (.one 24 false .nil))))))))))))))))))))))))) _ (by kernel_rfl) (by kernel_rfl) Conv.refl ?_
    repeat (first | refine wCh1 ?_ | (refine kCh1 ?_; (first | rintro _ _ ⟨rfl, rfl⟩ | rintro _ _ ⟨_, rfl, rfl⟩ | rintro _ _ ⟨_, _, ⟨_, _⟩, rfl, rfl⟩); try refine ⟨sConv, ?_⟩) | refine Dr.two ?_ ?_)
    exact ⟨i + 1, sHolds, sConv, by omega, by omega⟩
  · repeat (first | refine wCh1 ?_ | (refine kCh1 ?_; (first | rintro _ _ ⟨rfl, rfl⟩ | rintro _ _ ⟨_, rfl, rfl⟩ | rintro _ _ ⟨_, _, ⟨_, _⟩, rfl, rfl⟩); try refine ⟨sConv, ?_⟩) | refine Dr.two ?_ ?_)
    exact ret1 rfl sRet sConv (⟨rfl, rfl⟩)
end Go.Proofs.Ytiabahpofcapbaa.Sep
