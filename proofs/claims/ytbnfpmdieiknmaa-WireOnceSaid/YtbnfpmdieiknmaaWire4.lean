/- the law of the wire: few calls, all but one, one call; by parts of memory. -/
import Derived.Test.YtbnfpmdieiknmaaWire3
namespace Go.Proofs.Ytbnfpmdieiknmaa.Sep
open Go.RowKit Go.Proofs.Ytbnfpmdieiknmaa.Reg
open Go.Proofs.Ytbnfpmdieiknmaa.Mem hiding Rd Own
-- types: octT letT pltT op29T
-- recs: letT_rec wire_rec pltT_rec op29T_rec
-- funcs
-- flds
set_option maxRecDepth 100000
set_option maxHeartbeats 8000000
theorem Conv.ownBack {α : Type} {T : Ty α} {E : Env} {A : Option Addr} {n c k : Nat} {l l' : List α} {H H' : List Asn} (hk : k ≤ n) (hl : l.take k = l') (hr : Repl (own T A n c l) [own T A k c l'] H H') : Conv E H H' := by
  subst hl; exact Conv.ownTake hk hr
def Op29.cut (x : Op29) : Op29 := if 40 < x.m then ⟨x.kind, x.i, x.n, x.A, 40, x.c, x.b.take 40⟩ else x
def few29 (l : List Op29) : List Op29 := (l.take 160).map Op29.cut
/-- what each has reads so -/
def Bs (E : Env) (l : List Op29) : Prop := ∀ x ∈ l, Rd E octT x.A x.m x.c x.b
theorem Bs.sub {E E' : Env} {R : List Asn} {l : List Op29} (hE : Sub E R E') (h : Bs E l) : Bs E' l := fun x hx => (h x hx).sub hE
theorem Rd.op29 {E : Env} {x : Op29} (h : Rd E octT x.A x.m x.c x.b) : Rd E octT x.cut.A x.cut.m x.cut.c x.cut.b := by
  unfold Op29.cut
  split
  · have := h.cap
    dsimp only
    exact h.upto (by omega) (by omega) (by omega)
  · exact h
theorem Bs.few {E : Env} {l : List Op29} (h : Bs E l) : Bs E (few29 l) := by
  intro x hx
  obtain ⟨y, hy, rfl⟩ := List.mem_map.1 hx
  exact Rd.op29 (h y (List.mem_of_mem_take hy))
theorem few29_m {l : List Op29} : ∀ x ∈ few29 l, x.m ≤ 40 := by
  intro x hx
  obtain ⟨y, hy, rfl⟩ := List.mem_map.1 hx
  unfold Op29.cut
  split
  · exact Nat.le_refl _
  · omega
def Op29.ok (x : Op29) : Prop := (-9223372036854775808 ≤ x.n ∧ x.n ≤ 9223372036854775807)
theorem few29_ok {l : List Op29} (h : ∀ x ∈ l, x.ok) : ∀ x ∈ few29 l, x.ok := by
  intro x hx
  obtain ⟨y, hy, rfl⟩ := List.mem_map.1 hx
  have := h y (List.mem_of_mem_take hy)
  unfold Op29.cut
  split
  · exact this
  · exact this
theorem few29_any (E : Env) (A : Option Addr) (n c : Nat) (l : List Op29) (hr : Rd E op29T A n c l) (hw : Bs E l) :
    Tri Try.prog E 24 #[.slice A n c] [] fun r H' => ∃ A' n' c', r = .returned (.slice A' n' c') ∧ n' = (few29 l).length ∧ n' ≤ 160 ∧ (n' ≤ c' ∧ c' ≤ maxLen) ∧ H' = [own op29T A' n' c' (few29 l)] := by
  have hn := hr.len
  have hcap := hr.cap
  have hmax : maxLen = 9223372036854775807 := rfl
  refine tri Try.func24 rfl Try.ntmps24 (by simp) ?_
  repeat (first | refine wW29 ?_ | (refine kW29 ?_; (first | rintro _ _ ⟨rfl, rfl⟩ | rintro _ _ ⟨_, rfl, rfl⟩ | rintro _ _ ⟨_, _, ⟨_, _⟩, rfl, rfl⟩); try refine ⟨sConv, ?_⟩) | refine Dr.two ?_ ?_)
  refine C.loop (X := Nat × Option Addr × Nat) (fun x => [(0, .slice A n c), (3, .slice x.2.1 x.1 x.2.2), (4, .int .i64 x.1)])
    (fun x => [own op29T x.2.1 x.1 x.2.2 ((l.take x.1).map Op29.cut)]) (fun x => x.1 ≤ n ∧ x.1 ≤ 160 ∧ x.1 ≤ x.2.2 ∧ x.2.2 ≤ maxLen) (fun x => n - x.1) (0, none, 0) sHolds (by show Conv _ _ [own op29T none 0 0 ((l.take 0).map Op29.cut)]; rw [List.take_zero]; exact Conv.nil0 op29T none) ⟨Nat.zero_le _, Nat.zero_le _, Nat.le_refl _, Nat.zero_le _⟩ ?_
  rintro ⟨i, O, co⟩ G ⟨hi, hi60, hco, hco2⟩
  dsimp only at hi hi60 hco hco2 ⊢
  by_cases hlt : i < n ∧ i < 160
  · obtain ⟨h1, h2⟩ := hlt
    have hx : l[i]? = some l[i] := List.getElem?_eq_getElem (by omega)
    have hst : (l.take (i + 1)).map Op29.cut = (l.take i).map Op29.cut ++ [l[i].cut] := by rw [List.take_succ_eq_append_getElem (by omega), List.map_append]; rfl
    have hxw : Rd E octT l[i].A l[i].m l[i].c l[i].b := hw _ (List.getElem_mem _)
    generalize l[i] = x at hx hst hxw
    have hxc := hxw.cap
    by_cases h8 : 40 < x.m
    · have hcut : x.cut = ⟨x.kind, x.i, x.n, x.A, 40, x.c, x.b.take 40⟩ := by unfold Op29.cut; rw [if_pos h8]
      rw [hcut] at hst
      repeat (first | refine wW29 ?_ | (refine kW29 ?_; (first | rintro _ _ ⟨rfl, rfl⟩ | rintro _ _ ⟨_, rfl, rfl⟩ | rintro _ _ ⟨_, _, ⟨_, _⟩, rfl, rfl⟩); try refine ⟨sConv, ?_⟩) | refine Dr.two ?_ ?_)
      refine L.stepK (by decide) (S.buildSlice1K (T := op29T) (e := ⟨x.kind, x.i, x.n, x.A, 40, x.c, x.b.take 40⟩) rfl rfl rfl rfl (by decide)) ?_; rintro _ _ ⟨_, rfl, rfl⟩
      repeat (first | refine wW29 ?_ | (refine kW29 ?_; (first | rintro _ _ ⟨rfl, rfl⟩ | rintro _ _ ⟨_, rfl, rfl⟩ | rintro _ _ ⟨_, _, ⟨_, _⟩, rfl, rfl⟩); try refine ⟨sConv, ?_⟩) | refine Dr.two ?_ ?_)
      rw [← hst]
      rename_i A2 c2 k1 k2
      exact ⟨(i + 1, A2, c2), sHolds, sConv, ⟨by dsimp only; omega, by dsimp only; omega, k1, k2⟩, by dsimp only; omega⟩
    · have hcut : x.cut = x := by unfold Op29.cut; rw [if_neg h8]
      rw [hcut] at hst
      repeat (first | refine wW29 ?_ | (refine kW29 ?_; (first | rintro _ _ ⟨rfl, rfl⟩ | rintro _ _ ⟨_, rfl, rfl⟩ | rintro _ _ ⟨_, _, ⟨_, _⟩, rfl, rfl⟩); try refine ⟨sConv, ?_⟩) | refine Dr.two ?_ ?_)
      rw [← hst]
      rename_i A2 c2 k1 k2
      exact ⟨(i + 1, A2, c2), sHolds, sConv, ⟨by dsimp only; omega, by dsimp only; omega, k1, k2⟩, by dsimp only; omega⟩
  · have hfin : (l.take i).map Op29.cut = few29 l := by
      unfold few29
      by_cases h60 : i = 160
      · rw [h60]
      · rw [List.take_of_length_le (by omega), List.take_of_length_le (by omega)]
    have hlen : i = (few29 l).length := by rw [← hfin]; simp; omega
    rw [hfin]
    by_cases h1 : i < n
    · repeat (first | refine wW29 ?_ | (refine kW29 ?_; (first | rintro _ _ ⟨rfl, rfl⟩ | rintro _ _ ⟨_, rfl, rfl⟩ | rintro _ _ ⟨_, _, ⟨_, _⟩, rfl, rfl⟩); try refine ⟨sConv, ?_⟩) | refine Dr.two ?_ ?_)
      exact ret1 rfl sRet sConv (⟨_, _, _, rfl, hlen, hi60, ⟨hco, hco2⟩, rfl⟩)
    · repeat (first | refine wW29 ?_ | (refine kW29 ?_; (first | rintro _ _ ⟨rfl, rfl⟩ | rintro _ _ ⟨_, rfl, rfl⟩ | rintro _ _ ⟨_, _, ⟨_, _⟩, rfl, rfl⟩); try refine ⟨sConv, ?_⟩) | refine Dr.two ?_ ?_)
      exact ret1 rfl sRet sConv (⟨_, _, _, rfl, hlen, hi60, ⟨hco, hco2⟩, rfl⟩)
theorem without29 (E : Env) (B : Option Addr) (m d : Nat) (ps : List Plt) (i : Nat) (hr : Rd E pltT B m d ps) (hi : i < m) (hm : m ≤ 1000) :
    Tri Try.prog E 86 #[.slice B m d, .int .i64 i] [] fun r H' => ∃ A' c', r = .returned (.slice A' (m - 1) c') ∧ (m - 1 ≤ c' ∧ c' ≤ maxLen) ∧ H' = [own pltT A' (m - 1) c' (ps.eraseIdx i)] := by
  have hmax : maxLen = 9223372036854775807 := rfl
  have hcap := hr.cap
  have hl := hr.len
  have herase : ps.take i ++ ps.drop (i + 1) = ps.eraseIdx i := (List.eraseIdx_eq_take_drop_succ ..).symm
  have hs : IntKind.i64.wrap ((i : Int) + 1) = ((i + 1 : Nat) : Int) := by rw [IntWalk.i64_in _ (by omega)]; omega
  have hnn : i + (m - (i + 1)) = m - 1 := by omega
  refine tri Try.func86 rfl Try.ntmps86 (by simp) ?_
  repeat (first | refine wW29 ?_ | (refine kW29 ?_; (first | rintro _ _ ⟨rfl, rfl⟩ | rintro _ _ ⟨_, rfl, rfl⟩ | rintro _ _ ⟨_, _, ⟨_, _⟩, rfl, rfl⟩); try refine ⟨sConv, ?_⟩) | refine Dr.two ?_ ?_)
  rw [herase, hnn]
  rename_i h1 h2
  rw [hnn] at h1
  exact ret1 rfl sRet sConv (⟨_, _, rfl, ⟨h1, h2⟩, rfl⟩)
end Go.Proofs.Ytbnfpmdieiknmaa.Sep
