/- wire: a clone; by parts of memory. -/
import Derived.Test.YtbnfpmdieiknmaaWire2
namespace Go.Proofs.Ytbnfpmdieiknmaa.Sep
open Go.RowKit Go.Proofs.Ytbnfpmdieiknmaa.Reg
open Go.Proofs.Ytbnfpmdieiknmaa.Mem hiding Rd Own
-- types: octT letT pltT op29T
-- recs: letT_rec wire_rec pltT_rec op29T_rec
-- funcs
-- flds
set_option maxRecDepth 100000
set_option maxHeartbeats 8000000
def Letv.p (x : Letv) : Plt := ⟨x.to, x.b, x.broken⟩
def wOk (ls : List Letv) : Prop := ∀ e ∈ ls, e.n = e.b.length ∧ e.n ≤ 140737488355300
theorem wOk.add {ls : List Letv} (h : wOk ls) {e : Letv} (h1 : e.n = e.b.length) (h2 : e.n ≤ 140737488355300) : wOk (ls ++ [e]) := by
  intro x hx
  rcases List.mem_append.1 hx with hx | hx
  · exact h x hx
  · rw [List.mem_singleton] at hx; subst hx; exact ⟨h1, h2⟩
theorem take_map_add {X : Type} {l : List X} {i : Nat} {e : X} {Z : Type} {f : X → Z} (he : l[i]? = some e) : (l.take (i + 1)).map f = (l.take i).map f ++ [f e] := by
  obtain ⟨h, rfl⟩ := List.getElem?_eq_some_iff.1 he
  rw [List.take_succ_eq_append_getElem h, List.map_append]; rfl
section
variable (E : Env) (g : Nat) (A : Option Addr) (n c : Nat) (ls : List Letv)
theorem wclone_nil : Tri Try.prog E 46 #[.pointer none] [] fun r H' => r = .returned (.pointer none) ∧ H' = [] := by
  refine tri Try.func46 rfl Try.ntmps46 (by simp) ?_
  repeat (first | refine wW29 ?_ | (refine kW29 ?_; (first | rintro _ _ ⟨rfl, rfl⟩ | rintro _ _ ⟨_, rfl, rfl⟩ | rintro _ _ ⟨_, _, ⟨_, _⟩, rfl, rfl⟩); try refine ⟨sConv, ?_⟩) | refine Dr.two ?_ ?_)
  exact ret1 rfl sRet sConv (⟨rfl, rfl⟩)
/-- what is read of a wire that is cloned -/
structure RdW (E : Env) (g : Nat) (A : Option Addr) (n c : Nat) (ls : List Letv) : Prop where
  k : KCell E ⟨g, 0, none⟩ (.slice A n c)
  r : Rd E letT A n c ls
  q : ∀ e ∈ ls, Rd E octT e.A e.n e.c e.b
def Clone29 (n : Nat) (ls : List Letv) : Ending → List Asn → Prop := fun r H' =>
  ∃ g' A' c' ls', r = .returned (.pointer (some ⟨g', 0, none⟩)) ∧ ls'.map Letv.p = ls.map Letv.p ∧ wOk ls' ∧ (n ≤ c' ∧ c' ≤ maxLen) ∧ H' = [wr g' A' n c', own letT A' n c' ls', each lOc ls']
theorem wclone (hW : RdW E g A n c ls) (hn : n ≤ 128) (hok : wOk ls) : Tri Try.prog E 46 #[.pointer (some ⟨g, 0, none⟩)] [] (Clone29 n ls) := by
  obtain ⟨hk, hr, hq⟩ := hW
  have hl := hr.len
  have hmax : maxLen = 9223372036854775807 := rfl
  unfold Clone29
  refine tri Try.func46 rfl Try.ntmps46 (by simp) ?_
  repeat ((fail_if_success (refine C.seq (x := Code.region 4 _ _) ?_)); first | refine vW29 ?_ | (refine kW29 ?_; (first | rintro _ _ ⟨rfl, rfl⟩ | rintro _ _ ⟨_, rfl, rfl⟩ | rintro _ _ ⟨_, _, ⟨_, _⟩, rfl, rfl⟩); try refine ⟨sConv, ?_⟩) | refine Dr.two ?_ ?_)
  rename_i g3
  refine C.conv ((Conv.nil0 letT none).trans (Conv.each0 lOc)) ?_
  repeat (first | refine wW29 ?_ | (refine kW29 ?_; (first | rintro _ _ ⟨rfl, rfl⟩ | rintro _ _ ⟨_, rfl, rfl⟩ | rintro _ _ ⟨_, _, ⟨_, _⟩, rfl, rfl⟩); try refine ⟨sConv, ?_⟩) | refine Dr.two ?_ ?_)
  refine C.loop (X := Nat × Option Addr × Nat × List Letv) (fun x => [(3, .pointer (some ⟨g3, 0, none⟩)), (13, .slice A n c), (14, .int .i64 n), (15, .int .i64 x.1)])
    (fun x => [wr g3 x.2.1 x.1 x.2.2.1, own letT x.2.1 x.1 x.2.2.1 x.2.2.2, each lOc x.2.2.2]) (fun x => x.1 ≤ n ∧ x.2.2.2.map Letv.p = (ls.take x.1).map Letv.p ∧ x.1 = x.2.2.2.length ∧ wOk x.2.2.2 ∧ x.1 ≤ x.2.2.1 ∧ x.2.2.1 ≤ maxLen) (fun x => n - x.1) (0, none, 0, []) sHolds sConv ⟨Nat.zero_le _, rfl, rfl, fun _ h => (List.not_mem_nil h).elim, Nat.le_refl _, Nat.zero_le _⟩ ?_
  rintro ⟨i, B, d, l2⟩ F ⟨hi, hp, h2, h3, h4, h5⟩
  dsimp only at hi hp h2 h3 h4 h5 ⊢
  by_cases hlt : i < n
  · obtain ⟨e, he⟩ : ∃ e, ls[i]? = some e := ⟨_, List.getElem?_eq_getElem (by omega)⟩
    have hmem := List.mem_of_getElem? he
    obtain ⟨e1, e2⟩ := hok e hmem
    have hi128 : i < 128 := by omega
    repeat (first | refine wW29 ?_ | (refine kW29 ?_; (first | rintro _ _ ⟨rfl, rfl⟩ | rintro _ _ ⟨_, rfl, rfl⟩ | rintro _ _ ⟨_, _, ⟨_, _⟩, rfl, rfl⟩); try refine ⟨sConv, ?_⟩) | refine Dr.two ?_ ?_)
    refine L.step (by decide) (S.call rfl rfl Try.func63 (by kernel_rfl) rfl sPicks (fun E' hE => wpost E' g3 B i d l2 e.A e.n e.c e.to e.broken e.b hi128 h2 (Src29.rd ((hq e hmem).sub hE)) e2) ?_)
    unfold Post29
    rintro r H' ⟨B', d', O, co, rfl, ⟨j1, j2⟩, rfl⟩
    refine ⟨_, rfl, _, sCat, ?_⟩
    repeat (first | refine wW29 ?_ | (refine kW29 ?_; (first | rintro _ _ ⟨rfl, rfl⟩ | rintro _ _ ⟨_, rfl, rfl⟩ | rintro _ _ ⟨_, _, ⟨_, _⟩, rfl, rfl⟩); try refine ⟨sConv, ?_⟩) | refine Dr.two ?_ ?_)
    exact ⟨(i + 1, B', d', l2 ++ [⟨e.to, O, e.n, co, e.b, e.broken⟩]), sHolds, sConv, ⟨by dsimp only; omega, by dsimp only; rw [take_map_add he, List.map_append, hp]; rfl, by dsimp only; rw [List.length_append, ← h2]; rfl, h3.add e1 e2, j1, j2⟩, by dsimp only; omega⟩
  · have hin : i = n := by omega
    subst hin
    repeat (first | refine wW29 ?_ | (refine kW29 ?_; (first | rintro _ _ ⟨rfl, rfl⟩ | rintro _ _ ⟨_, rfl, rfl⟩ | rintro _ _ ⟨_, _, ⟨_, _⟩, rfl, rfl⟩); try refine ⟨sConv, ?_⟩) | refine Dr.two ?_ ?_)
    exact ret1 rfl sRet sConv (⟨_, _, _, _, rfl, by rw [hp, List.take_of_length_le (by omega)], h3, ⟨h4, h5⟩, rfl⟩)
end
end Go.Proofs.Ytbnfpmdieiknmaa.Sep
