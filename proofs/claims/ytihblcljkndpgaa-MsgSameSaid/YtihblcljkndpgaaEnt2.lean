/- entry's tries, checks; effects, by parts of memory. -/
import Derived.Test.YtihblcljkndpgaaEnt1
import Derived.Test.YtihblcljkndpgaaChange3
namespace Go.Proofs.Ytihblcljkndpgaa.Sep
open Go.RowKit Go.Proofs.Ytihblcljkndpgaa.Reg
open Go.Proofs.Ytihblcljkndpgaa.Mem hiding Rd Own
-- types: octT idnT
-- recs: idnT_rec effT_rec
-- eqs: idnT_eqa effT_eqa
-- funcs
set_option maxRecDepth 100000
set_option maxHeartbeats 6000000
def Eff.check (f : Eff) : Int :=
  if 1 ≤ f.kind ∧ f.kind ≤ 11 then
    if (0 ≤ f.a ∧ f.a ≤ 255) ∧ (0 ≤ f.ref.rep ∧ f.ref.rep ≤ 255) ∧ 0 ≤ f.ref.seq ∧ f.ref.seq ≤ 65535 then 0 else 4
  else 12
section
variable (E : Env) (f : Eff)
theorem fcheck : Tri Try.prog E 58 #[.agg f.cs.toArray] [] fun r H' => r = .returned (.int .i64 f.check) ∧ H' = [] := by
  refine tri Try.func58 rfl Try.ntmps58 (by simp) ?_
  unfold Eff.check
  repeat (first | refine wEn1 ?_ | (refine kEn1 ?_; (first | rintro _ _ ⟨rfl, rfl⟩ | rintro _ _ ⟨_, rfl, rfl⟩ | rintro _ _ ⟨_, _, ⟨_, _⟩, rfl, rfl⟩); try refine ⟨sConv, ?_⟩) | refine Dr.two ?_ ?_)
  refine L.step (by decide) (S.call rfl rfl Try.func37 (by kernel_rfl) rfl sPicks (fun E' hE => in_any E' f.kind 1 11) ?_)
  by_cases h1 : 1 ≤ f.kind ∧ f.kind ≤ 11
  case neg =>
    rw [decide_eq_false h1, if_neg h1]
    rintro r H' ⟨rfl, rfl⟩
    refine ⟨_, rfl, _, sCat, ?_⟩
    repeat (first | refine wEn1 ?_ | (refine kEn1 ?_; (first | rintro _ _ ⟨rfl, rfl⟩ | rintro _ _ ⟨_, rfl, rfl⟩ | rintro _ _ ⟨_, _, ⟨_, _⟩, rfl, rfl⟩); try refine ⟨sConv, ?_⟩) | refine Dr.two ?_ ?_)
    exact ret1 rfl sRet sConv (⟨rfl, rfl⟩)
  rw [decide_eq_true h1, if_pos h1]
  rintro r H' ⟨rfl, rfl⟩
  refine ⟨_, rfl, _, sCat, ?_⟩
  repeat (first | refine wEn1 ?_ | (refine kEn1 ?_; (first | rintro _ _ ⟨rfl, rfl⟩ | rintro _ _ ⟨_, rfl, rfl⟩ | rintro _ _ ⟨_, _, ⟨_, _⟩, rfl, rfl⟩); try refine ⟨sConv, ?_⟩) | refine Dr.two ?_ ?_)
  refine L.step (by decide) (S.call rfl rfl Try.func37 (by kernel_rfl) rfl sPicks (fun E' hE => in_any E' f.a 0 255) ?_)
  by_cases h2 : 0 ≤ f.a ∧ f.a ≤ 255
  case neg =>
    rw [decide_eq_false h2, if_neg (fun h => h2 h.1)]
    rintro r H' ⟨rfl, rfl⟩
    refine ⟨_, rfl, _, sCat, ?_⟩
    repeat (first | refine wEn1 ?_ | (refine kEn1 ?_; (first | rintro _ _ ⟨rfl, rfl⟩ | rintro _ _ ⟨_, rfl, rfl⟩ | rintro _ _ ⟨_, _, ⟨_, _⟩, rfl, rfl⟩); try refine ⟨sConv, ?_⟩) | refine Dr.two ?_ ?_)
    exact ret1 rfl sRet sConv (⟨rfl, rfl⟩)
  rw [decide_eq_true h2]
  rintro r H' ⟨rfl, rfl⟩
  refine ⟨_, rfl, _, sCat, ?_⟩
  repeat (first | refine wEn1 ?_ | (refine kEn1 ?_; (first | rintro _ _ ⟨rfl, rfl⟩ | rintro _ _ ⟨_, rfl, rfl⟩ | rintro _ _ ⟨_, _, ⟨_, _⟩, rfl, rfl⟩); try refine ⟨sConv, ?_⟩) | refine Dr.two ?_ ?_)
  refine L.step (by decide) (S.call rfl rfl Try.func37 (by kernel_rfl) rfl sPicks (fun E' hE => in_any E' f.ref.rep 0 255) ?_)
  by_cases h3 : 0 ≤ f.ref.rep ∧ f.ref.rep ≤ 255
  case neg =>
    rw [decide_eq_false h3, if_neg (fun h => h3 h.2.1)]
    rintro r H' ⟨rfl, rfl⟩
    refine ⟨_, rfl, _, sCat, ?_⟩
    repeat (first | refine wEn1 ?_ | (refine kEn1 ?_; (first | rintro _ _ ⟨rfl, rfl⟩ | rintro _ _ ⟨_, rfl, rfl⟩ | rintro _ _ ⟨_, _, ⟨_, _⟩, rfl, rfl⟩); try refine ⟨sConv, ?_⟩) | refine Dr.two ?_ ?_)
    exact ret1 rfl sRet sConv (⟨rfl, rfl⟩)
  rw [decide_eq_true h3]
  rintro r H' ⟨rfl, rfl⟩
  refine ⟨_, rfl, _, sCat, ?_⟩
  repeat (first | refine wEn1 ?_ | (refine kEn1 ?_; (first | rintro _ _ ⟨rfl, rfl⟩ | rintro _ _ ⟨_, rfl, rfl⟩ | rintro _ _ ⟨_, _, ⟨_, _⟩, rfl, rfl⟩); try refine ⟨sConv, ?_⟩) | refine Dr.two ?_ ?_)
  refine L.step (by decide) (S.call rfl rfl Try.func37 (by kernel_rfl) rfl sPicks (fun E' hE => in_any E' f.ref.seq 0 65535) ?_)
  by_cases h4 : 0 ≤ f.ref.seq ∧ f.ref.seq ≤ 65535
  case neg =>
    rw [decide_eq_false h4, if_neg (fun h => h4 h.2.2)]
    rintro r H' ⟨rfl, rfl⟩
    refine ⟨_, rfl, _, sCat, ?_⟩
    repeat (first | refine wEn1 ?_ | (refine kEn1 ?_; (first | rintro _ _ ⟨rfl, rfl⟩ | rintro _ _ ⟨_, rfl, rfl⟩ | rintro _ _ ⟨_, _, ⟨_, _⟩, rfl, rfl⟩); try refine ⟨sConv, ?_⟩) | refine Dr.two ?_ ?_)
    exact ret1 rfl sRet sConv (⟨rfl, rfl⟩)
  rw [decide_eq_true h4, if_pos ⟨h2, h3, h4⟩]
  rintro r H' ⟨rfl, rfl⟩
  refine ⟨_, rfl, _, sCat, ?_⟩
  repeat (first | refine wEn1 ?_ | (refine kEn1 ?_; (first | rintro _ _ ⟨rfl, rfl⟩ | rintro _ _ ⟨_, rfl, rfl⟩ | rintro _ _ ⟨_, _, ⟨_, _⟩, rfl, rfl⟩); try refine ⟨sConv, ?_⟩) | refine Dr.two ?_ ?_)
  exact ret1 rfl sRet sConv (⟨rfl, rfl⟩)
theorem rfcheck : Tri Try.prog E 79 #[.agg f.cs.toArray] [] fun r H' => r = .returned (.int .i64 f.check) ∧ H' = [] := by
  refine tri Try.func79 rfl Try.ntmps79 (by simp) ?_
  unfold Eff.check
  by_cases h1 : 1 ≤ f.kind ∧ f.kind ≤ 11
  case neg =>
    rw [if_neg h1]
    by_cases h0 : f.kind < 1
    · repeat (first | refine wEn1 ?_ | (refine kEn1 ?_; (first | rintro _ _ ⟨rfl, rfl⟩ | rintro _ _ ⟨_, rfl, rfl⟩ | rintro _ _ ⟨_, _, ⟨_, _⟩, rfl, rfl⟩); try refine ⟨sConv, ?_⟩) | refine Dr.two ?_ ?_)
      exact ret1 rfl sRet sConv (⟨rfl, rfl⟩)
    · repeat (first | refine wEn1 ?_ | (refine kEn1 ?_; (first | rintro _ _ ⟨rfl, rfl⟩ | rintro _ _ ⟨_, rfl, rfl⟩ | rintro _ _ ⟨_, _, ⟨_, _⟩, rfl, rfl⟩); try refine ⟨sConv, ?_⟩) | refine Dr.two ?_ ?_)
      exact ret1 rfl sRet sConv (⟨rfl, rfl⟩)
  rw [if_pos h1]
  repeat (first | refine wEn1 ?_ | (refine kEn1 ?_; (first | rintro _ _ ⟨rfl, rfl⟩ | rintro _ _ ⟨_, rfl, rfl⟩ | rintro _ _ ⟨_, _, ⟨_, _⟩, rfl, rfl⟩); try refine ⟨sConv, ?_⟩) | refine Dr.two ?_ ?_)
  refine L.step (by decide) (S.call rfl rfl Try.func88 (by kernel_rfl) rfl sPicks (fun E' hE => small_any E' f.a) ?_)
  by_cases h2 : 0 ≤ f.a ∧ f.a ≤ 255
  case neg =>
    rw [show small f.a = false from decide_eq_false h2, if_neg (fun h => h2 h.1)]
    rintro r H' ⟨rfl, rfl⟩
    refine ⟨_, rfl, _, sCat, ?_⟩
    repeat (first | refine wEn1 ?_ | (refine kEn1 ?_; (first | rintro _ _ ⟨rfl, rfl⟩ | rintro _ _ ⟨_, rfl, rfl⟩ | rintro _ _ ⟨_, _, ⟨_, _⟩, rfl, rfl⟩); try refine ⟨sConv, ?_⟩) | refine Dr.two ?_ ?_)
    exact ret1 rfl sRet sConv (⟨rfl, rfl⟩)
  rw [show small f.a = true from decide_eq_true h2]
  rintro r H' ⟨rfl, rfl⟩
  refine ⟨_, rfl, _, sCat, ?_⟩
  repeat (first | refine wEn1 ?_ | (refine kEn1 ?_; (first | rintro _ _ ⟨rfl, rfl⟩ | rintro _ _ ⟨_, rfl, rfl⟩ | rintro _ _ ⟨_, _, ⟨_, _⟩, rfl, rfl⟩); try refine ⟨sConv, ?_⟩) | refine Dr.two ?_ ?_)
  refine L.step (by decide) (S.call rfl rfl Try.func88 (by kernel_rfl) rfl sPicks (fun E' hE => small_any E' f.ref.rep) ?_)
  by_cases h3 : 0 ≤ f.ref.rep ∧ f.ref.rep ≤ 255
  case neg =>
    rw [show small f.ref.rep = false from decide_eq_false h3, if_neg (fun h => h3 h.2.1)]
    rintro r H' ⟨rfl, rfl⟩
    refine ⟨_, rfl, _, sCat, ?_⟩
    repeat (first | refine wEn1 ?_ | (refine kEn1 ?_; (first | rintro _ _ ⟨rfl, rfl⟩ | rintro _ _ ⟨_, rfl, rfl⟩ | rintro _ _ ⟨_, _, ⟨_, _⟩, rfl, rfl⟩); try refine ⟨sConv, ?_⟩) | refine Dr.two ?_ ?_)
    exact ret1 rfl sRet sConv (⟨rfl, rfl⟩)
  rw [show small f.ref.rep = true from decide_eq_true h3]
  rintro r H' ⟨rfl, rfl⟩
  refine ⟨_, rfl, _, sCat, ?_⟩
  by_cases h4 : f.ref.seq < 0
  · rw [if_neg (fun h => by omega)]
    repeat (first | refine wEn1 ?_ | (refine kEn1 ?_; (first | rintro _ _ ⟨rfl, rfl⟩ | rintro _ _ ⟨_, rfl, rfl⟩ | rintro _ _ ⟨_, _, ⟨_, _⟩, rfl, rfl⟩); try refine ⟨sConv, ?_⟩) | refine Dr.two ?_ ?_)
    exact ret1 rfl sRet sConv (⟨rfl, rfl⟩)
  by_cases h5 : 65535 < f.ref.seq
  · rw [if_neg (fun h => by omega)]
    repeat (first | refine wEn1 ?_ | (refine kEn1 ?_; (first | rintro _ _ ⟨rfl, rfl⟩ | rintro _ _ ⟨_, rfl, rfl⟩ | rintro _ _ ⟨_, _, ⟨_, _⟩, rfl, rfl⟩); try refine ⟨sConv, ?_⟩) | refine Dr.two ?_ ?_)
    exact ret1 rfl sRet sConv (⟨rfl, rfl⟩)
  · rw [if_pos ⟨h2, h3, by omega⟩]
    repeat (first | refine wEn1 ?_ | (refine kEn1 ?_; (first | rintro _ _ ⟨rfl, rfl⟩ | rintro _ _ ⟨_, rfl, rfl⟩ | rintro _ _ ⟨_, _, ⟨_, _⟩, rfl, rfl⟩); try refine ⟨sConv, ?_⟩) | refine Dr.two ?_ ?_)
    exact ret1 rfl sRet sConv (⟨rfl, rfl⟩)
end
/-- tried once more -/
def Ent.try_ (e : Ent) (now : Int) : Ent :=
  if e.opn = true ∧ e.nt < 8 then (if e.und then { e with back := e.back + 1, backLast := now } else { e with sent := e.sent + 1, last := now }) else e
section
variable (E : Env) (e : Ent) (now : Int)
end
end Go.Proofs.Ytihblcljkndpgaa.Sep
