/- entry's tries, checks; effects, by parts of memory. -/
import Derived.Test.YtkhmplaocfjpjaaEnt1
import Derived.Test.YtkhmplaocfjpjaaRef09
namespace Go.Proofs.Ytkhmplaocfjpjaa.Sep
open Go.RowKit Go.Proofs.Ytkhmplaocfjpjaa.Reg
open Go.Proofs.Ytkhmplaocfjpjaa.Mem hiding Rd Own
-- types: octT idnT
-- recs: idnT_rec effT_rec cfgT_rec entT_rec enrT_rec
-- eqs: idnT_eqa effT_eqa entT_eqa enrT_eqa
-- funcs
set_option maxRecDepth 100000
set_option maxHeartbeats 8000000
def Eff.check (f : Eff) : Int :=
  if 1 ≤ f.kind ∧ f.kind ≤ 11 then
    if (0 ≤ f.a ∧ f.a ≤ 255) ∧ (0 ≤ f.ref.rep ∧ f.ref.rep ≤ 255) ∧ 0 ≤ f.ref.seq ∧ f.ref.seq ≤ 65535 then 0 else 4
  else 12
section
variable (E : Env) (f : Eff)
theorem fcheck : Tri Try.prog E 79 #[.agg f.cs.toArray] [] fun r H' => r = .returned (.int .i64 f.check) ∧ H' = [] := by
  refine tri Try.func79 rfl Try.ntmps79 (by simp) ?_
  unfold Eff.check
  repeat (first | refine wEn1 ?_ | (refine kEn1 ?_; (first | rintro _ _ ⟨rfl, rfl⟩ | rintro _ _ ⟨_, rfl, rfl⟩ | rintro _ _ ⟨_, _, ⟨_, _⟩, rfl, rfl⟩); try refine ⟨sConv, ?_⟩) | refine Dr.two ?_ ?_)
  refine L.step (by decide) (S.call rfl rfl Try.func78 (by kernel_rfl) rfl sPicks (fun E' hE => in_any E' f.kind 1 11) ?_)
  by_cases h1 : 1 ≤ f.kind ∧ f.kind ≤ 11
  case neg =>
    rw [decide_eq_false h1, if_neg h1]
    rintro r H' ⟨rfl, rfl⟩
    refine ⟨_, rfl, _, sCat, ?_⟩
    repeat (first | refine wEn1 ?_ | (refine kEn1 ?_; (first | rintro _ _ ⟨rfl, rfl⟩ | rintro _ _ ⟨_, rfl, rfl⟩ | rintro _ _ ⟨_, _, ⟨_, _⟩, rfl, rfl⟩); try refine ⟨sConv, ?_⟩) | refine Dr.two ?_ ?_)
    exact ret1 rfl sRet sConv (⟨rfl, rfl⟩)
  rw [decide_eq_true h1, if_pos h1]
  rintro r H' ⟨rfl, rfl⟩
  refine ⟨_, rfl, _, sCat, ?_⟩
  repeat (first | refine wEn1 ?_ | (refine kEn1 ?_; (first | rintro _ _ ⟨rfl, rfl⟩ | rintro _ _ ⟨_, rfl, rfl⟩ | rintro _ _ ⟨_, _, ⟨_, _⟩, rfl, rfl⟩); try refine ⟨sConv, ?_⟩) | refine Dr.two ?_ ?_)
  refine L.step (by decide) (S.call rfl rfl Try.func78 (by kernel_rfl) rfl sPicks (fun E' hE => in_any E' f.a 0 255) ?_)
  by_cases h2 : 0 ≤ f.a ∧ f.a ≤ 255
  case neg =>
    rw [decide_eq_false h2, if_neg (fun h => h2 h.1)]
    rintro r H' ⟨rfl, rfl⟩
    refine ⟨_, rfl, _, sCat, ?_⟩
    repeat (first | refine wEn1 ?_ | (refine kEn1 ?_; (first | rintro _ _ ⟨rfl, rfl⟩ | rintro _ _ ⟨_, rfl, rfl⟩ | rintro _ _ ⟨_, _, ⟨_, _⟩, rfl, rfl⟩); try refine ⟨sConv, ?_⟩) | refine Dr.two ?_ ?_)
    exact ret1 rfl sRet sConv (⟨rfl, rfl⟩)
  rw [decide_eq_true h2]
  rintro r H' ⟨rfl, rfl⟩
  refine ⟨_, rfl, _, sCat, ?_⟩
  repeat (first | refine wEn1 ?_ | (refine kEn1 ?_; (first | rintro _ _ ⟨rfl, rfl⟩ | rintro _ _ ⟨_, rfl, rfl⟩ | rintro _ _ ⟨_, _, ⟨_, _⟩, rfl, rfl⟩); try refine ⟨sConv, ?_⟩) | refine Dr.two ?_ ?_)
  refine L.step (by decide) (S.call rfl rfl Try.func78 (by kernel_rfl) rfl sPicks (fun E' hE => in_any E' f.ref.rep 0 255) ?_)
  by_cases h3 : 0 ≤ f.ref.rep ∧ f.ref.rep ≤ 255
  case neg =>
    rw [decide_eq_false h3, if_neg (fun h => h3 h.2.1)]
    rintro r H' ⟨rfl, rfl⟩
    refine ⟨_, rfl, _, sCat, ?_⟩
    repeat (first | refine wEn1 ?_ | (refine kEn1 ?_; (first | rintro _ _ ⟨rfl, rfl⟩ | rintro _ _ ⟨_, rfl, rfl⟩ | rintro _ _ ⟨_, _, ⟨_, _⟩, rfl, rfl⟩); try refine ⟨sConv, ?_⟩) | refine Dr.two ?_ ?_)
    exact ret1 rfl sRet sConv (⟨rfl, rfl⟩)
  rw [decide_eq_true h3]
  rintro r H' ⟨rfl, rfl⟩
  refine ⟨_, rfl, _, sCat, ?_⟩
  repeat (first | refine wEn1 ?_ | (refine kEn1 ?_; (first | rintro _ _ ⟨rfl, rfl⟩ | rintro _ _ ⟨_, rfl, rfl⟩ | rintro _ _ ⟨_, _, ⟨_, _⟩, rfl, rfl⟩); try refine ⟨sConv, ?_⟩) | refine Dr.two ?_ ?_)
  refine L.step (by decide) (S.call rfl rfl Try.func78 (by kernel_rfl) rfl sPicks (fun E' hE => in_any E' f.ref.seq 0 65535) ?_)
  by_cases h4 : 0 ≤ f.ref.seq ∧ f.ref.seq ≤ 65535
  case neg =>
    rw [decide_eq_false h4, if_neg (fun h => h4 h.2.2)]
    rintro r H' ⟨rfl, rfl⟩
    refine ⟨_, rfl, _, sCat, ?_⟩
    repeat (first | refine wEn1 ?_ | (refine kEn1 ?_; (first | rintro _ _ ⟨rfl, rfl⟩ | rintro _ _ ⟨_, rfl, rfl⟩ | rintro _ _ ⟨_, _, ⟨_, _⟩, rfl, rfl⟩); try refine ⟨sConv, ?_⟩) | refine Dr.two ?_ ?_)
    exact ret1 rfl sRet sConv (⟨rfl, rfl⟩)
  rw [decide_eq_true h4, if_pos ⟨h2, h3, h4⟩]
  rintro r H' ⟨rfl, rfl⟩
  refine ⟨_, rfl, _, sCat, ?_⟩
  repeat (first | refine wEn1 ?_ | (refine kEn1 ?_; (first | rintro _ _ ⟨rfl, rfl⟩ | rintro _ _ ⟨_, rfl, rfl⟩ | rintro _ _ ⟨_, _, ⟨_, _⟩, rfl, rfl⟩); try refine ⟨sConv, ?_⟩) | refine Dr.two ?_ ?_)
  exact ret1 rfl sRet sConv (⟨rfl, rfl⟩)
end
/-- tried once more -/
def Ent.try_ (e : Ent) (now : Int) : Ent :=
  if e.opn = true ∧ e.nt < 8 then (if e.und then { e with back := e.back + 1, backLast := now } else { e with sent := e.sent + 1, last := now }) else e
section
variable (E : Env) (e : Ent) (now : Int)
theorem etry (hok : e.ok) : Tri Try.prog E 110 #[.agg e.cs.toArray, .int .i64 now] [] fun r H' => r = .returned (.agg (e.try_ now).cs.toArray) ∧ H' = [] := by
  have hb := hok.2.2.2.2.1
  have hs := hok.2.2.1
  unfold I64 at hb hs
  refine tri Try.func110 rfl Try.ntmps110 (by simp) ?_
  repeat (first | refine wEn1 ?_ | (refine kEn1 ?_; (first | rintro _ _ ⟨rfl, rfl⟩ | rintro _ _ ⟨_, rfl, rfl⟩ | rintro _ _ ⟨_, _, ⟨_, _⟩, rfl, rfl⟩); try refine ⟨sConv, ?_⟩) | refine Dr.two ?_ ?_)
  refine L.step (by decide) (S.call rfl rfl Try.func133 (by kernel_rfl) rfl sPicks (fun E' hE => etries E' e) ?_)
  rintro r H' ⟨rfl, rfl⟩
  refine ⟨_, rfl, _, sCat, ?_⟩
  repeat (first | refine wEn1 ?_ | (refine kEn1 ?_; (first | rintro _ _ ⟨rfl, rfl⟩ | rintro _ _ ⟨_, rfl, rfl⟩ | rintro _ _ ⟨_, _, ⟨_, _⟩, rfl, rfl⟩); try refine ⟨sConv, ?_⟩) | refine Dr.two ?_ ?_)
  refine L.step (by decide) (S.call rfl rfl Try.func108 (by kernel_rfl) rfl sPicks (fun E' hE => eopn E' e) ?_)
  rintro r H' ⟨rfl, rfl⟩
  refine ⟨_, rfl, _, sCat, ?_⟩
  have htry : e.try_ now = if e.opn = true ∧ e.nt < 8 then (if e.und then { e with back := e.back + 1, backLast := now } else { e with sent := e.sent + 1, last := now }) else e := rfl
  cases ho : e.opn
  · rw [ho, if_neg (fun h => by cases h.1)] at htry
    rw [htry]
    repeat (first | refine wEn1 ?_ | (refine kEn1 ?_; (first | rintro _ _ ⟨rfl, rfl⟩ | rintro _ _ ⟨_, rfl, rfl⟩ | rintro _ _ ⟨_, _, ⟨_, _⟩, rfl, rfl⟩); try refine ⟨sConv, ?_⟩) | refine Dr.two ?_ ?_)
    apply retC1; (· exact rfl); (· exact sRet); (· exact rfl); (· exact rfl); (· exact rfl); (· exact sHas); (· exact rfl); rotate_left; (· exact (⟨rfl, rfl⟩)); (· exact sConv)
  rw [ho] at htry
  have hnt : e.nt = if e.und then e.back else e.sent := rfl
  repeat (first | refine wEn1 ?_ | (refine kEn1 ?_; (first | rintro _ _ ⟨rfl, rfl⟩ | rintro _ _ ⟨_, rfl, rfl⟩ | rintro _ _ ⟨_, _, ⟨_, _⟩, rfl, rfl⟩); try refine ⟨sConv, ?_⟩) | refine Dr.two ?_ ?_)
  by_cases h8 : e.nt < 8
  case neg =>
    rw [if_neg (fun h => h8 h.2)] at htry
    rw [htry]
    repeat (first | refine wEn1 ?_ | (refine kEn1 ?_; (first | rintro _ _ ⟨rfl, rfl⟩ | rintro _ _ ⟨_, rfl, rfl⟩ | rintro _ _ ⟨_, _, ⟨_, _⟩, rfl, rfl⟩); try refine ⟨sConv, ?_⟩) | refine Dr.two ?_ ?_)
    apply retC1; (· exact rfl); (· exact sRet); (· exact rfl); (· exact rfl); (· exact rfl); (· exact sHas); (· exact rfl); rotate_left; (· exact (⟨rfl, rfl⟩)); (· exact sConv)
  rw [if_pos ⟨rfl, h8⟩] at htry
  repeat (first | refine wEn1 ?_ | (refine kEn1 ?_; (first | rintro _ _ ⟨rfl, rfl⟩ | rintro _ _ ⟨_, rfl, rfl⟩ | rintro _ _ ⟨_, _, ⟨_, _⟩, rfl, rfl⟩); try refine ⟨sConv, ?_⟩) | refine Dr.two ?_ ?_)
  refine L.step (by decide) (S.call rfl rfl Try.func69 (by kernel_rfl) rfl sPicks (fun E' hE => eund E' e) ?_)
  rintro r H' ⟨rfl, rfl⟩
  refine ⟨_, rfl, _, sCat, ?_⟩
  cases hu : e.und
  · rw [hu, if_neg Bool.false_ne_true] at htry hnt
    rw [htry]
    repeat (first | refine wEn1 ?_ | (refine kEn1 ?_; (first | rintro _ _ ⟨rfl, rfl⟩ | rintro _ _ ⟨_, rfl, rfl⟩ | rintro _ _ ⟨_, _, ⟨_, _⟩, rfl, rfl⟩); try refine ⟨sConv, ?_⟩) | refine Dr.two ?_ ?_)
    apply retC1; (· exact rfl); (· exact sRet); (· exact rfl); (· exact rfl); (· exact rfl); (· exact sHas); (· exact rfl); rotate_left; (· exact (⟨rfl, rfl⟩)); (· exact sConv)
  · rw [hu, if_pos rfl] at htry hnt
    rw [htry]
    repeat (first | refine wEn1 ?_ | (refine kEn1 ?_; (first | rintro _ _ ⟨rfl, rfl⟩ | rintro _ _ ⟨_, rfl, rfl⟩ | rintro _ _ ⟨_, _, ⟨_, _⟩, rfl, rfl⟩); try refine ⟨sConv, ?_⟩) | refine Dr.two ?_ ?_)
    apply retC1; (· exact rfl); (· exact sRet); (· exact rfl); (· exact rfl); (· exact rfl); (· exact sHas); (· exact rfl); rotate_left; (· exact (⟨rfl, rfl⟩)); (· exact sConv)
theorem mtry (hok : e.ok) : Tri Try.prog E 144 #[.agg e.cs.toArray, .int .i64 now] [] fun r H' => r = .returned (.agg (e.try_ now).cs.toArray) ∧ H' = [] := by
  have hb := hok.2.2.2.2.1
  have hs := hok.2.2.1
  unfold I64 at hb hs
  refine tri Try.func144 rfl Try.ntmps144 (by simp) ?_
  repeat (first | refine wEn1 ?_ | (refine kEn1 ?_; (first | rintro _ _ ⟨rfl, rfl⟩ | rintro _ _ ⟨_, rfl, rfl⟩ | rintro _ _ ⟨_, _, ⟨_, _⟩, rfl, rfl⟩); try refine ⟨sConv, ?_⟩) | refine Dr.two ?_ ?_)
  refine L.step (by decide) (S.call rfl rfl Try.func61 (by kernel_rfl) rfl sPicks (fun E' hE => mopn E' e) ?_)
  rintro r H' ⟨rfl, rfl⟩
  refine ⟨_, rfl, _, sCat, ?_⟩
  have htry : e.try_ now = if e.opn = true ∧ e.nt < 8 then (if e.und then { e with back := e.back + 1, backLast := now } else { e with sent := e.sent + 1, last := now }) else e := rfl
  cases ho : e.opn
  · rw [ho, if_neg (fun h => by cases h.1)] at htry
    rw [htry]
    repeat (first | refine wEn1 ?_ | (refine kEn1 ?_; (first | rintro _ _ ⟨rfl, rfl⟩ | rintro _ _ ⟨_, rfl, rfl⟩ | rintro _ _ ⟨_, _, ⟨_, _⟩, rfl, rfl⟩); try refine ⟨sConv, ?_⟩) | refine Dr.two ?_ ?_)
    apply retC1; (· exact rfl); (· exact sRet); (· exact rfl); (· exact rfl); (· exact rfl); (· exact sHas); (· exact rfl); rotate_left; (· exact (⟨rfl, rfl⟩)); (· exact sConv)
  rw [ho] at htry
  have hnt : e.nt = if e.und then e.back else e.sent := rfl
  repeat (first | refine wEn1 ?_ | (refine kEn1 ?_; (first | rintro _ _ ⟨rfl, rfl⟩ | rintro _ _ ⟨_, rfl, rfl⟩ | rintro _ _ ⟨_, _, ⟨_, _⟩, rfl, rfl⟩); try refine ⟨sConv, ?_⟩) | refine Dr.two ?_ ?_)
  refine L.step (by decide) (S.call rfl rfl Try.func63 (by kernel_rfl) rfl sPicks (fun E' hE => mtries E' e) ?_)
  rintro r H' ⟨rfl, rfl⟩
  refine ⟨_, rfl, _, sCat, ?_⟩
  by_cases h8 : e.nt < 8
  case neg =>
    rw [if_neg (fun h => h8 h.2)] at htry
    rw [htry]
    repeat (first | refine wEn1 ?_ | (refine kEn1 ?_; (first | rintro _ _ ⟨rfl, rfl⟩ | rintro _ _ ⟨_, rfl, rfl⟩ | rintro _ _ ⟨_, _, ⟨_, _⟩, rfl, rfl⟩); try refine ⟨sConv, ?_⟩) | refine Dr.two ?_ ?_)
    apply retC1; (· exact rfl); (· exact sRet); (· exact rfl); (· exact rfl); (· exact rfl); (· exact sHas); (· exact rfl); rotate_left; (· exact (⟨rfl, rfl⟩)); (· exact sConv)
  rw [if_pos ⟨rfl, h8⟩] at htry
  repeat (first | refine wEn1 ?_ | (refine kEn1 ?_; (first | rintro _ _ ⟨rfl, rfl⟩ | rintro _ _ ⟨_, rfl, rfl⟩ | rintro _ _ ⟨_, _, ⟨_, _⟩, rfl, rfl⟩); try refine ⟨sConv, ?_⟩) | refine Dr.two ?_ ?_)
  refine L.step (by decide) (S.call rfl rfl Try.func19 (by kernel_rfl) rfl sPicks (fun E' hE => mund E' e) ?_)
  rintro r H' ⟨rfl, rfl⟩
  refine ⟨_, rfl, _, sCat, ?_⟩
  cases hu : e.und
  · rw [hu, if_neg Bool.false_ne_true] at htry hnt
    rw [htry]
    repeat (first | refine wEn1 ?_ | (refine kEn1 ?_; (first | rintro _ _ ⟨rfl, rfl⟩ | rintro _ _ ⟨_, rfl, rfl⟩ | rintro _ _ ⟨_, _, ⟨_, _⟩, rfl, rfl⟩); try refine ⟨sConv, ?_⟩) | refine Dr.two ?_ ?_)
    apply retC1; (· exact rfl); (· exact sRet); (· exact rfl); (· exact rfl); (· exact rfl); (· exact sHas); (· exact rfl); rotate_left; (· exact (⟨rfl, rfl⟩)); (· exact sConv)
  · rw [hu, if_pos rfl] at htry hnt
    rw [htry]
    repeat (first | refine wEn1 ?_ | (refine kEn1 ?_; (first | rintro _ _ ⟨rfl, rfl⟩ | rintro _ _ ⟨_, rfl, rfl⟩ | rintro _ _ ⟨_, _, ⟨_, _⟩, rfl, rfl⟩); try refine ⟨sConv, ?_⟩) | refine Dr.two ?_ ?_)
    apply retC1; (· exact rfl); (· exact sRet); (· exact rfl); (· exact rfl); (· exact rfl); (· exact sHas); (· exact rfl); rotate_left; (· exact (⟨rfl, rfl⟩)); (· exact sConv)
end
end Go.Proofs.Ytkhmplaocfjpjaa.Sep
