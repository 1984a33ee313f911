/- whether an entry may be, by parts of memory. -/
import Derived.Test.YtkhmplaocfjpjaaEnt2
namespace Go.Proofs.Ytkhmplaocfjpjaa.Sep
open Go.RowKit Go.Proofs.Ytkhmplaocfjpjaa.Reg
open Go.Proofs.Ytkhmplaocfjpjaa.Mem hiding Rd Own
-- types: octT idnT
-- recs: idnT_rec effT_rec cfgT_rec entT_rec enrT_rec
-- eqs: idnT_eqa effT_eqa entT_eqa enrT_eqa
-- funcs
set_option maxRecDepth 100000
set_option maxHeartbeats 8000000
def Ent.b3 (e : Ent) : Bool := decide (0 ≤ e.back ∧ e.back ≤ 8) && (e.und || decide (e.back = 0))
def Ent.b4 (e : Ent) : Bool := decide (0 ≤ e.last ∧ e.last ≤ 1073741824) && (decide (0 ≤ e.backLast ∧ e.backLast ≤ 1073741824) && (decide (0 < e.back) || decide (e.backLast = 0)))
def Ent.may (e : Ent) : Bool := decide (1 ≤ e.ord ∧ e.ord ≤ 255) && (decide (e.what.check = 0) && (decide (1 ≤ e.sent ∧ e.sent ≤ 8) && (e.b3 && e.b4)))
section
variable (E : Env) (e : Ent)
theorem echeck : Tri Try.prog E 30 #[.agg e.cs.toArray] [] fun r H' => r = .returned (.bool e.may) ∧ H' = [] := by
  refine tri Try.func30 rfl Try.ntmps30 (by simp) ?_
  unfold Ent.may
  repeat ((fail_if_success (refine C.seq (x := Code.region 1 _ _) ?_)); first | refine vEn1 ?_ | (refine kEn1 ?_; (first | rintro _ _ ⟨rfl, rfl⟩ | rintro _ _ ⟨_, rfl, rfl⟩ | rintro _ _ ⟨_, _, ⟨_, _⟩, rfl, rfl⟩); try refine ⟨sConv, ?_⟩) | refine Dr.two ?_ ?_)
  rename_i g
  refine C.cut (X := Unit) (fun _ => [(1, .pointer (some ⟨g, 0, none⟩)), (3, .bool e.b3)]) (fun _ => [blk g 73 e.cs]) (fun _ => True) ?_ ?_
  · unfold Ent.b3
    repeat (first | refine wEn1 ?_ | (refine kEn1 ?_; (first | rintro _ _ ⟨rfl, rfl⟩ | rintro _ _ ⟨_, rfl, rfl⟩ | rintro _ _ ⟨_, _, ⟨_, _⟩, rfl, rfl⟩); try refine ⟨sConv, ?_⟩) | refine Dr.two ?_ ?_)
    refine L.step (by decide) (S.call rfl rfl Try.func78 (by kernel_rfl) rfl sPicks (fun E' hE => in_any E' e.back 0 8) ?_)
    rintro r H' ⟨rfl, rfl⟩
    refine ⟨_, rfl, _, sCat, ?_⟩
    cases h1 : decide (0 ≤ e.back ∧ e.back ≤ 8)
    · repeat (first | refine wEn1 ?_ | (refine kEn1 ?_; (first | rintro _ _ ⟨rfl, rfl⟩ | rintro _ _ ⟨_, rfl, rfl⟩ | rintro _ _ ⟨_, _, ⟨_, _⟩, rfl, rfl⟩); try refine ⟨sConv, ?_⟩) | refine Dr.two ?_ ?_)
      exact ⟨(), sHolds, sConv, trivial⟩
    · repeat (first | refine wEn1 ?_ | (refine kEn1 ?_; (first | rintro _ _ ⟨rfl, rfl⟩ | rintro _ _ ⟨_, rfl, rfl⟩ | rintro _ _ ⟨_, _, ⟨_, _⟩, rfl, rfl⟩); try refine ⟨sConv, ?_⟩) | refine Dr.two ?_ ?_)
      refine L.step (by decide) (S.call rfl rfl Try.func69 (by kernel_rfl) rfl sPicks (fun E' hE => eund E' e) ?_)
      rintro r H' ⟨rfl, rfl⟩
      refine ⟨_, rfl, _, sCat, ?_⟩
      cases h2 : e.und
      · repeat (first | refine wEn1 ?_ | (refine kEn1 ?_; (first | rintro _ _ ⟨rfl, rfl⟩ | rintro _ _ ⟨_, rfl, rfl⟩ | rintro _ _ ⟨_, _, ⟨_, _⟩, rfl, rfl⟩); try refine ⟨sConv, ?_⟩) | refine Dr.two ?_ ?_)
        exact ⟨(), sHolds, sConv, trivial⟩
      · repeat (first | refine wEn1 ?_ | (refine kEn1 ?_; (first | rintro _ _ ⟨rfl, rfl⟩ | rintro _ _ ⟨_, rfl, rfl⟩ | rintro _ _ ⟨_, _, ⟨_, _⟩, rfl, rfl⟩); try refine ⟨sConv, ?_⟩) | refine Dr.two ?_ ?_)
        exact ⟨(), sHolds, sConv, trivial⟩
  rintro - G -
  refine C.cut (X := Unit) (fun _ => [(1, .pointer (some ⟨g, 0, none⟩)), (3, .bool e.b3), (4, .bool e.b4)]) (fun _ => [blk g 73 e.cs]) (fun _ => True) ?_ ?_
  · unfold Ent.b4
    repeat (first | refine wEn1 ?_ | (refine kEn1 ?_; (first | rintro _ _ ⟨rfl, rfl⟩ | rintro _ _ ⟨_, rfl, rfl⟩ | rintro _ _ ⟨_, _, ⟨_, _⟩, rfl, rfl⟩); try refine ⟨sConv, ?_⟩) | refine Dr.two ?_ ?_)
    refine L.step (by decide) (S.call rfl rfl Try.func78 (by kernel_rfl) rfl sPicks (fun E' hE => in_any E' e.last 0 1073741824) ?_)
    rintro r H' ⟨rfl, rfl⟩
    refine ⟨_, rfl, _, sCat, ?_⟩
    cases h1 : decide (0 ≤ e.last ∧ e.last ≤ 1073741824)
    · repeat (first | refine wEn1 ?_ | (refine kEn1 ?_; (first | rintro _ _ ⟨rfl, rfl⟩ | rintro _ _ ⟨_, rfl, rfl⟩ | rintro _ _ ⟨_, _, ⟨_, _⟩, rfl, rfl⟩); try refine ⟨sConv, ?_⟩) | refine Dr.two ?_ ?_)
      exact ⟨(), sHolds, sConv, trivial⟩
    · repeat (first | refine wEn1 ?_ | (refine kEn1 ?_; (first | rintro _ _ ⟨rfl, rfl⟩ | rintro _ _ ⟨_, rfl, rfl⟩ | rintro _ _ ⟨_, _, ⟨_, _⟩, rfl, rfl⟩); try refine ⟨sConv, ?_⟩) | refine Dr.two ?_ ?_)
      refine L.step (by decide) (S.call rfl rfl Try.func78 (by kernel_rfl) rfl sPicks (fun E' hE => in_any E' e.backLast 0 1073741824) ?_)
      rintro r H' ⟨rfl, rfl⟩
      refine ⟨_, rfl, _, sCat, ?_⟩
      cases h2 : decide (0 ≤ e.backLast ∧ e.backLast ≤ 1073741824)
      · repeat (first | refine wEn1 ?_ | (refine kEn1 ?_; (first | rintro _ _ ⟨rfl, rfl⟩ | rintro _ _ ⟨_, rfl, rfl⟩ | rintro _ _ ⟨_, _, ⟨_, _⟩, rfl, rfl⟩); try refine ⟨sConv, ?_⟩) | refine Dr.two ?_ ?_)
        exact ⟨(), sHolds, sConv, trivial⟩
      · by_cases h3 : 0 < e.back
        · rw [decide_eq_true h3]
          repeat (first | refine wEn1 ?_ | (refine kEn1 ?_; (first | rintro _ _ ⟨rfl, rfl⟩ | rintro _ _ ⟨_, rfl, rfl⟩ | rintro _ _ ⟨_, _, ⟨_, _⟩, rfl, rfl⟩); try refine ⟨sConv, ?_⟩) | refine Dr.two ?_ ?_)
          exact ⟨(), sHolds, sConv, trivial⟩
        · rw [decide_eq_false h3]
          repeat (first | refine wEn1 ?_ | (refine kEn1 ?_; (first | rintro _ _ ⟨rfl, rfl⟩ | rintro _ _ ⟨_, rfl, rfl⟩ | rintro _ _ ⟨_, _, ⟨_, _⟩, rfl, rfl⟩); try refine ⟨sConv, ?_⟩) | refine Dr.two ?_ ?_)
          exact ⟨(), sHolds, sConv, trivial⟩
  rintro - G -
  repeat (first | refine wEn1 ?_ | (refine kEn1 ?_; (first | rintro _ _ ⟨rfl, rfl⟩ | rintro _ _ ⟨_, rfl, rfl⟩ | rintro _ _ ⟨_, _, ⟨_, _⟩, rfl, rfl⟩); try refine ⟨sConv, ?_⟩) | refine Dr.two ?_ ?_)
  refine L.step (by decide) (S.call rfl rfl Try.func78 (by kernel_rfl) rfl sPicks (fun E' hE => in_any E' e.ord 1 255) ?_)
  rintro r H' ⟨rfl, rfl⟩
  refine ⟨_, rfl, _, sCat, ?_⟩
  cases h1 : decide (1 ≤ e.ord ∧ e.ord ≤ 255)
  · repeat (first | refine wEn1 ?_ | (refine kEn1 ?_; (first | rintro _ _ ⟨rfl, rfl⟩ | rintro _ _ ⟨_, rfl, rfl⟩ | rintro _ _ ⟨_, _, ⟨_, _⟩, rfl, rfl⟩); try refine ⟨sConv, ?_⟩) | refine Dr.two ?_ ?_)
    exact ret1 rfl sRet sConv (⟨rfl, rfl⟩)
  repeat (first | refine wEn1 ?_ | (refine kEn1 ?_; (first | rintro _ _ ⟨rfl, rfl⟩ | rintro _ _ ⟨_, rfl, rfl⟩ | rintro _ _ ⟨_, _, ⟨_, _⟩, rfl, rfl⟩); try refine ⟨sConv, ?_⟩) | refine Dr.two ?_ ?_)
  refine L.step (by decide) (S.call rfl rfl Try.func79 (by kernel_rfl) rfl sPicks (fun E' hE => fcheck E' e.what) ?_)
  rintro r H' ⟨rfl, rfl⟩
  refine ⟨_, rfl, _, sCat, ?_⟩
  generalize e.what.check = k
  by_cases h2 : k = 0
  case neg =>
    rw [decide_eq_false h2]
    repeat (first | refine wEn1 ?_ | (refine kEn1 ?_; (first | rintro _ _ ⟨rfl, rfl⟩ | rintro _ _ ⟨_, rfl, rfl⟩ | rintro _ _ ⟨_, _, ⟨_, _⟩, rfl, rfl⟩); try refine ⟨sConv, ?_⟩) | refine Dr.two ?_ ?_)
    exact ret1 rfl sRet sConv (⟨rfl, rfl⟩)
  rw [decide_eq_true h2]
  repeat (first | refine wEn1 ?_ | (refine kEn1 ?_; (first | rintro _ _ ⟨rfl, rfl⟩ | rintro _ _ ⟨_, rfl, rfl⟩ | rintro _ _ ⟨_, _, ⟨_, _⟩, rfl, rfl⟩); try refine ⟨sConv, ?_⟩) | refine Dr.two ?_ ?_)
  refine L.step (by decide) (S.call rfl rfl Try.func78 (by kernel_rfl) rfl sPicks (fun E' hE => in_any E' e.sent 1 8) ?_)
  rintro r H' ⟨rfl, rfl⟩
  refine ⟨_, rfl, _, sCat, ?_⟩
  cases h3 : decide (1 ≤ e.sent ∧ e.sent ≤ 8)
  · repeat (first | refine wEn1 ?_ | (refine kEn1 ?_; (first | rintro _ _ ⟨rfl, rfl⟩ | rintro _ _ ⟨_, rfl, rfl⟩ | rintro _ _ ⟨_, _, ⟨_, _⟩, rfl, rfl⟩); try refine ⟨sConv, ?_⟩) | refine Dr.two ?_ ?_)
    exact ret1 rfl sRet sConv (⟨rfl, rfl⟩)
  cases h4 : e.b3
  · repeat (first | refine wEn1 ?_ | (refine kEn1 ?_; (first | rintro _ _ ⟨rfl, rfl⟩ | rintro _ _ ⟨_, rfl, rfl⟩ | rintro _ _ ⟨_, _, ⟨_, _⟩, rfl, rfl⟩); try refine ⟨sConv, ?_⟩) | refine Dr.two ?_ ?_)
    exact ret1 rfl sRet sConv (⟨rfl, rfl⟩)
  · repeat (first | refine wEn1 ?_ | (refine kEn1 ?_; (first | rintro _ _ ⟨rfl, rfl⟩ | rintro _ _ ⟨_, rfl, rfl⟩ | rintro _ _ ⟨_, _, ⟨_, _⟩, rfl, rfl⟩); try refine ⟨sConv, ?_⟩) | refine Dr.two ?_ ?_)
    exact ret1 rfl sRet sConv (⟨rfl, rfl⟩)
theorem Ent.may_iff : e.may = true ↔ (1 ≤ e.ord ∧ e.ord ≤ 255) ∧ e.what.check = 0 ∧ (1 ≤ e.sent ∧ e.sent ≤ 8) ∧ ((0 ≤ e.back ∧ e.back ≤ 8) ∧ (e.und = true ∨ e.back = 0)) ∧ (0 ≤ e.last ∧ e.last ≤ 1073741824) ∧ (0 ≤ e.backLast ∧ e.backLast ≤ 1073741824) ∧ (0 < e.back ∨ e.backLast = 0) := by
  simp [Ent.may, Ent.b3, Ent.b4, and_assoc]
theorem mno (h : ¬ ((1 ≤ e.ord ∧ e.ord ≤ 255) ∧ e.what.check = 0 ∧ (1 ≤ e.sent ∧ e.sent ≤ 8) ∧ (0 ≤ e.last ∧ e.last ≤ 1073741824) ∧ (0 ≤ e.backLast ∧ e.backLast ≤ 1073741824))) : e.may = false := by
  cases hm : e.may
  · rfl
  · obtain ⟨h1, h2, h3, h4, h5, h6, h7⟩ := (Ent.may_iff e).1 hm
    exact absurd ⟨h1, h2, h3, h5, h6⟩ h
end
end Go.Proofs.Ytkhmplaocfjpjaa.Sep
