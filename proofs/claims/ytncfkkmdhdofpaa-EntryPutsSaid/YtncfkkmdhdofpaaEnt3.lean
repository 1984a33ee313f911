/- whether an entry may be, by parts of memory. -/
import Derived.Test.YtncfkkmdhdofpaaEnt2
namespace Go.Proofs.Ytncfkkmdhdofpaa.Sep
open Go.RowKit Go.Proofs.Ytncfkkmdhdofpaa.Reg
open Go.Proofs.Ytncfkkmdhdofpaa.Mem hiding Rd Own
-- types: octT idnT
-- recs: idnT_rec effT_rec cfgT_rec entT_rec enrT_rec
-- eqs: idnT_eqa effT_eqa entT_eqa enrT_eqa
-- funcs
set_option maxRecDepth 100000
set_option maxHeartbeats 8000000
def Ent.b3 (e : Ent) : Bool := decide (0 ≤ e.back ∧ e.back ≤ 8) && (e.und || decide (e.back = 0))
def Ent.b4 (e : Ent) : Bool := decide (0 ≤ e.last ∧ e.last ≤ 1073741824) && (decide (0 ≤ e.backLast ∧ e.backLast ≤ 1073741824) && (decide (0 < e.back) || decide (e.backLast = 0)))
def Ent.may (e : Ent) : Bool := decide (1 ≤ e.ord ∧ e.ord ≤ 255) && (decide (e.what.check = 0) && (decide (1 ≤ e.sent ∧ e.sent ≤ 8) && (e.b3 && e.b4)))
section
variable (E : Env) (e : Ent)
theorem echeck : Tri Try.prog E 51 #[.agg e.cs.toArray] [] fun r H' => r = .returned (.bool e.may) ∧ H' = [] := by
  refine tri Try.func51 rfl Try.ntmps51 (by simp) ?_
  unfold Ent.may
  repeat ((fail_if_success (refine C.seq (x := Code.region 1 _ _) ?_)); first | refine vEn1 ?_ | (refine kEn1 ?_; (first | rintro _ _ ⟨rfl, rfl⟩ | rintro _ _ ⟨_, rfl, rfl⟩ | rintro _ _ ⟨_, _, ⟨_, _⟩, rfl, rfl⟩); try refine ⟨sConv, ?_⟩) | refine Dr.two ?_ ?_)
  rename_i g
  refine C.cut (X := Unit) (fun _ => [(1, .pointer (some ⟨g, 0, none⟩)), (3, .bool e.b3)]) (fun _ => [blk g 89 e.cs]) (fun _ => True) ?_ ?_
  · unfold Ent.b3
    repeat (first | refine wEn1 ?_ | (refine kEn1 ?_; (first | rintro _ _ ⟨rfl, rfl⟩ | rintro _ _ ⟨_, rfl, rfl⟩ | rintro _ _ ⟨_, _, ⟨_, _⟩, rfl, rfl⟩); try refine ⟨sConv, ?_⟩) | refine Dr.two ?_ ?_)
    refine L.step (by decide) (S.call rfl rfl Try.func74 (by kernel_rfl) rfl sPicks (fun E' hE => in_any E' e.back 0 8) ?_)
    rintro r H' ⟨rfl, rfl⟩
    refine ⟨_, rfl, _, sCat, ?_⟩
    cases h1 : decide (0 ≤ e.back ∧ e.back ≤ 8)
    · repeat (first | refine wEn1 ?_ | (refine kEn1 ?_; (first | rintro _ _ ⟨rfl, rfl⟩ | rintro _ _ ⟨_, rfl, rfl⟩ | rintro _ _ ⟨_, _, ⟨_, _⟩, rfl, rfl⟩); try refine ⟨sConv, ?_⟩) | refine Dr.two ?_ ?_)
      exact ⟨(), sHolds, sConv, trivial⟩
    · repeat (first | refine wEn1 ?_ | (refine kEn1 ?_; (first | rintro _ _ ⟨rfl, rfl⟩ | rintro _ _ ⟨_, rfl, rfl⟩ | rintro _ _ ⟨_, _, ⟨_, _⟩, rfl, rfl⟩); try refine ⟨sConv, ?_⟩) | refine Dr.two ?_ ?_)
      refine L.step (by decide) (S.call rfl rfl Try.func55 (by kernel_rfl) rfl sPicks (fun E' hE => eund E' e) ?_)
      rintro r H' ⟨rfl, rfl⟩
      refine ⟨_, rfl, _, sCat, ?_⟩
      cases h2 : e.und
      · repeat (first | refine wEn1 ?_ | (refine kEn1 ?_; (first | rintro _ _ ⟨rfl, rfl⟩ | rintro _ _ ⟨_, rfl, rfl⟩ | rintro _ _ ⟨_, _, ⟨_, _⟩, rfl, rfl⟩); try refine ⟨sConv, ?_⟩) | refine Dr.two ?_ ?_)
        exact ⟨(), sHolds, sConv, trivial⟩
      · repeat (first | refine wEn1 ?_ | (refine kEn1 ?_; (first | rintro _ _ ⟨rfl, rfl⟩ | rintro _ _ ⟨_, rfl, rfl⟩ | rintro _ _ ⟨_, _, ⟨_, _⟩, rfl, rfl⟩); try refine ⟨sConv, ?_⟩) | refine Dr.two ?_ ?_)
        exact ⟨(), sHolds, sConv, trivial⟩
  rintro - G -
  refine C.cut (X := Unit) (fun _ => [(1, .pointer (some ⟨g, 0, none⟩)), (3, .bool e.b3), (4, .bool e.b4)]) (fun _ => [blk g 89 e.cs]) (fun _ => True) ?_ ?_
  · unfold Ent.b4
    repeat (first | refine wEn1 ?_ | (refine kEn1 ?_; (first | rintro _ _ ⟨rfl, rfl⟩ | rintro _ _ ⟨_, rfl, rfl⟩ | rintro _ _ ⟨_, _, ⟨_, _⟩, rfl, rfl⟩); try refine ⟨sConv, ?_⟩) | refine Dr.two ?_ ?_)
    refine L.step (by decide) (S.call rfl rfl Try.func74 (by kernel_rfl) rfl sPicks (fun E' hE => in_any E' e.last 0 1073741824) ?_)
    rintro r H' ⟨rfl, rfl⟩
    refine ⟨_, rfl, _, sCat, ?_⟩
    cases h1 : decide (0 ≤ e.last ∧ e.last ≤ 1073741824)
    · repeat (first | refine wEn1 ?_ | (refine kEn1 ?_; (first | rintro _ _ ⟨rfl, rfl⟩ | rintro _ _ ⟨_, rfl, rfl⟩ | rintro _ _ ⟨_, _, ⟨_, _⟩, rfl, rfl⟩); try refine ⟨sConv, ?_⟩) | refine Dr.two ?_ ?_)
      exact ⟨(), sHolds, sConv, trivial⟩
    · repeat (first | refine wEn1 ?_ | (refine kEn1 ?_; (first | rintro _ _ ⟨rfl, rfl⟩ | rintro _ _ ⟨_, rfl, rfl⟩ | rintro _ _ ⟨_, _, ⟨_, _⟩, rfl, rfl⟩); try refine ⟨sConv, ?_⟩) | refine Dr.two ?_ ?_)
      refine L.step (by decide) (S.call rfl rfl Try.func74 (by kernel_rfl) rfl sPicks (fun E' hE => in_any E' e.backLast 0 1073741824) ?_)
      rintro r H' ⟨rfl, rfl⟩
      refine ⟨_, rfl, _, sCat, ?_⟩
      cases h2 : decide (0 ≤ e.backLast ∧ e.backLast ≤ 1073741824)
      · repeat (first | refine wEn1 ?_ | (refine kEn1 ?_; (first | rintro _ _ ⟨rfl, rfl⟩ | rintro _ _ ⟨_, rfl, rfl⟩ | rintro _ _ ⟨_, _, ⟨_, _⟩, rfl, rfl⟩); try refine ⟨sConv, ?_⟩) | refine Dr.two ?_ ?_)
        exact ⟨(), sHolds, sConv, trivial⟩
      · by_cases h3 : 0 < e.back
        · rw [decide_eq_true h3]
          repeat (first | refine wEn1 ?_ | (refine kEn1 ?_; (first | rintro _ _ ⟨rfl, rfl⟩ | rintro _ _ ⟨_, rfl, rfl⟩ | rintro _ _ ⟨_, _, ⟨_, _⟩, rfl, rfl⟩); try refine ⟨sConv, ?_⟩) | refine Dr.two ?_ ?_)
          exact ⟨(), sHolds, sConv, trivial⟩
        · rw [decide_eq_false h3]
          repeat (first | refine wEn1 ?_ | (refine kEn1 ?_; (first | rintro _ _ ⟨rfl, rfl⟩ | rintro _ _ ⟨_, rfl, rfl⟩ | rintro _ _ ⟨_, _, ⟨_, _⟩, rfl, rfl⟩); try refine ⟨sConv, ?_⟩) | refine Dr.two ?_ ?_)
          exact ⟨(), sHolds, sConv, trivial⟩
  rintro - G -
  repeat (first | refine wEn1 ?_ | (refine kEn1 ?_; (first | rintro _ _ ⟨rfl, rfl⟩ | rintro _ _ ⟨_, rfl, rfl⟩ | rintro _ _ ⟨_, _, ⟨_, _⟩, rfl, rfl⟩); try refine ⟨sConv, ?_⟩) | refine Dr.two ?_ ?_)
  refine L.step (by decide) (S.call rfl rfl Try.func74 (by kernel_rfl) rfl sPicks (fun E' hE => in_any E' e.ord 1 255) ?_)
  rintro r H' ⟨rfl, rfl⟩
  refine ⟨_, rfl, _, sCat, ?_⟩
  cases h1 : decide (1 ≤ e.ord ∧ e.ord ≤ 255)
  · repeat (first | refine wEn1 ?_ | (refine kEn1 ?_; (first | rintro _ _ ⟨rfl, rfl⟩ | rintro _ _ ⟨_, rfl, rfl⟩ | rintro _ _ ⟨_, _, ⟨_, _⟩, rfl, rfl⟩); try refine ⟨sConv, ?_⟩) | refine Dr.two ?_ ?_)
    exact ret1 rfl sRet sConv (⟨rfl, rfl⟩)
  repeat (first | refine wEn1 ?_ | (refine kEn1 ?_; (first | rintro _ _ ⟨rfl, rfl⟩ | rintro _ _ ⟨_, rfl, rfl⟩ | rintro _ _ ⟨_, _, ⟨_, _⟩, rfl, rfl⟩); try refine ⟨sConv, ?_⟩) | refine Dr.two ?_ ?_)
  refine L.step (by decide) (S.call rfl rfl Try.func92 (by kernel_rfl) rfl sPicks (fun E' hE => fcheck E' e.what) ?_)
  rintro r H' ⟨rfl, rfl⟩
  refine ⟨_, rfl, _, sCat, ?_⟩
  generalize e.what.check = k
  by_cases h2 : k = 0
  case neg =>
    rw [decide_eq_false h2]
    repeat (first | refine wEn1 ?_ | (refine kEn1 ?_; (first | rintro _ _ ⟨rfl, rfl⟩ | rintro _ _ ⟨_, rfl, rfl⟩ | rintro _ _ ⟨_, _, ⟨_, _⟩, rfl, rfl⟩); try refine ⟨sConv, ?_⟩) | refine Dr.two ?_ ?_)
    exact ret1 rfl sRet sConv (⟨rfl, rfl⟩)
  rw [decide_eq_true h2]
  repeat (first | refine wEn1 ?_ | (refine kEn1 ?_; (first | rintro _ _ ⟨rfl, rfl⟩ | rintro _ _ ⟨_, rfl, rfl⟩ | rintro _ _ ⟨_, _, ⟨_, _⟩, rfl, rfl⟩); try refine ⟨sConv, ?_⟩) | refine Dr.two ?_ ?_)
  refine L.step (by decide) (S.call rfl rfl Try.func74 (by kernel_rfl) rfl sPicks (fun E' hE => in_any E' e.sent 1 8) ?_)
  rintro r H' ⟨rfl, rfl⟩
  refine ⟨_, rfl, _, sCat, ?_⟩
  cases h3 : decide (1 ≤ e.sent ∧ e.sent ≤ 8)
  · repeat (first | refine wEn1 ?_ | (refine kEn1 ?_; (first | rintro _ _ ⟨rfl, rfl⟩ | rintro _ _ ⟨_, rfl, rfl⟩ | rintro _ _ ⟨_, _, ⟨_, _⟩, rfl, rfl⟩); try refine ⟨sConv, ?_⟩) | refine Dr.two ?_ ?_)
    exact ret1 rfl sRet sConv (⟨rfl, rfl⟩)
  cases h4 : e.b3
  · repeat (first | refine wEn1 ?_ | (refine kEn1 ?_; (first | rintro _ _ ⟨rfl, rfl⟩ | rintro _ _ ⟨_, rfl, rfl⟩ | rintro _ _ ⟨_, _, ⟨_, _⟩, rfl, rfl⟩); try refine ⟨sConv, ?_⟩) | refine Dr.two ?_ ?_)
    exact ret1 rfl sRet sConv (⟨rfl, rfl⟩)
  · repeat (first | refine wEn1 ?_ | (refine kEn1 ?_; (first | rintro _ _ ⟨rfl, rfl⟩ | rintro _ _ ⟨_, rfl, rfl⟩ | rintro _ _ ⟨_, _, ⟨_, _⟩, rfl, rfl⟩); try refine ⟨sConv, ?_⟩) | refine Dr.two ?_ ?_)
    exact ret1 rfl sRet sConv (⟨rfl, rfl⟩)
theorem Ent.may_iff : e.may = true ↔ (1 ≤ e.ord ∧ e.ord ≤ 255) ∧ e.what.check = 0 ∧ (1 ≤ e.sent ∧ e.sent ≤ 8) ∧ ((0 ≤ e.back ∧ e.back ≤ 8) ∧ (e.und = true ∨ e.back = 0)) ∧ (0 ≤ e.last ∧ e.last ≤ 1073741824) ∧ (0 ≤ e.backLast ∧ e.backLast ≤ 1073741824) ∧ (0 < e.back ∨ e.backLast = 0) := by
  simp [Ent.may, Ent.b3, Ent.b4, and_assoc]
theorem mno (h : ¬ ((1 ≤ e.ord ∧ e.ord ≤ 255) ∧ e.what.check = 0 ∧ (1 ≤ e.sent ∧ e.sent ≤ 8) ∧ (0 ≤ e.last ∧ e.last ≤ 1073741824) ∧ (0 ≤ e.backLast ∧ e.backLast ≤ 1073741824))) : e.may = false := by
  cases hm : e.may
  · rfl
  · obtain ⟨h1, h2, h3, h4, h5, h6, h7⟩ := (Ent.may_iff e).1 hm
    exact absurd ⟨h1, h2, h3, h5, h6⟩ h
theorem mmay : Tri Try.prog E 52 #[.agg e.cs.toArray] [] fun r H' => r = .returned (.bool e.may) ∧ H' = [] := by
  refine tri Try.func52 rfl Try.ntmps52 (by simp) ?_
  by_cases h1 : e.ord < 1
  · rw [mno e (by omega)]
    repeat (first | refine wEn1 ?_ | (refine kEn1 ?_; (first | rintro _ _ ⟨rfl, rfl⟩ | rintro _ _ ⟨_, rfl, rfl⟩ | rintro _ _ ⟨_, _, ⟨_, _⟩, rfl, rfl⟩); try refine ⟨sConv, ?_⟩) | refine Dr.two ?_ ?_)
    exact ret1 rfl sRet sConv (⟨rfl, rfl⟩)
  by_cases h2 : 255 < e.ord
  · rw [mno e (by omega)]
    repeat (first | refine wEn1 ?_ | (refine kEn1 ?_; (first | rintro _ _ ⟨rfl, rfl⟩ | rintro _ _ ⟨_, rfl, rfl⟩ | rintro _ _ ⟨_, _, ⟨_, _⟩, rfl, rfl⟩); try refine ⟨sConv, ?_⟩) | refine Dr.two ?_ ?_)
    exact ret1 rfl sRet sConv (⟨rfl, rfl⟩)
  repeat (first | refine wEn1 ?_ | (refine kEn1 ?_; (first | rintro _ _ ⟨rfl, rfl⟩ | rintro _ _ ⟨_, rfl, rfl⟩ | rintro _ _ ⟨_, _, ⟨_, _⟩, rfl, rfl⟩); try refine ⟨sConv, ?_⟩) | refine Dr.two ?_ ?_)
  refine L.step (by decide) (S.call rfl rfl Try.func93 (by kernel_rfl) rfl sPicks (fun E' hE => rfcheck E' e.what) ?_)
  rintro r H' ⟨rfl, rfl⟩
  refine ⟨_, rfl, _, sCat, ?_⟩
  have hno := mno e
  have hmi := Ent.may_iff e
  generalize e.what.check = q at *
  by_cases h3 : q = 0
  case neg =>
    rw [hno (by omega)]
    repeat (first | refine wEn1 ?_ | (refine kEn1 ?_; (first | rintro _ _ ⟨rfl, rfl⟩ | rintro _ _ ⟨_, rfl, rfl⟩ | rintro _ _ ⟨_, _, ⟨_, _⟩, rfl, rfl⟩); try refine ⟨sConv, ?_⟩) | refine Dr.two ?_ ?_)
    exact ret1 rfl sRet sConv (⟨rfl, rfl⟩)
  by_cases h4 : e.sent < 1
  · rw [hno (by omega)]
    repeat (first | refine wEn1 ?_ | (refine kEn1 ?_; (first | rintro _ _ ⟨rfl, rfl⟩ | rintro _ _ ⟨_, rfl, rfl⟩ | rintro _ _ ⟨_, _, ⟨_, _⟩, rfl, rfl⟩); try refine ⟨sConv, ?_⟩) | refine Dr.two ?_ ?_)
    exact ret1 rfl sRet sConv (⟨rfl, rfl⟩)
  by_cases h5 : 8 < e.sent
  · rw [hno (by omega)]
    repeat (first | refine wEn1 ?_ | (refine kEn1 ?_; (first | rintro _ _ ⟨rfl, rfl⟩ | rintro _ _ ⟨_, rfl, rfl⟩ | rintro _ _ ⟨_, _, ⟨_, _⟩, rfl, rfl⟩); try refine ⟨sConv, ?_⟩) | refine Dr.two ?_ ?_)
    exact ret1 rfl sRet sConv (⟨rfl, rfl⟩)
  by_cases h6 : e.last < 0
  · rw [hno (by omega)]
    repeat (first | refine wEn1 ?_ | (refine kEn1 ?_; (first | rintro _ _ ⟨rfl, rfl⟩ | rintro _ _ ⟨_, rfl, rfl⟩ | rintro _ _ ⟨_, _, ⟨_, _⟩, rfl, rfl⟩); try refine ⟨sConv, ?_⟩) | refine Dr.two ?_ ?_)
    exact ret1 rfl sRet sConv (⟨rfl, rfl⟩)
  by_cases h7 : 1073741824 < e.last
  · rw [hno (by omega)]
    repeat (first | refine wEn1 ?_ | (refine kEn1 ?_; (first | rintro _ _ ⟨rfl, rfl⟩ | rintro _ _ ⟨_, rfl, rfl⟩ | rintro _ _ ⟨_, _, ⟨_, _⟩, rfl, rfl⟩); try refine ⟨sConv, ?_⟩) | refine Dr.two ?_ ?_)
    exact ret1 rfl sRet sConv (⟨rfl, rfl⟩)
  by_cases h8 : e.backLast < 0
  · rw [hno (by omega)]
    repeat (first | refine wEn1 ?_ | (refine kEn1 ?_; (first | rintro _ _ ⟨rfl, rfl⟩ | rintro _ _ ⟨_, rfl, rfl⟩ | rintro _ _ ⟨_, _, ⟨_, _⟩, rfl, rfl⟩); try refine ⟨sConv, ?_⟩) | refine Dr.two ?_ ?_)
    exact ret1 rfl sRet sConv (⟨rfl, rfl⟩)
  by_cases h9 : 1073741824 < e.backLast
  · rw [hno (by omega)]
    repeat (first | refine wEn1 ?_ | (refine kEn1 ?_; (first | rintro _ _ ⟨rfl, rfl⟩ | rintro _ _ ⟨_, rfl, rfl⟩ | rintro _ _ ⟨_, _, ⟨_, _⟩, rfl, rfl⟩); try refine ⟨sConv, ?_⟩) | refine Dr.two ?_ ?_)
    exact ret1 rfl sRet sConv (⟨rfl, rfl⟩)
  have hz : e.may = (decide (0 ≤ e.back) && (decide (e.back ≤ 8) && ((decide (e.back = 0) || e.und) && (decide (e.backLast = 0) || decide (0 < e.back))))) := by
    rw [Bool.eq_iff_iff, hmi]
    simp
    constructor
    · rintro ⟨a1, a2, a3, ⟨a4, a5⟩, a6, a7, a8⟩
      exact ⟨a4.1, a4.2, a5.symm, a8.symm⟩
    · rintro ⟨a1, a2, a3, a4⟩
      exact ⟨by omega, h3, by omega, ⟨⟨a1, a2⟩, a3.symm⟩, by omega, by omega, a4.symm⟩
  rw [hz]
  clear hno hmi hz
  by_cases k1 : 0 ≤ e.back
  case neg =>
    rw [decide_eq_false k1]
    repeat (first | refine wEn1 ?_ | (refine kEn1 ?_; (first | rintro _ _ ⟨rfl, rfl⟩ | rintro _ _ ⟨_, rfl, rfl⟩ | rintro _ _ ⟨_, _, ⟨_, _⟩, rfl, rfl⟩); try refine ⟨sConv, ?_⟩) | refine Dr.two ?_ ?_)
    exact ret1 rfl sRet sConv (⟨rfl, rfl⟩)
  by_cases k2 : e.back ≤ 8
  case neg =>
    rw [decide_eq_true k1, decide_eq_false k2]
    repeat (first | refine wEn1 ?_ | (refine kEn1 ?_; (first | rintro _ _ ⟨rfl, rfl⟩ | rintro _ _ ⟨_, rfl, rfl⟩ | rintro _ _ ⟨_, _, ⟨_, _⟩, rfl, rfl⟩); try refine ⟨sConv, ?_⟩) | refine Dr.two ?_ ?_)
    exact ret1 rfl sRet sConv (⟨rfl, rfl⟩)
  rw [decide_eq_true k1, decide_eq_true k2]
  by_cases k3 : e.back = 0
  · rw [decide_eq_true k3]
    by_cases k4 : e.backLast = 0
    · rw [decide_eq_true k4]
      repeat (first | refine wEn1 ?_ | (refine kEn1 ?_; (first | rintro _ _ ⟨rfl, rfl⟩ | rintro _ _ ⟨_, rfl, rfl⟩ | rintro _ _ ⟨_, _, ⟨_, _⟩, rfl, rfl⟩); try refine ⟨sConv, ?_⟩) | refine Dr.two ?_ ?_)
      exact ret1 rfl sRet sConv (⟨rfl, rfl⟩)
    · rw [decide_eq_false k4]
      repeat (first | refine wEn1 ?_ | (refine kEn1 ?_; (first | rintro _ _ ⟨rfl, rfl⟩ | rintro _ _ ⟨_, rfl, rfl⟩ | rintro _ _ ⟨_, _, ⟨_, _⟩, rfl, rfl⟩); try refine ⟨sConv, ?_⟩) | refine Dr.two ?_ ?_)
      exact ret1 rfl sRet sConv (⟨rfl, rfl⟩)
  · rw [decide_eq_false k3]
    repeat (first | refine wEn1 ?_ | (refine kEn1 ?_; (first | rintro _ _ ⟨rfl, rfl⟩ | rintro _ _ ⟨_, rfl, rfl⟩ | rintro _ _ ⟨_, _, ⟨_, _⟩, rfl, rfl⟩); try refine ⟨sConv, ?_⟩) | refine Dr.two ?_ ?_)
    refine L.step (by decide) (S.call rfl rfl Try.func56 (by kernel_rfl) rfl sPicks (fun E' hE => mund E' e) ?_)
    rintro r H' ⟨rfl, rfl⟩
    refine ⟨_, rfl, _, sCat, ?_⟩
    cases hu : e.und
    · repeat (first | refine wEn1 ?_ | (refine kEn1 ?_; (first | rintro _ _ ⟨rfl, rfl⟩ | rintro _ _ ⟨_, rfl, rfl⟩ | rintro _ _ ⟨_, _, ⟨_, _⟩, rfl, rfl⟩); try refine ⟨sConv, ?_⟩) | refine Dr.two ?_ ?_)
      exact ret1 rfl sRet sConv (⟨rfl, rfl⟩)
    by_cases k4 : e.backLast = 0
    · rw [decide_eq_true k4]
      repeat (first | refine wEn1 ?_ | (refine kEn1 ?_; (first | rintro _ _ ⟨rfl, rfl⟩ | rintro _ _ ⟨_, rfl, rfl⟩ | rintro _ _ ⟨_, _, ⟨_, _⟩, rfl, rfl⟩); try refine ⟨sConv, ?_⟩) | refine Dr.two ?_ ?_)
      exact ret1 rfl sRet sConv (⟨rfl, rfl⟩)
    · rw [decide_eq_false k4]
      repeat (first | refine wEn1 ?_ | (refine kEn1 ?_; (first | rintro _ _ ⟨rfl, rfl⟩ | rintro _ _ ⟨_, rfl, rfl⟩ | rintro _ _ ⟨_, _, ⟨_, _⟩, rfl, rfl⟩); try refine ⟨sConv, ?_⟩) | refine Dr.two ?_ ?_)
      exact ret1 rfl sRet sConv (⟨rfl, rfl⟩)
end
end Go.Proofs.Ytncfkkmdhdofpaa.Sep
