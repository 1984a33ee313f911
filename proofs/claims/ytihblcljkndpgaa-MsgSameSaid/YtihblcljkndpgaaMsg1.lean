/- Messages that are alike, both sides. -/
import Derived.Test.YtihblcljkndpgaaMsg0
namespace Go.Proofs.Ytihblcljkndpgaa.Sep
open Go.RowKit Go.Proofs.Ytihblcljkndpgaa.Reg
open Go.Proofs.Ytihblcljkndpgaa.Mem hiding Rd Own
-- types: octT idnT chgT
-- recs: rec_Reader idnT_rec effT_rec chgT_rec keyT_rec mgT_rec rgT_rec wrT_rec rdT_rec
-- eqs: idnT_eqa effT_eqa chgT_eqa keyT_eqa
-- eqrs: k4_eqr
-- zeros: z_octs z_rdr
-- funcs
set_option maxRecDepth 100000
set_option maxHeartbeats 6000000
section
variable (E : Env) (A : Option Addr) (n c : Nat) (B : Option Addr) (k d : Nat) (A2 : Option Addr) (n2 c2 : Nat) (B2 : Option Addr) (k2 d2 : Nat)
theorem msame (a b : Mg) (h1 : Rd E idnT A n c a.ids) (h2 : Rd E chgT B k d a.chs) (h3 : Rd E idnT A2 n2 c2 b.ids) (h4 : Rd E chgT B2 k2 d2 b.chs) : Tri Try.prog E 9 #[.agg (mcs a A n c B k d).toArray, .agg (mcs b A2 n2 c2 B2 k2 d2).toArray] [] fun e H' => e = .returned (.bool (decide (a = b))) ∧ H' = [] := by
  refine tri Try.func9 rfl Try.ntmps9 (by simp) ?_
  by_cases q_kind : a.kind = b.kind
  case neg =>
    have hne : a ≠ b := fun h => q_kind (by rw [h])
    rw [decide_eq_false hne]
    repeat (first | refine wMg ?_ | (refine kMg ?_; (first | rintro _ _ ⟨rfl, rfl⟩ | rintro _ _ ⟨_, rfl, rfl⟩ | rintro _ _ ⟨_, _, ⟨_, _⟩, rfl, rfl⟩); try refine ⟨sConv, ?_⟩) | refine Dr.two ?_ ?_)
    exact ret1 rfl sRet sConv (⟨rfl, rfl⟩)
  by_cases q_fr : a.fr = b.fr
  case neg =>
    have hne : a ≠ b := fun h => q_fr (by rw [h])
    rw [decide_eq_false hne]
    repeat (first | refine wMg ?_ | (refine kMg ?_; (first | rintro _ _ ⟨rfl, rfl⟩ | rintro _ _ ⟨_, rfl, rfl⟩ | rintro _ _ ⟨_, _, ⟨_, _⟩, rfl, rfl⟩); try refine ⟨sConv, ?_⟩) | refine Dr.two ?_ ?_)
    exact ret1 rfl sRet sConv (⟨rfl, rfl⟩)
  by_cases q_to : a.to = b.to
  case neg =>
    have hne : a ≠ b := fun h => q_to (by rw [h])
    rw [decide_eq_false hne]
    repeat (first | refine wMg ?_ | (refine kMg ?_; (first | rintro _ _ ⟨rfl, rfl⟩ | rintro _ _ ⟨_, rfl, rfl⟩ | rintro _ _ ⟨_, _, ⟨_, _⟩, rfl, rfl⟩); try refine ⟨sConv, ?_⟩) | refine Dr.two ?_ ?_)
    exact ret1 rfl sRet sConv (⟨rfl, rfl⟩)
  by_cases q_known : a.k0 = b.k0 ∧ a.k1 = b.k1 ∧ a.k2 = b.k2 ∧ a.k3 = b.k3
  case neg =>
    have hne : a ≠ b := fun h => q_known (by rw [h]; exact ⟨rfl, rfl, rfl, rfl⟩)
    have hdn : (decide (a.k0 = b.k0) && (decide (a.k1 = b.k1) && (decide (a.k2 = b.k2) && decide (a.k3 = b.k3)))) = false := by rw [Bool.eq_false_iff]; intro h; simp at h; exact q_known h
    rw [decide_eq_false hne]
    repeat (first | refine wMg ?_ | (refine kMg ?_; (first | rintro _ _ ⟨rfl, rfl⟩ | rintro _ _ ⟨_, rfl, rfl⟩ | rintro _ _ ⟨_, _, ⟨_, _⟩, rfl, rfl⟩); try refine ⟨sConv, ?_⟩) | refine Dr.two ?_ ?_)
    exact ret1 rfl sRet sConv (⟨rfl, rfl⟩)
  have hdn : (decide (a.k0 = b.k0) && (decide (a.k1 = b.k1) && (decide (a.k2 = b.k2) && decide (a.k3 = b.k3)))) = true := by simp only [Bool.and_eq_true, decide_eq_true_eq]; exact q_known
  by_cases q_base : a.base = b.base
  case neg =>
    have hne : a ≠ b := fun h => q_base (by rw [h])
    rw [decide_eq_false hne]
    repeat (first | refine wMg ?_ | (refine kMg ?_; (first | rintro _ _ ⟨rfl, rfl⟩ | rintro _ _ ⟨_, rfl, rfl⟩ | rintro _ _ ⟨_, _, ⟨_, _⟩, rfl, rfl⟩); try refine ⟨sConv, ?_⟩) | refine Dr.two ?_ ?_)
    exact ret1 rfl sRet sConv (⟨rfl, rfl⟩)
  by_cases q_key : a.key = b.key
  case neg =>
    have hne : a ≠ b := fun h => q_key (by rw [h])
    have hdk : decide ((⟨⟨a.key.id.rep, a.key.id.seq⟩, a.key.ord, a.key.undo⟩ : Keyv) = ⟨⟨b.key.id.rep, b.key.id.seq⟩, b.key.ord, b.key.undo⟩) = false := decide_eq_false (show ¬ ((⟨⟨a.key.id.rep, a.key.id.seq⟩, a.key.ord, a.key.undo⟩ : Keyv) = ⟨⟨b.key.id.rep, b.key.id.seq⟩, b.key.ord, b.key.undo⟩) from q_key)
    rw [decide_eq_false hne]
    repeat (first | refine wMg ?_ | (refine kMg ?_; (first | rintro _ _ ⟨rfl, rfl⟩ | rintro _ _ ⟨_, rfl, rfl⟩ | rintro _ _ ⟨_, _, ⟨_, _⟩, rfl, rfl⟩); try refine ⟨sConv, ?_⟩) | refine Dr.two ?_ ?_)
    exact ret1 rfl sRet sConv (⟨rfl, rfl⟩)
  have hdk : decide ((⟨⟨a.key.id.rep, a.key.id.seq⟩, a.key.ord, a.key.undo⟩ : Keyv) = ⟨⟨b.key.id.rep, b.key.id.seq⟩, b.key.ord, b.key.undo⟩) = true := decide_eq_true (show (⟨⟨a.key.id.rep, a.key.id.seq⟩, a.key.ord, a.key.undo⟩ : Keyv) = ⟨⟨b.key.id.rep, b.key.id.seq⟩, b.key.ord, b.key.undo⟩ from q_key)
  by_cases q_what : a.what = b.what
  case neg =>
    have hne : a ≠ b := fun h => q_what (by rw [h])
    have hdw : decide ((⟨a.what.kind, a.what.a, a.what.n, ⟨a.what.ref.rep, a.what.ref.seq⟩⟩ : Eff) = ⟨b.what.kind, b.what.a, b.what.n, ⟨b.what.ref.rep, b.what.ref.seq⟩⟩) = false := decide_eq_false (show ¬ ((⟨a.what.kind, a.what.a, a.what.n, ⟨a.what.ref.rep, a.what.ref.seq⟩⟩ : Eff) = ⟨b.what.kind, b.what.a, b.what.n, ⟨b.what.ref.rep, b.what.ref.seq⟩⟩) from q_what)
    rw [decide_eq_false hne]
    repeat (first | refine wMg ?_ | (refine kMg ?_; (first | rintro _ _ ⟨rfl, rfl⟩ | rintro _ _ ⟨_, rfl, rfl⟩ | rintro _ _ ⟨_, _, ⟨_, _⟩, rfl, rfl⟩); try refine ⟨sConv, ?_⟩) | refine Dr.two ?_ ?_)
    exact ret1 rfl sRet sConv (⟨rfl, rfl⟩)
  have hdw : decide ((⟨a.what.kind, a.what.a, a.what.n, ⟨a.what.ref.rep, a.what.ref.seq⟩⟩ : Eff) = ⟨b.what.kind, b.what.a, b.what.n, ⟨b.what.ref.rep, b.what.ref.seq⟩⟩) = true := decide_eq_true (show (⟨a.what.kind, a.what.a, a.what.n, ⟨a.what.ref.rep, a.what.ref.seq⟩⟩ : Eff) = ⟨b.what.kind, b.what.a, b.what.n, ⟨b.what.ref.rep, b.what.ref.seq⟩⟩ from q_what)
  by_cases q_ids : a.ids = b.ids
  case neg =>
    have hne : a ≠ b := fun h => q_ids (by rw [h])
    rw [decide_eq_false hne]
    repeat (first | refine wMg ?_ | (refine kMg ?_; (first | rintro _ _ ⟨rfl, rfl⟩ | rintro _ _ ⟨_, rfl, rfl⟩ | rintro _ _ ⟨_, _, ⟨_, _⟩, rfl, rfl⟩); try refine ⟨sConv, ?_⟩) | refine Dr.two ?_ ?_)
    refine L.step (by decide) (S.call rfl rfl Try.func25 (by kernel_rfl) rfl sPicks (fun E' hE => seqI E' _ _ _ _ _ _ a.ids b.ids sRd sRd) ?_)
    rw [decide_eq_false q_ids]
    rintro e H' ⟨rfl, rfl⟩
    refine ⟨_, rfl, _, sCat, ?_⟩
    repeat (first | refine wMg ?_ | (refine kMg ?_; (first | rintro _ _ ⟨rfl, rfl⟩ | rintro _ _ ⟨_, rfl, rfl⟩ | rintro _ _ ⟨_, _, ⟨_, _⟩, rfl, rfl⟩); try refine ⟨sConv, ?_⟩) | refine Dr.two ?_ ?_)
    exact ret1 rfl sRet sConv (⟨rfl, rfl⟩)
  by_cases q_chs : a.chs = b.chs
  case neg =>
    have hne : a ≠ b := fun h => q_chs (by rw [h])
    rw [decide_eq_false hne]
    repeat (first | refine wMg ?_ | (refine kMg ?_; (first | rintro _ _ ⟨rfl, rfl⟩ | rintro _ _ ⟨_, rfl, rfl⟩ | rintro _ _ ⟨_, _, ⟨_, _⟩, rfl, rfl⟩); try refine ⟨sConv, ?_⟩) | refine Dr.two ?_ ?_)
    refine L.step (by decide) (S.call rfl rfl Try.func25 (by kernel_rfl) rfl sPicks (fun E' hE => seqI E' _ _ _ _ _ _ a.ids b.ids sRd sRd) ?_)
    rw [decide_eq_true q_ids]
    rintro e H' ⟨rfl, rfl⟩
    refine ⟨_, rfl, _, sCat, ?_⟩
    repeat (first | refine wMg ?_ | (refine kMg ?_; (first | rintro _ _ ⟨rfl, rfl⟩ | rintro _ _ ⟨_, rfl, rfl⟩ | rintro _ _ ⟨_, _, ⟨_, _⟩, rfl, rfl⟩); try refine ⟨sConv, ?_⟩) | refine Dr.two ?_ ?_)
    refine L.step (by decide) (S.call rfl rfl Try.func26 (by kernel_rfl) rfl sPicks (fun E' hE => seqC E' _ _ _ _ _ _ a.chs b.chs sRd sRd) ?_)
    rw [decide_eq_false q_chs]
    rintro e H' ⟨rfl, rfl⟩
    refine ⟨_, rfl, _, sCat, ?_⟩
    repeat (first | refine wMg ?_ | (refine kMg ?_; (first | rintro _ _ ⟨rfl, rfl⟩ | rintro _ _ ⟨_, rfl, rfl⟩ | rintro _ _ ⟨_, _, ⟨_, _⟩, rfl, rfl⟩); try refine ⟨sConv, ?_⟩) | refine Dr.two ?_ ?_)
    exact ret1 rfl sRet sConv (⟨rfl, rfl⟩)
  have hee : a = b := Mg.eq_iff.2 ⟨q_kind, q_fr, q_to, q_known.1, q_known.2.1, q_known.2.2.1, q_known.2.2.2, q_base, q_ids, q_chs, q_key, q_what⟩
  rw [decide_eq_true hee]
  repeat (first | refine wMg ?_ | (refine kMg ?_; (first | rintro _ _ ⟨rfl, rfl⟩ | rintro _ _ ⟨_, rfl, rfl⟩ | rintro _ _ ⟨_, _, ⟨_, _⟩, rfl, rfl⟩); try refine ⟨sConv, ?_⟩) | refine Dr.two ?_ ?_)
  refine L.step (by decide) (S.call rfl rfl Try.func25 (by kernel_rfl) rfl sPicks (fun E' hE => seqI E' _ _ _ _ _ _ a.ids b.ids sRd sRd) ?_)
  rw [decide_eq_true q_ids]
  rintro e H' ⟨rfl, rfl⟩
  refine ⟨_, rfl, _, sCat, ?_⟩
  repeat (first | refine wMg ?_ | (refine kMg ?_; (first | rintro _ _ ⟨rfl, rfl⟩ | rintro _ _ ⟨_, rfl, rfl⟩ | rintro _ _ ⟨_, _, ⟨_, _⟩, rfl, rfl⟩); try refine ⟨sConv, ?_⟩) | refine Dr.two ?_ ?_)
  refine L.step (by decide) (S.call rfl rfl Try.func26 (by kernel_rfl) rfl sPicks (fun E' hE => seqC E' _ _ _ _ _ _ a.chs b.chs sRd sRd) ?_)
  rw [decide_eq_true q_chs]
  rintro e H' ⟨rfl, rfl⟩
  refine ⟨_, rfl, _, sCat, ?_⟩
  repeat (first | refine wMg ?_ | (refine kMg ?_; (first | rintro _ _ ⟨rfl, rfl⟩ | rintro _ _ ⟨_, rfl, rfl⟩ | rintro _ _ ⟨_, _, ⟨_, _⟩, rfl, rfl⟩); try refine ⟨sConv, ?_⟩) | refine Dr.two ?_ ?_)
  exact ret1 rfl sRet sConv (⟨rfl, rfl⟩)
theorem rsame (a b : Mg) (h1 : Rd E idnT A n c a.ids) (h2 : Rd E chgT B k d a.chs) (h3 : Rd E idnT A2 n2 c2 b.ids) (h4 : Rd E chgT B2 k2 d2 b.chs) : Tri Try.prog E 11 #[.agg (mcs a A n c B k d).toArray, .agg (mcs b A2 n2 c2 B2 k2 d2).toArray] [] fun e H' => e = .returned (.bool (decide (a = b))) ∧ H' = [] := by
  refine tri Try.func11 rfl Try.ntmps11 (by simp) ?_
  by_cases q_kind : a.kind = b.kind
  case neg =>
    have hne : a ≠ b := fun h => q_kind (by rw [h])
    rw [decide_eq_false hne]
    repeat (first | refine wMg ?_ | (refine kMg ?_; (first | rintro _ _ ⟨rfl, rfl⟩ | rintro _ _ ⟨_, rfl, rfl⟩ | rintro _ _ ⟨_, _, ⟨_, _⟩, rfl, rfl⟩); try refine ⟨sConv, ?_⟩) | refine Dr.two ?_ ?_)
    exact ret1 rfl sRet sConv (⟨rfl, rfl⟩)
  by_cases q_fr : a.fr = b.fr
  case neg =>
    have hne : a ≠ b := fun h => q_fr (by rw [h])
    rw [decide_eq_false hne]
    repeat (first | refine wMg ?_ | (refine kMg ?_; (first | rintro _ _ ⟨rfl, rfl⟩ | rintro _ _ ⟨_, rfl, rfl⟩ | rintro _ _ ⟨_, _, ⟨_, _⟩, rfl, rfl⟩); try refine ⟨sConv, ?_⟩) | refine Dr.two ?_ ?_)
    exact ret1 rfl sRet sConv (⟨rfl, rfl⟩)
  by_cases q_to : a.to = b.to
  case neg =>
    have hne : a ≠ b := fun h => q_to (by rw [h])
    rw [decide_eq_false hne]
    repeat (first | refine wMg ?_ | (refine kMg ?_; (first | rintro _ _ ⟨rfl, rfl⟩ | rintro _ _ ⟨_, rfl, rfl⟩ | rintro _ _ ⟨_, _, ⟨_, _⟩, rfl, rfl⟩); try refine ⟨sConv, ?_⟩) | refine Dr.two ?_ ?_)
    exact ret1 rfl sRet sConv (⟨rfl, rfl⟩)
  by_cases q_known : a.k0 = b.k0 ∧ a.k1 = b.k1 ∧ a.k2 = b.k2 ∧ a.k3 = b.k3
  case neg =>
    have hne : a ≠ b := fun h => q_known (by rw [h]; exact ⟨rfl, rfl, rfl, rfl⟩)
    have hdn : (decide (a.k0 = b.k0) && (decide (a.k1 = b.k1) && (decide (a.k2 = b.k2) && decide (a.k3 = b.k3)))) = false := by rw [Bool.eq_false_iff]; intro h; simp at h; exact q_known h
    rw [decide_eq_false hne]
    repeat (first | refine wMg ?_ | (refine kMg ?_; (first | rintro _ _ ⟨rfl, rfl⟩ | rintro _ _ ⟨_, rfl, rfl⟩ | rintro _ _ ⟨_, _, ⟨_, _⟩, rfl, rfl⟩); try refine ⟨sConv, ?_⟩) | refine Dr.two ?_ ?_)
    exact ret1 rfl sRet sConv (⟨rfl, rfl⟩)
  have hdn : (decide (a.k0 = b.k0) && (decide (a.k1 = b.k1) && (decide (a.k2 = b.k2) && decide (a.k3 = b.k3)))) = true := by simp only [Bool.and_eq_true, decide_eq_true_eq]; exact q_known
  by_cases q_base : a.base = b.base
  case neg =>
    have hne : a ≠ b := fun h => q_base (by rw [h])
    rw [decide_eq_false hne]
    repeat (first | refine wMg ?_ | (refine kMg ?_; (first | rintro _ _ ⟨rfl, rfl⟩ | rintro _ _ ⟨_, rfl, rfl⟩ | rintro _ _ ⟨_, _, ⟨_, _⟩, rfl, rfl⟩); try refine ⟨sConv, ?_⟩) | refine Dr.two ?_ ?_)
    exact ret1 rfl sRet sConv (⟨rfl, rfl⟩)
  by_cases q_ids : a.ids = b.ids
  case neg =>
    have hne : a ≠ b := fun h => q_ids (by rw [h])
    rw [decide_eq_false hne]
    repeat (first | refine wMg ?_ | (refine kMg ?_; (first | rintro _ _ ⟨rfl, rfl⟩ | rintro _ _ ⟨_, rfl, rfl⟩ | rintro _ _ ⟨_, _, ⟨_, _⟩, rfl, rfl⟩); try refine ⟨sConv, ?_⟩) | refine Dr.two ?_ ?_)
    refine L.step (by decide) (S.call rfl rfl Try.func33 (by kernel_rfl) rfl sPicks (fun E' hE => plI E' _ _ _ _ _ _ a.ids b.ids sRd sRd) ?_)
    rw [decide_eq_false q_ids]
    rintro e H' ⟨rfl, rfl⟩
    refine ⟨_, rfl, _, sCat, ?_⟩
    repeat (first | refine wMg ?_ | (refine kMg ?_; (first | rintro _ _ ⟨rfl, rfl⟩ | rintro _ _ ⟨_, rfl, rfl⟩ | rintro _ _ ⟨_, _, ⟨_, _⟩, rfl, rfl⟩); try refine ⟨sConv, ?_⟩) | refine Dr.two ?_ ?_)
    exact ret1 rfl sRet sConv (⟨rfl, rfl⟩)
  by_cases q_chs : a.chs = b.chs
  case neg =>
    have hne : a ≠ b := fun h => q_chs (by rw [h])
    rw [decide_eq_false hne]
    repeat (first | refine wMg ?_ | (refine kMg ?_; (first | rintro _ _ ⟨rfl, rfl⟩ | rintro _ _ ⟨_, rfl, rfl⟩ | rintro _ _ ⟨_, _, ⟨_, _⟩, rfl, rfl⟩); try refine ⟨sConv, ?_⟩) | refine Dr.two ?_ ?_)
    refine L.step (by decide) (S.call rfl rfl Try.func33 (by kernel_rfl) rfl sPicks (fun E' hE => plI E' _ _ _ _ _ _ a.ids b.ids sRd sRd) ?_)
    rw [decide_eq_true q_ids]
    rintro e H' ⟨rfl, rfl⟩
    refine ⟨_, rfl, _, sCat, ?_⟩
    repeat (first | refine wMg ?_ | (refine kMg ?_; (first | rintro _ _ ⟨rfl, rfl⟩ | rintro _ _ ⟨_, rfl, rfl⟩ | rintro _ _ ⟨_, _, ⟨_, _⟩, rfl, rfl⟩); try refine ⟨sConv, ?_⟩) | refine Dr.two ?_ ?_)
    refine L.step (by decide) (S.call rfl rfl Try.func34 (by kernel_rfl) rfl sPicks (fun E' hE => plC E' _ _ _ _ _ _ a.chs b.chs sRd sRd) ?_)
    rw [decide_eq_false q_chs]
    rintro e H' ⟨rfl, rfl⟩
    refine ⟨_, rfl, _, sCat, ?_⟩
    repeat (first | refine wMg ?_ | (refine kMg ?_; (first | rintro _ _ ⟨rfl, rfl⟩ | rintro _ _ ⟨_, rfl, rfl⟩ | rintro _ _ ⟨_, _, ⟨_, _⟩, rfl, rfl⟩); try refine ⟨sConv, ?_⟩) | refine Dr.two ?_ ?_)
    exact ret1 rfl sRet sConv (⟨rfl, rfl⟩)
  by_cases q_key : a.key = b.key
  case neg =>
    have hne : a ≠ b := fun h => q_key (by rw [h])
    have hdk : decide ((⟨⟨a.key.id.rep, a.key.id.seq⟩, a.key.ord, a.key.undo⟩ : Keyv) = ⟨⟨b.key.id.rep, b.key.id.seq⟩, b.key.ord, b.key.undo⟩) = false := decide_eq_false (show ¬ ((⟨⟨a.key.id.rep, a.key.id.seq⟩, a.key.ord, a.key.undo⟩ : Keyv) = ⟨⟨b.key.id.rep, b.key.id.seq⟩, b.key.ord, b.key.undo⟩) from q_key)
    rw [decide_eq_false hne]
    repeat (first | refine wMg ?_ | (refine kMg ?_; (first | rintro _ _ ⟨rfl, rfl⟩ | rintro _ _ ⟨_, rfl, rfl⟩ | rintro _ _ ⟨_, _, ⟨_, _⟩, rfl, rfl⟩); try refine ⟨sConv, ?_⟩) | refine Dr.two ?_ ?_)
    refine L.step (by decide) (S.call rfl rfl Try.func33 (by kernel_rfl) rfl sPicks (fun E' hE => plI E' _ _ _ _ _ _ a.ids b.ids sRd sRd) ?_)
    rw [decide_eq_true q_ids]
    rintro e H' ⟨rfl, rfl⟩
    refine ⟨_, rfl, _, sCat, ?_⟩
    repeat (first | refine wMg ?_ | (refine kMg ?_; (first | rintro _ _ ⟨rfl, rfl⟩ | rintro _ _ ⟨_, rfl, rfl⟩ | rintro _ _ ⟨_, _, ⟨_, _⟩, rfl, rfl⟩); try refine ⟨sConv, ?_⟩) | refine Dr.two ?_ ?_)
    refine L.step (by decide) (S.call rfl rfl Try.func34 (by kernel_rfl) rfl sPicks (fun E' hE => plC E' _ _ _ _ _ _ a.chs b.chs sRd sRd) ?_)
    rw [decide_eq_true q_chs]
    rintro e H' ⟨rfl, rfl⟩
    refine ⟨_, rfl, _, sCat, ?_⟩
    repeat (first | refine wMg ?_ | (refine kMg ?_; (first | rintro _ _ ⟨rfl, rfl⟩ | rintro _ _ ⟨_, rfl, rfl⟩ | rintro _ _ ⟨_, _, ⟨_, _⟩, rfl, rfl⟩); try refine ⟨sConv, ?_⟩) | refine Dr.two ?_ ?_)
    exact ret1 rfl sRet sConv (⟨rfl, rfl⟩)
  have hdk : decide ((⟨⟨a.key.id.rep, a.key.id.seq⟩, a.key.ord, a.key.undo⟩ : Keyv) = ⟨⟨b.key.id.rep, b.key.id.seq⟩, b.key.ord, b.key.undo⟩) = true := decide_eq_true (show (⟨⟨a.key.id.rep, a.key.id.seq⟩, a.key.ord, a.key.undo⟩ : Keyv) = ⟨⟨b.key.id.rep, b.key.id.seq⟩, b.key.ord, b.key.undo⟩ from q_key)
  by_cases q_what : a.what = b.what
  case neg =>
    have hne : a ≠ b := fun h => q_what (by rw [h])
    have hdw : decide ((⟨a.what.kind, a.what.a, a.what.n, ⟨a.what.ref.rep, a.what.ref.seq⟩⟩ : Eff) = ⟨b.what.kind, b.what.a, b.what.n, ⟨b.what.ref.rep, b.what.ref.seq⟩⟩) = false := decide_eq_false (show ¬ ((⟨a.what.kind, a.what.a, a.what.n, ⟨a.what.ref.rep, a.what.ref.seq⟩⟩ : Eff) = ⟨b.what.kind, b.what.a, b.what.n, ⟨b.what.ref.rep, b.what.ref.seq⟩⟩) from q_what)
    rw [decide_eq_false hne]
    repeat (first | refine wMg ?_ | (refine kMg ?_; (first | rintro _ _ ⟨rfl, rfl⟩ | rintro _ _ ⟨_, rfl, rfl⟩ | rintro _ _ ⟨_, _, ⟨_, _⟩, rfl, rfl⟩); try refine ⟨sConv, ?_⟩) | refine Dr.two ?_ ?_)
    refine L.step (by decide) (S.call rfl rfl Try.func33 (by kernel_rfl) rfl sPicks (fun E' hE => plI E' _ _ _ _ _ _ a.ids b.ids sRd sRd) ?_)
    rw [decide_eq_true q_ids]
    rintro e H' ⟨rfl, rfl⟩
    refine ⟨_, rfl, _, sCat, ?_⟩
    repeat (first | refine wMg ?_ | (refine kMg ?_; (first | rintro _ _ ⟨rfl, rfl⟩ | rintro _ _ ⟨_, rfl, rfl⟩ | rintro _ _ ⟨_, _, ⟨_, _⟩, rfl, rfl⟩); try refine ⟨sConv, ?_⟩) | refine Dr.two ?_ ?_)
    refine L.step (by decide) (S.call rfl rfl Try.func34 (by kernel_rfl) rfl sPicks (fun E' hE => plC E' _ _ _ _ _ _ a.chs b.chs sRd sRd) ?_)
    rw [decide_eq_true q_chs]
    rintro e H' ⟨rfl, rfl⟩
    refine ⟨_, rfl, _, sCat, ?_⟩
    repeat (first | refine wMg ?_ | (refine kMg ?_; (first | rintro _ _ ⟨rfl, rfl⟩ | rintro _ _ ⟨_, rfl, rfl⟩ | rintro _ _ ⟨_, _, ⟨_, _⟩, rfl, rfl⟩); try refine ⟨sConv, ?_⟩) | refine Dr.two ?_ ?_)
    rw [hdw]
    exact ret1 rfl sRet sConv (⟨rfl, rfl⟩)
  have hdw : decide ((⟨a.what.kind, a.what.a, a.what.n, ⟨a.what.ref.rep, a.what.ref.seq⟩⟩ : Eff) = ⟨b.what.kind, b.what.a, b.what.n, ⟨b.what.ref.rep, b.what.ref.seq⟩⟩) = true := decide_eq_true (show (⟨a.what.kind, a.what.a, a.what.n, ⟨a.what.ref.rep, a.what.ref.seq⟩⟩ : Eff) = ⟨b.what.kind, b.what.a, b.what.n, ⟨b.what.ref.rep, b.what.ref.seq⟩⟩ from q_what)
  have hee : a = b := Mg.eq_iff.2 ⟨q_kind, q_fr, q_to, q_known.1, q_known.2.1, q_known.2.2.1, q_known.2.2.2, q_base, q_ids, q_chs, q_key, q_what⟩
  rw [decide_eq_true hee]
  repeat (first | refine wMg ?_ | (refine kMg ?_; (first | rintro _ _ ⟨rfl, rfl⟩ | rintro _ _ ⟨_, rfl, rfl⟩ | rintro _ _ ⟨_, _, ⟨_, _⟩, rfl, rfl⟩); try refine ⟨sConv, ?_⟩) | refine Dr.two ?_ ?_)
  refine L.step (by decide) (S.call rfl rfl Try.func33 (by kernel_rfl) rfl sPicks (fun E' hE => plI E' _ _ _ _ _ _ a.ids b.ids sRd sRd) ?_)
  rw [decide_eq_true q_ids]
  rintro e H' ⟨rfl, rfl⟩
  refine ⟨_, rfl, _, sCat, ?_⟩
  repeat (first | refine wMg ?_ | (refine kMg ?_; (first | rintro _ _ ⟨rfl, rfl⟩ | rintro _ _ ⟨_, rfl, rfl⟩ | rintro _ _ ⟨_, _, ⟨_, _⟩, rfl, rfl⟩); try refine ⟨sConv, ?_⟩) | refine Dr.two ?_ ?_)
  refine L.step (by decide) (S.call rfl rfl Try.func34 (by kernel_rfl) rfl sPicks (fun E' hE => plC E' _ _ _ _ _ _ a.chs b.chs sRd sRd) ?_)
  rw [decide_eq_true q_chs]
  rintro e H' ⟨rfl, rfl⟩
  refine ⟨_, rfl, _, sCat, ?_⟩
  repeat (first | refine wMg ?_ | (refine kMg ?_; (first | rintro _ _ ⟨rfl, rfl⟩ | rintro _ _ ⟨_, rfl, rfl⟩ | rintro _ _ ⟨_, _, ⟨_, _⟩, rfl, rfl⟩); try refine ⟨sConv, ?_⟩) | refine Dr.two ?_ ?_)
  rw [hdw]
  exact ret1 rfl sRet sConv (⟨rfl, rfl⟩)
theorem mpair (m : Mg) : Tri Try.prog E 12 #[.agg (mcs m A n c B k d).toArray] [] fun e H' => e = .returned (.agg (mcs m A n c B k d).toArray) ∧ H' = [] := by
  refine tri Try.func12 rfl Try.ntmps12 (by simp) ?_
  repeat (first | refine wMg ?_ | (refine kMg ?_; (first | rintro _ _ ⟨rfl, rfl⟩ | rintro _ _ ⟨_, rfl, rfl⟩ | rintro _ _ ⟨_, _, ⟨_, _⟩, rfl, rfl⟩); try refine ⟨sConv, ?_⟩) | refine Dr.two ?_ ?_)
  apply retC1; (· exact rfl); (· exact sRet); (· exact rfl); (· exact rfl); (· exact rfl); (· exact sHas); (· exact rfl); rotate_left; (· exact (⟨rfl, rfl⟩)); (· exact sConv)
end
end Go.Proofs.Ytihblcljkndpgaa.Sep
