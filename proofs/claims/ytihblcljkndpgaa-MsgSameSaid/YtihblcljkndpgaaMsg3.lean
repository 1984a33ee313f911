/- msg.Check, its parts: parties, bare, may. -/
import Derived.Test.YtihblcljkndpgaaMsg2
namespace Go.Proofs.Ytihblcljkndpgaa.Sep
open Go.RowKit Go.Proofs.Ytihblcljkndpgaa.Reg
open Go.Proofs.Ytihblcljkndpgaa.Mem hiding Rd Own
-- types: octT idnT chgT intT
-- recs: rec_Reader idnT_rec effT_rec chgT_rec keyT_rec mgT_rec rgT_rec wrT_rec rdT_rec
-- eqs: idnT_eqa effT_eqa chgT_eqa keyT_eqa
-- eqrs: k4_eqr
-- zeros: z_octs z_rdr
-- funcs
-- flds
-- arrp
set_option maxRecDepth 100000
set_option maxHeartbeats 6000000
theorem known_cells (m : Mg) (A : Option Addr) (n c : Nat) (B : Option Addr) (k d : Nat) : ∀ j u, (intT.encs [m.k0, m.k1, m.k2, m.k3])[j]? = some u → (mcs m A n c B k d)[3 + j]? = some u := by
  intro j u h
  have e : intT.encs [m.k0, m.k1, m.k2, m.k3] = [.int .i64 m.k0, .int .i64 m.k1, .int .i64 m.k2, .int .i64 m.k3] := rfl
  rw [e] at h
  match j, h with
  | 0, h => exact h
  | 1, h => exact h
  | 2, h => exact h
  | 3, h => exact h
  | j + 4, h => simp at h
section
variable (E : Env) (m : Mg) (A : Option Addr) (n c : Nat) (B : Option Addr) (k d : Nat)
theorem mparties : Tri Try.prog E 38 #[.agg (mcs m A n c B k d).toArray] [] fun e H' => e = .returned (.bool m.parties) ∧ H' = [] := by
  refine tri Try.func38 rfl Try.ntmps38 (by simp) ?_
  unfold Mg.parties
  by_cases h3 : m.kind = 3
  · rw [if_pos h3]
    repeat (first | refine wMh ?_ | (refine kMh ?_; (first | rintro _ _ ⟨rfl, rfl⟩ | rintro _ _ ⟨_, rfl, rfl⟩ | rintro _ _ ⟨_, _, ⟨_, _⟩, rfl, rfl⟩); try refine ⟨sConv, ?_⟩) | refine Dr.two ?_ ?_)
    refine L.step (by decide) (S.call rfl rfl Try.func59 (by kernel_rfl) rfl sPicks (fun E' hE => rp4 E' m.fr) ?_)
    cases hf : rep4 m.fr
    · rintro e H' ⟨rfl, rfl⟩
      refine ⟨_, rfl, _, sCat, ?_⟩
      repeat (first | refine wMh ?_ | (refine kMh ?_; (first | rintro _ _ ⟨rfl, rfl⟩ | rintro _ _ ⟨_, rfl, rfl⟩ | rintro _ _ ⟨_, _, ⟨_, _⟩, rfl, rfl⟩); try refine ⟨sConv, ?_⟩) | refine Dr.two ?_ ?_)
      exact ret1 rfl sRet sConv (⟨rfl, rfl⟩)
    · rintro e H' ⟨rfl, rfl⟩
      refine ⟨_, rfl, _, sCat, ?_⟩
      repeat (first | refine wMh ?_ | (refine kMh ?_; (first | rintro _ _ ⟨rfl, rfl⟩ | rintro _ _ ⟨_, rfl, rfl⟩ | rintro _ _ ⟨_, _, ⟨_, _⟩, rfl, rfl⟩); try refine ⟨sConv, ?_⟩) | refine Dr.two ?_ ?_)
      exact ret1 rfl sRet sConv (⟨rfl, rfl⟩)
  rw [if_neg h3]
  by_cases h4 : m.kind = 4
  · rw [if_pos h4]
    by_cases hf : m.fr = 9
    · rw [decide_eq_true hf]
      repeat (first | refine wMh ?_ | (refine kMh ?_; (first | rintro _ _ ⟨rfl, rfl⟩ | rintro _ _ ⟨_, rfl, rfl⟩ | rintro _ _ ⟨_, _, ⟨_, _⟩, rfl, rfl⟩); try refine ⟨sConv, ?_⟩) | refine Dr.two ?_ ?_)
      refine L.step (by decide) (S.call rfl rfl Try.func59 (by kernel_rfl) rfl sPicks (fun E' hE => rp4 E' m.to) ?_)
      rintro e H' ⟨rfl, rfl⟩
      refine ⟨_, rfl, _, sCat, ?_⟩
      repeat (first | refine wMh ?_ | (refine kMh ?_; (first | rintro _ _ ⟨rfl, rfl⟩ | rintro _ _ ⟨_, rfl, rfl⟩ | rintro _ _ ⟨_, _, ⟨_, _⟩, rfl, rfl⟩); try refine ⟨sConv, ?_⟩) | refine Dr.two ?_ ?_)
      exact ret1 rfl sRet sConv (⟨rfl, rfl⟩)
    · rw [decide_eq_false hf]
      repeat (first | refine wMh ?_ | (refine kMh ?_; (first | rintro _ _ ⟨rfl, rfl⟩ | rintro _ _ ⟨_, rfl, rfl⟩ | rintro _ _ ⟨_, _, ⟨_, _⟩, rfl, rfl⟩); try refine ⟨sConv, ?_⟩) | refine Dr.two ?_ ?_)
      exact ret1 rfl sRet sConv (⟨rfl, rfl⟩)
  rw [if_neg h4]
  repeat (first | refine wMh ?_ | (refine kMh ?_; (first | rintro _ _ ⟨rfl, rfl⟩ | rintro _ _ ⟨_, rfl, rfl⟩ | rintro _ _ ⟨_, _, ⟨_, _⟩, rfl, rfl⟩); try refine ⟨sConv, ?_⟩) | refine Dr.two ?_ ?_)
  refine L.step (by decide) (S.call rfl rfl Try.func59 (by kernel_rfl) rfl sPicks (fun E' hE => rp4 E' m.fr) ?_)
  cases hf : rep4 m.fr
  · rintro e H' ⟨rfl, rfl⟩
    refine ⟨_, rfl, _, sCat, ?_⟩
    repeat (first | refine wMh ?_ | (refine kMh ?_; (first | rintro _ _ ⟨rfl, rfl⟩ | rintro _ _ ⟨_, rfl, rfl⟩ | rintro _ _ ⟨_, _, ⟨_, _⟩, rfl, rfl⟩); try refine ⟨sConv, ?_⟩) | refine Dr.two ?_ ?_)
    exact ret1 rfl sRet sConv (⟨rfl, rfl⟩)
  · rintro e H' ⟨rfl, rfl⟩
    refine ⟨_, rfl, _, sCat, ?_⟩
    repeat (first | refine wMh ?_ | (refine kMh ?_; (first | rintro _ _ ⟨rfl, rfl⟩ | rintro _ _ ⟨_, rfl, rfl⟩ | rintro _ _ ⟨_, _, ⟨_, _⟩, rfl, rfl⟩); try refine ⟨sConv, ?_⟩) | refine Dr.two ?_ ?_)
    refine L.step (by decide) (S.call rfl rfl Try.func59 (by kernel_rfl) rfl sPicks (fun E' hE => rp4 E' m.to) ?_)
    rintro e H' ⟨rfl, rfl⟩
    refine ⟨_, rfl, _, sCat, ?_⟩
    repeat (first | refine wMh ?_ | (refine kMh ?_; (first | rintro _ _ ⟨rfl, rfl⟩ | rintro _ _ ⟨_, rfl, rfl⟩ | rintro _ _ ⟨_, _, ⟨_, _⟩, rfl, rfl⟩); try refine ⟨sConv, ?_⟩) | refine Dr.two ?_ ?_)
    exact ret1 rfl sRet sConv (⟨rfl, rfl⟩)
def BareP (m : Mg) (A : Option Addr) (n c : Nat) (B : Option Addr) (k d : Nat) (r : Value) : Prop :=
  ∃ A' n' c' B' k' d', r = .agg (mcs m.bare A' n' c' B' k' d').toArray ∧ (∀ E, Rd E idnT A n c m.ids → Rd E idnT A' n' c' m.bare.ids) ∧ ∀ E, Rd E chgT B k d m.chs → Rd E chgT B' k' d' m.bare.chs
theorem bareP1 (h : m.kind = 1) : BareP m A n c B k d (.agg #[.int .i64 m.kind, .int .i64 m.fr, .int .i64 m.to, .int .i64 m.k0, .int .i64 m.k1, .int .i64 m.k2, .int .i64 m.k3, .int .i64 m.base, .slice none 0 0, .slice none 0 0, .int .i64 0, .int .i64 0, .int .i64 0, .bool false, .int .i64 0, .int .i64 0, .int .i64 0, .int .i64 0, .int .i64 0]) := by
  have e : m.bare = ⟨m.kind, m.fr, m.to, m.k0, m.k1, m.k2, m.k3, m.base, [], [], key0, eff0⟩ := if_pos h
  refine ⟨none, 0, 0, none, 0, 0, by rw [e]; rfl, fun E _ => by rw [e]; exact Rd.nil E idnT, fun E _ => by rw [e]; exact Rd.nil E chgT⟩
theorem bareP2 (h : m.kind = 2) : BareP m A n c B k d (.agg #[.int .i64 m.kind, .int .i64 m.fr, .int .i64 m.to, .int .i64 0, .int .i64 0, .int .i64 0, .int .i64 0, .int .i64 m.base, .slice A n c, .slice B k d, .int .i64 0, .int .i64 0, .int .i64 0, .bool false, .int .i64 0, .int .i64 0, .int .i64 0, .int .i64 0, .int .i64 0]) := by
  have e : m.bare = ⟨m.kind, m.fr, m.to, 0, 0, 0, 0, m.base, m.ids, m.chs, key0, eff0⟩ := by unfold Mg.bare; rw [if_neg (by omega), if_pos h]
  refine ⟨A, n, c, B, k, d, by rw [e]; rfl, fun E h => by rw [e]; exact h, fun E h => by rw [e]; exact h⟩
theorem bareP3 (h : m.kind = 3) : BareP m A n c B k d (.agg #[.int .i64 m.kind, .int .i64 m.fr, .int .i64 m.to, .int .i64 0, .int .i64 0, .int .i64 0, .int .i64 0, .int .i64 0, .slice none 0 0, .slice none 0 0, .int .i64 m.key.id.rep, .int .i64 m.key.id.seq, .int .i64 m.key.ord, .bool m.key.undo, .int .i64 m.what.kind, .int .i64 m.what.a, .int .i64 m.what.n, .int .i64 m.what.ref.rep, .int .i64 m.what.ref.seq]) := by
  have e : m.bare = ⟨m.kind, m.fr, m.to, 0, 0, 0, 0, 0, [], [], m.key, m.what⟩ := by unfold Mg.bare; rw [if_neg (by omega), if_neg (by omega), if_pos h]
  refine ⟨none, 0, 0, none, 0, 0, by rw [e], fun E _ => by rw [e]; exact Rd.nil E idnT, fun E _ => by rw [e]; exact Rd.nil E chgT⟩
theorem bareP4 (h : m.kind = 4) : BareP m A n c B k d (.agg #[.int .i64 m.kind, .int .i64 m.fr, .int .i64 m.to, .int .i64 0, .int .i64 0, .int .i64 0, .int .i64 0, .int .i64 0, .slice none 0 0, .slice none 0 0, .int .i64 m.key.id.rep, .int .i64 m.key.id.seq, .int .i64 m.key.ord, .bool m.key.undo, .int .i64 0, .int .i64 0, .int .i64 0, .int .i64 0, .int .i64 0]) := by
  have e : m.bare = ⟨m.kind, m.fr, m.to, 0, 0, 0, 0, 0, [], [], m.key, eff0⟩ := by unfold Mg.bare; rw [if_neg (by omega), if_neg (by omega), if_neg (by omega), if_pos h]
  refine ⟨none, 0, 0, none, 0, 0, by rw [e]; rfl, fun E _ => by rw [e]; exact Rd.nil E idnT, fun E _ => by rw [e]; exact Rd.nil E chgT⟩
theorem mbare (h : 1 ≤ m.kind ∧ m.kind ≤ 4) : Tri Try.prog E 40 #[.agg (mcs m A n c B k d).toArray] [] fun e H' => (∃ r, e = .returned r ∧ BareP m A n c B k d r) ∧ H' = [] := by
  refine tri Try.func40 rfl Try.ntmps40 (by simp) ?_
  rcases (show m.kind = 1 ∨ m.kind = 2 ∨ m.kind = 3 ∨ m.kind = 4 by omega) with h1 | h1 | h1 | h1
  · have hp := bareP1 m A n c B k d h1
    repeat (first | refine wMh ?_ | (refine kMh ?_; (first | rintro _ _ ⟨rfl, rfl⟩ | rintro _ _ ⟨_, rfl, rfl⟩ | rintro _ _ ⟨_, _, ⟨_, _⟩, rfl, rfl⟩); try refine ⟨sConv, ?_⟩) | refine Dr.two ?_ ?_)
    rename_i gb gr g
    refine C.regionA 100000 (.one 0 false (.one 1 false (.one 2 false (.one 3 false (.one 4 false (.one 5 true (.one 6 false (.one 7 true .nil)))))))) ([blk gb 34 (mcs m A n c B k d)]) (by kernel_rfl) (by kernel_rfl) sConv ?_
    repeat (first | refine wMh ?_ | (refine kMh ?_; (first | rintro _ _ ⟨rfl, rfl⟩ | rintro _ _ ⟨_, rfl, rfl⟩ | rintro _ _ ⟨_, _, ⟨_, _⟩, rfl, rfl⟩); try refine ⟨sConv, ?_⟩) | refine Dr.two ?_ ?_)
    apply retC1; (· exact rfl); (· exact sRet); (· exact rfl); (· exact rfl); (· exact rfl); (· exact sHas); (· exact rfl); rotate_left; (· exact (⟨⟨_, rfl, hp⟩, rfl⟩)); (· exact sConv)
  · have hp := bareP2 m A n c B k d h1
    repeat (first | refine wMh ?_ | (refine kMh ?_; (first | rintro _ _ ⟨rfl, rfl⟩ | rintro _ _ ⟨_, rfl, rfl⟩ | rintro _ _ ⟨_, _, ⟨_, _⟩, rfl, rfl⟩); try refine ⟨sConv, ?_⟩) | refine Dr.two ?_ ?_)
    rename_i gb gr g
    refine C.regionA 100000 (.one 0 false (.one 1 false (.one 2 false (.one 3 false (.one 4 false (.one 5 false (.one 6 false (.one 7 true (.one 8 false (.one 9 true (.one 10 false (.one 11 true .nil)))))))))))) ([blk gb 34 (mcs m A n c B k d)]) (by kernel_rfl) (by kernel_rfl) sConv ?_
    repeat (first | refine wMh ?_ | (refine kMh ?_; (first | rintro _ _ ⟨rfl, rfl⟩ | rintro _ _ ⟨_, rfl, rfl⟩ | rintro _ _ ⟨_, _, ⟨_, _⟩, rfl, rfl⟩); try refine ⟨sConv, ?_⟩) | refine Dr.two ?_ ?_)
    apply retC1; (· exact rfl); (· exact sRet); (· exact rfl); (· exact rfl); (· exact rfl); (· exact sHas); (· exact rfl); rotate_left; (· exact (⟨⟨_, rfl, hp⟩, rfl⟩)); (· exact sConv)
  · have hp := bareP3 m A n c B k d h1
    repeat (first | refine wMh ?_ | (refine kMh ?_; (first | rintro _ _ ⟨rfl, rfl⟩ | rintro _ _ ⟨_, rfl, rfl⟩ | rintro _ _ ⟨_, _, ⟨_, _⟩, rfl, rfl⟩); try refine ⟨sConv, ?_⟩) | refine Dr.two ?_ ?_)
    rename_i gb gr g
    refine C.regionA 100000 (.one 0 false (.one 1 false (.one 2 false (.one 3 false (.one 4 false (.one 5 true (.one 6 false (.one 7 true .nil)))))))) ([blk gb 34 (mcs m A n c B k d)]) (by kernel_rfl) (by kernel_rfl) sConv ?_
    repeat (first | refine wMh ?_ | (refine kMh ?_; (first | rintro _ _ ⟨rfl, rfl⟩ | rintro _ _ ⟨_, rfl, rfl⟩ | rintro _ _ ⟨_, _, ⟨_, _⟩, rfl, rfl⟩); try refine ⟨sConv, ?_⟩) | refine Dr.two ?_ ?_)
    apply retC1; (· exact rfl); (· exact sRet); (· exact rfl); (· exact rfl); (· exact rfl); (· exact sHas); (· exact rfl); rotate_left; (· exact (⟨⟨_, rfl, hp⟩, rfl⟩)); (· exact sConv)
  · have hp := bareP4 m A n c B k d h1
    repeat (first | refine wMh ?_ | (refine kMh ?_; (first | rintro _ _ ⟨rfl, rfl⟩ | rintro _ _ ⟨_, rfl, rfl⟩ | rintro _ _ ⟨_, _, ⟨_, _⟩, rfl, rfl⟩); try refine ⟨sConv, ?_⟩) | refine Dr.two ?_ ?_)
    apply retC1; (· exact rfl); (· exact sRet); (· exact rfl); (· exact rfl); (· exact rfl); (· exact sHas); (· exact rfl); rotate_left; (· exact (⟨⟨_, rfl, hp⟩, rfl⟩)); (· exact sConv)
theorem mmay (hI : Rd E idnT A n c m.ids) (hC : Rd E chgT B k d m.chs) (h : 1 ≤ m.kind ∧ m.kind ≤ 4) : Tri Try.prog E 39 #[.agg (mcs m A n c B k d).toArray] [] fun e H' => e = .returned (.bool m.fine) ∧ H' = [] := by
  have hn := hI.len
  have hk := hC.len
  have hnc := hI.cap
  have hkc := hC.cap
  have h4m : 4 ≤ maxLen := by decide
  have hkn := known_cells m A n c B k d
  refine tri Try.func39 rfl Try.ntmps39 (by simp) ?_
  unfold Mg.fine
  rcases (show m.kind = 1 ∨ m.kind = 2 ∨ m.kind = 3 ∨ m.kind = 4 by omega) with h1 | h1 | h1 | h1
  · rw [if_pos h1]
    have hall := any_not sq [m.k0, m.k1, m.k2, m.k3]
    rw [show [m.k0, m.k1, m.k2, m.k3].all sq = (sq m.k0 && sq m.k1 && sq m.k2 && sq m.k3) by simp [Bool.and_assoc]] at hall
    repeat (first | refine wMh ?_ | (refine kMh ?_; (first | rintro _ _ ⟨rfl, rfl⟩ | rintro _ _ ⟨_, rfl, rfl⟩ | rintro _ _ ⟨_, _, ⟨_, _⟩, rfl, rfl⟩); try refine ⟨sConv, ?_⟩) | refine Dr.two ?_ ?_)
    rename_i g
    refine L.step (by decide) (S.call rfl rfl Try.func60 (by kernel_rfl) rfl sPicks (fun E' hE => cfN E' (some ⟨g, 3, none⟩) 4 4 [m.k0, m.k1, m.k2, m.k3] (hE.arr sHas rfl h4m hkn)) ?_)
    rintro e H' ⟨rfl, rfl⟩
    refine ⟨_, rfl, _, sCat, ?_⟩
    rw [← hall]
    cases hs : ([m.k0, m.k1, m.k2, m.k3].any fun x => !sq x)
    · repeat (first | refine wMh ?_ | (refine kMh ?_; (first | rintro _ _ ⟨rfl, rfl⟩ | rintro _ _ ⟨_, rfl, rfl⟩ | rintro _ _ ⟨_, _, ⟨_, _⟩, rfl, rfl⟩); try refine ⟨sConv, ?_⟩) | refine Dr.two ?_ ?_)
      refine L.step (by decide) (S.call rfl rfl Try.func37 (by kernel_rfl) rfl sPicks (fun E' hE => in_any E' m.base 0 48) ?_)
      rintro e H' ⟨rfl, rfl⟩
      refine ⟨_, rfl, _, sCat, ?_⟩
      repeat (first | refine wMh ?_ | (refine kMh ?_; (first | rintro _ _ ⟨rfl, rfl⟩ | rintro _ _ ⟨_, rfl, rfl⟩ | rintro _ _ ⟨_, _, ⟨_, _⟩, rfl, rfl⟩); try refine ⟨sConv, ?_⟩) | refine Dr.two ?_ ?_)
      exact ret1 rfl sRet sConv (⟨rfl, rfl⟩)
    · repeat (first | refine wMh ?_ | (refine kMh ?_; (first | rintro _ _ ⟨rfl, rfl⟩ | rintro _ _ ⟨_, rfl, rfl⟩ | rintro _ _ ⟨_, _, ⟨_, _⟩, rfl, rfl⟩); try refine ⟨sConv, ?_⟩) | refine Dr.two ?_ ?_)
      exact ret1 rfl sRet sConv (⟨rfl, rfl⟩)
  · rw [if_neg (by omega), if_pos h1]
    rw [← hn, ← hk, ← any_not Idn.may, ← any_not Chg.may]
    by_cases hn16 : n ≤ 16
    · have d16 : decide (n ≤ 16) = true := decide_eq_true hn16
      rw [d16]
      repeat (first | refine wMh ?_ | (refine kMh ?_; (first | rintro _ _ ⟨rfl, rfl⟩ | rintro _ _ ⟨_, rfl, rfl⟩ | rintro _ _ ⟨_, _, ⟨_, _⟩, rfl, rfl⟩); try refine ⟨sConv, ?_⟩) | refine Dr.two ?_ ?_)
      refine L.step (by decide) (S.call rfl rfl Try.func62 (by kernel_rfl) rfl sPicks (fun E' hE => cfI E' A n c m.ids sRd) ?_)
      rintro e H' ⟨rfl, rfl⟩
      refine ⟨_, rfl, _, sCat, ?_⟩
      by_cases hk8 : k ≤ 8
      · have d8 : decide (k ≤ 8) = true := decide_eq_true hk8
        rw [d8]
        repeat (first | refine wMh ?_ | (refine kMh ?_; (first | rintro _ _ ⟨rfl, rfl⟩ | rintro _ _ ⟨_, rfl, rfl⟩ | rintro _ _ ⟨_, _, ⟨_, _⟩, rfl, rfl⟩); try refine ⟨sConv, ?_⟩) | refine Dr.two ?_ ?_)
        refine L.step (by decide) (S.call rfl rfl Try.func65 (by kernel_rfl) rfl sPicks (fun E' hE => cfC E' B k d m.chs sRd) ?_)
        rintro e H' ⟨rfl, rfl⟩
        refine ⟨_, rfl, _, sCat, ?_⟩
        cases hs : (m.ids.any fun x => !x.may)
        · cases hs2 : (m.chs.any fun x => !x.may)
          · repeat (first | refine wMh ?_ | (refine kMh ?_; (first | rintro _ _ ⟨rfl, rfl⟩ | rintro _ _ ⟨_, rfl, rfl⟩ | rintro _ _ ⟨_, _, ⟨_, _⟩, rfl, rfl⟩); try refine ⟨sConv, ?_⟩) | refine Dr.two ?_ ?_)
            refine L.step (by decide) (S.call rfl rfl Try.func37 (by kernel_rfl) rfl sPicks (fun E' hE => in_any E' m.base 0 48) ?_)
            rintro e H' ⟨rfl, rfl⟩
            refine ⟨_, rfl, _, sCat, ?_⟩
            repeat (first | refine wMh ?_ | (refine kMh ?_; (first | rintro _ _ ⟨rfl, rfl⟩ | rintro _ _ ⟨_, rfl, rfl⟩ | rintro _ _ ⟨_, _, ⟨_, _⟩, rfl, rfl⟩); try refine ⟨sConv, ?_⟩) | refine Dr.two ?_ ?_)
            exact ret1 rfl sRet sConv (⟨rfl, rfl⟩)
          · repeat (first | refine wMh ?_ | (refine kMh ?_; (first | rintro _ _ ⟨rfl, rfl⟩ | rintro _ _ ⟨_, rfl, rfl⟩ | rintro _ _ ⟨_, _, ⟨_, _⟩, rfl, rfl⟩); try refine ⟨sConv, ?_⟩) | refine Dr.two ?_ ?_)
            exact ret1 rfl sRet sConv (⟨rfl, rfl⟩)
        · repeat (first | refine wMh ?_ | (refine kMh ?_; (first | rintro _ _ ⟨rfl, rfl⟩ | rintro _ _ ⟨_, rfl, rfl⟩ | rintro _ _ ⟨_, _, ⟨_, _⟩, rfl, rfl⟩); try refine ⟨sConv, ?_⟩) | refine Dr.two ?_ ?_)
          exact ret1 rfl sRet sConv (⟨rfl, rfl⟩)
      · have d8 : decide (k ≤ 8) = false := decide_eq_false hk8
        rw [d8]
        cases hs : (m.ids.any fun x => !x.may)
        · repeat (first | refine wMh ?_ | (refine kMh ?_; (first | rintro _ _ ⟨rfl, rfl⟩ | rintro _ _ ⟨_, rfl, rfl⟩ | rintro _ _ ⟨_, _, ⟨_, _⟩, rfl, rfl⟩); try refine ⟨sConv, ?_⟩) | refine Dr.two ?_ ?_)
          exact ret1 rfl sRet sConv (⟨rfl, rfl⟩)
        · repeat (first | refine wMh ?_ | (refine kMh ?_; (first | rintro _ _ ⟨rfl, rfl⟩ | rintro _ _ ⟨_, rfl, rfl⟩ | rintro _ _ ⟨_, _, ⟨_, _⟩, rfl, rfl⟩); try refine ⟨sConv, ?_⟩) | refine Dr.two ?_ ?_)
          exact ret1 rfl sRet sConv (⟨rfl, rfl⟩)
    · have d16 : decide (n ≤ 16) = false := decide_eq_false hn16
      rw [d16]
      by_cases hk8 : k ≤ 8
      · repeat (first | refine wMh ?_ | (refine kMh ?_; (first | rintro _ _ ⟨rfl, rfl⟩ | rintro _ _ ⟨_, rfl, rfl⟩ | rintro _ _ ⟨_, _, ⟨_, _⟩, rfl, rfl⟩); try refine ⟨sConv, ?_⟩) | refine Dr.two ?_ ?_)
        refine L.step (by decide) (S.call rfl rfl Try.func65 (by kernel_rfl) rfl sPicks (fun E' hE => cfC E' B k d m.chs sRd) ?_)
        rintro e H' ⟨rfl, rfl⟩
        refine ⟨_, rfl, _, sCat, ?_⟩
        repeat (first | refine wMh ?_ | (refine kMh ?_; (first | rintro _ _ ⟨rfl, rfl⟩ | rintro _ _ ⟨_, rfl, rfl⟩ | rintro _ _ ⟨_, _, ⟨_, _⟩, rfl, rfl⟩); try refine ⟨sConv, ?_⟩) | refine Dr.two ?_ ?_)
        exact ret1 rfl sRet sConv (⟨rfl, rfl⟩)
      · repeat (first | refine wMh ?_ | (refine kMh ?_; (first | rintro _ _ ⟨rfl, rfl⟩ | rintro _ _ ⟨_, rfl, rfl⟩ | rintro _ _ ⟨_, _, ⟨_, _⟩, rfl, rfl⟩); try refine ⟨sConv, ?_⟩) | refine Dr.two ?_ ?_)
        exact ret1 rfl sRet sConv (⟨rfl, rfl⟩)
  · rw [if_neg (by omega), if_neg (by omega), if_pos h1]
    repeat (first | refine wMh ?_ | (refine kMh ?_; (first | rintro _ _ ⟨rfl, rfl⟩ | rintro _ _ ⟨_, rfl, rfl⟩ | rintro _ _ ⟨_, _, ⟨_, _⟩, rfl, rfl⟩); try refine ⟨sConv, ?_⟩) | refine Dr.two ?_ ?_)
    refine L.step (by decide) (S.call rfl rfl Try.func68 (by kernel_rfl) rfl sPicks (fun E' hE => imaykey_any E' m.key) ?_)
    cases hs : m.key.may
    · rintro e H' ⟨rfl, rfl⟩
      refine ⟨_, rfl, _, sCat, ?_⟩
      repeat (first | refine wMh ?_ | (refine kMh ?_; (first | rintro _ _ ⟨rfl, rfl⟩ | rintro _ _ ⟨_, rfl, rfl⟩ | rintro _ _ ⟨_, _, ⟨_, _⟩, rfl, rfl⟩); try refine ⟨sConv, ?_⟩) | refine Dr.two ?_ ?_)
      exact ret1 rfl sRet sConv (⟨rfl, rfl⟩)
    · rintro e H' ⟨rfl, rfl⟩
      refine ⟨_, rfl, _, sCat, ?_⟩
      repeat (first | refine wMh ?_ | (refine kMh ?_; (first | rintro _ _ ⟨rfl, rfl⟩ | rintro _ _ ⟨_, rfl, rfl⟩ | rintro _ _ ⟨_, _, ⟨_, _⟩, rfl, rfl⟩); try refine ⟨sConv, ?_⟩) | refine Dr.two ?_ ?_)
      refine L.step (by decide) (S.call rfl rfl Try.func58 (by kernel_rfl) rfl sPicks (fun E' hE => fcheck E' m.what) ?_)
      rintro e H' ⟨rfl, rfl⟩
      refine ⟨_, rfl, _, sCat, ?_⟩
      repeat (first | refine wMh ?_ | (refine kMh ?_; (first | rintro _ _ ⟨rfl, rfl⟩ | rintro _ _ ⟨_, rfl, rfl⟩ | rintro _ _ ⟨_, _, ⟨_, _⟩, rfl, rfl⟩); try refine ⟨sConv, ?_⟩) | refine Dr.two ?_ ?_)
      exact ret1 rfl sRet sConv (⟨rfl, rfl⟩)
  · rw [if_neg (by omega), if_neg (by omega), if_neg (by omega)]
    repeat (first | refine wMh ?_ | (refine kMh ?_; (first | rintro _ _ ⟨rfl, rfl⟩ | rintro _ _ ⟨_, rfl, rfl⟩ | rintro _ _ ⟨_, _, ⟨_, _⟩, rfl, rfl⟩); try refine ⟨sConv, ?_⟩) | refine Dr.two ?_ ?_)
    refine L.step (by decide) (S.call rfl rfl Try.func68 (by kernel_rfl) rfl sPicks (fun E' hE => imaykey_any E' m.key) ?_)
    rintro e H' ⟨rfl, rfl⟩
    refine ⟨_, rfl, _, sCat, ?_⟩
    repeat (first | refine wMh ?_ | (refine kMh ?_; (first | rintro _ _ ⟨rfl, rfl⟩ | rintro _ _ ⟨_, rfl, rfl⟩ | rintro _ _ ⟨_, _, ⟨_, _⟩, rfl, rfl⟩); try refine ⟨sConv, ?_⟩) | refine Dr.two ?_ ?_)
    exact ret1 rfl sRet sConv (⟨rfl, rfl⟩)
theorem mcheck (hI : Rd E idnT A n c m.ids) (hC : Rd E chgT B k d m.chs) : Tri Try.prog E 15 #[.agg (mcs m A n c B k d).toArray] [] fun e H' => e = .returned (.int .i64 m.check) ∧ H' = [] := by
  refine tri Try.func15 rfl Try.ntmps15 (by simp) ?_
  unfold Mg.check
  repeat (first | refine wMh ?_ | (refine kMh ?_; (first | rintro _ _ ⟨rfl, rfl⟩ | rintro _ _ ⟨_, rfl, rfl⟩ | rintro _ _ ⟨_, _, ⟨_, _⟩, rfl, rfl⟩); try refine ⟨sConv, ?_⟩) | refine Dr.two ?_ ?_)
  refine L.step (by decide) (S.call rfl rfl Try.func37 (by kernel_rfl) rfl sPicks (fun E' hE => in_any E' m.kind 1 4) ?_)
  by_cases h : 1 ≤ m.kind ∧ m.kind ≤ 4
  case neg =>
    rw [decide_eq_false h, if_neg h]
    rintro e H' ⟨rfl, rfl⟩
    refine ⟨_, rfl, _, sCat, ?_⟩
    repeat (first | refine wMh ?_ | (refine kMh ?_; (first | rintro _ _ ⟨rfl, rfl⟩ | rintro _ _ ⟨_, rfl, rfl⟩ | rintro _ _ ⟨_, _, ⟨_, _⟩, rfl, rfl⟩); try refine ⟨sConv, ?_⟩) | refine Dr.two ?_ ?_)
    exact ret1 rfl sRet sConv (⟨rfl, rfl⟩)
  rw [decide_eq_true h, if_pos h]
  rintro e H' ⟨rfl, rfl⟩
  refine ⟨_, rfl, _, sCat, ?_⟩
  repeat (first | refine wMh ?_ | (refine kMh ?_; (first | rintro _ _ ⟨rfl, rfl⟩ | rintro _ _ ⟨_, rfl, rfl⟩ | rintro _ _ ⟨_, _, ⟨_, _⟩, rfl, rfl⟩); try refine ⟨sConv, ?_⟩) | refine Dr.two ?_ ?_)
  refine L.step (by decide) (S.call rfl rfl Try.func38 (by kernel_rfl) rfl sPicks (fun E' hE => mparties E' m A n c B k d) ?_)
  cases hp : m.parties
  · rw [if_neg (by simp)]
    rintro e H' ⟨rfl, rfl⟩
    refine ⟨_, rfl, _, sCat, ?_⟩
    repeat (first | refine wMh ?_ | (refine kMh ?_; (first | rintro _ _ ⟨rfl, rfl⟩ | rintro _ _ ⟨_, rfl, rfl⟩ | rintro _ _ ⟨_, _, ⟨_, _⟩, rfl, rfl⟩); try refine ⟨sConv, ?_⟩) | refine Dr.two ?_ ?_)
    exact ret1 rfl sRet sConv (⟨rfl, rfl⟩)
  rintro e H' ⟨rfl, rfl⟩
  refine ⟨_, rfl, _, sCat, ?_⟩
  repeat (first | refine wMh ?_ | (refine kMh ?_; (first | rintro _ _ ⟨rfl, rfl⟩ | rintro _ _ ⟨_, rfl, rfl⟩ | rintro _ _ ⟨_, _, ⟨_, _⟩, rfl, rfl⟩); try refine ⟨sConv, ?_⟩) | refine Dr.two ?_ ?_)
  refine L.step (by decide) (S.call rfl rfl Try.func39 (by kernel_rfl) rfl sPicks (fun E' hE => mmay E' m A n c B k d sRd sRd h) ?_)
  cases hf : m.fine
  · rw [if_neg (by simp)]
    rintro e H' ⟨rfl, rfl⟩
    refine ⟨_, rfl, _, sCat, ?_⟩
    repeat (first | refine wMh ?_ | (refine kMh ?_; (first | rintro _ _ ⟨rfl, rfl⟩ | rintro _ _ ⟨_, rfl, rfl⟩ | rintro _ _ ⟨_, _, ⟨_, _⟩, rfl, rfl⟩); try refine ⟨sConv, ?_⟩) | refine Dr.two ?_ ?_)
    exact ret1 rfl sRet sConv (⟨rfl, rfl⟩)
  rw [if_pos (by rfl)]
  rintro e H' ⟨rfl, rfl⟩
  refine ⟨_, rfl, _, sCat, ?_⟩
  repeat (first | refine wMh ?_ | (refine kMh ?_; (first | rintro _ _ ⟨rfl, rfl⟩ | rintro _ _ ⟨_, rfl, rfl⟩ | rintro _ _ ⟨_, _, ⟨_, _⟩, rfl, rfl⟩); try refine ⟨sConv, ?_⟩) | refine Dr.two ?_ ?_)
  refine C.regionA 100000 (.one 0 false (.one 2 false (.one 1 true (.one 3 true (.one 4 false (.one 5 false .nil)))))) _ (by kernel_rfl) (by kernel_rfl) Conv.refl ?_
  repeat (first | refine wMh ?_ | (refine kMh ?_; (first | rintro _ _ ⟨rfl, rfl⟩ | rintro _ _ ⟨_, rfl, rfl⟩ | rintro _ _ ⟨_, _, ⟨_, _⟩, rfl, rfl⟩); try refine ⟨sConv, ?_⟩) | refine Dr.two ?_ ?_)
  refine Dr.go rfl (by rintro k ⟨⟩ <;> decide) sGon (S.call rfl rfl Try.func40 (by kernel_rfl) rfl sPicks (fun E' hE => mbare E' m A n c B k d h) ?_)
  rintro e H' ⟨⟨r, rfl, A', n', c', B', k', d', rfl, hi', hc'⟩, rfl⟩
  refine ⟨_, rfl, _, sCat, sConv, ?_⟩
  repeat (first | refine wMh ?_ | (refine kMh ?_; (first | rintro _ _ ⟨rfl, rfl⟩ | rintro _ _ ⟨_, rfl, rfl⟩ | rintro _ _ ⟨_, _, ⟨_, _⟩, rfl, rfl⟩); try refine ⟨sConv, ?_⟩) | refine Dr.two ?_ ?_)
  refine Dr.go rfl (by rintro k ⟨⟩ <;> decide) sGon (S.call rfl rfl Try.func9 (by kernel_rfl) rfl sPicks (fun E' hE => msame E' A' n' c' B' k' d' A n c B k d m.bare m (hi' _ sRd) (hc' _ sRd) sRd sRd) ?_)
  by_cases hb : m.bare = m
  · rw [decide_eq_true hb, if_pos hb]
    rintro e H' ⟨rfl, rfl⟩
    refine ⟨_, rfl, _, sCat, sConv, ?_⟩
    repeat (first | refine wMh ?_ | (refine kMh ?_; (first | rintro _ _ ⟨rfl, rfl⟩ | rintro _ _ ⟨_, rfl, rfl⟩ | rintro _ _ ⟨_, _, ⟨_, _⟩, rfl, rfl⟩); try refine ⟨sConv, ?_⟩) | refine Dr.two ?_ ?_)
    exact ret1 rfl sRet sConv (⟨rfl, rfl⟩)
  · rw [decide_eq_false hb, if_neg hb]
    rintro e H' ⟨rfl, rfl⟩
    refine ⟨_, rfl, _, sCat, sConv, ?_⟩
    repeat (first | refine wMh ?_ | (refine kMh ?_; (first | rintro _ _ ⟨rfl, rfl⟩ | rintro _ _ ⟨_, rfl, rfl⟩ | rintro _ _ ⟨_, _, ⟨_, _⟩, rfl, rfl⟩); try refine ⟨sConv, ?_⟩) | refine Dr.two ?_ ?_)
    exact ret1 rfl sRet sConv (⟨rfl, rfl⟩)
end
end Go.Proofs.Ytihblcljkndpgaa.Sep
