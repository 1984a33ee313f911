/- The law of messages: whether two are alike; a clone can be written on. -/
import Derived.Test.YtihblcljkndpgaaMsgF
namespace Go.Proofs.Ytihblcljkndpgaa.Sep
open Go.RowKit Go.Proofs.Ytihblcljkndpgaa.Reg Go.Proofs.Ytihblcljkndpgaa.Oct
open Go.Proofs.Ytihblcljkndpgaa.Mem hiding Rd Own
-- types: octT idnT chgT intT
-- recs: rec_Reader idnT_rec effT_rec chgT_rec keyT_rec mgT_rec rgT_rec wrT_rec rdT_rec
-- arrs: arr4_rec
-- eqs: idnT_eqa effT_eqa chgT_eqa keyT_eqa
-- eqrs: k4_eqr
-- zeros: z_octs z_rdr
-- funcs
-- flds
-- arrp
set_option maxRecDepth 100000
set_option maxHeartbeats 6000000
section
variable {P : Program} {N z : Nat} {E : Env} {Q : QF} {F : Nat → Value} {H : List Asn}
/-- an operation that yields, carried out where it stands -/
theorem Go1.val {i : Nat} {todo : Td} {l : List Oper} {Hk : List Asn} {d : Nat} {op : Op} {ty : TypeId} {pos : String} {af : Array Edge} {gd : Option (Nat × Bool)} {v : Value} (hi : nth l i = some ⟨some d, op, ty, pos, af, gd⟩) (hd : d < N) (hg : Grd l N F true gd)
    (hy : Yld P E H (ev F) ⟨some d, op, ty, pos, af, gd⟩ v) (hc : Conv E H Hk) (h : Dr P N E z l Q Hk todo (upd F d v) H) : Go1 P N E z l Q Hk i todo F H :=
  Go1.go hi (by rintro k ⟨⟩; exact hd) hg (Stp.yld hy ⟨hc, h⟩)
theorem Dr.val {i : Nat} {todo : Td} {l : List Oper} {Hk : List Asn} {d : Nat} {op : Op} {ty : TypeId} {pos : String} {af : Array Edge} {gd : Option (Nat × Bool)} {v : Value} (hi : nth l i = some ⟨some d, op, ty, pos, af, gd⟩) (hd : d < N) (hg : Grd l N F true gd)
    (hy : Yld P E H (ev F) ⟨some d, op, ty, pos, af, gd⟩ v) (hc : Conv E H Hk) (h : Dr P N E z l Q Hk todo (upd F d v) H) : Dr P N E z l Q Hk (.one i true todo) F H :=
  Dr.all (Go1.val hi hd hg hy hc h)
end
section
variable (E : Env) (A : Option Addr) (n c : Nat) (B : Option Addr) (k d : Nat)
theorem scloneI (l : List Idn) (hr : Rd E idnT A n c l) (hl : n ≤ 1000000) : Tri Try.prog E 35 #[.slice A n c] [] fun r H' => ∃ A' c', r = .returned (.slice A' n c') ∧ (n ≤ c' ∧ c' ≤ maxLen) ∧ H' = [own idnT A' n c' l] := by
  refine tri Try.func35 rfl Try.ntmps35 (by simp) ?_
  cases A with
  | none =>
    obtain ⟨rfl, rfl⟩ := hr.none
    repeat (first | refine wMl ?_ | (refine kMl ?_; (first | rintro _ _ ⟨rfl, rfl⟩ | rintro _ _ ⟨_, rfl, rfl⟩ | rintro _ _ ⟨_, _, ⟨_, _⟩, rfl, rfl⟩); try refine ⟨sConv, ?_⟩) | refine Dr.two ?_ ?_)
    exact ret1 rfl sRet (Conv.nil0 idnT none) ⟨none, 0, rfl, ⟨Nat.le_refl _, Nat.zero_le _⟩, rfl⟩
  | some a =>
    repeat (first | refine wMl ?_ | (refine kMl ?_; (first | rintro _ _ ⟨rfl, rfl⟩ | rintro _ _ ⟨_, rfl, rfl⟩ | rintro _ _ ⟨_, _, ⟨_, _⟩, rfl, rfl⟩); try refine ⟨sConv, ?_⟩) | refine Dr.two ?_ ?_)
    rename_i A' c' h1 h2
    exact ret1 rfl sRet sConv (⟨_, _, rfl, ⟨h1, h2⟩, rfl⟩)
theorem scloneC (l : List Chg) (hr : Rd E chgT A n c l) (hl : n ≤ 1000000) : Tri Try.prog E 36 #[.slice A n c] [] fun r H' => ∃ A' c', r = .returned (.slice A' n c') ∧ (n ≤ c' ∧ c' ≤ maxLen) ∧ H' = [own chgT A' n c' l] := by
  refine tri Try.func36 rfl Try.ntmps36 (by simp) ?_
  cases A with
  | none =>
    obtain ⟨rfl, rfl⟩ := hr.none
    repeat (first | refine wMl ?_ | (refine kMl ?_; (first | rintro _ _ ⟨rfl, rfl⟩ | rintro _ _ ⟨_, rfl, rfl⟩ | rintro _ _ ⟨_, _, ⟨_, _⟩, rfl, rfl⟩); try refine ⟨sConv, ?_⟩) | refine Dr.two ?_ ?_)
    exact ret1 rfl sRet (Conv.nil0 chgT none) ⟨none, 0, rfl, ⟨Nat.le_refl _, Nat.zero_le _⟩, rfl⟩
  | some a =>
    repeat (first | refine wMl ?_ | (refine kMl ?_; (first | rintro _ _ ⟨rfl, rfl⟩ | rintro _ _ ⟨_, rfl, rfl⟩ | rintro _ _ ⟨_, _, ⟨_, _⟩, rfl, rfl⟩); try refine ⟨sConv, ?_⟩) | refine Dr.two ?_ ?_)
    rename_i A' c' h1 h2
    exact ret1 rfl sRet sConv (⟨_, _, rfl, ⟨h1, h2⟩, rfl⟩)
theorem mclone (m : Mg) (hI : Rd E idnT A n c m.ids) (hC : Rd E chgT B k d m.chs) (hn : n ≤ 1000000) (hk : k ≤ 1000000) : Tri Try.prog E 14 #[.agg (mcs m A n c B k d).toArray] [] fun r H' => ∃ A' c' B' d', r = .returned (.agg (mcs m A' n c' B' k d').toArray) ∧ (n ≤ c' ∧ c' ≤ maxLen) ∧ (k ≤ d' ∧ d' ≤ maxLen) ∧ H' = [own idnT A' n c' m.ids, own chgT B' k d' m.chs] := by
  refine tri Try.func14 rfl Try.ntmps14 (by simp) ?_
  repeat (first | refine wMl ?_ | (refine kMl ?_; (first | rintro _ _ ⟨rfl, rfl⟩ | rintro _ _ ⟨_, rfl, rfl⟩ | rintro _ _ ⟨_, _, ⟨_, _⟩, rfl, rfl⟩); try refine ⟨sConv, ?_⟩) | refine Dr.two ?_ ?_)
  refine C.regionA 100000 (.one 0 false (.one 3 false (.two 1 (.two 2 (.one 4 true (.one 6 false (.one 5 true (.one 7 true (.one 8 false (.one 9 true .nil)))))) 4 (.one 2 true (.one 6 false (.one 5 true (.one 7 true (.one 8 false (.one 9 true .nil))))))) 4 (.one 1 true (.one 2 true (.one 6 false (.one 5 true (.one 7 true (.one 8 false (.one 9 true .nil)))))))))) ([]) (by kernel_rfl) (by kernel_rfl) sConv ?_
  repeat (first | refine wMl ?_ | (refine kMl ?_; (first | rintro _ _ ⟨rfl, rfl⟩ | rintro _ _ ⟨_, rfl, rfl⟩ | rintro _ _ ⟨_, _, ⟨_, _⟩, rfl, rfl⟩); try refine ⟨sConv, ?_⟩) | refine Dr.two ?_ ?_)
  · apply Go1.val; (· exact rfl); (· decide); (· exact sGon); (· exact sYMl); (· exact sConv)
    refine Dr.two ?_ ?_
    · refine Go1.go rfl (by rintro k ⟨⟩ <;> decide) sGon (S.call rfl rfl Try.func35 (by kernel_rfl) rfl sPicks (fun E' hE => scloneI E' A n c m.ids sRd hn) ?_)
      rintro e H' ⟨A', c', rfl, h1, rfl⟩
      refine ⟨_, rfl, _, sCat, sConv, ?_⟩
      apply Dr.val; (· exact rfl); (· decide); (· exact sGon); (· exact sYMl); (· exact sConv)
      repeat (first | refine wMl ?_ | (refine kMl ?_; (first | rintro _ _ ⟨rfl, rfl⟩ | rintro _ _ ⟨_, rfl, rfl⟩ | rintro _ _ ⟨_, _, ⟨_, _⟩, rfl, rfl⟩); try refine ⟨sConv, ?_⟩) | refine Dr.two ?_ ?_)
      refine Dr.go rfl (by rintro k ⟨⟩ <;> decide) sGon (S.call rfl rfl Try.func36 (by kernel_rfl) rfl sPicks (fun E' hE => scloneC E' B k d m.chs sRd hk) ?_)
      rintro e H' ⟨B', d', rfl, h2, rfl⟩
      refine ⟨_, rfl, _, sCat, sConv, ?_⟩
      repeat (first | refine wMl ?_ | (refine kMl ?_; (first | rintro _ _ ⟨rfl, rfl⟩ | rintro _ _ ⟨_, rfl, rfl⟩ | rintro _ _ ⟨_, _, ⟨_, _⟩, rfl, rfl⟩); try refine ⟨sConv, ?_⟩) | refine Dr.two ?_ ?_)
      apply retC1; (· exact rfl); (· exact sRet); (· exact rfl); (· exact rfl); (· exact rfl); (· exact sHas); (· exact rfl); rotate_left; (· exact (⟨_, _, _, _, rfl, h1, h2, rfl⟩)); (· exact sConv)
    · apply Go1.val; (· exact rfl); (· decide); (· exact sGon); (· exact sYMl); (· exact sConv)
      refine Dr.go rfl (by rintro k ⟨⟩ <;> decide) sGon (S.call rfl rfl Try.func35 (by kernel_rfl) rfl sPicks (fun E' hE => scloneI E' A n c m.ids sRd hn) ?_)
      rintro e H' ⟨A', c', rfl, h1, rfl⟩
      refine ⟨_, rfl, _, sCat, sConv, ?_⟩
      repeat (first | refine wMl ?_ | (refine kMl ?_; (first | rintro _ _ ⟨rfl, rfl⟩ | rintro _ _ ⟨_, rfl, rfl⟩ | rintro _ _ ⟨_, _, ⟨_, _⟩, rfl, rfl⟩); try refine ⟨sConv, ?_⟩) | refine Dr.two ?_ ?_)
      refine Dr.go rfl (by rintro k ⟨⟩ <;> decide) sGon (S.call rfl rfl Try.func36 (by kernel_rfl) rfl sPicks (fun E' hE => scloneC E' B k d m.chs sRd hk) ?_)
      rintro e H' ⟨B', d', rfl, h2, rfl⟩
      refine ⟨_, rfl, _, sCat, sConv, ?_⟩
      repeat (first | refine wMl ?_ | (refine kMl ?_; (first | rintro _ _ ⟨rfl, rfl⟩ | rintro _ _ ⟨_, rfl, rfl⟩ | rintro _ _ ⟨_, _, ⟨_, _⟩, rfl, rfl⟩); try refine ⟨sConv, ?_⟩) | refine Dr.two ?_ ?_)
      apply retC1; (· exact rfl); (· exact sRet); (· exact rfl); (· exact rfl); (· exact rfl); (· exact sHas); (· exact rfl); rotate_left; (· exact (⟨_, _, _, _, rfl, h1, h2, rfl⟩)); (· exact sConv)
  · apply Go1.val; (· exact rfl); (· decide); (· exact sGon); (· exact sYMl); (· exact sConv)
    apply Dr.val; (· exact rfl); (· decide); (· exact sGon); (· exact sYMl); (· exact sConv)
    refine Dr.go rfl (by rintro k ⟨⟩ <;> decide) sGon (S.call rfl rfl Try.func35 (by kernel_rfl) rfl sPicks (fun E' hE => scloneI E' A n c m.ids sRd hn) ?_)
    rintro e H' ⟨A', c', rfl, h1, rfl⟩
    refine ⟨_, rfl, _, sCat, sConv, ?_⟩
    repeat (first | refine wMl ?_ | (refine kMl ?_; (first | rintro _ _ ⟨rfl, rfl⟩ | rintro _ _ ⟨_, rfl, rfl⟩ | rintro _ _ ⟨_, _, ⟨_, _⟩, rfl, rfl⟩); try refine ⟨sConv, ?_⟩) | refine Dr.two ?_ ?_)
    refine Dr.go rfl (by rintro k ⟨⟩ <;> decide) sGon (S.call rfl rfl Try.func36 (by kernel_rfl) rfl sPicks (fun E' hE => scloneC E' B k d m.chs sRd hk) ?_)
    rintro e H' ⟨B', d', rfl, h2, rfl⟩
    refine ⟨_, rfl, _, sCat, sConv, ?_⟩
    repeat (first | refine wMl ?_ | (refine kMl ?_; (first | rintro _ _ ⟨rfl, rfl⟩ | rintro _ _ ⟨_, rfl, rfl⟩ | rintro _ _ ⟨_, _, ⟨_, _⟩, rfl, rfl⟩); try refine ⟨sConv, ?_⟩) | refine Dr.two ?_ ?_)
    apply retC1; (· exact rfl); (· exact sRet); (· exact rfl); (· exact rfl); (· exact rfl); (· exact sHas); (· exact rfl); rotate_left; (· exact (⟨_, _, _, _, rfl, h1, h2, rfl⟩)); (· exact sConv)
end
end Go.Proofs.Ytihblcljkndpgaa.Sep
