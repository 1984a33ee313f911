/- entry.Get, by parts of memory. -/
import Derived.Test.YtncfkkmdhdofpaaEnt6
import Derived.Test.YtncfkkmdhdofpaaEnt7
import Derived.Test.YtncfkkmdhdofpaaChange2
import Derived.Test.YtncfkkmdhdofpaaChangePlain
import Derived.Test.YtncfkkmdhdofpaaPutw
import Derived.Test.YtncfkkmdhdofpaaRet
import Derived.Test.YtncfkkmdhdofpaaOctDone
namespace Go.Proofs.Ytncfkkmdhdofpaa.Sep
open Go.RowKit Go.Proofs.Ytncfkkmdhdofpaa.Reg Go.Proofs.Ytncfkkmdhdofpaa.Oct
open Go.Proofs.Ytncfkkmdhdofpaa.Mem hiding Rd Own
-- types: octT idnT
-- recs: rec_Reader idnT_rec effT_rec cfgT_rec entT_rec enrT_rec
-- eqs: idnT_eqa effT_eqa entT_eqa enrT_eqa
-- zeros: z_octs z_rdr
-- funcs
set_option maxRecDepth 100000
set_option maxHeartbeats 8000000
def entR (b : List UInt8) : Ent := ⟨fld b 0 1, (fget13 ((b.drop 1).take 13)).getD effT_z, fld b 14 1, fld b 15 4, decide (Go.bits .and .i64 (fld b 24 1 : Nat) 1 ≠ 0), decide (Go.bits .and .i64 (fld b 24 1 : Nat) 2 ≠ 0), fld b 19 1, fld b 20 4⟩
def eget (b : List UInt8) : Option Ent := if b.length = 27 ∧ (entR b).may = true ∧ (entR b).put = b then some (entR b) else none
theorem takee_any (E : Env) (gr g : Nat) (s s' : Bool × List UInt8) (w : Nat) (v : Int) (hs : stp s w = s') (hv : sgn (vl s w) = v) (A : Option Addr) (n c : Nat) (W : Int) (hW : W = w) (hw : 1 ≤ w ∧ w ≤ 8) (hr : Rd E octT A n c s.2) :
    Tri Try.prog E 101 #[.int .i64 W, .pointer (some ⟨gr, 0, none⟩)] [blk gr 116 [.pointer (some ⟨g, 0, none⟩)], rdr g true s.1 A n c] (Took gr g A n c s.2 s' (.int .i64 v)) := by
  subst hs hv
  have hwid : wid W = (w : Int) := by unfold wid; rw [if_neg (by omega)]; exact hW
  have hlt := vl_lt s w
  have hlt2 : vl s w < 18446744073709551616 := Nat.lt_of_lt_of_le hlt (Nat.le_trans (Nat.pow_le_pow_right (by omega) hw.2) (by decide))
  have hc := wrap_sgn hlt2
  refine tri Try.func101 rfl Try.ntmps101 (by simp) ?_
  repeat (first | refine wEn5 ?_ | (refine kEn5 ?_; (first | rintro _ _ ⟨rfl, rfl⟩ | rintro _ _ ⟨_, rfl, rfl⟩ | rintro _ _ ⟨_, _, ⟨_, _⟩, rfl, rfl⟩); try refine ⟨sConv, ?_⟩) | refine Dr.two ?_ ?_)
  refine L.step (by decide) (S.call rfl rfl Try.func78 (by kernel_rfl) rfl sPicks (fun E' hE => take_any E' g s.1 A n c s.2 W sRd) ?_)
  obtain ⟨o, ho⟩ : ∃ o, nx s.1 s.2 (w : Int) = (o, stp s w) := ⟨_, rfl⟩
  have htk := tk_vl s w
  rw [ho] at htk
  rw [hwid, ho]
  rintro e H' ⟨A', n', c', rfl, hal, rfl⟩
  dsimp only at htk hal ⊢
  rw [htk]
  refine ⟨_, rfl, _, sCat, ?_⟩
  repeat (first | refine wEn5 ?_ | (refine kEn5 ?_; (first | rintro _ _ ⟨rfl, rfl⟩ | rintro _ _ ⟨_, rfl, rfl⟩ | rintro _ _ ⟨_, _, ⟨_, _⟩, rfl, rfl⟩); try refine ⟨sConv, ?_⟩) | refine Dr.two ?_ ?_)
  exact ret1 rfl sRet sConv (⟨_, _, _, rfl, hal, rfl⟩)
theorem eget_short (E : Env) (A : Option Addr) (n c : Nat) (b : List UInt8) (hr : Rd E octT A n c b) (hl : n ≠ 27) :
    Tri Try.prog E 67 #[.slice A n c] [] fun e H' => e = .returned (.tuple #[.agg entT_z.cs.toArray, .bool false]) ∧ H' = [] := by
  have hn := hr.len
  have hcap := hr.cap
  refine tri Try.func67 rfl Try.ntmps67 (by simp) ?_
  repeat (first | refine wEn5 ?_ | (refine kEn5 ?_; (first | rintro _ _ ⟨rfl, rfl⟩ | rintro _ _ ⟨_, rfl, rfl⟩ | rintro _ _ ⟨_, _, ⟨_, _⟩, rfl, rfl⟩); try refine ⟨sConv, ?_⟩) | refine Dr.two ?_ ?_)
  apply retC2; (· exact rfl); (· exact sRet); (· exact rfl); (· exact rfl); (· exact rfl); (· exact sHas); (· exact rfl); (· exact sRet); rotate_left; (· exact (⟨rfl, rfl⟩)); (· exact sConv)
theorem eget_long (E : Env) (A : Option Addr) (n c : Nat) (b : List UInt8) (hr : Rd E octT A n c b) (hl : n = 27) :
    Tri Try.prog E 67 #[.slice A n c] [] fun e H' => e = .returned (.tuple #[.agg ((eget b).getD entT_z).cs.toArray, .bool (eget b).isSome]) ∧ H' = [] := by
  have hn := hr.len
  have hcap := hr.cap
  have o1 : 1 ≤ 1 ∧ 1 ≤ 8 := by omega
  have o4 : 1 ≤ 4 ∧ 4 ≤ 8 := by omega
  have t0 := stp_ok (l := b) (i := 0) (w := 1) (by omega)
  rw [List.drop_zero] at t0
  have q0 : sgn (vl (false, b) 1) = (fld b 0 1 : Nat) := by rw [t0.2.1]; exact sgn_small (Nat.lt_trans (fld_lt b 0 1) (by decide))
  have t0' : stp (false, b) 1 = (false, b.drop 1) := t0.1
  have t14 := stp_ok (l := b) (i := 14) (w := 1) (by omega)
  have q14 : sgn (vl (false, b.drop 14) 1) = (fld b 14 1 : Nat) := by rw [t14.2.1]; exact sgn_small (Nat.lt_trans (fld_lt b 14 1) (by decide))
  have t15 := stp_ok (l := b) (i := 15) (w := 4) (by omega)
  have q15 : sgn (vl (false, b.drop 15) 4) = (fld b 15 4 : Nat) := by rw [t15.2.1]; exact sgn_small (Nat.lt_trans (fld_lt b 15 4) (by decide))
  have t19 := stp_ok (l := b) (i := 19) (w := 1) (by omega)
  have q19 : sgn (vl (false, b.drop 19) 1) = (fld b 19 1 : Nat) := by rw [t19.2.1]; exact sgn_small (Nat.lt_trans (fld_lt b 19 1) (by decide))
  have t20 := stp_ok (l := b) (i := 20) (w := 4) (by omega)
  have q20 : sgn (vl (false, b.drop 20) 4) = (fld b 20 4 : Nat) := by rw [t20.2.1]; exact sgn_small (Nat.lt_trans (fld_lt b 20 4) (by decide))
  have t24 := stp_ok (l := b) (i := 24) (w := 1) (by omega)
  have q24 : sgn (vl (false, b.drop 24) 1) = (fld b 24 1 : Nat) := by rw [t24.2.1]; exact sgn_small (Nat.lt_trans (fld_lt b 24 1) (by decide))
  have hnx : nx false (b.drop 1) 13 = (some ((b.drop 1).take 13), false, b.drop 14) := by
    have := nx_ok (l := b.drop 1) (k := 13) (by simp; omega)
    rw [List.drop_drop] at this
    exact this
  have hl13 : ((b.drop 1).take 13).length = 13 := by simp; omega
  have hlen : (b.drop 1).length ≤ 140737488355328 := by simp; omega
  refine tri Try.func67 rfl Try.ntmps67 (by simp) ?_
  repeat (first | refine wEn5 ?_ | (refine kEn5 ?_; (first | rintro _ _ ⟨rfl, rfl⟩ | rintro _ _ ⟨_, rfl, rfl⟩ | rintro _ _ ⟨_, _, ⟨_, _⟩, rfl, rfl⟩); try refine ⟨sConv, ?_⟩) | refine Dr.two ?_ ?_)
  refine L.step (by decide) (S.call rfl rfl Try.func76 (by kernel_rfl) rfl sPicks (fun E' hE => new_any E' A n c b sRd (by omega)) ?_)
  rintro e H' ⟨g, A0, c0, rfl, h5, h6, rfl⟩
  refine ⟨_, rfl, _, sCat, ?_⟩
  unfold adr
  repeat (first | refine wEn5 ?_ | (refine kEn5 ?_; (first | rintro _ _ ⟨rfl, rfl⟩ | rintro _ _ ⟨_, rfl, rfl⟩ | rintro _ _ ⟨_, _, ⟨_, _⟩, rfl, rfl⟩); try refine ⟨sConv, ?_⟩) | refine Dr.two ?_ ?_)
  rename_i gres gr
  refine L.step (by decide) (S.callV rfl sLk rfl rfl Try.func101 (by kernel_rfl) rfl sPicks (fun E' hE => takee_any E' gr g (false, b) (false, b.drop 1) 1 _ t0' q0 A0 n c0 1 rfl o1 sRd) ?_)
  rintro e H' ⟨A1, n1, c1, rfl, hal1, rfl⟩
  dsimp only at hal1 ⊢
  refine ⟨_, rfl, _, sCat, ?_⟩
  repeat (first | refine wEn5 ?_ | (refine kEn5 ?_; (first | rintro _ _ ⟨rfl, rfl⟩ | rintro _ _ ⟨_, rfl, rfl⟩ | rintro _ _ ⟨_, _, ⟨_, _⟩, rfl, rfl⟩); try refine ⟨sConv, ?_⟩) | refine Dr.two ?_ ?_)
  refine L.step (by decide) (S.call rfl rfl Try.func87 (by kernel_rfl) rfl sPicks (fun E' hE => bytes_any E' g false A1 n1 c1 (b.drop 1) 13 (hal1 _ sRd) hlen) ?_)
  rw [hnx]
  rintro e H' ⟨A2, n2, c2, B, d, rfl, hal2, hmd, hd3, rfl⟩
  dsimp only at hal2
  simp only [Option.getD_some, Option.isSome_some] at hmd ⊢
  rw [hl13] at hmd ⊢
  refine ⟨_, rfl, _, sCat, ?_⟩
  repeat (first | refine wEn5 ?_ | (refine kEn5 ?_; (first | rintro _ _ ⟨rfl, rfl⟩ | rintro _ _ ⟨_, rfl, rfl⟩ | rintro _ _ ⟨_, _, ⟨_, _⟩, rfl, rfl⟩); try refine ⟨sConv, ?_⟩) | refine Dr.two ?_ ?_)
  have hER : entR b = ⟨fld b 0 1, (fget13 ((b.drop 1).take 13)).getD effT_z, fld b 14 1, fld b 15 4, decide (Go.bits .and .i64 (fld b 24 1 : Nat) 1 ≠ 0), decide (Go.bits .and .i64 (fld b 24 1 : Nat) 2 ≠ 0), fld b 19 1, fld b 20 4⟩ := rfl
  refine L.step (by decide) (S.call rfl rfl Try.func102 (by kernel_rfl) rfl sPicks (fun E' hE => fget_any E' B 13 d _ _ rfl sRd rfl) ?_)
  generalize (fget13 ((b.drop 1).take 13)).getD effT_z = y at *
  rintro e H' ⟨rfl, rfl⟩
  refine ⟨_, rfl, _, sCat, ?_⟩
  repeat (first | refine wEn5 ?_ | (refine kEn5 ?_; (first | rintro _ _ ⟨rfl, rfl⟩ | rintro _ _ ⟨_, rfl, rfl⟩ | rintro _ _ ⟨_, _, ⟨_, _⟩, rfl, rfl⟩); try refine ⟨sConv, ?_⟩) | refine Dr.two ?_ ?_)
  refine L.step (by decide) (S.callV rfl sLk rfl rfl Try.func101 (by kernel_rfl) rfl sPicks (fun E' hE => takee_any E' gr g (false, b.drop 14) (false, b.drop 15) 1 _ t14.1 q14 A2 n2 c2 1 rfl o1 (hal2 _ (hal1 _ sRd))) ?_)
  rintro e H' ⟨A3, n3, c3, rfl, hal3, rfl⟩
  dsimp only at hal3 ⊢
  refine ⟨_, rfl, _, sCat, ?_⟩
  repeat (first | refine wEn5 ?_ | (refine kEn5 ?_; (first | rintro _ _ ⟨rfl, rfl⟩ | rintro _ _ ⟨_, rfl, rfl⟩ | rintro _ _ ⟨_, _, ⟨_, _⟩, rfl, rfl⟩); try refine ⟨sConv, ?_⟩) | refine Dr.two ?_ ?_)
  refine L.step (by decide) (S.callV rfl sLk rfl rfl Try.func101 (by kernel_rfl) rfl sPicks (fun E' hE => takee_any E' gr g (false, b.drop 15) (false, b.drop 19) 4 _ t15.1 q15 A3 n3 c3 4 rfl o4 (hal3 _ (hal2 _ (hal1 _ sRd)))) ?_)
  rintro e H' ⟨A4, n4, c4, rfl, hal4, rfl⟩
  dsimp only at hal4 ⊢
  refine ⟨_, rfl, _, sCat, ?_⟩
  repeat (first | refine wEn5 ?_ | (refine kEn5 ?_; (first | rintro _ _ ⟨rfl, rfl⟩ | rintro _ _ ⟨_, rfl, rfl⟩ | rintro _ _ ⟨_, _, ⟨_, _⟩, rfl, rfl⟩); try refine ⟨sConv, ?_⟩) | refine Dr.two ?_ ?_)
  refine L.step (by decide) (S.callV rfl sLk rfl rfl Try.func101 (by kernel_rfl) rfl sPicks (fun E' hE => takee_any E' gr g (false, b.drop 19) (false, b.drop 20) 1 _ t19.1 q19 A4 n4 c4 1 rfl o1 (hal4 _ (hal3 _ (hal2 _ (hal1 _ sRd))))) ?_)
  rintro e H' ⟨A5, n5, c5, rfl, hal5, rfl⟩
  dsimp only at hal5 ⊢
  refine ⟨_, rfl, _, sCat, ?_⟩
  repeat (first | refine wEn5 ?_ | (refine kEn5 ?_; (first | rintro _ _ ⟨rfl, rfl⟩ | rintro _ _ ⟨_, rfl, rfl⟩ | rintro _ _ ⟨_, _, ⟨_, _⟩, rfl, rfl⟩); try refine ⟨sConv, ?_⟩) | refine Dr.two ?_ ?_)
  refine L.step (by decide) (S.callV rfl sLk rfl rfl Try.func101 (by kernel_rfl) rfl sPicks (fun E' hE => takee_any E' gr g (false, b.drop 20) (false, b.drop 24) 4 _ t20.1 q20 A5 n5 c5 4 rfl o4 (hal5 _ (hal4 _ (hal3 _ (hal2 _ (hal1 _ sRd)))))) ?_)
  rintro e H' ⟨A6, n6, c6, rfl, hal6, rfl⟩
  dsimp only at hal6 ⊢
  refine ⟨_, rfl, _, sCat, ?_⟩
  repeat (first | refine wEn5 ?_ | (refine kEn5 ?_; (first | rintro _ _ ⟨rfl, rfl⟩ | rintro _ _ ⟨_, rfl, rfl⟩ | rintro _ _ ⟨_, _, ⟨_, _⟩, rfl, rfl⟩); try refine ⟨sConv, ?_⟩) | refine Dr.two ?_ ?_)
  refine L.step (by decide) (S.callV rfl sLk rfl rfl Try.func101 (by kernel_rfl) rfl sPicks (fun E' hE => takee_any E' gr g (false, b.drop 24) (false, b.drop 25) 1 _ t24.1 q24 A6 n6 c6 1 rfl o1 (hal6 _ (hal5 _ (hal4 _ (hal3 _ (hal2 _ (hal1 _ sRd))))))) ?_)
  rintro e H' ⟨A7, n7, c7, rfl, hal7, rfl⟩
  dsimp only at hal7 ⊢
  refine ⟨_, rfl, _, sCat, ?_⟩
  repeat (first | refine wEn5 ?_ | (refine kEn5 ?_; (first | rintro _ _ ⟨rfl, rfl⟩ | rintro _ _ ⟨_, rfl, rfl⟩ | rintro _ _ ⟨_, _, ⟨_, _⟩, rfl, rfl⟩); try refine ⟨sConv, ?_⟩) | refine Dr.two ?_ ?_)
  have heg : eget b = if b.length = 27 ∧ (entR b).may = true ∧ (entR b).put = b then some (entR b) else none := rfl
  refine C.regionA 100000 (.one 0 false (.one 3 false (.one 4 false (.one 1 true (.one 2 false (.one 5 false .nil)))))) _ (by kernel_rfl) (by kernel_rfl) Conv.refl ?_
  repeat (first | refine wEn5 ?_ | (refine kEn5 ?_; (first | rintro _ _ ⟨rfl, rfl⟩ | rintro _ _ ⟨_, rfl, rfl⟩ | rintro _ _ ⟨_, _, ⟨_, _⟩, rfl, rfl⟩); try refine ⟨sConv, ?_⟩) | refine Dr.two ?_ ?_)
  cases hm : (entR b).may
  · rw [if_neg (fun h => by rw [hm] at h; cases h.2.1)] at heg
    rw [heg]
    have hd : decide (([] : List UInt8) ≠ b) = true := decide_eq_true (fun h => by rw [← h] at hn; simp at hn; omega)
    have hpn := fun E' => eput_no E' (entR b) hm
    rw [hER] at hpn
    refine Dr.go rfl (by rintro k ⟨⟩ <;> decide) sGon (S.call rfl rfl Try.func65 (by kernel_rfl) rfl sPicks (fun E' hE => hpn E') ?_)
    rintro e H' ⟨rfl, rfl⟩
    refine ⟨_, rfl, _, sCat, sConv, ?_⟩
    repeat (first | refine wEn5 ?_ | (refine kEn5 ?_; (first | rintro _ _ ⟨rfl, rfl⟩ | rintro _ _ ⟨_, rfl, rfl⟩ | rintro _ _ ⟨_, _, ⟨_, _⟩, rfl, rfl⟩); try refine ⟨sConv, ?_⟩) | refine Dr.two ?_ ?_)
    apply retC2; (· exact rfl); (· exact sRet); (· exact rfl); (· exact rfl); (· exact rfl); (· exact sHas); (· exact rfl); (· exact sRet); rotate_left; (· exact (⟨rfl, rfl⟩)); (· exact sConv)
  · have hpn := fun E' => eput_ok E' (entR b) hm
    generalize hpp : (entR b).put = p at *
    rw [hER] at hpn
    refine Dr.go rfl (by rintro k ⟨⟩ <;> decide) sGon (S.call rfl rfl Try.func65 (by kernel_rfl) rfl sPicks (fun E' hE => hpn E') ?_)
    rintro e H' ⟨A9, c9, rfl, rfl⟩
    refine ⟨_, rfl, _, sCat, sConv, ?_⟩
    refine Dr.more (Hk' := _) sConv Conv.refl ?_
    by_cases hp : p = b
    · rw [if_pos ⟨by omega, hm, hp⟩] at heg
      rw [heg]
      have hd : decide (p ≠ b) = false := by simp [hp]
      simp only [Option.getD_some, Option.isSome_some]
      rw [hER]
      repeat (first | refine wEn5 ?_ | (refine kEn5 ?_; (first | rintro _ _ ⟨rfl, rfl⟩ | rintro _ _ ⟨_, rfl, rfl⟩ | rintro _ _ ⟨_, _, ⟨_, _⟩, rfl, rfl⟩); try refine ⟨sConv, ?_⟩) | refine Dr.two ?_ ?_)
      apply retC2; (· exact rfl); (· exact sRet); (· exact rfl); (· exact rfl); (· exact rfl); (· exact sHas); (· exact rfl); (· exact sRet); rotate_left; (· exact (⟨rfl, rfl⟩)); (· exact sConv)
    · rw [if_neg (fun h => hp h.2.2)] at heg
      rw [heg]
      have hd : decide (p ≠ b) = true := by simp [hp]
      repeat (first | refine wEn5 ?_ | (refine kEn5 ?_; (first | rintro _ _ ⟨rfl, rfl⟩ | rintro _ _ ⟨_, rfl, rfl⟩ | rintro _ _ ⟨_, _, ⟨_, _⟩, rfl, rfl⟩); try refine ⟨sConv, ?_⟩) | refine Dr.two ?_ ?_)
      apply retC2; (· exact rfl); (· exact sRet); (· exact rfl); (· exact rfl); (· exact rfl); (· exact sHas); (· exact rfl); (· exact sRet); rotate_left; (· exact (⟨rfl, rfl⟩)); (· exact sConv)
end Go.Proofs.Ytncfkkmdhdofpaa.Sep
