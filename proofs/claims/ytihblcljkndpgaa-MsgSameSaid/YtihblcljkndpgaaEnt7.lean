/- effect.Get, by parts of memory. -/
import Derived.Test.YtihblcljkndpgaaEnt5
import Derived.Test.YtihblcljkndpgaaChange3
import Derived.Test.YtihblcljkndpgaaPutw
import Derived.Test.YtihblcljkndpgaaRet
namespace Go.Proofs.Ytihblcljkndpgaa.Sep
open Go.RowKit Go.Proofs.Ytihblcljkndpgaa.Reg Go.Proofs.Ytihblcljkndpgaa.Oct
open Go.Proofs.Ytihblcljkndpgaa.Mem hiding Rd Own
-- types: octT idnT
-- recs: rec_Reader idnT_rec effT_rec
-- eqs: idnT_eqa effT_eqa
-- zeros: z_octs z_rdr
-- funcs
set_option maxRecDepth 100000
set_option maxHeartbeats 6000000
abbrev effW : List Nat := [1, 1, 8, 1, 2]
def effOf (l : List UInt8) : Eff := ⟨fld l 0 1, fld l 1 1, sgn (fld l 2 8), ⟨fld l 10 1, fld l 11 2⟩⟩
def effR (l : List UInt8) : Eff := ⟨va effW l 0, va effW l 1, sgn (va effW l 2), ⟨va effW l 3, va effW l 4⟩⟩
theorem effR_long {l : List UInt8} (h : 13 ≤ l.length) : effR l = effOf l := by
  unfold effR effOf
  rw [va_long (k := 0) (w := 1) rfl rfl (by decide) (by omega), va_long (k := 1) (w := 1) rfl rfl (by decide) (by omega), va_long (k := 2) (w := 8) rfl rfl (by decide) (by omega), va_long (k := 10) (w := 1) rfl rfl (by decide) (by omega), va_long (k := 11) (w := 2) rfl rfl (by decide) (by omega)]
def fget13 (l : List UInt8) : Option Eff := if (effOf l).check = 0 then some (effOf l) else none
theorem takeu_any (E : Env) (gr g : Nat) (s s' : Bool × List UInt8) (w : Nat) (v : Nat) (hs : stp s w = s') (hv : vl s w = v) (A : Option Addr) (n c : Nat) (W : Int) (hW : W = w) (hw : 1 ≤ w ∧ w ≤ 8) (hr : Rd E octT A n c s.2) :
    Tri Try.prog E 74 #[.int .i64 W, .pointer (some ⟨gr, 0, none⟩)] [blk gr 54 [.pointer (some ⟨g, 0, none⟩)], rdr g true s.1 A n c] (Took gr g A n c s.2 s' (.int .u64 v)) := by
  subst hs hv
  have hwid : wid W = (w : Int) := by unfold wid; rw [if_neg (by omega)]; exact hW
  have hlt := vl_lt s w
  have hlt2 : vl s w < 18446744073709551616 := Nat.lt_of_lt_of_le hlt (Nat.le_trans (Nat.pow_le_pow_right (by omega) hw.2) (by decide))
  have hc := wrap_sgn hlt2
  refine tri Try.func74 rfl Try.ntmps74 (by simp) ?_
  repeat (first | refine wEn5 ?_ | (refine kEn5 ?_; (first | rintro _ _ ⟨rfl, rfl⟩ | rintro _ _ ⟨_, rfl, rfl⟩ | rintro _ _ ⟨_, _, ⟨_, _⟩, rfl, rfl⟩); try refine ⟨sConv, ?_⟩) | refine Dr.two ?_ ?_)
  refine L.step (by decide) (S.call rfl rfl Try.func41 (by kernel_rfl) rfl sPicks (fun E' hE => take_any E' g s.1 A n c s.2 W sRd) ?_)
  obtain ⟨o, ho⟩ : ∃ o, nx s.1 s.2 (w : Int) = (o, stp s w) := ⟨_, rfl⟩
  have htk := tk_vl s w
  rw [ho] at htk
  rw [hwid, ho]
  rintro e H' ⟨A', n', c', rfl, hal, rfl⟩
  dsimp only at htk hal ⊢
  rw [htk]
  refine ⟨_, rfl, _, sCat, ?_⟩
  repeat (first | refine wEn5 ?_ | (refine kEn5 ?_; (first | rintro _ _ ⟨rfl, rfl⟩ | rintro _ _ ⟨_, rfl, rfl⟩ | rintro _ _ ⟨_, _, ⟨_, _⟩, rfl, rfl⟩); try refine ⟨sConv, ?_⟩) | refine Dr.two ?_ ?_)
  exact ret1 rfl sRet sConv (⟨_, _, _, rfl, hal, rfl⟩)
theorem fget_any (E : Env) (A : Option Addr) (n c : Nat) (l : List UInt8) (r : Option Eff) (hx : fget13 l = r) (hr : Rd E octT A n c l) (hl : n = 13) :
    Tri Try.prog E 49 #[.slice A n c] [] fun e H' => e = .returned (.tuple #[.agg (r.getD effT_z).cs.toArray, .int .i64 (if r.isSome then 0 else 16)]) ∧ H' = [] := by
  have hn := hr.len
  have hcap := hr.cap
  have o1 : 1 ≤ 1 ∧ 1 ≤ 8 := by omega
  have o2 : 1 ≤ 2 ∧ 2 ≤ 8 := by omega
  have o8 : 1 ≤ 8 ∧ 8 ≤ 8 := by omega
  have v0 := va_lt effW l 0
  have v1 := va_lt effW l 1
  have v2 := va_lt effW l 2
  have v3 := va_lt effW l 3
  have v4 := va_lt effW l 4
  have y0 : va effW l 0 < 256 := v0
  have y1 : va effW l 1 < 256 := v1
  have y3 : va effW l 3 < 256 := v3
  have y4 : va effW l 4 < 65536 := v4
  have hsg := wrap_sgn (k := va effW l 2) v2
  have hrun := effR_long (l := l) (by omega)
  have hst : st effW l 5 = (false, l.drop 13) := st_long (i := 5) (by decide) (by simp; omega)
  have hd0 : l.drop 13 = [] := List.drop_of_length_le (by omega)
  rw [hd0] at hst
  refine tri Try.func49 rfl Try.ntmps49 (by simp) ?_
  repeat (first | refine wEn5 ?_ | (refine kEn5 ?_; (first | rintro _ _ ⟨rfl, rfl⟩ | rintro _ _ ⟨_, rfl, rfl⟩ | rintro _ _ ⟨_, _, ⟨_, _⟩, rfl, rfl⟩); try refine ⟨sConv, ?_⟩) | refine Dr.two ?_ ?_)
  refine L.step (by decide) (S.call rfl rfl Try.func17 (by kernel_rfl) rfl sPicks (fun E' hE => new_any E' A n c l sRd (by omega)) ?_)
  rintro e H' ⟨g, A0, c0, rfl, h5, h6, rfl⟩
  refine ⟨_, rfl, _, sCat, ?_⟩
  unfold adr
  repeat (first | refine wEn5 ?_ | (refine kEn5 ?_; (first | rintro _ _ ⟨rfl, rfl⟩ | rintro _ _ ⟨_, rfl, rfl⟩ | rintro _ _ ⟨_, _, ⟨_, _⟩, rfl, rfl⟩); try refine ⟨sConv, ?_⟩) | refine Dr.two ?_ ?_)
  rename_i gres gr
  refine L.step (by decide) (S.callV rfl sLk rfl rfl Try.func74 (by kernel_rfl) rfl sPicks (fun E' hE => takeu_any E' gr g (false, l) (st effW l 1) 1 (va effW l 0) rfl rfl A0 n c0 1 rfl o1 sRd) ?_)
  rintro e H' ⟨A1, n1, c1, rfl, hal1, rfl⟩
  refine ⟨_, rfl, _, sCat, ?_⟩
  repeat (first | refine wEn5 ?_ | (refine kEn5 ?_; (first | rintro _ _ ⟨rfl, rfl⟩ | rintro _ _ ⟨_, rfl, rfl⟩ | rintro _ _ ⟨_, _, ⟨_, _⟩, rfl, rfl⟩); try refine ⟨sConv, ?_⟩) | refine Dr.two ?_ ?_)
  refine L.step (by decide) (S.callV rfl sLk rfl rfl Try.func74 (by kernel_rfl) rfl sPicks (fun E' hE => takeu_any E' gr g (st effW l 1) (st effW l 2) 1 (va effW l 1) rfl rfl A1 n1 c1 1 rfl o1 (hal1 _ sRd)) ?_)
  rintro e H' ⟨A2, n2, c2, rfl, hal2, rfl⟩
  refine ⟨_, rfl, _, sCat, ?_⟩
  repeat (first | refine wEn5 ?_ | (refine kEn5 ?_; (first | rintro _ _ ⟨rfl, rfl⟩ | rintro _ _ ⟨_, rfl, rfl⟩ | rintro _ _ ⟨_, _, ⟨_, _⟩, rfl, rfl⟩); try refine ⟨sConv, ?_⟩) | refine Dr.two ?_ ?_)
  refine L.step (by decide) (S.callV rfl sLk rfl rfl Try.func74 (by kernel_rfl) rfl sPicks (fun E' hE => takeu_any E' gr g (st effW l 2) (st effW l 3) 8 (va effW l 2) rfl rfl A2 n2 c2 8 rfl o8 (hal2 _ (hal1 _ sRd))) ?_)
  rintro e H' ⟨A3, n3, c3, rfl, hal3, rfl⟩
  refine ⟨_, rfl, _, sCat, ?_⟩
  repeat (first | refine wEn5 ?_ | (refine kEn5 ?_; (first | rintro _ _ ⟨rfl, rfl⟩ | rintro _ _ ⟨_, rfl, rfl⟩ | rintro _ _ ⟨_, _, ⟨_, _⟩, rfl, rfl⟩); try refine ⟨sConv, ?_⟩) | refine Dr.two ?_ ?_)
  refine L.step (by decide) (S.callV rfl sLk rfl rfl Try.func74 (by kernel_rfl) rfl sPicks (fun E' hE => takeu_any E' gr g (st effW l 3) (st effW l 4) 1 (va effW l 3) rfl rfl A3 n3 c3 1 rfl o1 (hal3 _ (hal2 _ (hal1 _ sRd)))) ?_)
  rintro e H' ⟨A4, n4, c4, rfl, hal4, rfl⟩
  refine ⟨_, rfl, _, sCat, ?_⟩
  repeat (first | refine wEn5 ?_ | (refine kEn5 ?_; (first | rintro _ _ ⟨rfl, rfl⟩ | rintro _ _ ⟨_, rfl, rfl⟩ | rintro _ _ ⟨_, _, ⟨_, _⟩, rfl, rfl⟩); try refine ⟨sConv, ?_⟩) | refine Dr.two ?_ ?_)
  refine L.step (by decide) (S.callV rfl sLk rfl rfl Try.func74 (by kernel_rfl) rfl sPicks (fun E' hE => takeu_any E' gr g (st effW l 4) (st effW l 5) 2 (va effW l 4) rfl rfl A4 n4 c4 2 rfl o2 (hal4 _ (hal3 _ (hal2 _ (hal1 _ sRd))))) ?_)
  rintro e H' ⟨A5, n5, c5, rfl, hal5, rfl⟩
  refine ⟨_, rfl, _, sCat, ?_⟩
  repeat (first | refine wEn5 ?_ | (refine kEn5 ?_; (first | rintro _ _ ⟨rfl, rfl⟩ | rintro _ _ ⟨_, rfl, rfl⟩ | rintro _ _ ⟨_, _, ⟨_, _⟩, rfl, rfl⟩); try refine ⟨sConv, ?_⟩) | refine Dr.two ?_ ?_)
  rw [hst] at hal5 ⊢
  dsimp only at hal5 ⊢
  refine L.step (by decide) (S.call rfl rfl Try.func75 (by kernel_rfl) rfl sPicks (fun E' hE => done_any E' g false A5 n5 c5 [] (hal5 _ (hal4 _ (hal3 _ (hal2 _ (hal1 _ sRd)))))) ?_)
  rintro e H' ⟨rfl, rfl⟩
  refine ⟨_, rfl, _, sCat, ?_⟩
  repeat (first | refine wEn5 ?_ | (refine kEn5 ?_; (first | rintro _ _ ⟨rfl, rfl⟩ | rintro _ _ ⟨_, rfl, rfl⟩ | rintro _ _ ⟨_, _, ⟨_, _⟩, rfl, rfl⟩); try refine ⟨sConv, ?_⟩) | refine Dr.two ?_ ?_)
  refine L.step (by decide) (S.call rfl rfl Try.func58 (by kernel_rfl) rfl sPicks (fun E' hE => fcheck E' (effR l)) ?_)
  rw [hrun]
  rintro e H' ⟨rfl, rfl⟩
  refine ⟨_, rfl, _, sCat, ?_⟩
  unfold fget13 at hx
  by_cases hc : (effOf l).check = 0
  · rw [if_pos hc] at hx
    subst hx
    rw [hc, ← hrun]
    repeat (first | refine wEn5 ?_ | (refine kEn5 ?_; (first | rintro _ _ ⟨rfl, rfl⟩ | rintro _ _ ⟨_, rfl, rfl⟩ | rintro _ _ ⟨_, _, ⟨_, _⟩, rfl, rfl⟩); try refine ⟨sConv, ?_⟩) | refine Dr.two ?_ ?_)
    apply retC2; (· exact rfl); (· exact sRet); (· exact rfl); (· exact rfl); (· exact rfl); (· exact sHas); (· exact rfl); (· exact sRet); rotate_left; (· exact (⟨rfl, rfl⟩)); (· exact sConv)
  · rw [if_neg hc] at hx
    subst hx
    repeat (first | refine wEn5 ?_ | (refine kEn5 ?_; (first | rintro _ _ ⟨rfl, rfl⟩ | rintro _ _ ⟨_, rfl, rfl⟩ | rintro _ _ ⟨_, _, ⟨_, _⟩, rfl, rfl⟩); try refine ⟨sConv, ?_⟩) | refine Dr.two ?_ ?_)
    apply retC2; (· exact rfl); (· exact sRet); (· exact rfl); (· exact rfl); (· exact rfl); (· exact sHas); (· exact rfl); (· exact sRet); rotate_left; (· exact (⟨rfl, rfl⟩)); (· exact sConv)
end Go.Proofs.Ytihblcljkndpgaa.Sep
