/- wal's plate: octets laid, the halves turned; by parts of memory. -/
import Derived.Test.YtkhmplaocfjpjaaWal1
namespace Go.Proofs.Ytkhmplaocfjpjaa.Sep
open Go.RowKit Go.Proofs.Ytkhmplaocfjpjaa.Reg
open Go.Proofs.Ytkhmplaocfjpjaa.Mem hiding Rd Own
set_option maxRecDepth 100000
-- types: octT secT slT
-- recs: rec_Disk plate_rec log_rec
set_option maxRecDepth 100000
set_option maxHeartbeats 8000000
section
variable (E : Env) (gd N : Nat) (armed wr : Int) (A : Option Addr) (n c : Nat) (l : List Sec)
theorem write_m (B : Option Addr) (m d : Nat) (b : List UInt8) (i : Nat) (hm : m = 32) (hb : b.length = 32) (hr : Rd E octT B m d b) (hn : n ≤ 256) (hi : i < l.length) (ha : -1 ≤ armed) (ha2 : armed ≤ 9223372036854775807) (hw : 0 ≤ wr) (hw2 : wr ≤ 1000000) :
    Tri Try.prog E 53 #[.pointer (some ⟨gd, 0, none⟩), .int .i64 i, .slice B m d] (dks gd true false armed wr A n c l) fun e H' => e = .returned (.bool (!wdead armed)) ∧
      H' = dks gd true (wdead armed) (warmed armed) (wr + wk armed) A n c (l.set i (front (wk armed) b hb (wk_le _) l[i])) := by
  subst hm
  exact write_yes E gd true armed wr A n c l B d b i hb hr hn hi ha ha2 hw hw2
def LayPost (gd N : Nat) (armed wr : Int) (A : Option Addr) (n c : Nat) (l : List Sec) (h a : Nat) (b : List UInt8) : Ending → List Asn → Prop := fun e H' =>
  ∃ l' wr', e = .returned (.bool (!lcut armed a b.length)) ∧ l'.length = l.length ∧ flat l' = sp (flat l) (hfrom N h + a) (b.take (lq armed a b.length)) ∧ wr ≤ wr' ∧ wr' ≤ wr + 2048 ∧ H' = dks gd true (lcut armed a b.length) (larm armed a b.length) wr' A n c l'
theorem wlay (h a : Nat) (B : Option Addr) (m cb : Nat) (b : List UInt8) (hr : Rd E octT B m cb b) (hn : n ≤ 256) (hnl : n = l.length) (hh : h ≤ 1) (hN : n = 2 * N + 1) (hN64 : N ≤ 64) (ha : -1 ≤ armed) (ha2 : armed ≤ 9223372036854775807) (hw : 0 ≤ wr) (hw2 : wr ≤ 900000) (hfit : a + b.length ≤ 32 * N) :
    Tri Try.prog E 84 #[plt gd N, .int .i64 (h : Int), .int .i64 (a : Int), .slice B m cb] (dks gd true false armed wr A n c l) (LayPost gd N armed wr A n c l h a b) := by
  have hmax : maxLen = 9223372036854775807 := rfl
  have hm := hr.len
  have hcb := hr.cap
  have hD : (flat l).length = 32 * (2 * N + 1) := by rw [flat_length]; omega
  have hol := hocts_length (D := flat l) hD hh
  unfold LayPost
  refine tri Try.func84 rfl Try.ntmps84 (by simp) ?_
  repeat (first | refine wWl1 ?_ | (refine kWl1 ?_; (first | rintro _ _ ⟨rfl, rfl⟩ | rintro _ _ ⟨_, rfl, rfl⟩ | rintro _ _ ⟨_, _, ⟨_, _⟩, rfl, rfl⟩); try refine ⟨sConv, ?_⟩) | refine Dr.two ?_ ?_)
  rename_i g4
  refine L.step (by decide) (S.call rfl rfl Try.func88 (by kernel_rfl) rfl sPicks (fun E' hE => wocts E' gd N armed wr A n c l h hn hnl hh hN) ?_)
  rintro e H' ⟨O, d, rfl, ⟨hd1, hd2⟩, rfl⟩
  refine ⟨_, rfl, _, sCat, ?_⟩
  by_cases hb0 : m = 0
  · have hbn : b = [] := List.eq_nil_of_length_eq_zero (by omega)
    subst hb0 hbn
    have h1 : lcut armed a ([] : List UInt8).length = false := by unfold lcut cnt; exact decide_eq_false (by simp <;> omega)
    have h2 : larm armed a ([] : List UInt8).length = armed := by
      unfold larm cnt
      rw [if_neg (by simp <;> omega)]
      split
      · rename_i h; exact h.symm
      · simp
    rw [h1, h2]
    repeat (first | refine wWl1 ?_ | (refine kWl1 ?_; (first | rintro _ _ ⟨rfl, rfl⟩ | rintro _ _ ⟨_, rfl, rfl⟩ | rintro _ _ ⟨_, _, ⟨_, _⟩, rfl, rfl⟩); try refine ⟨sConv, ?_⟩) | refine Dr.two ?_ ?_)
    exact ret1 rfl sRet sConv (⟨l, wr, rfl, rfl, by rw [List.take_nil, sp_nil], Int.le_refl _, by omega, rfl⟩)
  have hab : IntKind.i64.wrap ((a : Int) + (m : Int)) = ((a + m : Nat) : Int) := by rw [IntWalk.i64_in _ (by omega)]; omega
  have hq32 : IntKind.i64.wrap ((a : Int).tdiv 32) = ((a / 32 : Nat) : Int) := by
    rw [show (a : Int).tdiv 32 = ((a / 32 : Nat) : Int) by rw [Int.tdiv_eq_ediv_of_nonneg (by omega)]; omega]
    exact IntWalk.i64_in _ (by omega)
  repeat (first | refine wWl1 ?_ | (refine kWl1 ?_; (first | rintro _ _ ⟨rfl, rfl⟩ | rintro _ _ ⟨_, rfl, rfl⟩ | rintro _ _ ⟨_, _, ⟨_, _⟩, rfl, rfl⟩); try refine ⟨sConv, ?_⟩) | refine Dr.two ?_ ?_)
  refine L.stepK (by decide) (S.copyCutK (T := octT) rfl rfl rfl sRdH sRepl rfl (by omega) (by omega) (by omega) (by omega)) ?_
  rintro _ _ ⟨rfl, rfl⟩
  rw [show Sep.lay (hocts (flat l) N h) a b = sp (hocts (flat l) N h) a b from rfl]
  obtain ⟨q, hq⟩ : ∃ q, h * N = q := ⟨_, rfl⟩
  have hqN : q ≤ N := by rw [← hq]; have : h * N ≤ 1 * N := Nat.mul_le_mul_right _ hh; omega
  have hmul : IntKind.i64.wrap ((h : Int) * (N : Int)) = (q : Int) := by rw [← hq, IntWalk.i64_in _ (by rw [← Int.natCast_mul, hq]; omega), Int.natCast_mul]
  have hfr : hfrom N h = 32 * (1 + q) := by unfold hfrom; rw [hq]
  have hSl : (sp (hocts (flat l) N h) a b).length = 32 * N := by rw [sp_length (by omega), hol]
  repeat (first | refine wWl1 ?_ | (refine kWl1 ?_; (first | rintro _ _ ⟨rfl, rfl⟩ | rintro _ _ ⟨_, rfl, rfl⟩ | rintro _ _ ⟨_, _, ⟨_, _⟩, rfl, rfl⟩); try refine ⟨sConv, ?_⟩) | refine Dr.two ?_ ?_)
  refine C.loop (X := Nat × List Sec × Int × Int) (fun x => [(1, .int .i64 (h : Int)), (2, .int .i64 (a : Int)), (3, .slice B m cb), (4, .pointer (some ⟨g4, 0, none⟩)), (9, .slice O (32 * N) d), (10, .int .i64 x.1)])
    (fun x => own octT O (32 * N) d (sp (hocts (flat l) N h) a b) :: blk g4 105 [.pointer (some ⟨gd, 0, none⟩), .int .i64 (N : Int)] :: dks gd true false x.2.2.1 x.2.2.2 A n c x.2.1)
    (fun x => a / 32 ≤ x.1 ∧ 32 * x.1 < a + m + 32 ∧ x.2.1.length = l.length ∧ flat x.2.1 = sp (flat l) (hfrom N h + a) (b.take (min b.length (32 * x.1 - a))) ∧ ((armed = -1 ∧ x.2.2.1 = -1) ∨ (0 ≤ x.2.2.1 ∧ x.2.2.1 = armed - 32 * ((x.1 : Int) - (a / 32 : Nat)))) ∧ x.2.2.2 = wr + 32 * ((x.1 : Int) - (a / 32 : Nat)))
    (fun x => a + m + 32 - 32 * x.1) (a / 32, l, armed, wr) sHolds sConv ⟨Nat.le_refl _, by dsimp only; omega, rfl, by dsimp only; rw [show 32 * (a / 32) - a = 0 by omega, Nat.min_eq_right (Nat.zero_le _), List.take_zero, sp_nil], by dsimp only; omega, by dsimp only; omega⟩ ?_
  rintro ⟨i, li, Fi, wi⟩ G ⟨hi0, hi1, hli, hfl, hF, hwi⟩
  dsimp only at hi0 hi1 hli hfl hF hwi ⊢
  have hi32 : IntKind.i64.wrap ((i : Int) * 32) = ((32 * i : Nat) : Int) := by rw [IntWalk.i64_in _ (by omega)]; omega
  by_cases hlt : 32 * i < a + m
  · have hi33 : IntKind.i64.wrap (((i : Int) + 1) * 32) = ((32 * i + 32 : Nat) : Int) := by rw [IntWalk.i64_in _ (by omega)]; omega
    have e0 : IntKind.i64.wrap (1 + (q : Int)) = 1 + (q : Int) := IntWalk.i64_in _ (by omega)
    have e2 : IntKind.i64.wrap (1 + (q : Int) + (i : Int)) = ((1 + q + i : Nat) : Int) := by rw [IntWalk.i64_in _ (by omega)]; omega
    have hlen : 1 + q + i < li.length := by omega
    have hnli : n = li.length := by omega
    have h32 : 32 * i + 32 ≤ 32 * N := by omega
    have hsub : 32 * i + 32 - 32 * i = 32 := by omega
    have hFi1 : -1 ≤ Fi := by omega
    have hFi2 : Fi ≤ 9223372036854775807 := by omega
    have hwi1 : 0 ≤ wi := by omega
    have hwi2 : wi ≤ 1000000 := by omega
    have hcl : (((sp (hocts (flat l) N h) a b).take (32 * i + 32)).drop (32 * i)).length = 32 := by rw [List.length_drop, List.length_take, hSl]; omega
    have hfl2 : flat (li.set (1 + q + i) (front (wk Fi) _ hcl (wk_le _) li[1 + q + i])) = sp (flat l) (hfrom N h + a) (b.take (min b.length (32 * i + wk Fi - a))) := by
      rw [flat_set hcl (wk_le _) hlen, hfl, List.drop_take, hsub, show 32 * (1 + q + i) = hfrom N h + 32 * i by rw [hfr]; omega]
      exact lay_one hD hh hfit hi0 (by omega) (wk_le _)
    have hcn : cnt a b.length = (a + b.length + 31) / 32 - a / 32 := by unfold cnt; rw [if_neg (by omega)]
    repeat (first | refine wWl1 ?_ | (refine kWl1 ?_; (first | rintro _ _ ⟨rfl, rfl⟩ | rintro _ _ ⟨_, rfl, rfl⟩ | rintro _ _ ⟨_, _, ⟨_, _⟩, rfl, rfl⟩); try refine ⟨sConv, ?_⟩) | refine Dr.two ?_ ?_)
    refine C.regionA 100000 (.one 0 false (.one 1 false (.one 2 false (.one 3 false (.one 4 false (.one 5 false (.one 6 false (.one 7 false (.one 8 false (.one 9 false (.one 10 false (.one 11 false (.one 12 false (.one 13 false (.one 14 false (.one 15 false (.one 16 true (.one 17 false .nil)))))))))))))))))) ([own octT O (32 * N) d (sp (hocts (flat l) N h) a b), blk g4 105 [.pointer (some ⟨gd, 0, none⟩), .int .i64 (N : Int)]]) (by kernel_rfl) (by kernel_rfl) sConv ?_
    repeat (first | refine wWl1 ?_ | (refine kWl1 ?_; (first | rintro _ _ ⟨rfl, rfl⟩ | rintro _ _ ⟨_, rfl, rfl⟩ | rintro _ _ ⟨_, _, ⟨_, _⟩, rfl, rfl⟩); try refine ⟨sConv, ?_⟩) | refine Dr.two ?_ ?_)
    refine Dr.go rfl (by rintro k ⟨⟩ <;> decide) sGon (S.call rfl rfl Try.func53 (by kernel_rfl) rfl sPicks (fun E' hE => write_m E' gd Fi wi A n c li _ _ _ _ (1 + q + i) hsub hcl (Rd.cut (Sub.own hE sHas) (by omega) (by omega)) hn hlen hFi1 hFi2 hwi1 hwi2) ?_)
    cases hwd : wdead Fi
    · unfold wdead at hwd
      have hwd := of_decide_eq_false hwd
      have hk : wk Fi = 32 := by unfold wk; rw [if_neg hwd]
      rintro e H' ⟨rfl, rfl⟩
      refine ⟨_, rfl, _, sCat, sConv, ?_⟩
      repeat (first | refine wWl1 ?_ | (refine kWl1 ?_; (first | rintro _ _ ⟨rfl, rfl⟩ | rintro _ _ ⟨_, rfl, rfl⟩ | rintro _ _ ⟨_, _, ⟨_, _⟩, rfl, rfl⟩); try refine ⟨sConv, ?_⟩) | refine Dr.two ?_ ?_)
      refine ⟨(i + 1, _, _, _), sHolds, sConv, ⟨by dsimp only; omega, by dsimp only; omega, by dsimp only; rw [List.length_set]; exact hli, ?_, ?_, ?_⟩, by dsimp only; omega⟩
      · dsimp only
        rw [hfl2, hk]
        rfl
      · dsimp only
        unfold warmed
        rw [if_neg hwd]
        split <;> omega
      · dsimp only
        rw [hk]
        omega
    · unfold wdead at hwd
      have hwd := of_decide_eq_true hwd
      have hk : wk Fi = Fi.toNat := by unfold wk; rw [if_pos hwd]
      have hcut : 0 ≤ armed ∧ armed < 32 * (cnt a b.length : Nat) := by rw [hcn]; omega
      have h1 : lcut armed a b.length = true := decide_eq_true hcut
      have h2 : larm armed a b.length = -1 := by unfold larm; rw [if_pos hcut]
      have h3 : lq armed a b.length = min b.length (32 * i + wk Fi - a) := by unfold lq; rw [if_pos hcut, hk]; omega
      have h4 : warmed Fi = -1 := by unfold warmed; rw [if_pos hwd]
      rw [h1, h2, h3, h4]
      rintro e H' ⟨rfl, rfl⟩
      refine ⟨_, rfl, _, sCat, sConv, ?_⟩
      repeat (first | refine wWl1 ?_ | (refine kWl1 ?_; (first | rintro _ _ ⟨rfl, rfl⟩ | rintro _ _ ⟨_, rfl, rfl⟩ | rintro _ _ ⟨_, _, ⟨_, _⟩, rfl, rfl⟩); try refine ⟨sConv, ?_⟩) | refine Dr.two ?_ ?_)
      exact ret1 rfl sRet sConv (⟨_, _, rfl, by rw [List.length_set]; exact hli, hfl2, by rw [hk]; omega, by rw [hk]; omega, rfl⟩)
  · have hcn : cnt a b.length = (a + b.length + 31) / 32 - a / 32 := by unfold cnt; rw [if_neg (by omega)]
    have hcut : ¬ (0 ≤ armed ∧ armed < 32 * (cnt a b.length : Nat)) := by rw [hcn]; omega
    have h1 : lcut armed a b.length = false := decide_eq_false hcut
    have h2 : larm armed a b.length = Fi := by unfold larm; rw [if_neg hcut, hcn]; split <;> omega
    have h3 : lq armed a b.length = min b.length (32 * i - a) := by unfold lq; rw [if_neg hcut]; omega
    rw [h1, h2, h3]
    repeat (first | refine wWl1 ?_ | (refine kWl1 ?_; (first | rintro _ _ ⟨rfl, rfl⟩ | rintro _ _ ⟨_, rfl, rfl⟩ | rintro _ _ ⟨_, _, ⟨_, _⟩, rfl, rfl⟩); try refine ⟨sConv, ?_⟩) | refine Dr.two ?_ ?_)
    exact ret1 rfl sRet sConv (⟨li, wi, rfl, hli, hfl, by omega, by omega, rfl⟩)
end
end Go.Proofs.Ytkhmplaocfjpjaa.Sep
