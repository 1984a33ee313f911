/- the law of the wire: one call that takes, copies, turns, or asks; by parts of memory. -/
import Derived.Test.YtbnfpmdieiknmaaWire5
import Derived.Test.YtbnfpmdieiknmaaMrk
namespace Go.Proofs.Ytbnfpmdieiknmaa.Sep
open Go.RowKit Go.Proofs.Ytbnfpmdieiknmaa.Reg
open Go.Proofs.Ytbnfpmdieiknmaa.Mem hiding Rd Own
-- types: octT letT pltT op29T
-- recs: letT_rec wire_rec pltT_rec op29T_rec
-- funcs
-- flds
set_option maxRecDepth 100000
set_option maxHeartbeats 8000000
theorem St29.erase {n c : Nat} {ls : List Letv} {m d : Nat} {ps : List Plt} (h : St29 n c ls m d ps) {i : Nat} (hi : i < m) {d' : Nat} (hd : m - 1 ≤ d' ∧ d' ≤ maxLen) : St29 (n - 1) c (ls.eraseIdx i) (m - 1) d' (ps.eraseIdx i) := by
  have hmn := h.mn
  have hn := h.hn
  have hm := h.hm
  have hc := h.hc
  have h128 := h.h128
  refine ⟨by rw [List.length_eraseIdx_of_lt (by omega)]; omega, by omega, by omega, fun e he => h.ok e (List.mem_of_mem_eraseIdx he), ?_, by rw [List.length_eraseIdx_of_lt (by omega)]; omega, hd⟩
  rw [← h.hp]; clear hd h hc hn hm hmn h128 hi
  induction ls generalizing i with
  | nil => rfl
  | cons x l ih => cases i with
    | zero => rfl
    | succ i => simp only [List.eraseIdx_cons_succ, List.map_cons, ih]
theorem flipB_length (b : List UInt8) (k : Nat) : (flipB b k).length = b.length := by simp [flipB]
theorem St29.flip {n c : Nat} {ls : List Letv} {m d : Nat} {ps : List Plt} (h : St29 n c ls m d ps) {i k : Nat} {e : Letv} (he : ls[i]? = some e) {d' : Nat} (hd : m ≤ d' ∧ d' ≤ maxLen) : St29 n c (ls.set i (e.mark (flipB e.b k))) m d' (ps.set i ⟨e.to, flipB e.b k, true⟩) := by
  have hmem := h.ok e (List.mem_of_getElem? he)
  refine ⟨by rw [List.length_set]; exact h.hn, h.h128, h.hc, ?_, ?_, by rw [List.length_set]; exact h.hm, hd⟩
  · intro x hx
    rcases List.mem_or_eq_of_mem_set hx with hx | rfl
    · exact h.ok x hx
    · exact ⟨by rw [show (e.mark (flipB e.b k)).b = flipB e.b k from rfl, flipB_length]; exact hmem.1, hmem.2⟩
  · rw [← h.hp, List.map_set]; rfl
section
variable (E : Env) (g : Nat) (A : Option Addr) (n c : Nat) (ls : List Letv) (B : Option Addr) (m d : Nat) (ps : List Plt)
/-- a call of a letter that is not there -/
theorem step29_no (hs : St29 n c ls m d ps) (x : Op29) (hk : x.kind ≠ 1) (hi : x.i < 0 ∨ m ≤ x.i) :
    Tri Try.prog E 73 #[.pointer (some ⟨g, 0, none⟩), .slice B m d, .agg x.cs.toArray] [wr g A n c, own letT A n c ls, each lOc ls, own pltT B m d ps] (Step29 g B m d ps) := by
  have hmn := hs.mn
  have h128 := hs.h128
  have hmax : maxLen = 9223372036854775807 := rfl
  have hni : x.i < 0 ∨ (n : Int) ≤ x.i := by omega
  have hff : (false == false) = true := rfl
  unfold Step29
  refine tri Try.func73 rfl Try.ntmps73 (by simp) ?_
  by_cases hi0 : x.i < 0
  · by_cases h2 : x.kind = 2
    · repeat (first | refine wW29 ?_ | (refine kW29 ?_; (first | rintro _ _ ⟨rfl, rfl⟩ | rintro _ _ ⟨_, rfl, rfl⟩ | rintro _ _ ⟨_, _, ⟨_, _⟩, rfl, rfl⟩); try refine ⟨sConv, ?_⟩) | refine Dr.two ?_ ?_)
      refine L.step (by decide) (S.call rfl rfl Try.func29 (by kernel_rfl) rfl sPicks (fun E' hE => wtake_no E' g A n c x.i h128 hni) ?_)
      rintro r H' ⟨rfl, rfl⟩
      refine ⟨_, rfl, _, sCat, ?_⟩
      repeat (first | refine wW29 ?_ | (refine kW29 ?_; (first | rintro _ _ ⟨rfl, rfl⟩ | rintro _ _ ⟨_, rfl, rfl⟩ | rintro _ _ ⟨_, _, ⟨_, _⟩, rfl, rfl⟩); try refine ⟨sConv, ?_⟩) | refine Dr.two ?_ ?_)
      apply ret2; (· exact rfl); (· exact sRet); (· exact sRet); rotate_left; (· exact (⟨A, n, c, ls, B, m, d, ps, rfl, hs, .inl ⟨rfl, rfl, rfl, rfl, rfl⟩⟩)); (· exact sConv)
    by_cases h3 : x.kind = 3
    · repeat (first | refine wW29 ?_ | (refine kW29 ?_; (first | rintro _ _ ⟨rfl, rfl⟩ | rintro _ _ ⟨_, rfl, rfl⟩ | rintro _ _ ⟨_, _, ⟨_, _⟩, rfl, rfl⟩); try refine ⟨sConv, ?_⟩) | refine Dr.two ?_ ?_)
      refine L.step (by decide) (S.call rfl rfl Try.func25 (by kernel_rfl) rfl sPicks (fun E' hE => wcopy_no E' g A n c x.i h128 hni) ?_)
      rintro r H' ⟨rfl, rfl⟩
      refine ⟨_, rfl, _, sCat, ?_⟩
      repeat (first | refine wW29 ?_ | (refine kW29 ?_; (first | rintro _ _ ⟨rfl, rfl⟩ | rintro _ _ ⟨_, rfl, rfl⟩ | rintro _ _ ⟨_, _, ⟨_, _⟩, rfl, rfl⟩); try refine ⟨sConv, ?_⟩) | refine Dr.two ?_ ?_)
      apply ret2; (· exact rfl); (· exact sRet); (· exact sRet); rotate_left; (· exact (⟨A, n, c, ls, B, m, d, ps, rfl, hs, .inl ⟨rfl, rfl, rfl, rfl, rfl⟩⟩)); (· exact sConv)
    by_cases h4 : x.kind = 4
    · repeat (first | refine wW29 ?_ | (refine kW29 ?_; (first | rintro _ _ ⟨rfl, rfl⟩ | rintro _ _ ⟨_, rfl, rfl⟩ | rintro _ _ ⟨_, _, ⟨_, _⟩, rfl, rfl⟩); try refine ⟨sConv, ?_⟩) | refine Dr.two ?_ ?_)
      refine C.regionA 100000 (.one 0 false (.one 1 false (.one 2 false (.one 3 false (.one 4 false (.one 5 false (.one 6 false (.one 7 false (.one 8 false (.one 9 false (.one 10 false (.one 11 false (.one 12 false (.one 13 false (.one 14 false (.one 15 false (.one 16 false (.one 17 false (.one 18 false (.one 19 false (.one 20 false (.one 21 false (.one 22 false (.one 23 false (.one 24 false (.one 25 false (.one 26 false (.one 27 false .nil)))))))))))))))))))))))))))) _ (by kernel_rfl) (by kernel_rfl) Conv.refl ?_
      repeat (first | refine wW29 ?_ | (refine kW29 ?_; (first | rintro _ _ ⟨rfl, rfl⟩ | rintro _ _ ⟨_, rfl, rfl⟩ | rintro _ _ ⟨_, _, ⟨_, _⟩, rfl, rfl⟩); try refine ⟨sConv, ?_⟩) | refine Dr.two ?_ ?_)
      refine L.step (by decide) (S.call rfl rfl Try.func26 (by kernel_rfl) rfl sPicks (fun E' hE => wflip_no E' g A n c x.i x.n h128 hni) ?_)
      rintro r H' ⟨rfl, rfl⟩
      refine ⟨_, rfl, _, sCat, ?_⟩
      repeat (first | refine wW29 ?_ | (refine kW29 ?_; (first | rintro _ _ ⟨rfl, rfl⟩ | rintro _ _ ⟨_, rfl, rfl⟩ | rintro _ _ ⟨_, _, ⟨_, _⟩, rfl, rfl⟩); try refine ⟨sConv, ?_⟩) | refine Dr.two ?_ ?_)
      apply ret2; (· exact rfl); (· exact sRet); (· exact sRet); rotate_left; (· exact (⟨A, n, c, ls, B, m, d, ps, rfl, hs, .inl ⟨rfl, rfl, rfl, rfl, rfl⟩⟩)); (· exact sConv)
    repeat (first | refine wW29 ?_ | (refine kW29 ?_; (first | rintro _ _ ⟨rfl, rfl⟩ | rintro _ _ ⟨_, rfl, rfl⟩ | rintro _ _ ⟨_, _, ⟨_, _⟩, rfl, rfl⟩); try refine ⟨sConv, ?_⟩) | refine Dr.two ?_ ?_)
    rename_i g5
    refine C.regionA 100000 (.one 0 false (.one 1 false (.one 2 false (.one 3 false (.one 5 false (.one 4 true (.one 6 false (.one 7 false (.one 8 false (.one 9 false (.one 10 false (.one 11 false (.one 12 false (.one 13 false (.one 14 false (.one 15 false (.one 16 false .nil))))))))))))))))) ([blk g5 38 x.cs, own pltT B m d ps]) (by kernel_rfl) (by kernel_rfl) sConv ?_
    repeat (first | refine wW29 ?_ | (refine kW29 ?_; (first | rintro _ _ ⟨rfl, rfl⟩ | rintro _ _ ⟨_, rfl, rfl⟩ | rintro _ _ ⟨_, _, ⟨_, _⟩, rfl, rfl⟩); try refine ⟨sConv, ?_⟩) | refine Dr.two ?_ ?_)
    refine Dr.go rfl (by rintro k ⟨⟩ <;> decide) sGon (S.call rfl rfl Try.func28 (by kernel_rfl) rfl sPicks (fun E' hE => wbroken_no E' g A n c x.i h128 hni) ?_)
    rintro r H' ⟨rfl, rfl⟩
    refine ⟨_, rfl, _, sCat, sConv, ?_⟩
    repeat (first | refine wW29 ?_ | (refine kW29 ?_; (first | rintro _ _ ⟨rfl, rfl⟩ | rintro _ _ ⟨_, rfl, rfl⟩ | rintro _ _ ⟨_, _, ⟨_, _⟩, rfl, rfl⟩); try refine ⟨sConv, ?_⟩) | refine Dr.two ?_ ?_)
    apply ret2; (· exact rfl); (· exact sRet); (· exact sRet); rotate_left; (· exact (⟨A, n, c, ls, B, m, d, ps, rfl, hs, .inl ⟨rfl, rfl, rfl, rfl, rfl⟩⟩)); (· exact sConv)
  · have hnt : (!decide (x.i < (m : Int))) = true := by rw [decide_eq_false (by omega)]; rfl
    by_cases h2 : x.kind = 2
    · repeat (first | refine wW29 ?_ | (refine kW29 ?_; (first | rintro _ _ ⟨rfl, rfl⟩ | rintro _ _ ⟨_, rfl, rfl⟩ | rintro _ _ ⟨_, _, ⟨_, _⟩, rfl, rfl⟩); try refine ⟨sConv, ?_⟩) | refine Dr.two ?_ ?_)
      refine L.step (by decide) (S.call rfl rfl Try.func29 (by kernel_rfl) rfl sPicks (fun E' hE => wtake_no E' g A n c x.i h128 hni) ?_)
      rintro r H' ⟨rfl, rfl⟩
      refine ⟨_, rfl, _, sCat, ?_⟩
      repeat (first | refine wW29 ?_ | (refine kW29 ?_; (first | rintro _ _ ⟨rfl, rfl⟩ | rintro _ _ ⟨_, rfl, rfl⟩ | rintro _ _ ⟨_, _, ⟨_, _⟩, rfl, rfl⟩); try refine ⟨sConv, ?_⟩) | refine Dr.two ?_ ?_)
      apply ret2; (· exact rfl); (· exact sRet); (· exact sRet); rotate_left; (· exact (⟨A, n, c, ls, B, m, d, ps, rfl, hs, .inl ⟨rfl, rfl, rfl, rfl, rfl⟩⟩)); (· exact sConv)
    by_cases h3 : x.kind = 3
    · repeat (first | refine wW29 ?_ | (refine kW29 ?_; (first | rintro _ _ ⟨rfl, rfl⟩ | rintro _ _ ⟨_, rfl, rfl⟩ | rintro _ _ ⟨_, _, ⟨_, _⟩, rfl, rfl⟩); try refine ⟨sConv, ?_⟩) | refine Dr.two ?_ ?_)
      refine L.step (by decide) (S.call rfl rfl Try.func25 (by kernel_rfl) rfl sPicks (fun E' hE => wcopy_no E' g A n c x.i h128 hni) ?_)
      rintro r H' ⟨rfl, rfl⟩
      refine ⟨_, rfl, _, sCat, ?_⟩
      repeat (first | refine wW29 ?_ | (refine kW29 ?_; (first | rintro _ _ ⟨rfl, rfl⟩ | rintro _ _ ⟨_, rfl, rfl⟩ | rintro _ _ ⟨_, _, ⟨_, _⟩, rfl, rfl⟩); try refine ⟨sConv, ?_⟩) | refine Dr.two ?_ ?_)
      apply ret2; (· exact rfl); (· exact sRet); (· exact sRet); rotate_left; (· exact (⟨A, n, c, ls, B, m, d, ps, rfl, hs, .inl ⟨rfl, rfl, rfl, rfl, rfl⟩⟩)); (· exact sConv)
    by_cases h4 : x.kind = 4
    · repeat (first | refine wW29 ?_ | (refine kW29 ?_; (first | rintro _ _ ⟨rfl, rfl⟩ | rintro _ _ ⟨_, rfl, rfl⟩ | rintro _ _ ⟨_, _, ⟨_, _⟩, rfl, rfl⟩); try refine ⟨sConv, ?_⟩) | refine Dr.two ?_ ?_)
      refine C.regionA 100000 (.one 0 false (.one 1 false (.one 2 false (.one 3 false (.one 4 false (.one 5 false (.one 6 false (.one 7 false (.one 8 false (.one 9 false (.one 10 false (.one 11 false (.one 12 false (.one 13 false (.one 14 false (.one 15 false (.one 16 false (.one 17 false (.one 18 false (.one 19 false (.one 20 false (.one 21 false (.one 22 false (.one 23 false (.one 24 false (.one 25 false (.one 26 false (.one 27 false .nil)))))))))))))))))))))))))))) _ (by kernel_rfl) (by kernel_rfl) Conv.refl ?_
      repeat (first | refine wW29 ?_ | (refine kW29 ?_; (first | rintro _ _ ⟨rfl, rfl⟩ | rintro _ _ ⟨_, rfl, rfl⟩ | rintro _ _ ⟨_, _, ⟨_, _⟩, rfl, rfl⟩); try refine ⟨sConv, ?_⟩) | refine Dr.two ?_ ?_)
      refine L.step (by decide) (S.call rfl rfl Try.func26 (by kernel_rfl) rfl sPicks (fun E' hE => wflip_no E' g A n c x.i x.n h128 hni) ?_)
      rintro r H' ⟨rfl, rfl⟩
      refine ⟨_, rfl, _, sCat, ?_⟩
      repeat (first | refine wW29 ?_ | (refine kW29 ?_; (first | rintro _ _ ⟨rfl, rfl⟩ | rintro _ _ ⟨_, rfl, rfl⟩ | rintro _ _ ⟨_, _, ⟨_, _⟩, rfl, rfl⟩); try refine ⟨sConv, ?_⟩) | refine Dr.two ?_ ?_)
      apply ret2; (· exact rfl); (· exact sRet); (· exact sRet); rotate_left; (· exact (⟨A, n, c, ls, B, m, d, ps, rfl, hs, .inl ⟨rfl, rfl, rfl, rfl, rfl⟩⟩)); (· exact sConv)
    repeat (first | refine wW29 ?_ | (refine kW29 ?_; (first | rintro _ _ ⟨rfl, rfl⟩ | rintro _ _ ⟨_, rfl, rfl⟩ | rintro _ _ ⟨_, _, ⟨_, _⟩, rfl, rfl⟩); try refine ⟨sConv, ?_⟩) | refine Dr.two ?_ ?_)
    rename_i g5
    refine C.regionA 100000 (.one 0 false (.one 1 false (.one 2 false (.one 3 false (.one 5 false (.one 4 true (.one 6 false (.one 7 false (.one 8 false (.one 9 false (.one 10 false (.one 11 false (.one 12 false (.one 13 false (.one 14 false (.one 15 false (.one 16 false .nil))))))))))))))))) ([blk g5 38 x.cs, own pltT B m d ps]) (by kernel_rfl) (by kernel_rfl) sConv ?_
    repeat (first | refine wW29 ?_ | (refine kW29 ?_; (first | rintro _ _ ⟨rfl, rfl⟩ | rintro _ _ ⟨_, rfl, rfl⟩ | rintro _ _ ⟨_, _, ⟨_, _⟩, rfl, rfl⟩); try refine ⟨sConv, ?_⟩) | refine Dr.two ?_ ?_)
    refine Dr.go rfl (by rintro k ⟨⟩ <;> decide) sGon (S.call rfl rfl Try.func28 (by kernel_rfl) rfl sPicks (fun E' hE => wbroken_no E' g A n c x.i h128 hni) ?_)
    rintro r H' ⟨rfl, rfl⟩
    refine ⟨_, rfl, _, sCat, sConv, ?_⟩
    repeat (first | refine wW29 ?_ | (refine kW29 ?_; (first | rintro _ _ ⟨rfl, rfl⟩ | rintro _ _ ⟨_, rfl, rfl⟩ | rintro _ _ ⟨_, _, ⟨_, _⟩, rfl, rfl⟩); try refine ⟨sConv, ?_⟩) | refine Dr.two ?_ ?_)
    apply ret2; (· exact rfl); (· exact sRet); (· exact sRet); rotate_left; (· exact (⟨A, n, c, ls, B, m, d, ps, rfl, hs, .inl ⟨rfl, rfl, rfl, rfl, rfl⟩⟩)); (· exact sConv)
/-- a letter that is there -/
theorem step29_2 (hs : St29 n c ls m d ps) (i : Nat) (xn : Int) (X : Option Addr) (mx cx : Nat) (hi : i < m) :
    Tri Try.prog E 73 #[.pointer (some ⟨g, 0, none⟩), .slice B m d, .agg #[.int .i64 2, .int .i64 i, .int .i64 xn, .slice X mx cx]] [wr g A n c, own letT A n c ls, each lOc ls, own pltT B m d ps] (Step29 g B m d ps) := by
  have hmn := hs.mn
  have h128 := hs.h128
  have hnt : (!decide ((i : Int) < (m : Int))) = false := by rw [decide_eq_true (by omega)]; rfl
  have hmax : maxLen = 9223372036854775807 := rfl
  obtain ⟨hc1, hc2⟩ := hs.hc
  have hm1000 : m ≤ 1000 := by omega
  obtain ⟨e, he, hpe, he1, he2⟩ := hs.at_ hi
  have hbb : decide (e.b = e.p.b) = true := decide_eq_true rfl
  unfold Step29
  refine tri Try.func73 rfl Try.ntmps73 (by simp) ?_
  repeat (first | refine wW29 ?_ | (refine kW29 ?_; (first | rintro _ _ ⟨rfl, rfl⟩ | rintro _ _ ⟨_, rfl, rfl⟩ | rintro _ _ ⟨_, _, ⟨_, _⟩, rfl, rfl⟩); try refine ⟨sConv, ?_⟩) | refine Dr.two ?_ ?_)
  refine L.step (by decide) (S.call rfl rfl Try.func29 (by kernel_rfl) rfl sPicks (fun E' hE => wtake E' g A n c ls i h128 hs.hn hc1 hc2 he) ?_)
  rintro r H' ⟨rfl, rfl⟩
  refine ⟨_, rfl, _, sCat, ?_⟩
  repeat (first | refine wW29 ?_ | (refine kW29 ?_; (first | rintro _ _ ⟨rfl, rfl⟩ | rintro _ _ ⟨_, rfl, rfl⟩ | rintro _ _ ⟨_, _, ⟨_, _⟩, rfl, rfl⟩); try refine ⟨sConv, ?_⟩) | refine Dr.two ?_ ?_)
  refine C.regionA 100000 (.one 0 false (.one 1 false (.one 2 false (.one 4 false (.one 3 true (.one 5 false (.one 6 false (.one 7 false (.one 8 false (.one 9 false (.one 10 false (.one 11 false (.one 12 false (.one 13 false (.one 14 false (.one 15 false (.one 16 false (.one 17 false .nil)))))))))))))))))) _ (by kernel_rfl) (by kernel_rfl) Conv.refl ?_
  repeat (first | refine wW29 ?_ | (refine kW29 ?_; (first | rintro _ _ ⟨rfl, rfl⟩ | rintro _ _ ⟨_, rfl, rfl⟩ | rintro _ _ ⟨_, _, ⟨_, _⟩, rfl, rfl⟩); try refine ⟨sConv, ?_⟩) | refine Dr.two ?_ ?_)
  refine Dr.go rfl (by rintro k ⟨⟩ <;> decide) sGon (S.call rfl rfl Try.func86 (by kernel_rfl) rfl sPicks (fun E' hE => without29 E' B m d ps i sRd hi hm1000) ?_)
  rintro r H' ⟨B', d', rfl, hd', rfl⟩
  refine ⟨_, rfl, _, sCat, sConv, ?_⟩
  repeat (first | refine wW29 ?_ | (refine kW29 ?_; (first | rintro _ _ ⟨rfl, rfl⟩ | rintro _ _ ⟨_, rfl, rfl⟩ | rintro _ _ ⟨_, _, ⟨_, _⟩, rfl, rfl⟩); try refine ⟨sConv, ?_⟩) | refine Dr.two ?_ ?_)
  apply ret2; (· exact rfl); (· exact sRet); (· exact sRet); rotate_left; (· exact (⟨A, n - 1, c, ls.eraseIdx i, B', m - 1, d', ps.eraseIdx i, by first | rfl | rw [hbb] | simp [Letv.p], hs.erase hi hd', .inr rfl⟩)); (· exact sConv)
theorem step29_3f (hs : St29 n c ls m d ps) (i : Nat) (xn : Int) (X : Option Addr) (mx cx : Nat) (hi : i < m) (hf : 128 ≤ m) :
    Tri Try.prog E 73 #[.pointer (some ⟨g, 0, none⟩), .slice B m d, .agg #[.int .i64 3, .int .i64 i, .int .i64 xn, .slice X mx cx]] [wr g A n c, own letT A n c ls, each lOc ls, own pltT B m d ps] (Step29 g B m d ps) := by
  have hmn := hs.mn
  have h128 := hs.h128
  have hnt : (!decide ((i : Int) < (m : Int))) = false := by rw [decide_eq_true (by omega)]; rfl
  have hmax : maxLen = 9223372036854775807 := rfl
  obtain ⟨e, he, hpe, he1, he2⟩ := hs.at_ hi
  have hn1 : n = 128 := by omega
  have hi2 : i < n := by omega
  unfold Step29
  refine tri Try.func73 rfl Try.ntmps73 (by simp) ?_
  repeat (first | refine wW29 ?_ | (refine kW29 ?_; (first | rintro _ _ ⟨rfl, rfl⟩ | rintro _ _ ⟨_, rfl, rfl⟩ | rintro _ _ ⟨_, _, ⟨_, _⟩, rfl, rfl⟩); try refine ⟨sConv, ?_⟩) | refine Dr.two ?_ ?_)
  refine L.step (by decide) (S.call rfl rfl Try.func25 (by kernel_rfl) rfl sPicks (fun E' hE => wcopy_full E' g A n c ls i hn1 hi2 he hs.hn) ?_)
  rintro r H' ⟨rfl, rfl⟩
  refine ⟨_, rfl, _, sCat, ?_⟩
  repeat (first | refine wW29 ?_ | (refine kW29 ?_; (first | rintro _ _ ⟨rfl, rfl⟩ | rintro _ _ ⟨_, rfl, rfl⟩ | rintro _ _ ⟨_, _, ⟨_, _⟩, rfl, rfl⟩); try refine ⟨sConv, ?_⟩) | refine Dr.two ?_ ?_)
  apply ret2; (· exact rfl); (· exact sRet); (· exact sRet); rotate_left; (· exact (⟨A, n, c, ls, B, m, d, ps, rfl, hs, .inl ⟨rfl, rfl, rfl, rfl, rfl⟩⟩)); (· exact sConv)
theorem step29_3 (hs : St29 n c ls m d ps) (i : Nat) (xn : Int) (X : Option Addr) (mx cx : Nat) (hi : i < m) (hlt : m < 128) :
    Tri Try.prog E 73 #[.pointer (some ⟨g, 0, none⟩), .slice B m d, .agg #[.int .i64 3, .int .i64 i, .int .i64 xn, .slice X mx cx]] [wr g A n c, own letT A n c ls, each lOc ls, own pltT B m d ps] (Step29 g B m d ps) := by
  have hmn := hs.mn
  have hnt : (!decide ((i : Int) < (m : Int))) = false := by rw [decide_eq_true (by omega)]; rfl
  have hmax : maxLen = 9223372036854775807 := rfl
  have hn1 : n < 128 := by omega
  have hi2 : i < n := by omega
  obtain ⟨e, he, hpe, he1, he2⟩ := hs.at_ hi
  have hl := hs.hn
  have hm := hs.hm
  have htk : (ps ++ [plt0]).take m = ps := by rw [hm, List.take_left' rfl]
  obtain ⟨hd1, hd2⟩ := hs.hd
  unfold Step29
  obtain ⟨hpz, hcase⟩ : (m = 0 → ps = []) ∧ (m < d ∨ m = d ∧ 0 < m ∨ m = 0 ∧ d = 0) := ⟨fun h => List.eq_nil_of_length_eq_zero (by omega), by omega⟩
  refine tri Try.func73 rfl Try.ntmps73 (by simp) ?_
  repeat (first | refine wW29 ?_ | (refine kW29 ?_; (first | rintro _ _ ⟨rfl, rfl⟩ | rintro _ _ ⟨_, rfl, rfl⟩ | rintro _ _ ⟨_, _, ⟨_, _⟩, rfl, rfl⟩); try refine ⟨sConv, ?_⟩) | refine Dr.two ?_ ?_)
  rename_i g5
  rcases hcase with hcase | ⟨hcase, hpos⟩ | ⟨rfl, rfl⟩
  · skip
    refine C.regionA 100000 (.one 0 false (.one 1 false (.one 4 false (.one 5 false (.one 7 false (.one 8 false (.one 9 false (.one 10 false (.one 11 false (.one 14 false (.one 15 false (.one 16 false (.two 2 (.two 3 (.two 6 (.one 12 true (.one 13 true (.one 17 true (.one 18 false (.one 19 false .nil))))) 12 (.one 6 true (.one 13 true (.one 17 true (.one 18 false (.one 19 false .nil)))))) 12 (.one 3 true (.one 6 true (.one 13 true (.one 17 true (.one 18 false (.one 19 false .nil))))))) 12 (.one 2 true (.one 3 true (.one 6 true (.one 13 true (.one 17 true (.one 18 false (.one 19 false .nil)))))))))))))))))))) ([blk g5 38 [.int .i64 3, .int .i64 i, .int .i64 xn, .slice X mx cx], own pltT B m d ps]) (by kernel_rfl) (by kernel_rfl) sConv ?_
    repeat (first | refine vW29 ?_ | (refine kW29 ?_; (first | rintro _ _ ⟨rfl, rfl⟩ | rintro _ _ ⟨_, rfl, rfl⟩ | rintro _ _ ⟨_, _, ⟨_, _⟩, rfl, rfl⟩); try refine ⟨sConv, ?_⟩))
    refine Dr.two ?_ ?_
    · refine Go1.goK rfl (by rintro k ⟨⟩ <;> decide) sGon (S.buildSlice1K (T := pltT) (e := plt0) rfl rfl rfl rfl (by decide)) ?_; rintro _ _ ⟨_, rfl, rfl⟩; refine ⟨sConv, ?_⟩
      repeat (first | refine vW29 ?_ | (refine kW29 ?_; (first | rintro _ _ ⟨rfl, rfl⟩ | rintro _ _ ⟨_, rfl, rfl⟩ | rintro _ _ ⟨_, _, ⟨_, _⟩, rfl, rfl⟩); try refine ⟨sConv, ?_⟩))
      refine Dr.two ?_ ?_
      · refine Go1.goK rfl (by rintro k ⟨⟩ <;> decide) sGon (S.appendInK rfl rfl rfl sNN sRepl sRdH sNL rfl (by_ := 32) rfl sOm sOm sOm sOm) ?_; rintro _ _ ⟨rfl, rfl⟩; refine ⟨Conv.trans (Conv.ownBack (T := pltT) (A := B) (n := m + 1) (c := d) (k := m) (l := ps ++ [plt0]) (by omega) htk sRepl) sConv, ?_⟩
        repeat (first | refine vW29 ?_ | (refine kW29 ?_; (first | rintro _ _ ⟨rfl, rfl⟩ | rintro _ _ ⟨_, rfl, rfl⟩ | rintro _ _ ⟨_, _, ⟨_, _⟩, rfl, rfl⟩); try refine ⟨sConv, ?_⟩))
        refine Dr.two ?_ ?_
        · refine Go1.go rfl (by rintro k ⟨⟩ <;> decide) sGon (S.call rfl rfl Try.func86 (by kernel_rfl) rfl sPicks (fun E' hE => without29_last E' B m d ps hm sRd (by omega)) ?_)
          rintro r H' ⟨W, cw, rfl, ⟨k3, k4⟩, rfl⟩
          refine ⟨_, rfl, _, sCat, Conv.trans (Conv.ownBack (T := pltT) (A := B) (n := m + 1) (c := d) (k := m) (l := ps ++ [plt0]) (by omega) htk sRepl) sConv, ?_⟩
          apply Dr.conv; (· exact (Conv.ownBack (T := pltT) (A := B) (n := m + 1) (c := d) (k := m) (l := ps ++ [plt0]) (by omega) htk sRepl))
          repeat ((fail_if_success (refine Dr.all (i := 12) ?_)); first | refine vW29 ?_ | (refine kW29 ?_; (first | rintro _ _ ⟨rfl, rfl⟩ | rintro _ _ ⟨_, rfl, rfl⟩ | rintro _ _ ⟨_, _, ⟨_, _⟩, rfl, rfl⟩); try refine ⟨sConv, ?_⟩))
          refine Dr.goK rfl (by rintro k ⟨⟩ <;> decide) sGon (S.buildSlice1K (T := pltT) (e := e.p) rfl rfl rfl rfl (by decide)) ?_; rintro _ _ ⟨_, rfl, rfl⟩; refine ⟨by first | exact sConv | exact Conv.trans (Conv.ownBack (T := pltT) (A := B) (n := m + 1) (c := d) (k := m) (l := ps ++ [plt0]) (by omega) htk sRepl) sConv, ?_⟩
          repeat (first | refine wW29 ?_ | (refine kW29 ?_; (first | rintro _ _ ⟨rfl, rfl⟩ | rintro _ _ ⟨_, rfl, rfl⟩ | rintro _ _ ⟨_, _, ⟨_, _⟩, rfl, rfl⟩); try refine ⟨sConv, ?_⟩) | refine Dr.two ?_ ?_)
          rename_i A5 c5 k5 k6
          refine Dr.go rfl (by rintro k ⟨⟩ <;> decide) sGon (S.call rfl rfl Try.func25 (by kernel_rfl) rfl sPicks (fun E' hE => wcopy E' g A n c ls i hn1 hi2 he hl he2) ?_)
          unfold Post29
          rintro r H' ⟨A6, c6, O, co, rfl, k7, rfl⟩
          refine ⟨_, rfl, _, sCat, sConv, ?_⟩
          repeat (first | refine wW29 ?_ | (refine kW29 ?_; (first | rintro _ _ ⟨rfl, rfl⟩ | rintro _ _ ⟨_, rfl, rfl⟩ | rintro _ _ ⟨_, _, ⟨_, _⟩, rfl, rfl⟩); try refine ⟨sConv, ?_⟩) | refine Dr.two ?_ ?_)
          exact ret2 rfl sRet sRet sConv (⟨A6, n + 1, c6, ls ++ [⟨e.to, O, e.n, co, e.b, e.broken⟩], A5, m + 1, c5, ps ++ [e.p], rfl, hs.push (e := ⟨e.to, O, e.n, co, e.b, e.broken⟩) hlt he1 he2 k7 ⟨k5, k6⟩, .inr rfl⟩)
        · refine Go1.goK rfl (by rintro k ⟨⟩ <;> decide) sGon (S.buildSlice1K (T := pltT) (e := e.p) rfl rfl rfl rfl (by decide)) ?_; rintro _ _ ⟨_, rfl, rfl⟩; refine ⟨by first | exact sConv | exact Conv.trans (Conv.ownBack (T := pltT) (A := B) (n := m + 1) (c := d) (k := m) (l := ps ++ [plt0]) (by omega) htk sRepl) sConv, ?_⟩
          repeat (first | refine vW29 ?_ | (refine kW29 ?_; (first | rintro _ _ ⟨rfl, rfl⟩ | rintro _ _ ⟨_, rfl, rfl⟩ | rintro _ _ ⟨_, _, ⟨_, _⟩, rfl, rfl⟩); try refine ⟨sConv, ?_⟩))
          refine Dr.go rfl (by rintro k ⟨⟩ <;> decide) sGon (S.call rfl rfl Try.func86 (by kernel_rfl) rfl sPicks (fun E' hE => without29_last E' B m d ps hm sRd (by omega)) ?_)
          rintro r H' ⟨W, cw, rfl, ⟨k3, k4⟩, rfl⟩
          refine ⟨_, rfl, _, sCat, Conv.trans (Conv.ownBack (T := pltT) (A := B) (n := m + 1) (c := d) (k := m) (l := ps ++ [plt0]) (by omega) htk sRepl) sConv, ?_⟩
          apply Dr.conv; (· exact (Conv.ownBack (T := pltT) (A := B) (n := m + 1) (c := d) (k := m) (l := ps ++ [plt0]) (by omega) htk sRepl))
          repeat (first | refine wW29 ?_ | (refine kW29 ?_; (first | rintro _ _ ⟨rfl, rfl⟩ | rintro _ _ ⟨_, rfl, rfl⟩ | rintro _ _ ⟨_, _, ⟨_, _⟩, rfl, rfl⟩); try refine ⟨sConv, ?_⟩) | refine Dr.two ?_ ?_)
          rename_i A5 c5 k5 k6
          refine Dr.go rfl (by rintro k ⟨⟩ <;> decide) sGon (S.call rfl rfl Try.func25 (by kernel_rfl) rfl sPicks (fun E' hE => wcopy E' g A n c ls i hn1 hi2 he hl he2) ?_)
          unfold Post29
          rintro r H' ⟨A6, c6, O, co, rfl, k7, rfl⟩
          refine ⟨_, rfl, _, sCat, sConv, ?_⟩
          repeat (first | refine wW29 ?_ | (refine kW29 ?_; (first | rintro _ _ ⟨rfl, rfl⟩ | rintro _ _ ⟨_, rfl, rfl⟩ | rintro _ _ ⟨_, _, ⟨_, _⟩, rfl, rfl⟩); try refine ⟨sConv, ?_⟩) | refine Dr.two ?_ ?_)
          exact ret2 rfl sRet sRet sConv (⟨A6, n + 1, c6, ls ++ [⟨e.to, O, e.n, co, e.b, e.broken⟩], A5, m + 1, c5, ps ++ [e.p], rfl, hs.push (e := ⟨e.to, O, e.n, co, e.b, e.broken⟩) hlt he1 he2 k7 ⟨k5, k6⟩, .inr rfl⟩)
      · refine Go1.goK rfl (by rintro k ⟨⟩ <;> decide) sGon (S.buildSlice1K (T := pltT) (e := e.p) rfl rfl rfl rfl (by decide)) ?_; rintro _ _ ⟨_, rfl, rfl⟩; refine ⟨by first | exact sConv | exact Conv.trans (Conv.ownBack (T := pltT) (A := B) (n := m + 1) (c := d) (k := m) (l := ps ++ [plt0]) (by omega) htk sRepl) sConv, ?_⟩
        repeat ((fail_if_success (refine Dr.all (i := 3) ?_)); first | refine vW29 ?_ | (refine kW29 ?_; (first | rintro _ _ ⟨rfl, rfl⟩ | rintro _ _ ⟨_, rfl, rfl⟩ | rintro _ _ ⟨_, _, ⟨_, _⟩, rfl, rfl⟩); try refine ⟨sConv, ?_⟩))
        refine Dr.goK rfl (by rintro k ⟨⟩ <;> decide) sGon (S.appendInK rfl rfl rfl sNN sRepl sRdH sNL rfl (by_ := 32) rfl sOm sOm sOm sOm) ?_; rintro _ _ ⟨rfl, rfl⟩; refine ⟨Conv.trans (Conv.ownBack (T := pltT) (A := B) (n := m + 1) (c := d) (k := m) (l := ps ++ [plt0]) (by omega) htk sRepl) sConv, ?_⟩
        repeat (first | refine vW29 ?_ | (refine kW29 ?_; (first | rintro _ _ ⟨rfl, rfl⟩ | rintro _ _ ⟨_, rfl, rfl⟩ | rintro _ _ ⟨_, _, ⟨_, _⟩, rfl, rfl⟩); try refine ⟨sConv, ?_⟩))
        refine Dr.go rfl (by rintro k ⟨⟩ <;> decide) sGon (S.call rfl rfl Try.func86 (by kernel_rfl) rfl sPicks (fun E' hE => without29_last E' B m d ps hm sRd (by omega)) ?_)
        rintro r H' ⟨W, cw, rfl, ⟨k3, k4⟩, rfl⟩
        refine ⟨_, rfl, _, sCat, Conv.trans (Conv.ownBack (T := pltT) (A := B) (n := m + 1) (c := d) (k := m) (l := ps ++ [plt0]) (by omega) htk sRepl) sConv, ?_⟩
        apply Dr.conv; (· exact (Conv.ownBack (T := pltT) (A := B) (n := m + 1) (c := d) (k := m) (l := ps ++ [plt0]) (by omega) htk sRepl))
        repeat (first | refine wW29 ?_ | (refine kW29 ?_; (first | rintro _ _ ⟨rfl, rfl⟩ | rintro _ _ ⟨_, rfl, rfl⟩ | rintro _ _ ⟨_, _, ⟨_, _⟩, rfl, rfl⟩); try refine ⟨sConv, ?_⟩) | refine Dr.two ?_ ?_)
        rename_i A5 c5 k5 k6
        refine Dr.go rfl (by rintro k ⟨⟩ <;> decide) sGon (S.call rfl rfl Try.func25 (by kernel_rfl) rfl sPicks (fun E' hE => wcopy E' g A n c ls i hn1 hi2 he hl he2) ?_)
        unfold Post29
        rintro r H' ⟨A6, c6, O, co, rfl, k7, rfl⟩
        refine ⟨_, rfl, _, sCat, sConv, ?_⟩
        repeat (first | refine wW29 ?_ | (refine kW29 ?_; (first | rintro _ _ ⟨rfl, rfl⟩ | rintro _ _ ⟨_, rfl, rfl⟩ | rintro _ _ ⟨_, _, ⟨_, _⟩, rfl, rfl⟩); try refine ⟨sConv, ?_⟩) | refine Dr.two ?_ ?_)
        exact ret2 rfl sRet sRet sConv (⟨A6, n + 1, c6, ls ++ [⟨e.to, O, e.n, co, e.b, e.broken⟩], A5, m + 1, c5, ps ++ [e.p], rfl, hs.push (e := ⟨e.to, O, e.n, co, e.b, e.broken⟩) hlt he1 he2 k7 ⟨k5, k6⟩, .inr rfl⟩)
    · refine Go1.goK rfl (by rintro k ⟨⟩ <;> decide) sGon (S.buildSlice1K (T := pltT) (e := e.p) rfl rfl rfl rfl (by decide)) ?_; rintro _ _ ⟨_, rfl, rfl⟩; refine ⟨by first | exact sConv | exact Conv.trans (Conv.ownBack (T := pltT) (A := B) (n := m + 1) (c := d) (k := m) (l := ps ++ [plt0]) (by omega) htk sRepl) sConv, ?_⟩
      repeat ((fail_if_success (refine Dr.all (i := 2) ?_)); first | refine vW29 ?_ | (refine kW29 ?_; (first | rintro _ _ ⟨rfl, rfl⟩ | rintro _ _ ⟨_, rfl, rfl⟩ | rintro _ _ ⟨_, _, ⟨_, _⟩, rfl, rfl⟩); try refine ⟨sConv, ?_⟩))
      refine Dr.goK rfl (by rintro k ⟨⟩ <;> decide) sGon (S.buildSlice1K (T := pltT) (e := plt0) rfl rfl rfl rfl (by decide)) ?_; rintro _ _ ⟨_, rfl, rfl⟩; refine ⟨sConv, ?_⟩
      repeat ((fail_if_success (refine Dr.all (i := 3) ?_)); first | refine vW29 ?_ | (refine kW29 ?_; (first | rintro _ _ ⟨rfl, rfl⟩ | rintro _ _ ⟨_, rfl, rfl⟩ | rintro _ _ ⟨_, _, ⟨_, _⟩, rfl, rfl⟩); try refine ⟨sConv, ?_⟩))
      refine Dr.goK rfl (by rintro k ⟨⟩ <;> decide) sGon (S.appendInK rfl rfl rfl sNN sRepl sRdH sNL rfl (by_ := 32) rfl sOm sOm sOm sOm) ?_; rintro _ _ ⟨rfl, rfl⟩; refine ⟨Conv.trans (Conv.ownBack (T := pltT) (A := B) (n := m + 1) (c := d) (k := m) (l := ps ++ [plt0]) (by omega) htk sRepl) sConv, ?_⟩
      repeat (first | refine vW29 ?_ | (refine kW29 ?_; (first | rintro _ _ ⟨rfl, rfl⟩ | rintro _ _ ⟨_, rfl, rfl⟩ | rintro _ _ ⟨_, _, ⟨_, _⟩, rfl, rfl⟩); try refine ⟨sConv, ?_⟩))
      refine Dr.go rfl (by rintro k ⟨⟩ <;> decide) sGon (S.call rfl rfl Try.func86 (by kernel_rfl) rfl sPicks (fun E' hE => without29_last E' B m d ps hm sRd (by omega)) ?_)
      rintro r H' ⟨W, cw, rfl, ⟨k3, k4⟩, rfl⟩
      refine ⟨_, rfl, _, sCat, Conv.trans (Conv.ownBack (T := pltT) (A := B) (n := m + 1) (c := d) (k := m) (l := ps ++ [plt0]) (by omega) htk sRepl) sConv, ?_⟩
      apply Dr.conv; (· exact (Conv.ownBack (T := pltT) (A := B) (n := m + 1) (c := d) (k := m) (l := ps ++ [plt0]) (by omega) htk sRepl))
      repeat (first | refine wW29 ?_ | (refine kW29 ?_; (first | rintro _ _ ⟨rfl, rfl⟩ | rintro _ _ ⟨_, rfl, rfl⟩ | rintro _ _ ⟨_, _, ⟨_, _⟩, rfl, rfl⟩); try refine ⟨sConv, ?_⟩) | refine Dr.two ?_ ?_)
      rename_i A5 c5 k5 k6
      refine Dr.go rfl (by rintro k ⟨⟩ <;> decide) sGon (S.call rfl rfl Try.func25 (by kernel_rfl) rfl sPicks (fun E' hE => wcopy E' g A n c ls i hn1 hi2 he hl he2) ?_)
      unfold Post29
      rintro r H' ⟨A6, c6, O, co, rfl, k7, rfl⟩
      refine ⟨_, rfl, _, sCat, sConv, ?_⟩
      repeat (first | refine wW29 ?_ | (refine kW29 ?_; (first | rintro _ _ ⟨rfl, rfl⟩ | rintro _ _ ⟨_, rfl, rfl⟩ | rintro _ _ ⟨_, _, ⟨_, _⟩, rfl, rfl⟩); try refine ⟨sConv, ?_⟩) | refine Dr.two ?_ ?_)
      exact ret2 rfl sRet sRet sConv (⟨A6, n + 1, c6, ls ++ [⟨e.to, O, e.n, co, e.b, e.broken⟩], A5, m + 1, c5, ps ++ [e.p], rfl, hs.push (e := ⟨e.to, O, e.n, co, e.b, e.broken⟩) hlt he1 he2 k7 ⟨k5, k6⟩, .inr rfl⟩)
  · skip
    refine C.regionA 100000 (.one 0 false (.one 1 false (.one 4 false (.one 5 false (.one 7 false (.one 8 false (.one 9 false (.one 10 false (.one 11 false (.one 14 false (.one 15 false (.one 16 false (.two 2 (.two 3 (.two 6 (.one 12 true (.one 13 true (.one 17 true (.one 18 false (.one 19 false .nil))))) 12 (.one 6 true (.one 13 true (.one 17 true (.one 18 false (.one 19 false .nil)))))) 12 (.one 3 true (.one 6 true (.one 13 true (.one 17 true (.one 18 false (.one 19 false .nil))))))) 12 (.one 2 true (.one 3 true (.one 6 true (.one 13 true (.one 17 true (.one 18 false (.one 19 false .nil)))))))))))))))))))) ([blk g5 38 [.int .i64 3, .int .i64 i, .int .i64 xn, .slice X mx cx], own pltT B m d ps]) (by kernel_rfl) (by kernel_rfl) sConv ?_
    repeat (first | refine vW29 ?_ | (refine kW29 ?_; (first | rintro _ _ ⟨rfl, rfl⟩ | rintro _ _ ⟨_, rfl, rfl⟩ | rintro _ _ ⟨_, _, ⟨_, _⟩, rfl, rfl⟩); try refine ⟨sConv, ?_⟩))
    refine Dr.two ?_ ?_
    · refine Go1.goK rfl (by rintro k ⟨⟩ <;> decide) sGon (S.buildSlice1K (T := pltT) (e := plt0) rfl rfl rfl rfl (by decide)) ?_; rintro _ _ ⟨_, rfl, rfl⟩; refine ⟨sConv, ?_⟩
      repeat (first | refine vW29 ?_ | (refine kW29 ?_; (first | rintro _ _ ⟨rfl, rfl⟩ | rintro _ _ ⟨_, rfl, rfl⟩ | rintro _ _ ⟨_, _, ⟨_, _⟩, rfl, rfl⟩); try refine ⟨sConv, ?_⟩))
      refine Dr.two ?_ ?_
      · refine Go1.goK rfl (by rintro k ⟨⟩ <;> decide) sGon (S.appendOutK rfl rfl rfl sNN sRdH sRdH sNL rfl (by_ := 32) rfl sOm sOm sOm sOm sOm) ?_; rintro _ _ ⟨A1, c1, ⟨_, _⟩, rfl, rfl⟩; refine ⟨sConv, ?_⟩
        repeat (first | refine vW29 ?_ | (refine kW29 ?_; (first | rintro _ _ ⟨rfl, rfl⟩ | rintro _ _ ⟨_, rfl, rfl⟩ | rintro _ _ ⟨_, _, ⟨_, _⟩, rfl, rfl⟩); try refine ⟨sConv, ?_⟩))
        refine Dr.two ?_ ?_
        · refine Go1.go rfl (by rintro k ⟨⟩ <;> decide) sGon (S.call rfl rfl Try.func86 (by kernel_rfl) rfl sPicks (fun E' hE => without29_last E' A1 m c1 ps hm sRd (by omega)) ?_)
          rintro r H' ⟨W, cw, rfl, ⟨k3, k4⟩, rfl⟩
          refine ⟨_, rfl, _, sCat, Conv.trans Conv.refl sConv, ?_⟩
          apply Dr.conv; (· exact Conv.refl)
          repeat ((fail_if_success (refine Dr.all (i := 12) ?_)); first | refine vW29 ?_ | (refine kW29 ?_; (first | rintro _ _ ⟨rfl, rfl⟩ | rintro _ _ ⟨_, rfl, rfl⟩ | rintro _ _ ⟨_, _, ⟨_, _⟩, rfl, rfl⟩); try refine ⟨sConv, ?_⟩))
          refine Dr.goK rfl (by rintro k ⟨⟩ <;> decide) sGon (S.buildSlice1K (T := pltT) (e := e.p) rfl rfl rfl rfl (by decide)) ?_; rintro _ _ ⟨_, rfl, rfl⟩; refine ⟨by first | exact sConv | exact Conv.trans Conv.refl sConv, ?_⟩
          repeat (first | refine wW29 ?_ | (refine kW29 ?_; (first | rintro _ _ ⟨rfl, rfl⟩ | rintro _ _ ⟨_, rfl, rfl⟩ | rintro _ _ ⟨_, _, ⟨_, _⟩, rfl, rfl⟩); try refine ⟨sConv, ?_⟩) | refine Dr.two ?_ ?_)
          rename_i A5 c5 k5 k6
          refine Dr.go rfl (by rintro k ⟨⟩ <;> decide) sGon (S.call rfl rfl Try.func25 (by kernel_rfl) rfl sPicks (fun E' hE => wcopy E' g A n c ls i hn1 hi2 he hl he2) ?_)
          unfold Post29
          rintro r H' ⟨A6, c6, O, co, rfl, k7, rfl⟩
          refine ⟨_, rfl, _, sCat, sConv, ?_⟩
          repeat (first | refine wW29 ?_ | (refine kW29 ?_; (first | rintro _ _ ⟨rfl, rfl⟩ | rintro _ _ ⟨_, rfl, rfl⟩ | rintro _ _ ⟨_, _, ⟨_, _⟩, rfl, rfl⟩); try refine ⟨sConv, ?_⟩) | refine Dr.two ?_ ?_)
          exact ret2 rfl sRet sRet sConv (⟨A6, n + 1, c6, ls ++ [⟨e.to, O, e.n, co, e.b, e.broken⟩], A5, m + 1, c5, ps ++ [e.p], rfl, hs.push (e := ⟨e.to, O, e.n, co, e.b, e.broken⟩) hlt he1 he2 k7 ⟨k5, k6⟩, .inr rfl⟩)
        · refine Go1.goK rfl (by rintro k ⟨⟩ <;> decide) sGon (S.buildSlice1K (T := pltT) (e := e.p) rfl rfl rfl rfl (by decide)) ?_; rintro _ _ ⟨_, rfl, rfl⟩; refine ⟨by first | exact sConv | exact Conv.trans Conv.refl sConv, ?_⟩
          repeat (first | refine vW29 ?_ | (refine kW29 ?_; (first | rintro _ _ ⟨rfl, rfl⟩ | rintro _ _ ⟨_, rfl, rfl⟩ | rintro _ _ ⟨_, _, ⟨_, _⟩, rfl, rfl⟩); try refine ⟨sConv, ?_⟩))
          refine Dr.go rfl (by rintro k ⟨⟩ <;> decide) sGon (S.call rfl rfl Try.func86 (by kernel_rfl) rfl sPicks (fun E' hE => without29_last E' A1 m c1 ps hm sRd (by omega)) ?_)
          rintro r H' ⟨W, cw, rfl, ⟨k3, k4⟩, rfl⟩
          refine ⟨_, rfl, _, sCat, Conv.trans Conv.refl sConv, ?_⟩
          apply Dr.conv; (· exact Conv.refl)
          repeat (first | refine wW29 ?_ | (refine kW29 ?_; (first | rintro _ _ ⟨rfl, rfl⟩ | rintro _ _ ⟨_, rfl, rfl⟩ | rintro _ _ ⟨_, _, ⟨_, _⟩, rfl, rfl⟩); try refine ⟨sConv, ?_⟩) | refine Dr.two ?_ ?_)
          rename_i A5 c5 k5 k6
          refine Dr.go rfl (by rintro k ⟨⟩ <;> decide) sGon (S.call rfl rfl Try.func25 (by kernel_rfl) rfl sPicks (fun E' hE => wcopy E' g A n c ls i hn1 hi2 he hl he2) ?_)
          unfold Post29
          rintro r H' ⟨A6, c6, O, co, rfl, k7, rfl⟩
          refine ⟨_, rfl, _, sCat, sConv, ?_⟩
          repeat (first | refine wW29 ?_ | (refine kW29 ?_; (first | rintro _ _ ⟨rfl, rfl⟩ | rintro _ _ ⟨_, rfl, rfl⟩ | rintro _ _ ⟨_, _, ⟨_, _⟩, rfl, rfl⟩); try refine ⟨sConv, ?_⟩) | refine Dr.two ?_ ?_)
          exact ret2 rfl sRet sRet sConv (⟨A6, n + 1, c6, ls ++ [⟨e.to, O, e.n, co, e.b, e.broken⟩], A5, m + 1, c5, ps ++ [e.p], rfl, hs.push (e := ⟨e.to, O, e.n, co, e.b, e.broken⟩) hlt he1 he2 k7 ⟨k5, k6⟩, .inr rfl⟩)
      · refine Go1.goK rfl (by rintro k ⟨⟩ <;> decide) sGon (S.buildSlice1K (T := pltT) (e := e.p) rfl rfl rfl rfl (by decide)) ?_; rintro _ _ ⟨_, rfl, rfl⟩; refine ⟨by first | exact sConv | exact Conv.trans Conv.refl sConv, ?_⟩
        repeat ((fail_if_success (refine Dr.all (i := 3) ?_)); first | refine vW29 ?_ | (refine kW29 ?_; (first | rintro _ _ ⟨rfl, rfl⟩ | rintro _ _ ⟨_, rfl, rfl⟩ | rintro _ _ ⟨_, _, ⟨_, _⟩, rfl, rfl⟩); try refine ⟨sConv, ?_⟩))
        refine Dr.goK rfl (by rintro k ⟨⟩ <;> decide) sGon (S.appendOutK rfl rfl rfl sNN sRdH sRdH sNL rfl (by_ := 32) rfl sOm sOm sOm sOm sOm) ?_; rintro _ _ ⟨A1, c1, ⟨_, _⟩, rfl, rfl⟩; refine ⟨sConv, ?_⟩
        repeat (first | refine vW29 ?_ | (refine kW29 ?_; (first | rintro _ _ ⟨rfl, rfl⟩ | rintro _ _ ⟨_, rfl, rfl⟩ | rintro _ _ ⟨_, _, ⟨_, _⟩, rfl, rfl⟩); try refine ⟨sConv, ?_⟩))
        refine Dr.go rfl (by rintro k ⟨⟩ <;> decide) sGon (S.call rfl rfl Try.func86 (by kernel_rfl) rfl sPicks (fun E' hE => without29_last E' A1 m c1 ps hm sRd (by omega)) ?_)
        rintro r H' ⟨W, cw, rfl, ⟨k3, k4⟩, rfl⟩
        refine ⟨_, rfl, _, sCat, Conv.trans Conv.refl sConv, ?_⟩
        apply Dr.conv; (· exact Conv.refl)
        repeat (first | refine wW29 ?_ | (refine kW29 ?_; (first | rintro _ _ ⟨rfl, rfl⟩ | rintro _ _ ⟨_, rfl, rfl⟩ | rintro _ _ ⟨_, _, ⟨_, _⟩, rfl, rfl⟩); try refine ⟨sConv, ?_⟩) | refine Dr.two ?_ ?_)
        rename_i A5 c5 k5 k6
        refine Dr.go rfl (by rintro k ⟨⟩ <;> decide) sGon (S.call rfl rfl Try.func25 (by kernel_rfl) rfl sPicks (fun E' hE => wcopy E' g A n c ls i hn1 hi2 he hl he2) ?_)
        unfold Post29
        rintro r H' ⟨A6, c6, O, co, rfl, k7, rfl⟩
        refine ⟨_, rfl, _, sCat, sConv, ?_⟩
        repeat (first | refine wW29 ?_ | (refine kW29 ?_; (first | rintro _ _ ⟨rfl, rfl⟩ | rintro _ _ ⟨_, rfl, rfl⟩ | rintro _ _ ⟨_, _, ⟨_, _⟩, rfl, rfl⟩); try refine ⟨sConv, ?_⟩) | refine Dr.two ?_ ?_)
        exact ret2 rfl sRet sRet sConv (⟨A6, n + 1, c6, ls ++ [⟨e.to, O, e.n, co, e.b, e.broken⟩], A5, m + 1, c5, ps ++ [e.p], rfl, hs.push (e := ⟨e.to, O, e.n, co, e.b, e.broken⟩) hlt he1 he2 k7 ⟨k5, k6⟩, .inr rfl⟩)
    · refine Go1.goK rfl (by rintro k ⟨⟩ <;> decide) sGon (S.buildSlice1K (T := pltT) (e := e.p) rfl rfl rfl rfl (by decide)) ?_; rintro _ _ ⟨_, rfl, rfl⟩; refine ⟨by first | exact sConv | exact Conv.trans Conv.refl sConv, ?_⟩
      repeat ((fail_if_success (refine Dr.all (i := 2) ?_)); first | refine vW29 ?_ | (refine kW29 ?_; (first | rintro _ _ ⟨rfl, rfl⟩ | rintro _ _ ⟨_, rfl, rfl⟩ | rintro _ _ ⟨_, _, ⟨_, _⟩, rfl, rfl⟩); try refine ⟨sConv, ?_⟩))
      refine Dr.goK rfl (by rintro k ⟨⟩ <;> decide) sGon (S.buildSlice1K (T := pltT) (e := plt0) rfl rfl rfl rfl (by decide)) ?_; rintro _ _ ⟨_, rfl, rfl⟩; refine ⟨sConv, ?_⟩
      repeat ((fail_if_success (refine Dr.all (i := 3) ?_)); first | refine vW29 ?_ | (refine kW29 ?_; (first | rintro _ _ ⟨rfl, rfl⟩ | rintro _ _ ⟨_, rfl, rfl⟩ | rintro _ _ ⟨_, _, ⟨_, _⟩, rfl, rfl⟩); try refine ⟨sConv, ?_⟩))
      refine Dr.goK rfl (by rintro k ⟨⟩ <;> decide) sGon (S.appendOutK rfl rfl rfl sNN sRdH sRdH sNL rfl (by_ := 32) rfl sOm sOm sOm sOm sOm) ?_; rintro _ _ ⟨A1, c1, ⟨_, _⟩, rfl, rfl⟩; refine ⟨sConv, ?_⟩
      repeat (first | refine vW29 ?_ | (refine kW29 ?_; (first | rintro _ _ ⟨rfl, rfl⟩ | rintro _ _ ⟨_, rfl, rfl⟩ | rintro _ _ ⟨_, _, ⟨_, _⟩, rfl, rfl⟩); try refine ⟨sConv, ?_⟩))
      refine Dr.go rfl (by rintro k ⟨⟩ <;> decide) sGon (S.call rfl rfl Try.func86 (by kernel_rfl) rfl sPicks (fun E' hE => without29_last E' A1 m c1 ps hm sRd (by omega)) ?_)
      rintro r H' ⟨W, cw, rfl, ⟨k3, k4⟩, rfl⟩
      refine ⟨_, rfl, _, sCat, Conv.trans Conv.refl sConv, ?_⟩
      apply Dr.conv; (· exact Conv.refl)
      repeat (first | refine wW29 ?_ | (refine kW29 ?_; (first | rintro _ _ ⟨rfl, rfl⟩ | rintro _ _ ⟨_, rfl, rfl⟩ | rintro _ _ ⟨_, _, ⟨_, _⟩, rfl, rfl⟩); try refine ⟨sConv, ?_⟩) | refine Dr.two ?_ ?_)
      rename_i A5 c5 k5 k6
      refine Dr.go rfl (by rintro k ⟨⟩ <;> decide) sGon (S.call rfl rfl Try.func25 (by kernel_rfl) rfl sPicks (fun E' hE => wcopy E' g A n c ls i hn1 hi2 he hl he2) ?_)
      unfold Post29
      rintro r H' ⟨A6, c6, O, co, rfl, k7, rfl⟩
      refine ⟨_, rfl, _, sCat, sConv, ?_⟩
      repeat (first | refine wW29 ?_ | (refine kW29 ?_; (first | rintro _ _ ⟨rfl, rfl⟩ | rintro _ _ ⟨_, rfl, rfl⟩ | rintro _ _ ⟨_, _, ⟨_, _⟩, rfl, rfl⟩); try refine ⟨sConv, ?_⟩) | refine Dr.two ?_ ?_)
      exact ret2 rfl sRet sRet sConv (⟨A6, n + 1, c6, ls ++ [⟨e.to, O, e.n, co, e.b, e.broken⟩], A5, m + 1, c5, ps ++ [e.p], rfl, hs.push (e := ⟨e.to, O, e.n, co, e.b, e.broken⟩) hlt he1 he2 k7 ⟨k5, k6⟩, .inr rfl⟩)
  · obtain rfl := hpz rfl
    refine C.regionA 100000 (.one 0 false (.one 1 false (.one 4 false (.one 5 false (.one 7 false (.one 8 false (.one 9 false (.one 10 false (.one 11 false (.one 14 false (.one 15 false (.one 16 false (.two 2 (.two 3 (.two 6 (.one 12 true (.one 13 true (.one 17 true (.one 18 false (.one 19 false .nil))))) 12 (.one 6 true (.one 13 true (.one 17 true (.one 18 false (.one 19 false .nil)))))) 12 (.one 3 true (.one 6 true (.one 13 true (.one 17 true (.one 18 false (.one 19 false .nil))))))) 12 (.one 2 true (.one 3 true (.one 6 true (.one 13 true (.one 17 true (.one 18 false (.one 19 false .nil)))))))))))))))))))) ([blk g5 38 [.int .i64 3, .int .i64 i, .int .i64 xn, .slice X mx cx], own pltT B 0 0 []]) (by kernel_rfl) (by kernel_rfl) sConv ?_
    repeat (first | refine vW29 ?_ | (refine kW29 ?_; (first | rintro _ _ ⟨rfl, rfl⟩ | rintro _ _ ⟨_, rfl, rfl⟩ | rintro _ _ ⟨_, _, ⟨_, _⟩, rfl, rfl⟩); try refine ⟨sConv, ?_⟩))
    refine Dr.two ?_ ?_
    · refine Go1.goK rfl (by rintro k ⟨⟩ <;> decide) sGon (S.buildSlice1K (T := pltT) (e := plt0) rfl rfl rfl rfl (by decide)) ?_; rintro _ _ ⟨_, rfl, rfl⟩; refine ⟨sConv, ?_⟩
      repeat (first | refine vW29 ?_ | (refine kW29 ?_; (first | rintro _ _ ⟨rfl, rfl⟩ | rintro _ _ ⟨_, rfl, rfl⟩ | rintro _ _ ⟨_, _, ⟨_, _⟩, rfl, rfl⟩); try refine ⟨sConv, ?_⟩))
      refine Dr.two ?_ ?_
      · refine Go1.goK rfl (by rintro k ⟨⟩ <;> decide) sGon (S.appendK rfl rfl rfl sNN (fun _ _ => sRepl) sRdH sNL sRfl pltT_bytes sOm sOm) ?_; rintro _ _ ⟨A1, c1, ⟨_, _⟩, rfl, rfl⟩; refine ⟨Conv.trans (Conv.nil0 pltT B) sConv, ?_⟩
        repeat (first | refine vW29 ?_ | (refine kW29 ?_; (first | rintro _ _ ⟨rfl, rfl⟩ | rintro _ _ ⟨_, rfl, rfl⟩ | rintro _ _ ⟨_, _, ⟨_, _⟩, rfl, rfl⟩); try refine ⟨sConv, ?_⟩))
        refine Dr.two ?_ ?_
        · refine Go1.go rfl (by rintro k ⟨⟩ <;> decide) sGon (S.call rfl rfl Try.func86 (by kernel_rfl) rfl sPicks (fun E' hE => without29_last E' A1 0 c1 [] hm (show Rd E' pltT A1 1 c1 [plt0] from sRd) (by omega)) ?_)
          rintro r H' ⟨W, cw, rfl, ⟨k3, k4⟩, rfl⟩
          refine ⟨_, rfl, _, sCat, Conv.trans (Conv.nil0 pltT B) sConv, ?_⟩
          apply Dr.conv; (· exact (Conv.nil0 pltT B))
          repeat ((fail_if_success (refine Dr.all (i := 12) ?_)); first | refine vW29 ?_ | (refine kW29 ?_; (first | rintro _ _ ⟨rfl, rfl⟩ | rintro _ _ ⟨_, rfl, rfl⟩ | rintro _ _ ⟨_, _, ⟨_, _⟩, rfl, rfl⟩); try refine ⟨sConv, ?_⟩))
          refine Dr.goK rfl (by rintro k ⟨⟩ <;> decide) sGon (S.buildSlice1K (T := pltT) (e := e.p) rfl rfl rfl rfl (by decide)) ?_; rintro _ _ ⟨_, rfl, rfl⟩; refine ⟨by first | exact sConv | exact Conv.trans (Conv.nil0 pltT B) sConv, ?_⟩
          repeat (first | refine wW29 ?_ | (refine kW29 ?_; (first | rintro _ _ ⟨rfl, rfl⟩ | rintro _ _ ⟨_, rfl, rfl⟩ | rintro _ _ ⟨_, _, ⟨_, _⟩, rfl, rfl⟩); try refine ⟨sConv, ?_⟩) | refine Dr.two ?_ ?_)
          rename_i A5 c5 k5 k6
          refine Dr.go rfl (by rintro k ⟨⟩ <;> decide) sGon (S.call rfl rfl Try.func25 (by kernel_rfl) rfl sPicks (fun E' hE => wcopy E' g A n c ls i hn1 hi2 he hl he2) ?_)
          unfold Post29
          rintro r H' ⟨A6, c6, O, co, rfl, k7, rfl⟩
          refine ⟨_, rfl, _, sCat, sConv, ?_⟩
          repeat (first | refine wW29 ?_ | (refine kW29 ?_; (first | rintro _ _ ⟨rfl, rfl⟩ | rintro _ _ ⟨_, rfl, rfl⟩ | rintro _ _ ⟨_, _, ⟨_, _⟩, rfl, rfl⟩); try refine ⟨sConv, ?_⟩) | refine Dr.two ?_ ?_)
          exact ret2 rfl sRet sRet sConv (⟨A6, n + 1, c6, ls ++ [⟨e.to, O, e.n, co, e.b, e.broken⟩], A5, 1, c5,  [e.p], rfl, hs.push (e := ⟨e.to, O, e.n, co, e.b, e.broken⟩) hlt he1 he2 k7 ⟨k5, k6⟩, .inr rfl⟩)
        · refine Go1.goK rfl (by rintro k ⟨⟩ <;> decide) sGon (S.buildSlice1K (T := pltT) (e := e.p) rfl rfl rfl rfl (by decide)) ?_; rintro _ _ ⟨_, rfl, rfl⟩; refine ⟨by first | exact sConv | exact Conv.trans (Conv.nil0 pltT B) sConv, ?_⟩
          repeat (first | refine vW29 ?_ | (refine kW29 ?_; (first | rintro _ _ ⟨rfl, rfl⟩ | rintro _ _ ⟨_, rfl, rfl⟩ | rintro _ _ ⟨_, _, ⟨_, _⟩, rfl, rfl⟩); try refine ⟨sConv, ?_⟩))
          refine Dr.go rfl (by rintro k ⟨⟩ <;> decide) sGon (S.call rfl rfl Try.func86 (by kernel_rfl) rfl sPicks (fun E' hE => without29_last E' A1 0 c1 [] hm (show Rd E' pltT A1 1 c1 [plt0] from sRd) (by omega)) ?_)
          rintro r H' ⟨W, cw, rfl, ⟨k3, k4⟩, rfl⟩
          refine ⟨_, rfl, _, sCat, Conv.trans (Conv.nil0 pltT B) sConv, ?_⟩
          apply Dr.conv; (· exact (Conv.nil0 pltT B))
          repeat (first | refine wW29 ?_ | (refine kW29 ?_; (first | rintro _ _ ⟨rfl, rfl⟩ | rintro _ _ ⟨_, rfl, rfl⟩ | rintro _ _ ⟨_, _, ⟨_, _⟩, rfl, rfl⟩); try refine ⟨sConv, ?_⟩) | refine Dr.two ?_ ?_)
          rename_i A5 c5 k5 k6
          refine Dr.go rfl (by rintro k ⟨⟩ <;> decide) sGon (S.call rfl rfl Try.func25 (by kernel_rfl) rfl sPicks (fun E' hE => wcopy E' g A n c ls i hn1 hi2 he hl he2) ?_)
          unfold Post29
          rintro r H' ⟨A6, c6, O, co, rfl, k7, rfl⟩
          refine ⟨_, rfl, _, sCat, sConv, ?_⟩
          repeat (first | refine wW29 ?_ | (refine kW29 ?_; (first | rintro _ _ ⟨rfl, rfl⟩ | rintro _ _ ⟨_, rfl, rfl⟩ | rintro _ _ ⟨_, _, ⟨_, _⟩, rfl, rfl⟩); try refine ⟨sConv, ?_⟩) | refine Dr.two ?_ ?_)
          exact ret2 rfl sRet sRet sConv (⟨A6, n + 1, c6, ls ++ [⟨e.to, O, e.n, co, e.b, e.broken⟩], A5, 1, c5,  [e.p], rfl, hs.push (e := ⟨e.to, O, e.n, co, e.b, e.broken⟩) hlt he1 he2 k7 ⟨k5, k6⟩, .inr rfl⟩)
      · refine Go1.goK rfl (by rintro k ⟨⟩ <;> decide) sGon (S.buildSlice1K (T := pltT) (e := e.p) rfl rfl rfl rfl (by decide)) ?_; rintro _ _ ⟨_, rfl, rfl⟩; refine ⟨by first | exact sConv | exact Conv.trans (Conv.nil0 pltT B) sConv, ?_⟩
        repeat ((fail_if_success (refine Dr.all (i := 3) ?_)); first | refine vW29 ?_ | (refine kW29 ?_; (first | rintro _ _ ⟨rfl, rfl⟩ | rintro _ _ ⟨_, rfl, rfl⟩ | rintro _ _ ⟨_, _, ⟨_, _⟩, rfl, rfl⟩); try refine ⟨sConv, ?_⟩))
        refine Dr.goK rfl (by rintro k ⟨⟩ <;> decide) sGon (S.appendK rfl rfl rfl sNN (fun _ _ => sRepl) sRdH sNL sRfl pltT_bytes sOm sOm) ?_; rintro _ _ ⟨A1, c1, ⟨_, _⟩, rfl, rfl⟩; refine ⟨Conv.trans (Conv.nil0 pltT B) sConv, ?_⟩
        repeat (first | refine vW29 ?_ | (refine kW29 ?_; (first | rintro _ _ ⟨rfl, rfl⟩ | rintro _ _ ⟨_, rfl, rfl⟩ | rintro _ _ ⟨_, _, ⟨_, _⟩, rfl, rfl⟩); try refine ⟨sConv, ?_⟩))
        refine Dr.go rfl (by rintro k ⟨⟩ <;> decide) sGon (S.call rfl rfl Try.func86 (by kernel_rfl) rfl sPicks (fun E' hE => without29_last E' A1 0 c1 [] hm (show Rd E' pltT A1 1 c1 [plt0] from sRd) (by omega)) ?_)
        rintro r H' ⟨W, cw, rfl, ⟨k3, k4⟩, rfl⟩
        refine ⟨_, rfl, _, sCat, Conv.trans (Conv.nil0 pltT B) sConv, ?_⟩
        apply Dr.conv; (· exact (Conv.nil0 pltT B))
        repeat (first | refine wW29 ?_ | (refine kW29 ?_; (first | rintro _ _ ⟨rfl, rfl⟩ | rintro _ _ ⟨_, rfl, rfl⟩ | rintro _ _ ⟨_, _, ⟨_, _⟩, rfl, rfl⟩); try refine ⟨sConv, ?_⟩) | refine Dr.two ?_ ?_)
        rename_i A5 c5 k5 k6
        refine Dr.go rfl (by rintro k ⟨⟩ <;> decide) sGon (S.call rfl rfl Try.func25 (by kernel_rfl) rfl sPicks (fun E' hE => wcopy E' g A n c ls i hn1 hi2 he hl he2) ?_)
        unfold Post29
        rintro r H' ⟨A6, c6, O, co, rfl, k7, rfl⟩
        refine ⟨_, rfl, _, sCat, sConv, ?_⟩
        repeat (first | refine wW29 ?_ | (refine kW29 ?_; (first | rintro _ _ ⟨rfl, rfl⟩ | rintro _ _ ⟨_, rfl, rfl⟩ | rintro _ _ ⟨_, _, ⟨_, _⟩, rfl, rfl⟩); try refine ⟨sConv, ?_⟩) | refine Dr.two ?_ ?_)
        exact ret2 rfl sRet sRet sConv (⟨A6, n + 1, c6, ls ++ [⟨e.to, O, e.n, co, e.b, e.broken⟩], A5, 1, c5,  [e.p], rfl, hs.push (e := ⟨e.to, O, e.n, co, e.b, e.broken⟩) hlt he1 he2 k7 ⟨k5, k6⟩, .inr rfl⟩)
    · refine Go1.goK rfl (by rintro k ⟨⟩ <;> decide) sGon (S.buildSlice1K (T := pltT) (e := e.p) rfl rfl rfl rfl (by decide)) ?_; rintro _ _ ⟨_, rfl, rfl⟩; refine ⟨by first | exact sConv | exact Conv.trans (Conv.nil0 pltT B) sConv, ?_⟩
      repeat ((fail_if_success (refine Dr.all (i := 2) ?_)); first | refine vW29 ?_ | (refine kW29 ?_; (first | rintro _ _ ⟨rfl, rfl⟩ | rintro _ _ ⟨_, rfl, rfl⟩ | rintro _ _ ⟨_, _, ⟨_, _⟩, rfl, rfl⟩); try refine ⟨sConv, ?_⟩))
      refine Dr.goK rfl (by rintro k ⟨⟩ <;> decide) sGon (S.buildSlice1K (T := pltT) (e := plt0) rfl rfl rfl rfl (by decide)) ?_; rintro _ _ ⟨_, rfl, rfl⟩; refine ⟨sConv, ?_⟩
      repeat ((fail_if_success (refine Dr.all (i := 3) ?_)); first | refine vW29 ?_ | (refine kW29 ?_; (first | rintro _ _ ⟨rfl, rfl⟩ | rintro _ _ ⟨_, rfl, rfl⟩ | rintro _ _ ⟨_, _, ⟨_, _⟩, rfl, rfl⟩); try refine ⟨sConv, ?_⟩))
      refine Dr.goK rfl (by rintro k ⟨⟩ <;> decide) sGon (S.appendK rfl rfl rfl sNN (fun _ _ => sRepl) sRdH sNL sRfl pltT_bytes sOm sOm) ?_; rintro _ _ ⟨A1, c1, ⟨_, _⟩, rfl, rfl⟩; refine ⟨Conv.trans (Conv.nil0 pltT B) sConv, ?_⟩
      repeat (first | refine vW29 ?_ | (refine kW29 ?_; (first | rintro _ _ ⟨rfl, rfl⟩ | rintro _ _ ⟨_, rfl, rfl⟩ | rintro _ _ ⟨_, _, ⟨_, _⟩, rfl, rfl⟩); try refine ⟨sConv, ?_⟩))
      refine Dr.go rfl (by rintro k ⟨⟩ <;> decide) sGon (S.call rfl rfl Try.func86 (by kernel_rfl) rfl sPicks (fun E' hE => without29_last E' A1 0 c1 [] hm (show Rd E' pltT A1 1 c1 [plt0] from sRd) (by omega)) ?_)
      rintro r H' ⟨W, cw, rfl, ⟨k3, k4⟩, rfl⟩
      refine ⟨_, rfl, _, sCat, Conv.trans (Conv.nil0 pltT B) sConv, ?_⟩
      apply Dr.conv; (· exact (Conv.nil0 pltT B))
      repeat (first | refine wW29 ?_ | (refine kW29 ?_; (first | rintro _ _ ⟨rfl, rfl⟩ | rintro _ _ ⟨_, rfl, rfl⟩ | rintro _ _ ⟨_, _, ⟨_, _⟩, rfl, rfl⟩); try refine ⟨sConv, ?_⟩) | refine Dr.two ?_ ?_)
      rename_i A5 c5 k5 k6
      refine Dr.go rfl (by rintro k ⟨⟩ <;> decide) sGon (S.call rfl rfl Try.func25 (by kernel_rfl) rfl sPicks (fun E' hE => wcopy E' g A n c ls i hn1 hi2 he hl he2) ?_)
      unfold Post29
      rintro r H' ⟨A6, c6, O, co, rfl, k7, rfl⟩
      refine ⟨_, rfl, _, sCat, sConv, ?_⟩
      repeat (first | refine wW29 ?_ | (refine kW29 ?_; (first | rintro _ _ ⟨rfl, rfl⟩ | rintro _ _ ⟨_, rfl, rfl⟩ | rintro _ _ ⟨_, _, ⟨_, _⟩, rfl, rfl⟩); try refine ⟨sConv, ?_⟩) | refine Dr.two ?_ ?_)
      exact ret2 rfl sRet sRet sConv (⟨A6, n + 1, c6, ls ++ [⟨e.to, O, e.n, co, e.b, e.broken⟩], A5, 1, c5,  [e.p], rfl, hs.push (e := ⟨e.to, O, e.n, co, e.b, e.broken⟩) hlt he1 he2 k7 ⟨k5, k6⟩, .inr rfl⟩)
end
end Go.Proofs.Ytbnfpmdieiknmaa.Sep
