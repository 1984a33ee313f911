/- chain: what is settled; by parts of memory. -/
import Derived.Test.YtkhmplaocfjpjaaChn1
namespace Go.Proofs.Ytkhmplaocfjpjaa.Sep
open Go.RowKit Go.Proofs.Ytkhmplaocfjpjaa.Reg
open Go.Proofs.Ytkhmplaocfjpjaa.Mem hiding Rd Own
-- types: entT enrT effT
-- recs: idnT_rec effT_rec cfgT_rec entT_rec enrT_rec keyT_rec reqT_rec chain_rec chref_rec
-- eqs: idnT_eqa effT_eqa entT_eqa enrT_eqa keyT_eqa reqT_eqa
-- funcs
-- flds
set_option maxRecDepth 100000
set_option maxHeartbeats 8000000
theorem eff_eta (x y : Eff) : decide ((⟨x.kind, x.a, x.n, ⟨x.ref.rep, x.ref.seq⟩⟩ : Eff) = ⟨y.kind, y.a, y.n, ⟨y.ref.rep, y.ref.seq⟩⟩) = decide (x = y) := rfl
theorem mark_set (e : Ent) (b : Bool) : Fset entT e 9 (.bool b) (e.mark b) := Fset.mk1 rfl (by decide) rfl
section
variable (E : Env) (id : Idn) (made : Int) (A : Option Addr) (n c : Nat) (l : List Ent) (want : List Eff) (X : Option Addr) (nx cx : Nat)
theorem csettle (hr : Rd E entT A n c l) (hw : Rd E effT X nx cx want) (hl : n ≤ 1000000) :
    Tri Try.prog E 73 #[chn id made A n c, .slice X nx cx] [] fun r H' => ∃ A' c', r = .returned (chn id made A' n c') ∧ (n ≤ c' ∧ c' ≤ maxLen) ∧ H' = [own entT A' n c' (settle want l)] := by
  have hn := hr.len
  have hnw := hw.len
  have hcw := hw.cap
  have hmax : maxLen = 9223372036854775807 := rfl
  refine tri Try.func73 rfl Try.ntmps73 (by simp) ?_
  repeat (first | refine wCh1 ?_ | (refine kCh1 ?_; (first | rintro _ _ ⟨rfl, rfl⟩ | rintro _ _ ⟨_, rfl, rfl⟩ | rintro _ _ ⟨_, _, ⟨_, _⟩, rfl, rfl⟩); try refine ⟨sConv, ?_⟩) | refine Dr.two ?_ ?_)
  refine L.step (by decide) (S.call rfl rfl Try.func70 (by kernel_rfl) rfl sPicks (fun E' hE => cclone E' id made A n c l sRd hl) ?_)
  rintro r H' ⟨A', c', rfl, ⟨hc1, hc2⟩, rfl⟩
  refine ⟨_, rfl, _, sCat, ?_⟩
  repeat (first | refine wCh1 ?_ | (refine kCh1 ?_; (first | rintro _ _ ⟨rfl, rfl⟩ | rintro _ _ ⟨_, rfl, rfl⟩ | rintro _ _ ⟨_, _, ⟨_, _⟩, rfl, rfl⟩); try refine ⟨sConv, ?_⟩) | refine Dr.two ?_ ?_)
  rename_i g2 g4
  refine C.loop (X := Nat) (fun i => [(1, .slice X nx cx), (2, .pointer (some ⟨g2, 0, none⟩)), (4, .pointer (some ⟨g4, 0, none⟩)), (5, .bool (lost want l i)), (11, .slice A' n c'), (12, .int .i64 n), (13, .int .i64 i)])
    (fun i => [blk g2 61 [.int .i64 id.rep, .int .i64 id.seq, .int .i64 made, .slice A' n c'], blk g4 61 [.int .i64 0, .int .i64 0, .int .i64 0, .slice none 0 0], own entT A' n c' (stage want l i)]) (fun i => i ≤ n) (fun i => n - i) 0 sHolds (by rw [stage_zero]; exact sConv) (Nat.zero_le _) ?_
  rintro i G hi
  by_cases hlt : i < n
  · have hx : l[i]? = some l[i] := List.getElem?_eq_getElem (by omega)
    generalize l[i] = e at hx
    have hst := stage_at (want := want) hx
    have hf := mark_set e (lost want l (i + 1))
    repeat ((fail_if_success (refine C.seq (x := Code.region 6 _ _) ?_)); first | refine vCh1 ?_ | (refine kCh1 ?_; (first | rintro _ _ ⟨rfl, rfl⟩ | rintro _ _ ⟨_, rfl, rfl⟩ | rintro _ _ ⟨_, _, ⟨_, _⟩, rfl, rfl⟩); try refine ⟨sConv, ?_⟩) | refine Dr.two ?_ ?_)
    rename_i g7
    refine C.cut (X := Unit) (fun _ => [(1, .slice X nx cx), (2, .pointer (some ⟨g2, 0, none⟩)), (4, .pointer (some ⟨g4, 0, none⟩)), (5, .bool (lost want l (i + 1))), (6, .int .i64 i), (11, .slice A' n c'), (12, .int .i64 n), (13, .int .i64 i)])
      (fun _ => [blk g2 61 [.int .i64 id.rep, .int .i64 id.seq, .int .i64 made, .slice A' n c'], blk g4 61 [.int .i64 0, .int .i64 0, .int .i64 0, .slice none 0 0], own entT A' n c' (stage want l i)]) (fun _ => True) ?_ ?_
    · clear hf
      cases h1 : lost want l i
      case true =>
        rw [lost_yes hx (.inl h1)]
        repeat (first | refine wCh1 ?_ | (refine kCh1 ?_; (first | rintro _ _ ⟨rfl, rfl⟩ | rintro _ _ ⟨_, rfl, rfl⟩ | rintro _ _ ⟨_, _, ⟨_, _⟩, rfl, rfl⟩); try refine ⟨sConv, ?_⟩) | refine Dr.two ?_ ?_)
        refine C.regionA 100000 (.one 0 false (.one 1 false (.one 2 false (.one 3 false (.one 4 false (.one 5 false (.one 6 false (.one 7 false (.one 8 false (.one 9 false (.one 10 false (.one 11 false (.one 12 false (.one 13 false (.one 14 false (.one 15 false (.one 16 false (.one 17 false (.one 18 false (.one 19 false (.one 20 false .nil))))))))))))))))))))) _ (by kernel_rfl) (by kernel_rfl) Conv.refl ?_
        repeat (first | refine wCh1 ?_ | (refine kCh1 ?_; (first | rintro _ _ ⟨rfl, rfl⟩ | rintro _ _ ⟨_, rfl, rfl⟩ | rintro _ _ ⟨_, _, ⟨_, _⟩, rfl, rfl⟩); try refine ⟨sConv, ?_⟩) | refine Dr.two ?_ ?_)
        exact ⟨(), sHolds, sConv, trivial⟩
      cases h2 : e.gone
      case true =>
        rw [lost_yes hx (.inr (.inl h2))]
        repeat (first | refine wCh1 ?_ | (refine kCh1 ?_; (first | rintro _ _ ⟨rfl, rfl⟩ | rintro _ _ ⟨_, rfl, rfl⟩ | rintro _ _ ⟨_, _, ⟨_, _⟩, rfl, rfl⟩); try refine ⟨sConv, ?_⟩) | refine Dr.two ?_ ?_)
        refine C.regionA 100000 (.one 0 false (.one 1 false (.one 2 false (.one 3 false (.one 4 false (.one 5 false (.one 6 false (.one 7 false (.one 8 false (.one 9 false (.one 10 false (.one 11 false (.one 12 false (.one 13 false (.one 14 false (.one 15 false (.one 16 false (.one 17 false (.one 18 false (.one 19 false (.one 20 false .nil))))))))))))))))))))) _ (by kernel_rfl) (by kernel_rfl) Conv.refl ?_
        repeat (first | refine wCh1 ?_ | (refine kCh1 ?_; (first | rintro _ _ ⟨rfl, rfl⟩ | rintro _ _ ⟨_, rfl, rfl⟩ | rintro _ _ ⟨_, _, ⟨_, _⟩, rfl, rfl⟩); try refine ⟨sConv, ?_⟩) | refine Dr.two ?_ ?_)
        exact ⟨(), sHolds, sConv, trivial⟩
      by_cases h3 : nx ≤ i
      · rw [lost_yes hx (.inr (.inr (by omega)))]
        repeat (first | refine wCh1 ?_ | (refine kCh1 ?_; (first | rintro _ _ ⟨rfl, rfl⟩ | rintro _ _ ⟨_, rfl, rfl⟩ | rintro _ _ ⟨_, _, ⟨_, _⟩, rfl, rfl⟩); try refine ⟨sConv, ?_⟩) | refine Dr.two ?_ ?_)
        refine C.regionA 100000 (.one 0 false (.one 1 false (.one 2 false (.one 3 false (.one 4 false (.one 5 false (.one 6 false (.one 7 false (.one 8 false (.one 9 false (.one 10 false (.one 11 false (.one 12 false (.one 13 false (.one 14 false (.one 15 false (.one 16 false (.one 17 false (.one 18 false (.one 19 false (.one 20 false .nil))))))))))))))))))))) _ (by kernel_rfl) (by kernel_rfl) Conv.refl ?_
        repeat (first | refine wCh1 ?_ | (refine kCh1 ?_; (first | rintro _ _ ⟨rfl, rfl⟩ | rintro _ _ ⟨_, rfl, rfl⟩ | rintro _ _ ⟨_, _, ⟨_, _⟩, rfl, rfl⟩); try refine ⟨sConv, ?_⟩) | refine Dr.two ?_ ?_)
        exact ⟨(), sHolds, sConv, trivial⟩
      have hwx : want[i]? = some want[i] := List.getElem?_eq_getElem (by omega)
      rw [lost_eq hx h1 h2 hwx]
      generalize want[i] = w at hwx
      rw [← eff_eta]
      repeat (first | refine wCh1 ?_ | (refine kCh1 ?_; (first | rintro _ _ ⟨rfl, rfl⟩ | rintro _ _ ⟨_, rfl, rfl⟩ | rintro _ _ ⟨_, _, ⟨_, _⟩, rfl, rfl⟩); try refine ⟨sConv, ?_⟩) | refine Dr.two ?_ ?_)
      refine C.regionA 100000 (.one 0 false (.one 1 false (.one 2 false (.one 3 false (.one 4 false (.one 5 false (.one 6 false (.one 7 false (.one 8 false (.one 9 false (.one 10 false (.one 11 false (.one 12 false (.one 13 false (.one 14 false (.one 15 false (.one 16 false (.one 17 false (.one 18 false (.one 19 false (.one 20 false .nil))))))))))))))))))))) _ (by kernel_rfl) (by kernel_rfl) Conv.refl ?_
      repeat (first | refine wCh1 ?_ | (refine kCh1 ?_; (first | rintro _ _ ⟨rfl, rfl⟩ | rintro _ _ ⟨_, rfl, rfl⟩ | rintro _ _ ⟨_, _, ⟨_, _⟩, rfl, rfl⟩); try refine ⟨sConv, ?_⟩) | refine Dr.two ?_ ?_)
      exact ⟨(), sHolds, sConv, trivial⟩
    rintro - G -
    have hss := stage_set (want := want) hx
    generalize hb : lost want l (i + 1) = b at *
    repeat (first | refine wCh1 ?_ | (refine kCh1 ?_; (first | rintro _ _ ⟨rfl, rfl⟩ | rintro _ _ ⟨_, rfl, rfl⟩ | rintro _ _ ⟨_, _, ⟨_, _⟩, rfl, rfl⟩); try refine ⟨sConv, ?_⟩) | refine Dr.two ?_ ?_)
    exact ⟨i + 1, by rw [hb]; exact sHolds, by rw [← hss]; exact sConv, by omega, by omega⟩
  · obtain rfl : i = n := by omega
    rw [stage_all hn]
    repeat (first | refine wCh1 ?_ | (refine kCh1 ?_; (first | rintro _ _ ⟨rfl, rfl⟩ | rintro _ _ ⟨_, rfl, rfl⟩ | rintro _ _ ⟨_, _, ⟨_, _⟩, rfl, rfl⟩); try refine ⟨sConv, ?_⟩) | refine Dr.two ?_ ?_)
    apply retC1; (· exact rfl); (· exact sRet); (· exact rfl); (· exact rfl); (· exact rfl); (· exact sHas); (· exact rfl); rotate_left; (· exact (⟨_, _, rfl, ⟨hc1, hc2⟩, rfl⟩)); (· exact sConv)
end
end Go.Proofs.Ytkhmplaocfjpjaa.Sep
