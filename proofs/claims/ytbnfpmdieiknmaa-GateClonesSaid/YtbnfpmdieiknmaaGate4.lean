/- the law of the gate: few calls, was a key applied, one call; by parts of memory. -/
import Derived.Test.YtbnfpmdieiknmaaGate3
namespace Go.Proofs.Ytbnfpmdieiknmaa.Sep
open Go.RowKit Go.Proofs.Ytbnfpmdieiknmaa.Reg
open Go.Proofs.Ytbnfpmdieiknmaa.Mem hiding Rd Own
-- types: reqT op30T
-- recs: idnT_rec effT_rec keyT_rec reqT_rec op30T_rec gate_rec book_rec
-- eqs: idnT_eqa effT_eqa keyT_eqa reqT_eqa
-- funcs
-- maps
set_option maxRecDepth 100000
set_option maxHeartbeats 8000000
section
variable (E : Env)
theorem few30 (A : Option Addr) (n c : Nat) (l : List Op30) (hr : Rd E op30T A n c l) : Tri Try.prog E 35 #[.slice A n c] [] fun e H' => e = .returned (.slice A (min n 80) c) ∧ H' = [] := by
  have hcap := hr.cap
  have hn := hr.len
  refine tri Try.func35 rfl Try.ntmps35 (by simp) ?_
  by_cases h : 80 < n
  · rw [Nat.min_eq_right (by omega)]
    repeat (first | refine wG30 ?_ | (refine kG30 ?_; (first | rintro _ _ ⟨rfl, rfl⟩ | rintro _ _ ⟨_, rfl, rfl⟩ | rintro _ _ ⟨_, _, ⟨_, _⟩, rfl, rfl⟩); try refine ⟨sConv, ?_⟩) | refine Dr.two ?_ ?_)
    exact ret1 rfl sRet sConv (⟨rfl, rfl⟩)
  · rw [Nat.min_eq_left (by omega)]
    repeat (first | refine wG30 ?_ | (refine kG30 ?_; (first | rintro _ _ ⟨rfl, rfl⟩ | rintro _ _ ⟨_, rfl, rfl⟩ | rintro _ _ ⟨_, _, ⟨_, _⟩, rfl, rfl⟩); try refine ⟨sConv, ?_⟩) | refine Dr.two ?_ ?_)
    exact ret1 rfl sRet sConv (⟨rfl, rfl⟩)
theorem has30 (A : Option Addr) (n c : Nat) (l : List Req) (k : Keyv) (hr : Rd E reqT A n c l) : Tri Try.prog E 39 #[.slice A n c, .agg k.cs.toArray] [] fun e H' => e = .returned (.bool (decide (k ∈ l.map Req.key))) ∧ H' = [] := by
  have hcap := hr.cap
  have hn := hr.len
  refine tri Try.func39 rfl Try.ntmps39 (by simp) ?_
  repeat (first | refine wG30 ?_ | (refine kG30 ?_; (first | rintro _ _ ⟨rfl, rfl⟩ | rintro _ _ ⟨_, rfl, rfl⟩ | rintro _ _ ⟨_, _, ⟨_, _⟩, rfl, rfl⟩); try refine ⟨sConv, ?_⟩) | refine Dr.two ?_ ?_)
  rename_i g3
  refine C.loop (X := Nat) (fun i => [(0, .slice A n c), (3, .pointer (some ⟨g3, 0, none⟩)), (5, .int .i64 i)]) (fun _ => [blk g3 66 k.cs]) (fun i => i ≤ n ∧ ∀ (j : Nat) y, j < i → l[j]? = some y → y.key ≠ k) (fun i => n - i) 0 sHolds sConv ⟨Nat.zero_le _, fun j y hj => by omega⟩ ?_
  rintro i G ⟨hi, hall⟩
  by_cases hlt : i < n
  · have hx : l[i]? = some l[i] := List.getElem?_eq_getElem (by omega)
    generalize l[i] = x at hx
    have hmax : maxLen = 9223372036854775807 := rfl
    by_cases hk : x.key = k
    · have hd := (key_eta x.key k).trans (decide_eq_true hk)
      have hmem : decide (k ∈ l.map Req.key) = true := decide_eq_true (List.mem_map.2 ⟨x, List.mem_of_getElem? hx, hk⟩)
      rw [hmem]
      repeat (first | refine wG30 ?_ | (refine kG30 ?_; (first | rintro _ _ ⟨rfl, rfl⟩ | rintro _ _ ⟨_, rfl, rfl⟩ | rintro _ _ ⟨_, _, ⟨_, _⟩, rfl, rfl⟩); try refine ⟨sConv, ?_⟩) | refine Dr.two ?_ ?_)
      refine C.regionA 100000 (.one 0 false (.one 1 false (.one 2 false (.one 3 false (.one 4 false (.one 5 false (.one 6 false .nil))))))) _ (by kernel_rfl) (by kernel_rfl) Conv.refl ?_
      repeat (first | refine wG30 ?_ | (refine kG30 ?_; (first | rintro _ _ ⟨rfl, rfl⟩ | rintro _ _ ⟨_, rfl, rfl⟩ | rintro _ _ ⟨_, _, ⟨_, _⟩, rfl, rfl⟩); try refine ⟨sConv, ?_⟩) | refine Dr.two ?_ ?_)
      exact ret1 rfl sRet sConv (⟨rfl, rfl⟩)
    · have hd := (key_eta x.key k).trans (decide_eq_false hk)
      repeat (first | refine wG30 ?_ | (refine kG30 ?_; (first | rintro _ _ ⟨rfl, rfl⟩ | rintro _ _ ⟨_, rfl, rfl⟩ | rintro _ _ ⟨_, _, ⟨_, _⟩, rfl, rfl⟩); try refine ⟨sConv, ?_⟩) | refine Dr.two ?_ ?_)
      refine C.regionA 100000 (.one 0 false (.one 1 false (.one 2 false (.one 3 false (.one 4 false (.one 5 false (.one 6 false .nil))))))) _ (by kernel_rfl) (by kernel_rfl) Conv.refl ?_
      repeat (first | refine wG30 ?_ | (refine kG30 ?_; (first | rintro _ _ ⟨rfl, rfl⟩ | rintro _ _ ⟨_, rfl, rfl⟩ | rintro _ _ ⟨_, _, ⟨_, _⟩, rfl, rfl⟩); try refine ⟨sConv, ?_⟩) | refine Dr.two ?_ ?_)
      refine ⟨i + 1, sHolds, sConv, ⟨by omega, fun j y hj hy => ?_⟩, by omega⟩
      by_cases hji : j = i
      · subst hji; rw [hx] at hy; injection hy with hy; subst hy; exact hk
      · exact hall j y (by omega) hy
  · obtain rfl : i = n := by omega
    have hmem : decide (k ∈ l.map Req.key) = false := decide_eq_false fun h => by
      obtain ⟨y, hy, hyk⟩ := List.mem_map.1 h
      obtain ⟨j, hj, rfl⟩ := List.getElem_of_mem hy
      exact hall j _ (by omega) (List.getElem?_eq_getElem hj) hyk
    rw [hmem]
    repeat (first | refine wG30 ?_ | (refine kG30 ?_; (first | rintro _ _ ⟨rfl, rfl⟩ | rintro _ _ ⟨_, rfl, rfl⟩ | rintro _ _ ⟨_, _, ⟨_, _⟩, rfl, rfl⟩); try refine ⟨sConv, ?_⟩) | refine Dr.two ?_ ?_)
    exact ret1 rfl sRet sConv (⟨rfl, rfl⟩)
theorem reqs30 (A : Option Addr) (n c : Nat) (B : Option Addr) (m d : Nat) (l : List Req) (hr : Rd E reqT A n c l) (hr2 : Rd E reqT B m d l) : Tri Try.prog E 69 #[.slice A n c, .slice B m d] [] fun e H' => e = .returned (.bool true) ∧ H' = [] := by
  have hcap := hr.cap
  have hcap2 := hr2.cap
  have hn := hr.len
  have hm := hr2.len
  have hmax : maxLen = 9223372036854775807 := rfl
  refine tri Try.func69 rfl Try.ntmps69 (by simp) ?_
  repeat (first | refine wG30 ?_ | (refine kG30 ?_; (first | rintro _ _ ⟨rfl, rfl⟩ | rintro _ _ ⟨_, rfl, rfl⟩ | rintro _ _ ⟨_, _, ⟨_, _⟩, rfl, rfl⟩); try refine ⟨sConv, ?_⟩) | refine Dr.two ?_ ?_)
  refine C.loop (X := Nat) (fun i => [(0, .slice A n c), (1, .slice B m d), (5, .int .i64 i)]) (fun _ => []) (fun i => i ≤ n) (fun i => n - i) 0 sHolds sConv (Nat.zero_le _) ?_
  intro i G hi
  by_cases hlt : i < n
  · have hx : l[i]? = some l[i] := List.getElem?_eq_getElem (by omega)
    generalize l[i] = x at hx
    have hd : (!decide ((⟨⟨⟨x.key.id.rep, x.key.id.seq⟩, x.key.ord, x.key.undo⟩, ⟨x.what.kind, x.what.a, x.what.n, ⟨x.what.ref.rep, x.what.ref.seq⟩⟩⟩ : Req) = ⟨⟨⟨x.key.id.rep, x.key.id.seq⟩, x.key.ord, x.key.undo⟩, ⟨x.what.kind, x.what.a, x.what.n, ⟨x.what.ref.rep, x.what.ref.seq⟩⟩⟩)) = false := by rw [decide_eq_true rfl]; rfl
    repeat (first | refine wG30 ?_ | (refine kG30 ?_; (first | rintro _ _ ⟨rfl, rfl⟩ | rintro _ _ ⟨_, rfl, rfl⟩ | rintro _ _ ⟨_, _, ⟨_, _⟩, rfl, rfl⟩); try refine ⟨sConv, ?_⟩) | refine Dr.two ?_ ?_)
    refine C.regionA 100000 (.one 0 false (.one 1 false (.one 2 false (.one 3 false (.one 4 false (.one 5 false (.one 6 false (.one 7 false (.one 8 false .nil))))))))) _ (by kernel_rfl) (by kernel_rfl) Conv.refl ?_
    repeat (first | refine wG30 ?_ | (refine kG30 ?_; (first | rintro _ _ ⟨rfl, rfl⟩ | rintro _ _ ⟨_, rfl, rfl⟩ | rintro _ _ ⟨_, _, ⟨_, _⟩, rfl, rfl⟩); try refine ⟨sConv, ?_⟩) | refine Dr.two ?_ ?_)
    exact ⟨i + 1, sHolds, sConv, by omega, by omega⟩
  · obtain rfl : i = n := by omega
    repeat (first | refine wG30 ?_ | (refine kG30 ?_; (first | rintro _ _ ⟨rfl, rfl⟩ | rintro _ _ ⟨_, rfl, rfl⟩ | rintro _ _ ⟨_, _, ⟨_, _⟩, rfl, rfl⟩); try refine ⟨sConv, ?_⟩) | refine Dr.two ?_ ?_)
    exact ret1 rfl sRet sConv (⟨rfl, rfl⟩)
abbrev bk (gb : Nat) (B : Option Addr) (n d : Nat) (r : Int) : Asn := blk gb 55 [.slice B n d, .int .i64 r]
abbrev all30 (g gb : Nat) (m : Option Nat) (A : Option Addr) (n c : Nat) (r : Int) (l : List Req) (B : Option Addr) (d : Nat) : List Asn := [gt g m A n c r, mpA m (l.map Req.key), own reqT A n c l, bk gb B n d r, own reqT B n d l]
structure S30 (m : Option Nat) (n c : Nat) (r : Int) (l : List Req) (d : Nat) : Prop where
  g : G30 m n c r l
  hd : n ≤ d ∧ d ≤ maxLen
def Step30 (g gb n : Nat) (_ : List Req) : Ending → List Asn → Prop := fun e H' => ∃ m' A' n' c' B' d' r' l', e = .returned (.bool true) ∧ S30 m' n' c' r' l' d' ∧ n' ≤ n + 1 ∧ H' = all30 g gb m' A' n' c' r' l' B' d'
variable (g gb : Nat) (m : Option Nat) (A : Option Addr) (n c : Nat) (r : Int) (l : List Req) (B : Option Addr) (d : Nat)
theorem step30_2 (hs : S30 m n c r l d) (x : Op30) (hk : x.kind = 2) : Tri Try.prog E 67 #[.pointer (some ⟨gb, 0, none⟩), .pointer (some ⟨g, 0, none⟩), .agg x.cs.toArray] (all30 g gb m A n c r l B d) (Step30 g gb n l) := by
  unfold Step30 all30
  refine tri Try.func67 rfl Try.ntmps67 (by simp) ?_
  repeat (first | refine wG30 ?_ | (refine kG30 ?_; (first | rintro _ _ ⟨rfl, rfl⟩ | rintro _ _ ⟨_, rfl, rfl⟩ | rintro _ _ ⟨_, _, ⟨_, _⟩, rfl, rfl⟩); try refine ⟨sConv, ?_⟩) | refine Dr.two ?_ ?_)
  refine L.step (by decide) (S.call rfl rfl Try.func36 (by kernel_rfl) rfl sPicks (fun E' hE => grefuse E' g m A n c r x.n) ?_)
  rintro e H' ⟨rfl, rfl⟩
  refine ⟨_, rfl, _, sCat, ?_⟩
  repeat (first | refine wG30 ?_ | (refine kG30 ?_; (first | rintro _ _ ⟨rfl, rfl⟩ | rintro _ _ ⟨_, rfl, rfl⟩ | rintro _ _ ⟨_, _, ⟨_, _⟩, rfl, rfl⟩); try refine ⟨sConv, ?_⟩) | refine Dr.two ?_ ?_)
  refine L.step (by decide) (S.call rfl rfl Try.func16 (by kernel_rfl) rfl sPicks (fun E' hE => near30 E' x.n 0 255) ?_)
  rintro e H' ⟨rfl, rfl⟩
  refine ⟨_, rfl, _, sCat, ?_⟩
  repeat (first | refine wG30 ?_ | (refine kG30 ?_; (first | rintro _ _ ⟨rfl, rfl⟩ | rintro _ _ ⟨_, rfl, rfl⟩ | rintro _ _ ⟨_, _, ⟨_, _⟩, rfl, rfl⟩); try refine ⟨sConv, ?_⟩) | refine Dr.two ?_ ?_)
  have hr' : 0 ≤ (if x.n < 0 then 0 else if 255 < x.n then 255 else x.n) ∧ (if x.n < 0 then 0 else if 255 < x.n then 255 else x.n) ≤ 255 := by
    split
    · omega
    · split <;> omega
  exact ret1 rfl sRet sConv (⟨m, A, n, c, B, d, _, l, rfl, ⟨⟨hs.g.hn, hs.g.hc, hs.g.hm, hr'⟩, hs.hd⟩, by omega, rfl⟩)
theorem step30_0 (hs : S30 m n c r l d) (x : Op30) (hk : x.kind ≠ 2) (hk1 : x.kind ≠ 1) : Tri Try.prog E 67 #[.pointer (some ⟨gb, 0, none⟩), .pointer (some ⟨g, 0, none⟩), .agg x.cs.toArray] (all30 g gb m A n c r l B d) (Step30 g gb n l) := by
  have hbb : ∀ b : Bool, (b == b) = true := fun b => by cases b <;> rfl
  unfold Step30 all30
  refine tri Try.func67 rfl Try.ntmps67 (by simp) ?_
  repeat (first | refine wG30 ?_ | (refine kG30 ?_; (first | rintro _ _ ⟨rfl, rfl⟩ | rintro _ _ ⟨_, rfl, rfl⟩ | rintro _ _ ⟨_, _, ⟨_, _⟩, rfl, rfl⟩); try refine ⟨sConv, ?_⟩) | refine Dr.two ?_ ?_)
  refine C.regionA 100000 (.one 0 false (.one 1 false (.one 2 false (.one 3 false (.one 5 false (.one 6 false (.one 7 false (.one 8 false (.one 9 false (.one 10 false (.one 11 false (.one 4 true (.one 12 true (.one 13 false (.one 14 false .nil))))))))))))))) _ (by kernel_rfl) (by kernel_rfl) Conv.refl ?_
  repeat (first | refine wG30 ?_ | (refine kG30 ?_; (first | rintro _ _ ⟨rfl, rfl⟩ | rintro _ _ ⟨_, rfl, rfl⟩ | rintro _ _ ⟨_, _, ⟨_, _⟩, rfl, rfl⟩); try refine ⟨sConv, ?_⟩) | refine Dr.two ?_ ?_)
  refine Dr.go rfl (by rintro k ⟨⟩ <;> decide) sGon (S.call rfl rfl Try.func49 (by kernel_rfl) rfl sPicks (fun E' hE => ghas E' g m A n c r (l.map Req.key) x.q.key) ?_)
  rintro e H' ⟨rfl, rfl⟩
  refine ⟨_, rfl, _, sCat, sConv, ?_⟩
  repeat (first | refine wG30 ?_ | (refine kG30 ?_; (first | rintro _ _ ⟨rfl, rfl⟩ | rintro _ _ ⟨_, rfl, rfl⟩ | rintro _ _ ⟨_, _, ⟨_, _⟩, rfl, rfl⟩); try refine ⟨sConv, ?_⟩) | refine Dr.two ?_ ?_)
  refine Dr.go rfl (by rintro k ⟨⟩ <;> decide) sGon (S.call rfl rfl Try.func39 (by kernel_rfl) rfl sPicks (fun E' hE => has30 E' B n d l x.q.key sRd) ?_)
  rintro e H' ⟨rfl, rfl⟩
  refine ⟨_, rfl, _, sCat, sConv, ?_⟩
  repeat (first | refine wG30 ?_ | (refine kG30 ?_; (first | rintro _ _ ⟨rfl, rfl⟩ | rintro _ _ ⟨_, rfl, rfl⟩ | rintro _ _ ⟨_, _, ⟨_, _⟩, rfl, rfl⟩); try refine ⟨sConv, ?_⟩) | refine Dr.two ?_ ?_)
  apply ret1; (· exact rfl); (· exact sRet); rotate_left; (· exact (⟨m, A, n, c, B, d, r, l, by rw [hbb], hs, by omega, rfl⟩)); (· exact sConv)
theorem step30_1y (hs : S30 m n c r l d) (x : Op30) (hk : x.kind = 1) (hq : x.q.key ∈ l.map Req.key) : Tri Try.prog E 67 #[.pointer (some ⟨gb, 0, none⟩), .pointer (some ⟨g, 0, none⟩), .agg x.cs.toArray] (all30 g gb m A n c r l B d) (Step30 g gb n l) := by
  have hdq : decide (x.q.key ∈ l.map Req.key) = true := decide_eq_true hq
  unfold Step30 all30
  refine tri Try.func67 rfl Try.ntmps67 (by simp) ?_
  repeat (first | refine wG30 ?_ | (refine kG30 ?_; (first | rintro _ _ ⟨rfl, rfl⟩ | rintro _ _ ⟨_, rfl, rfl⟩ | rintro _ _ ⟨_, _, ⟨_, _⟩, rfl, rfl⟩); try refine ⟨sConv, ?_⟩) | refine Dr.two ?_ ?_)
  refine C.regionA 100000 (.one 0 false (.one 1 false (.one 2 false (.one 3 false (.one 4 false (.one 5 false (.one 6 false (.one 7 true (.one 8 false .nil))))))))) _ (by kernel_rfl) (by kernel_rfl) Conv.refl ?_
  repeat (first | refine wG30 ?_ | (refine kG30 ?_; (first | rintro _ _ ⟨rfl, rfl⟩ | rintro _ _ ⟨_, rfl, rfl⟩ | rintro _ _ ⟨_, _, ⟨_, _⟩, rfl, rfl⟩); try refine ⟨sConv, ?_⟩) | refine Dr.two ?_ ?_)
  refine Dr.go rfl (by rintro k ⟨⟩ <;> decide) sGon (S.call rfl rfl Try.func39 (by kernel_rfl) rfl sPicks (fun E' hE => has30 E' B n d l x.q.key sRd) ?_)
  rw [hdq]
  rintro e H' ⟨rfl, rfl⟩
  refine ⟨_, rfl, _, sCat, sConv, ?_⟩
  repeat (first | refine wG30 ?_ | (refine kG30 ?_; (first | rintro _ _ ⟨rfl, rfl⟩ | rintro _ _ ⟨_, rfl, rfl⟩ | rintro _ _ ⟨_, _, ⟨_, _⟩, rfl, rfl⟩); try refine ⟨sConv, ?_⟩) | refine Dr.two ?_ ?_)
  refine L.step (by decide) (S.call rfl rfl Try.func37 (by kernel_rfl) rfl sPicks (fun E' hE => gdo_yes E' g m A n c r l x.q hq) ?_)
  unfold gst
  rintro e H' ⟨rfl, rfl⟩
  refine ⟨_, rfl, _, sCat, ?_⟩
  repeat (first | refine wG30 ?_ | (refine kG30 ?_; (first | rintro _ _ ⟨rfl, rfl⟩ | rintro _ _ ⟨_, rfl, rfl⟩ | rintro _ _ ⟨_, _, ⟨_, _⟩, rfl, rfl⟩); try refine ⟨sConv, ?_⟩) | refine Dr.two ?_ ?_)
  exact ret1 rfl sRet sConv (⟨m, A, n, c, B, d, r, l, rfl, hs, by omega, rfl⟩)
theorem step30_1n (hs : S30 m n c r l d) (x : Op30) (hk : x.kind = 1) (hq : x.q.key ∉ l.map Req.key) (hr : 0 < r) : Tri Try.prog E 67 #[.pointer (some ⟨gb, 0, none⟩), .pointer (some ⟨g, 0, none⟩), .agg x.cs.toArray] (all30 g gb m A n c r l B d) (Step30 g gb n l) := by
  have hdq : decide (x.q.key ∈ l.map Req.key) = false := decide_eq_false hq
  obtain ⟨hr1, hr2⟩ := hs.g.hr
  unfold Step30 all30
  refine tri Try.func67 rfl Try.ntmps67 (by simp) ?_
  repeat (first | refine wG30 ?_ | (refine kG30 ?_; (first | rintro _ _ ⟨rfl, rfl⟩ | rintro _ _ ⟨_, rfl, rfl⟩ | rintro _ _ ⟨_, _, ⟨_, _⟩, rfl, rfl⟩); try refine ⟨sConv, ?_⟩) | refine Dr.two ?_ ?_)
  refine C.regionA 100000 (.one 0 false (.one 1 false (.one 2 false (.one 3 false (.one 4 false (.one 5 false (.one 6 false (.one 7 true (.one 8 false .nil))))))))) _ (by kernel_rfl) (by kernel_rfl) Conv.refl ?_
  repeat (first | refine wG30 ?_ | (refine kG30 ?_; (first | rintro _ _ ⟨rfl, rfl⟩ | rintro _ _ ⟨_, rfl, rfl⟩ | rintro _ _ ⟨_, _, ⟨_, _⟩, rfl, rfl⟩); try refine ⟨sConv, ?_⟩) | refine Dr.two ?_ ?_)
  refine Dr.go rfl (by rintro k ⟨⟩ <;> decide) sGon (S.call rfl rfl Try.func39 (by kernel_rfl) rfl sPicks (fun E' hE => has30 E' B n d l x.q.key sRd) ?_)
  rw [hdq]
  rintro e H' ⟨rfl, rfl⟩
  refine ⟨_, rfl, _, sCat, sConv, ?_⟩
  repeat (first | refine wG30 ?_ | (refine kG30 ?_; (first | rintro _ _ ⟨rfl, rfl⟩ | rintro _ _ ⟨_, rfl, rfl⟩ | rintro _ _ ⟨_, _, ⟨_, _⟩, rfl, rfl⟩); try refine ⟨sConv, ?_⟩) | refine Dr.two ?_ ?_)
  refine L.step (by decide) (S.call rfl rfl Try.func37 (by kernel_rfl) rfl sPicks (fun E' hE => gdo_no E' g m A n c r l x.q hq ⟨hr, hr2⟩) ?_)
  unfold gst
  rintro e H' ⟨rfl, rfl⟩
  refine ⟨_, rfl, _, sCat, ?_⟩
  repeat (first | refine wG30 ?_ | (refine kG30 ?_; (first | rintro _ _ ⟨rfl, rfl⟩ | rintro _ _ ⟨_, rfl, rfl⟩ | rintro _ _ ⟨_, _, ⟨_, _⟩, rfl, rfl⟩); try refine ⟨sConv, ?_⟩) | refine Dr.two ?_ ?_)
  exact ret1 rfl sRet sConv (⟨m, A, n, c, B, d, r - 1, l, rfl, ⟨⟨hs.g.hn, hs.g.hc, hs.g.hm, by omega⟩, hs.hd⟩, by omega, rfl⟩)
theorem step30_1 (hs : S30 m n c r l d) (x : Op30) (hk : x.kind = 1) (hq : x.q.key ∉ l.map Req.key) (hr : r ≤ 0) (hl : n ≤ 1000) : Tri Try.prog E 67 #[.pointer (some ⟨gb, 0, none⟩), .pointer (some ⟨g, 0, none⟩), .agg x.cs.toArray] (all30 g gb m A n c r l B d) (Step30 g gb n l) := by
  have hdq : decide (x.q.key ∈ l.map Req.key) = false := decide_eq_false hq
  have hn := hs.g.hn
  obtain ⟨hd1, hd2⟩ := hs.hd
  unfold Step30 all30
  refine tri Try.func67 rfl Try.ntmps67 (by simp) ?_
  repeat (first | refine wG30 ?_ | (refine kG30 ?_; (first | rintro _ _ ⟨rfl, rfl⟩ | rintro _ _ ⟨_, rfl, rfl⟩ | rintro _ _ ⟨_, _, ⟨_, _⟩, rfl, rfl⟩); try refine ⟨sConv, ?_⟩) | refine Dr.two ?_ ?_)
  rename_i g5
  refine C.regionA 100000 (.one 0 false (.one 1 false (.one 2 false (.one 3 false (.one 4 false (.one 5 false (.one 6 false (.one 7 true (.one 8 false .nil))))))))) _ (by kernel_rfl) (by kernel_rfl) Conv.refl ?_
  repeat (first | refine wG30 ?_ | (refine kG30 ?_; (first | rintro _ _ ⟨rfl, rfl⟩ | rintro _ _ ⟨_, rfl, rfl⟩ | rintro _ _ ⟨_, _, ⟨_, _⟩, rfl, rfl⟩); try refine ⟨sConv, ?_⟩) | refine Dr.two ?_ ?_)
  refine Dr.go rfl (by rintro k ⟨⟩ <;> decide) sGon (S.call rfl rfl Try.func39 (by kernel_rfl) rfl sPicks (fun E' hE => has30 E' B n d l x.q.key sRd) ?_)
  rw [hdq]
  rintro e H' ⟨rfl, rfl⟩
  refine ⟨_, rfl, _, sCat, sConv, ?_⟩
  repeat (first | refine wG30 ?_ | (refine kG30 ?_; (first | rintro _ _ ⟨rfl, rfl⟩ | rintro _ _ ⟨_, rfl, rfl⟩ | rintro _ _ ⟨_, _, ⟨_, _⟩, rfl, rfl⟩); try refine ⟨sConv, ?_⟩) | refine Dr.two ?_ ?_)
  refine C.regionA 11 (.one 0 false (.one 1 false (.one 2 false (.one 3 false (.one 4 false (.one 5 false (.one 6 false (.one 7 true (.one 8 true (.one 9 false (.one 10 false (.one 11 true .nil)))))))))))) ([bk gb B n d r, blk g5 72 x.cs]) (by kernel_rfl) (by kernel_rfl) sConv ?_
  repeat (first | refine wG30 ?_ | (refine kG30 ?_; (first | rintro _ _ ⟨rfl, rfl⟩ | rintro _ _ ⟨_, rfl, rfl⟩ | rintro _ _ ⟨_, _, ⟨_, _⟩, rfl, rfl⟩); try refine ⟨sConv, ?_⟩) | refine Dr.two ?_ ?_)
  rename_i B' d' h1 h2
  refine L.step (by decide) (S.call rfl rfl Try.func37 (by kernel_rfl) rfl sPicks (fun E' hE => gdo_new E' g m A n c r l hs.g x.q hq hr hl) ?_)
  unfold gst
  rintro e H' ⟨m', A', c', rfl, hG, rfl⟩
  refine ⟨_, rfl, _, sCat, ?_⟩
  repeat (first | refine wG30 ?_ | (refine kG30 ?_; (first | rintro _ _ ⟨rfl, rfl⟩ | rintro _ _ ⟨_, rfl, rfl⟩ | rintro _ _ ⟨_, _, ⟨_, _⟩, rfl, rfl⟩); try refine ⟨sConv, ?_⟩) | refine Dr.two ?_ ?_)
  exact ret1 rfl sRet sConv (⟨m', A', n + 1, c', B', d', r, l ++ [x.q], rfl, ⟨hG, ⟨h1, h2⟩⟩, by omega, rfl⟩)
theorem step30 (hs : S30 m n c r l d) (x : Op30) (hl : n ≤ 1000) : Tri Try.prog E 67 #[.pointer (some ⟨gb, 0, none⟩), .pointer (some ⟨g, 0, none⟩), .agg x.cs.toArray] (all30 g gb m A n c r l B d) (Step30 g gb n l) := by
  by_cases h2 : x.kind = 2
  · exact step30_2 E g gb m A n c r l B d hs x h2
  by_cases h1 : x.kind = 1
  · by_cases hq : x.q.key ∈ l.map Req.key
    · exact step30_1y E g gb m A n c r l B d hs x h1 hq
    by_cases hr : 0 < r
    · exact step30_1n E g gb m A n c r l B d hs x h1 hq hr
    · exact step30_1 E g gb m A n c r l B d hs x h1 hq (by omega) hl
  · exact step30_0 E g gb m A n c r l B d hs x h2 h1
end
end Go.Proofs.Ytbnfpmdieiknmaa.Sep
