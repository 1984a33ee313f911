/- gate: requests, what is told; by parts of memory. -/
import Derived.Test.YtbnfpmdieiknmaaGate1
namespace Go.Proofs.Ytbnfpmdieiknmaa.Sep
open Go.RowKit Go.Proofs.Ytbnfpmdieiknmaa.Reg
open Go.Proofs.Ytbnfpmdieiknmaa.Mem hiding Rd Own
-- types: reqT op30T
-- recs: idnT_rec effT_rec keyT_rec reqT_rec op30T_rec gate_rec book_rec
-- eqs: idnT_eqa effT_eqa keyT_eqa reqT_eqa
-- funcs
-- maps
set_option maxRecDepth 100000
set_option maxHeartbeats 8000000
section
variable (E : Env)
theorem gdo_nil (q : Req) : Tri Try.prog E 37 #[.pointer none, .agg q.cs.toArray] [] fun e H' => e = .returned (.bool false) ∧ H' = [] := by
  refine tri Try.func37 rfl Try.ntmps37 (by simp) ?_
  repeat (first | refine wG30 ?_ | (refine kG30 ?_; (first | rintro _ _ ⟨rfl, rfl⟩ | rintro _ _ ⟨_, rfl, rfl⟩ | rintro _ _ ⟨_, _, ⟨_, _⟩, rfl, rfl⟩); try refine ⟨sConv, ?_⟩) | refine Dr.two ?_ ?_)
  exact ret1 rfl sRet sConv (⟨rfl, rfl⟩)
theorem grefuse_nil (x : Int) : Tri Try.prog E 36 #[.pointer none, .int .i64 x] [] fun e H' => e = .returned (.tuple #[]) ∧ H' = [] := by
  refine tri Try.func36 rfl Try.ntmps36 (by simp) ?_
  repeat (first | refine wG30 ?_ | (refine kG30 ?_; (first | rintro _ _ ⟨rfl, rfl⟩ | rintro _ _ ⟨_, rfl, rfl⟩ | rintro _ _ ⟨_, _, ⟨_, _⟩, rfl, rfl⟩); try refine ⟨sConv, ?_⟩) | refine Dr.two ?_ ?_)
  exact end0 rfl sConv (⟨rfl, rfl⟩)
theorem grefusing_nil : Tri Try.prog E 51 #[.pointer none] [] fun e H' => e = .returned (.int .i64 0) ∧ H' = [] := by
  refine tri Try.func51 rfl Try.ntmps51 (by simp) ?_
  repeat (first | refine wG30 ?_ | (refine kG30 ?_; (first | rintro _ _ ⟨rfl, rfl⟩ | rintro _ _ ⟨_, rfl, rfl⟩ | rintro _ _ ⟨_, _, ⟨_, _⟩, rfl, rfl⟩); try refine ⟨sConv, ?_⟩) | refine Dr.two ?_ ?_)
  exact ret1 rfl sRet sConv (⟨rfl, rfl⟩)
theorem gapplied_nil : Tri Try.prog E 38 #[.pointer none] [] fun e H' => e = .returned (.slice none 0 0) ∧ H' = [] := by
  refine tri Try.func38 rfl Try.ntmps38 (by simp) ?_
  repeat (first | refine wG30 ?_ | (refine kG30 ?_; (first | rintro _ _ ⟨rfl, rfl⟩ | rintro _ _ ⟨_, rfl, rfl⟩ | rintro _ _ ⟨_, _, ⟨_, _⟩, rfl, rfl⟩); try refine ⟨sConv, ?_⟩) | refine Dr.two ?_ ?_)
  exact ret1 rfl sRet sConv (⟨rfl, rfl⟩)
theorem gclone_nil : Tri Try.prog E 48 #[.pointer none] [] fun e H' => e = .returned (.pointer none) ∧ H' = [] := by
  refine tri Try.func48 rfl Try.ntmps48 (by simp) ?_
  repeat (first | refine wG30 ?_ | (refine kG30 ?_; (first | rintro _ _ ⟨rfl, rfl⟩ | rintro _ _ ⟨_, rfl, rfl⟩ | rintro _ _ ⟨_, _, ⟨_, _⟩, rfl, rfl⟩); try refine ⟨sConv, ?_⟩) | refine Dr.two ?_ ?_)
  exact ret1 rfl sRet sConv (⟨rfl, rfl⟩)
/-- a copy of requests -/
theorem sclone30 (A : Option Addr) (n c : Nat) (l : List Req) (hr : Rd E reqT A n c l) (hl : n ≤ 1000) : Tri Try.prog E 70 #[.slice A n c] [] fun r H' => ∃ A' c', r = .returned (.slice A' n c') ∧ (n ≤ c' ∧ c' ≤ maxLen) ∧ H' = [own reqT A' n c' l] := by
  refine tri Try.func70 rfl Try.ntmps70 (by simp) ?_
  cases A with
  | none =>
    obtain ⟨rfl, rfl⟩ := hr.none
    repeat (first | refine wG30 ?_ | (refine kG30 ?_; (first | rintro _ _ ⟨rfl, rfl⟩ | rintro _ _ ⟨_, rfl, rfl⟩ | rintro _ _ ⟨_, _, ⟨_, _⟩, rfl, rfl⟩); try refine ⟨sConv, ?_⟩) | refine Dr.two ?_ ?_)
    exact ret1 rfl sRet (Conv.nil reqT) ⟨_, _, rfl, ⟨Nat.le_refl _, Nat.zero_le _⟩, rfl⟩
  | some a =>
    repeat (first | refine wG30 ?_ | (refine kG30 ?_; (first | rintro _ _ ⟨rfl, rfl⟩ | rintro _ _ ⟨_, rfl, rfl⟩ | rintro _ _ ⟨_, _, ⟨_, _⟩, rfl, rfl⟩); try refine ⟨sConv, ?_⟩) | refine Dr.two ?_ ?_)
    exact ret1 rfl sRet sConv (⟨_, _, rfl, ⟨by assumption, by assumption⟩, rfl⟩)
variable (g : Nat) (m : Option Nat) (A : Option Addr) (n c : Nat) (r : Int) (l : List Req)
abbrev gst (g : Nat) (m : Option Nat) (A : Option Addr) (n c : Nat) (r : Int) (l : List Req) : List Asn := [gt g m A n c r, mpA m (l.map Req.key), own reqT A n c l]
structure G30 (m : Option Nat) (n c : Nat) (r : Int) (l : List Req) : Prop where
  hn : n = l.length
  hc : n ≤ c ∧ c ≤ maxLen
  hm : m = none → l = []
  hr : 0 ≤ r ∧ r ≤ 255
theorem grefusing : Tri Try.prog E 51 #[.pointer (some ⟨g, 0, none⟩)] [gt g m A n c r] fun e H' => e = .returned (.int .i64 r) ∧ H' = [gt g m A n c r] := by
  refine tri Try.func51 rfl Try.ntmps51 (by simp) ?_
  repeat (first | refine wG30 ?_ | (refine kG30 ?_; (first | rintro _ _ ⟨rfl, rfl⟩ | rintro _ _ ⟨_, rfl, rfl⟩ | rintro _ _ ⟨_, _, ⟨_, _⟩, rfl, rfl⟩); try refine ⟨sConv, ?_⟩) | refine Dr.two ?_ ?_)
  exact ret1 rfl sRet sConv (⟨rfl, rfl⟩)
theorem grefuse (x : Int) : Tri Try.prog E 36 #[.pointer (some ⟨g, 0, none⟩), .int .i64 x] [gt g m A n c r] fun e H' => e = .returned (.tuple #[]) ∧ H' = [gt g m A n c (if x < 0 then 0 else if 255 < x then 255 else x)] := by
  refine tri Try.func36 rfl Try.ntmps36 (by simp) ?_
  repeat (first | refine wG30 ?_ | (refine kG30 ?_; (first | rintro _ _ ⟨rfl, rfl⟩ | rintro _ _ ⟨_, rfl, rfl⟩ | rintro _ _ ⟨_, _, ⟨_, _⟩, rfl, rfl⟩); try refine ⟨sConv, ?_⟩) | refine Dr.two ?_ ?_)
  refine L.step (by decide) (S.call rfl rfl Try.func61 (by kernel_rfl) rfl sPicks (fun E' hE => clamp30 E' x 0 255 _ rfl) ?_)
  rintro e H' ⟨rfl, rfl⟩
  refine ⟨_, rfl, _, sCat, ?_⟩
  repeat (first | refine wG30 ?_ | (refine kG30 ?_; (first | rintro _ _ ⟨rfl, rfl⟩ | rintro _ _ ⟨_, rfl, rfl⟩ | rintro _ _ ⟨_, _, ⟨_, _⟩, rfl, rfl⟩); try refine ⟨sConv, ?_⟩) | refine Dr.two ?_ ?_)
  exact end0 rfl sConv (⟨rfl, rfl⟩)
theorem gapplied (hr : Rd E reqT A n c l) (hl : n ≤ 1000) : Tri Try.prog E 38 #[.pointer (some ⟨g, 0, none⟩)] [gt g m A n c r] fun e H' => ∃ A' c', e = .returned (.slice A' n c') ∧ (n ≤ c' ∧ c' ≤ maxLen) ∧ H' = [gt g m A n c r, own reqT A' n c' l] := by
  refine tri Try.func38 rfl Try.ntmps38 (by simp) ?_
  repeat (first | refine wG30 ?_ | (refine kG30 ?_; (first | rintro _ _ ⟨rfl, rfl⟩ | rintro _ _ ⟨_, rfl, rfl⟩ | rintro _ _ ⟨_, _, ⟨_, _⟩, rfl, rfl⟩); try refine ⟨sConv, ?_⟩) | refine Dr.two ?_ ?_)
  refine L.step (by decide) (S.call rfl rfl Try.func70 (by kernel_rfl) rfl sPicks (fun E' hE => sclone30 E' A n c l (hr.sub hE) hl) ?_)
  rintro e H' ⟨A', c', rfl, h1, rfl⟩
  refine ⟨_, rfl, _, sCat, ?_⟩
  repeat (first | refine wG30 ?_ | (refine kG30 ?_; (first | rintro _ _ ⟨rfl, rfl⟩ | rintro _ _ ⟨_, rfl, rfl⟩ | rintro _ _ ⟨_, _, ⟨_, _⟩, rfl, rfl⟩); try refine ⟨sConv, ?_⟩) | refine Dr.two ?_ ?_)
  exact ret1 rfl sRet sConv (⟨_, _, rfl, h1, rfl⟩)
theorem gdo_yes (q : Req) (hq : q.key ∈ l.map Req.key) : Tri Try.prog E 37 #[.pointer (some ⟨g, 0, none⟩), .agg q.cs.toArray] (gst g m A n c r l) fun e H' => e = .returned (.bool true) ∧ H' = gst g m A n c r l := by
  have hd : decide (q.key ∈ l.map Req.key) = true := decide_eq_true hq
  unfold gst
  refine tri Try.func37 rfl Try.ntmps37 (by simp) ?_
  repeat (first | refine wG30 ?_ | (refine kG30 ?_; (first | rintro _ _ ⟨rfl, rfl⟩ | rintro _ _ ⟨_, rfl, rfl⟩ | rintro _ _ ⟨_, _, ⟨_, _⟩, rfl, rfl⟩); try refine ⟨sConv, ?_⟩) | refine Dr.two ?_ ?_)
  refine L.step (by decide) (S.call rfl rfl Try.func49 (by kernel_rfl) rfl sPicks (fun E' hE => ghas E' g m A n c r (l.map Req.key) q.key) ?_)
  rintro e H' ⟨rfl, rfl⟩
  refine ⟨_, rfl, _, sCat, ?_⟩
  repeat (first | refine wG30 ?_ | (refine kG30 ?_; (first | rintro _ _ ⟨rfl, rfl⟩ | rintro _ _ ⟨_, rfl, rfl⟩ | rintro _ _ ⟨_, _, ⟨_, _⟩, rfl, rfl⟩); try refine ⟨sConv, ?_⟩) | refine Dr.two ?_ ?_)
  exact ret1 rfl sRet sConv (⟨rfl, rfl⟩)
theorem gdo_no (q : Req) (hq : q.key ∉ l.map Req.key) (hr : 0 < r ∧ r ≤ 255) : Tri Try.prog E 37 #[.pointer (some ⟨g, 0, none⟩), .agg q.cs.toArray] (gst g m A n c r l) fun e H' => e = .returned (.bool false) ∧ H' = gst g m A n c (r - 1) l := by
  have hd : decide (q.key ∈ l.map Req.key) = false := decide_eq_false hq
  obtain ⟨hr1, hr2⟩ := hr
  unfold gst
  refine tri Try.func37 rfl Try.ntmps37 (by simp) ?_
  repeat (first | refine wG30 ?_ | (refine kG30 ?_; (first | rintro _ _ ⟨rfl, rfl⟩ | rintro _ _ ⟨_, rfl, rfl⟩ | rintro _ _ ⟨_, _, ⟨_, _⟩, rfl, rfl⟩); try refine ⟨sConv, ?_⟩) | refine Dr.two ?_ ?_)
  refine L.step (by decide) (S.call rfl rfl Try.func49 (by kernel_rfl) rfl sPicks (fun E' hE => ghas E' g m A n c r (l.map Req.key) q.key) ?_)
  rintro e H' ⟨rfl, rfl⟩
  refine ⟨_, rfl, _, sCat, ?_⟩
  repeat (first | refine wG30 ?_ | (refine kG30 ?_; (first | rintro _ _ ⟨rfl, rfl⟩ | rintro _ _ ⟨_, rfl, rfl⟩ | rintro _ _ ⟨_, _, ⟨_, _⟩, rfl, rfl⟩); try refine ⟨sConv, ?_⟩) | refine Dr.two ?_ ?_)
  exact ret1 rfl sRet sConv (⟨rfl, rfl⟩)
theorem gdo_new (hs : G30 m n c r l) (q : Req) (hq : q.key ∉ l.map Req.key) (hr : r ≤ 0) (hl : n ≤ 1000) : Tri Try.prog E 37 #[.pointer (some ⟨g, 0, none⟩), .agg q.cs.toArray] (gst g m A n c r l) fun e H' => ∃ m' A' c', e = .returned (.bool true) ∧ G30 m' (n + 1) c' r (l ++ [q]) ∧ H' = gst g m' A' (n + 1) c' r (l ++ [q]) := by
  have hd : decide (q.key ∈ l.map Req.key) = false := decide_eq_false hq
  have hmap : (l ++ [q]).map Req.key = l.map Req.key ++ [q.key] := by rw [List.map_append]; rfl
  have hnew : ∀ m' c', m' ≠ none → (n + 1 ≤ c' ∧ c' ≤ maxLen) → G30 m' (n + 1) c' r (l ++ [q]) := fun m' c' h1 h2 => ⟨by rw [List.length_append, ← hs.hn]; rfl, h2, fun h => absurd h h1, hs.hr⟩
  unfold gst
  rw [hmap]
  refine tri Try.func37 rfl Try.ntmps37 (by simp) ?_
  cases m with
  | none =>
    obtain rfl := hs.hm rfl
    have hq0 : q.key ∉ ([] : List Keyv) := fun h => (List.not_mem_nil h).elim
    simp only [List.map_nil, List.nil_append] at hnew hd ⊢
    repeat (first | refine wG30 ?_ | (refine kG30 ?_; (first | rintro _ _ ⟨rfl, rfl⟩ | rintro _ _ ⟨_, rfl, rfl⟩ | rintro _ _ ⟨_, _, ⟨_, _⟩, rfl, rfl⟩); try refine ⟨sConv, ?_⟩) | refine Dr.two ?_ ?_)
    refine L.step (by decide) (S.call rfl rfl Try.func49 (by kernel_rfl) rfl sPicks (fun E' hE => ghas E' g none A n c r [] q.key) ?_)
    rintro e H' ⟨rfl, rfl⟩
    refine ⟨_, rfl, _, sCat, ?_⟩
    repeat (first | refine wG30 ?_ | (refine kG30 ?_; (first | rintro _ _ ⟨rfl, rfl⟩ | rintro _ _ ⟨_, rfl, rfl⟩ | rintro _ _ ⟨_, _, ⟨_, _⟩, rfl, rfl⟩); try refine ⟨sConv, ?_⟩) | refine Dr.two ?_ ?_)
    rename_i g5 g2
    refine C.regionA 6 (.one 0 false (.one 1 false (.one 2 false (.one 3 false (.one 4 false (.one 5 false (.one 6 true .nil))))))) _ (by kernel_rfl) (by kernel_rfl) Conv.refl ?_
    repeat (first | refine wG30 ?_ | (refine kG30 ?_; (first | rintro _ _ ⟨rfl, rfl⟩ | rintro _ _ ⟨_, rfl, rfl⟩ | rintro _ _ ⟨_, _, ⟨_, _⟩, rfl, rfl⟩); try refine ⟨sConv, ?_⟩) | refine Dr.two ?_ ?_)
    refine C.regionA 10 (.one 0 false (.one 1 false (.one 2 false (.one 3 false (.one 4 false (.one 5 false (.one 6 true (.one 7 true (.one 8 false (.one 9 false (.one 10 true .nil))))))))))) ([gt g (some g2) A n c r, blk g5 70 q.cs]) (by kernel_rfl) (by kernel_rfl) sConv ?_
    repeat (first | refine wG30 ?_ | (refine kG30 ?_; (first | rintro _ _ ⟨rfl, rfl⟩ | rintro _ _ ⟨_, rfl, rfl⟩ | rintro _ _ ⟨_, _, ⟨_, _⟩, rfl, rfl⟩); try refine ⟨sConv, ?_⟩) | refine Dr.two ?_ ?_)
    rename_i A' c' h1 h2
    exact ret1 rfl sRet sConv (⟨some g2, A', c', rfl, hnew _ _ (fun h => by cases h) ⟨h1, h2⟩, rfl⟩)
  | some g2 =>
    repeat (first | refine wG30 ?_ | (refine kG30 ?_; (first | rintro _ _ ⟨rfl, rfl⟩ | rintro _ _ ⟨_, rfl, rfl⟩ | rintro _ _ ⟨_, _, ⟨_, _⟩, rfl, rfl⟩); try refine ⟨sConv, ?_⟩) | refine Dr.two ?_ ?_)
    refine L.step (by decide) (S.call rfl rfl Try.func49 (by kernel_rfl) rfl sPicks (fun E' hE => ghas E' g (some g2) A n c r (l.map Req.key) q.key) ?_)
    rintro e H' ⟨rfl, rfl⟩
    refine ⟨_, rfl, _, sCat, ?_⟩
    repeat (first | refine wG30 ?_ | (refine kG30 ?_; (first | rintro _ _ ⟨rfl, rfl⟩ | rintro _ _ ⟨_, rfl, rfl⟩ | rintro _ _ ⟨_, _, ⟨_, _⟩, rfl, rfl⟩); try refine ⟨sConv, ?_⟩) | refine Dr.two ?_ ?_)
    rename_i g5
    refine C.regionA 6 (.one 0 false (.one 1 false (.one 2 false (.one 3 false (.one 4 false (.one 5 false (.one 6 true .nil))))))) _ (by kernel_rfl) (by kernel_rfl) Conv.refl ?_
    repeat (first | refine wG30 ?_ | (refine kG30 ?_; (first | rintro _ _ ⟨rfl, rfl⟩ | rintro _ _ ⟨_, rfl, rfl⟩ | rintro _ _ ⟨_, _, ⟨_, _⟩, rfl, rfl⟩); try refine ⟨sConv, ?_⟩) | refine Dr.two ?_ ?_)
    refine C.regionA 10 (.one 0 false (.one 1 false (.one 2 false (.one 3 false (.one 4 false (.one 5 false (.one 6 true (.one 7 true (.one 8 false (.one 9 false (.one 10 true .nil))))))))))) ([gt g (some g2) A n c r, blk g5 70 q.cs]) (by kernel_rfl) (by kernel_rfl) sConv ?_
    repeat (first | refine wG30 ?_ | (refine kG30 ?_; (first | rintro _ _ ⟨rfl, rfl⟩ | rintro _ _ ⟨_, rfl, rfl⟩ | rintro _ _ ⟨_, _, ⟨_, _⟩, rfl, rfl⟩); try refine ⟨sConv, ?_⟩) | refine Dr.two ?_ ?_)
    rename_i A' c' h1 h2
    exact ret1 rfl sRet sConv (⟨some g2, A', c', rfl, hnew _ _ (fun h => by cases h) ⟨h1, h2⟩, rfl⟩)
/-! ### what was not undone -/
theorem gidx (hr : Rd E reqT A n c l) (B : Option Addr) (k d : Nat) (x : Int) (ks : List Keyv) :
    Tri Try.prog E 88 #[.slice A n c, .func (.func 77) #[.pointer (some ⟨g, 0, none⟩)] #[]] [gt g m B k d x, mpA m ks] fun e H' => (∃ i : Int, e = .returned (.int .i64 i) ∧ ((i = -1 ∧ ∀ y ∈ l, lostP ks y = false) ∨ ∃ j : Nat, i = j ∧ j < n ∧ (∃ y, l[j]? = some y ∧ lostP ks y = true) ∧ ∀ (p : Nat) y, p < j → l[p]? = some y → lostP ks y = false)) ∧ H' = [gt g m B k d x, mpA m ks] := by
  have hn := hr.len
  have hcap := hr.cap
  refine tri Try.func88 rfl Try.ntmps88 (by simp) ?_
  repeat (first | refine wG30 ?_ | (refine kG30 ?_; (first | rintro _ _ ⟨rfl, rfl⟩ | rintro _ _ ⟨_, rfl, rfl⟩ | rintro _ _ ⟨_, _, ⟨_, _⟩, rfl, rfl⟩); try refine ⟨sConv, ?_⟩) | refine Dr.two ?_ ?_)
  refine C.loop (X := Nat) (fun i => [(0, .slice A n c), (1, .func (.func 77) #[.pointer (some ⟨g, 0, none⟩)] #[]), (7, .int .i64 n), (8, .int .i64 i)]) (fun _ => [gt g m B k d x, mpA m ks]) (fun i => i ≤ n ∧ ∀ (j : Nat) y, j < i → l[j]? = some y → lostP ks y = false) (fun i => n - i) 0 sHolds Conv.refl ⟨Nat.zero_le _, fun j y hj => by omega⟩ ?_
  rintro i G ⟨hi, hall⟩
  by_cases hlt : i < n
  · have hx : l[i]? = some l[i] := List.getElem?_eq_getElem (by omega)
    generalize l[i] = x at hx
    have hmax : maxLen = 9223372036854775807 := rfl
    repeat (first | refine wG30 ?_ | (refine kG30 ?_; (first | rintro _ _ ⟨rfl, rfl⟩ | rintro _ _ ⟨_, rfl, rfl⟩ | rintro _ _ ⟨_, _, ⟨_, _⟩, rfl, rfl⟩); try refine ⟨sConv, ?_⟩) | refine Dr.two ?_ ?_)
    refine L.step (by decide) (S.callF rfl rfl rfl rfl Try.func77 (by kernel_rfl) rfl sPicks (fun E' hE => glost E' g m B k d _ ks x) ?_)
    rintro r H' ⟨rfl, rfl⟩
    refine ⟨_, rfl, _, sCat, ?_⟩
    cases hp : lostP ks x
    · repeat (first | refine wG30 ?_ | (refine kG30 ?_; (first | rintro _ _ ⟨rfl, rfl⟩ | rintro _ _ ⟨_, rfl, rfl⟩ | rintro _ _ ⟨_, _, ⟨_, _⟩, rfl, rfl⟩); try refine ⟨sConv, ?_⟩) | refine Dr.two ?_ ?_)
      refine ⟨i + 1, sHolds, Conv.refl, ⟨by omega, fun j y hj hy => ?_⟩, by omega⟩
      by_cases hji : j = i
      · subst hji; rw [hx] at hy; injection hy with hy; subst hy; exact hp
      · exact hall j y (by omega) hy
    · repeat (first | refine wG30 ?_ | (refine kG30 ?_; (first | rintro _ _ ⟨rfl, rfl⟩ | rintro _ _ ⟨_, rfl, rfl⟩ | rintro _ _ ⟨_, _, ⟨_, _⟩, rfl, rfl⟩); try refine ⟨sConv, ?_⟩) | refine Dr.two ?_ ?_)
      exact ret1 rfl sRet sConv (⟨⟨i, rfl, .inr ⟨i, rfl, hlt, ⟨_, hx, hp⟩, hall⟩⟩, rfl⟩)
  · obtain rfl : i = n := by omega
    repeat (first | refine wG30 ?_ | (refine kG30 ?_; (first | rintro _ _ ⟨rfl, rfl⟩ | rintro _ _ ⟨_, rfl, rfl⟩ | rintro _ _ ⟨_, _, ⟨_, _⟩, rfl, rfl⟩); try refine ⟨sConv, ?_⟩) | refine Dr.two ?_ ?_)
    exact ret1 rfl sRet sConv (⟨⟨-1, rfl, .inl ⟨rfl, fun y hy => by obtain ⟨j, hj, rfl⟩ := List.getElem_of_mem hy; exact hall j _ (by omega) (List.getElem?_eq_getElem hj)⟩⟩, rfl⟩)
theorem filter_take_succ {p : Req → Bool} {l : List Req} {j : Nat} {x : Req} (hx : l[j]? = some x) : (l.take (j + 1)).filter p = (l.take j).filter p ++ if p x then [x] else [] := by
  obtain ⟨h, rfl⟩ := List.getElem?_eq_some_iff.1 hx
  rw [List.take_succ_eq_append_getElem h, List.filter_append]
  congr 1
  cases hp : p l[j] <;> simp [hp]
theorem gdel (hn : n = l.length) (hc : n ≤ c ∧ c ≤ maxLen) (hl : n ≤ 1000) (B : Option Addr) (k d : Nat) (x : Int) (ks : List Keyv) :
    Tri Try.prog E 76 #[.slice A n c, .func (.func 77) #[.pointer (some ⟨g, 0, none⟩)] #[]] [own reqT A n c l, gt g m B k d x, mpA m ks] fun e H' => ∃ n', e = .returned (.slice A n' c) ∧ n' ≤ n ∧ n' = (l.filter fun q => !lostP ks q).length ∧ H' = [own reqT A n' c (l.filter fun q => !lostP ks q), gt g m B k d x, mpA m ks] := by
  have hmax : maxLen = 9223372036854775807 := rfl
  obtain ⟨hc1, hc2⟩ := hc
  refine tri Try.func76 rfl Try.ntmps76 (by simp) ?_
  repeat (first | refine wG30 ?_ | (refine kG30 ?_; (first | rintro _ _ ⟨rfl, rfl⟩ | rintro _ _ ⟨_, rfl, rfl⟩ | rintro _ _ ⟨_, _, ⟨_, _⟩, rfl, rfl⟩); try refine ⟨sConv, ?_⟩) | refine Dr.two ?_ ?_)
  refine L.step (by decide) (S.call rfl rfl Try.func88 (by kernel_rfl) rfl sPicks (fun E' hE => gidx E' g m A n c l sRd B k d x ks) ?_)
  rintro r H' ⟨⟨i, rfl, ⟨rfl, hall⟩ | ⟨i, rfl, hi, ⟨y, hy, hpy⟩, hall⟩⟩, rfl⟩
  · refine ⟨_, rfl, _, sCat, ?_⟩
    have hf : (l.filter fun q => !lostP ks q) = l := List.filter_eq_self.2 fun a ha => by rw [hall a ha]; rfl
    rw [hf]
    repeat (first | refine wG30 ?_ | (refine kG30 ?_; (first | rintro _ _ ⟨rfl, rfl⟩ | rintro _ _ ⟨_, rfl, rfl⟩ | rintro _ _ ⟨_, _, ⟨_, _⟩, rfl, rfl⟩); try refine ⟨sConv, ?_⟩) | refine Dr.two ?_ ?_)
    exact ret1 rfl sRet sConv (⟨_, rfl, Nat.le_refl _, hn, rfl⟩)
  refine ⟨_, rfl, _, sCat, ?_⟩
  have hs : IntKind.i64.wrap ((i : Int) + 1) = ((i + 1 : Nat) : Int) := by rw [IntWalk.i64_in _ (by omega)]; omega
  have h0 : (l.take (i + 1)).filter (fun q => !lostP ks q) = l.take i := by
    rw [filter_take_succ hy, hpy]
    simp only [Bool.not_true, Bool.false_eq_true, if_false, List.append_nil]
    refine List.filter_eq_self.2 fun a ha => ?_
    obtain ⟨j, hj, rfl⟩ := List.getElem_of_mem ha
    rw [List.getElem_take, hall j _ (by rw [List.length_take] at hj; omega) (List.getElem?_eq_getElem (by rw [List.length_take] at hj; omega))]
    rfl
  have hni : ¬ ((i : Int) = -1) := by omega
  repeat (first | refine wG30 ?_ | (refine kG30 ?_; (first | rintro _ _ ⟨rfl, rfl⟩ | rintro _ _ ⟨_, rfl, rfl⟩ | rintro _ _ ⟨_, _, ⟨_, _⟩, rfl, rfl⟩); try refine ⟨sConv, ?_⟩) | refine Dr.two ?_ ?_)
  refine C.loop (X := Nat × Nat × List Req) (fun s => [(0, .slice A n c), (1, .func (.func 77) #[.pointer (some ⟨g, 0, none⟩)] #[]), (5, .int .i64 s.1), (6, .int .i64 s.2.1)])
    (fun s => [own reqT A n c s.2.2, gt g m B k d x, mpA m ks]) (fun s => s.1 < s.2.1 ∧ s.2.1 ≤ n ∧ s.2.2.length = n ∧ s.2.2.take s.1 = (l.take s.2.1).filter (fun q => !lostP ks q) ∧ s.2.2.drop s.2.1 = l.drop s.2.1) (fun s => n - s.2.1) (i, i + 1, l) sHolds sConv ⟨by dsimp only; omega, by dsimp only; omega, hn.symm, h0.symm, rfl⟩ ?_
  clear h0 hs hni hall hy hpy hi
  rintro ⟨i, j, z⟩ F ⟨hij, hj, hz, htk, hdr⟩
  dsimp only at hij hj hz htk hdr ⊢
  by_cases hlt : j < n
  · obtain ⟨q, hq⟩ : ∃ q, l[j]? = some q := ⟨_, List.getElem?_eq_getElem (by omega)⟩
    have hq2 : z[j]? = some q := by
      have h1 : (z.drop j)[0]? = (l.drop j)[0]? := by rw [hdr]
      rw [List.getElem?_drop, List.getElem?_drop] at h1
      rw [← hq]; exact h1
    have hdr2 : ∀ z' : List Req, z'.drop (j + 1) = (z'.drop j).drop 1 := fun z' => by rw [List.drop_drop]
    repeat (first | refine wG30 ?_ | (refine kG30 ?_; (first | rintro _ _ ⟨rfl, rfl⟩ | rintro _ _ ⟨_, rfl, rfl⟩ | rintro _ _ ⟨_, _, ⟨_, _⟩, rfl, rfl⟩); try refine ⟨sConv, ?_⟩) | refine Dr.two ?_ ?_)
    refine L.step (by decide) (S.callF rfl rfl rfl rfl Try.func77 (by kernel_rfl) rfl sPicks (fun E' hE => glost E' g m B k d x ks q) ?_)
    rintro r H' ⟨rfl, rfl⟩
    refine ⟨_, rfl, _, sCat, ?_⟩
    cases hp : lostP ks q
    · obtain ⟨w, hw⟩ : ∃ w, z[i]? = some w := ⟨_, List.getElem?_eq_getElem (by omega)⟩
      repeat (first | refine wG30 ?_ | (refine kG30 ?_; (first | rintro _ _ ⟨rfl, rfl⟩ | rintro _ _ ⟨_, rfl, rfl⟩ | rintro _ _ ⟨_, _, ⟨_, _⟩, rfl, rfl⟩); try refine ⟨sConv, ?_⟩) | refine Dr.two ?_ ?_)
      refine ⟨(i + 1, j + 1, z.set i q), sHolds, sConv, ⟨by dsimp only; omega, by dsimp only; omega, by dsimp only; rw [List.length_set]; exact hz, ?_, ?_⟩, by dsimp only; omega⟩
      · dsimp only
        rw [filter_take_succ hq, hp, ← htk, List.take_succ_eq_append_getElem (by rw [List.length_set]; omega), List.take_set_of_le (Nat.le_refl _)]
        simp
      · dsimp only
        rw [List.drop_set_of_lt (by omega), hdr2, hdr, List.drop_drop]
    · repeat (first | refine wG30 ?_ | (refine kG30 ?_; (first | rintro _ _ ⟨rfl, rfl⟩ | rintro _ _ ⟨_, rfl, rfl⟩ | rintro _ _ ⟨_, _, ⟨_, _⟩, rfl, rfl⟩); try refine ⟨sConv, ?_⟩) | refine Dr.two ?_ ?_)
      refine ⟨(i, j + 1, z), sHolds, sConv, ⟨by dsimp only; omega, by dsimp only; omega, hz, ?_, ?_⟩, by dsimp only; omega⟩
      · dsimp only
        rw [filter_take_succ hq, hp, ← htk]
        simp
      · dsimp only
        rw [hdr2, hdr, List.drop_drop]
  · obtain rfl : j = n := by omega
    have hfin : z.take i = l.filter (fun q => !lostP ks q) := by rw [htk, List.take_of_length_le (by omega)]
    have hil : i = (l.filter fun q => !lostP ks q).length := by rw [← hfin, List.length_take]; omega
    have hjm : j ≤ maxLen := by omega
    repeat (first | refine wG30 ?_ | (refine kG30 ?_; (first | rintro _ _ ⟨rfl, rfl⟩ | rintro _ _ ⟨_, rfl, rfl⟩ | rintro _ _ ⟨_, _, ⟨_, _⟩, rfl, rfl⟩); try refine ⟨sConv, ?_⟩) | refine Dr.two ?_ ?_)
    apply L.conv; (· exact Conv.ownFront (T := reqT) (A := A) (n := j) (c := c) (k := i) (l := z) (by omega) hfin sRepl)
    refine L.step0K (S.clearK (T := reqT) (z := reqT_z) (j := i) (k := j - i) rfl rfl rfl rfl (Nat.le_refl _) (by omega) (by omega) sRepl) ?_
    rintro _ _ ⟨rfl, rfl⟩
    repeat (first | refine wG30 ?_ | (refine kG30 ?_; (first | rintro _ _ ⟨rfl, rfl⟩ | rintro _ _ ⟨_, rfl, rfl⟩ | rintro _ _ ⟨_, _, ⟨_, _⟩, rfl, rfl⟩); try refine ⟨sConv, ?_⟩) | refine Dr.two ?_ ?_)
    refine L.val (by decide) (fun _ _ => V.slice rfl rfl rfl (S.upto (j := i) rfl rfl rfl (by omega))) ?_
    repeat (first | refine wG30 ?_ | (refine kG30 ?_; (first | rintro _ _ ⟨rfl, rfl⟩ | rintro _ _ ⟨_, rfl, rfl⟩ | rintro _ _ ⟨_, _, ⟨_, _⟩, rfl, rfl⟩); try refine ⟨sConv, ?_⟩) | refine Dr.two ?_ ?_)
    exact ret1 rfl sRet sConv (⟨i, rfl, by omega, hil, rfl⟩)
end
end Go.Proofs.Ytbnfpmdieiknmaa.Sep
