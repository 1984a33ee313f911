/- The document's check of a message. -/
import Derived.Test.YtihblcljkndpgaaMsg3
namespace Go.Proofs.Ytihblcljkndpgaa.Sep
open Go.RowKit Go.Proofs.Ytihblcljkndpgaa.Reg
open Go.Proofs.Ytihblcljkndpgaa.Mem hiding Rd Own
-- types: octT idnT chgT intT
-- recs: rec_Reader idnT_rec effT_rec chgT_rec keyT_rec mgT_rec rgT_rec wrT_rec rdT_rec
-- eqs: idnT_eqa effT_eqa chgT_eqa keyT_eqa
-- eqrs: k4_eqr
-- zeros: z_octs z_rdr
-- funcs
-- flds
-- arrp
set_option maxRecDepth 100000
set_option maxHeartbeats 6000000
theorem known_at {m : Mg} {A : Option Addr} {n c : Nat} {B : Option Addr} {k d : Nat} {i : Nat} {x : Int} (h : m.ks[i]? = some x) : (mcs m A n c B k d)[3 + i]? = some (.int .i64 x) := by
  match i, h with
  | 0, h => injection h with h; rw [← h]; rfl
  | 1, h => injection h with h; rw [← h]; rfl
  | 2, h => injection h with h; rw [← h]; rfl
  | 3, h => injection h with h; rw [← h]; rfl
  | i + 4, h => simp at h
theorem all_of {α : Type} {p : α → Bool} {l : List α} {n : Nat} (hn : n = l.length) (h : ∀ j y, j < n → l[j]? = some y → p y = true) : l.all p = true := by
  rw [List.all_eq_true]
  intro x hx
  obtain ⟨j, hj, rfl⟩ := List.getElem_of_mem hx
  exact h j _ (by omega) (List.getElem?_eq_getElem hj)
theorem all_no {α : Type} {p : α → Bool} {l : List α} {i : Nat} {x : α} (hx : l[i]? = some x) (hp : p x = false) : l.all p = false := by
  rw [List.all_eq_false]
  obtain ⟨hi, rfl⟩ := List.getElem?_eq_some_iff.1 hx
  exact ⟨_, List.getElem_mem hi, by rw [hp]; simp⟩
theorem all_step {α : Type} {p : α → Bool} {l : List α} {i : Nat} {x : α} (h : ∀ j y, j < i → l[j]? = some y → p y = true) (hx : l[i]? = some x) (hp : p x = true) : ∀ j y, j < i + 1 → l[j]? = some y → p y = true := by
  intro j y hj hy
  by_cases hji : j = i
  · subst hji; rw [hx] at hy; injection hy with hy; subst hy; exact hp
  · exact h j y (by omega) hy
section
variable (E : Env) (m : Mg) (A : Option Addr) (n c : Nat) (B : Option Addr) (k d : Nat)
theorem rrp4 (n : Int) : Tri Try.prog E 80 #[.int .i64 n] [] fun e H' => e = .returned (.bool (rep4 n)) ∧ H' = [] := by
  refine tri Try.func80 rfl Try.ntmps80 (by simp) ?_
  by_cases h1 : 0 ≤ n
  · by_cases h2 : n ≤ 3
    · rw [show rep4 n = true from decide_eq_true ⟨h1, h2⟩]
      have h2' : decide (n ≤ 3) = true := decide_eq_true h2
      repeat (first | refine wMh ?_ | (refine kMh ?_; (first | rintro _ _ ⟨rfl, rfl⟩ | rintro _ _ ⟨_, rfl, rfl⟩ | rintro _ _ ⟨_, _, ⟨_, _⟩, rfl, rfl⟩); try refine ⟨sConv, ?_⟩) | refine Dr.two ?_ ?_)
      rw [h2']
      exact ret1 rfl sRet sConv (⟨rfl, rfl⟩)
    · rw [show rep4 n = false from decide_eq_false (by omega)]
      have h2' : decide (n ≤ 3) = false := decide_eq_false h2
      repeat (first | refine wMh ?_ | (refine kMh ?_; (first | rintro _ _ ⟨rfl, rfl⟩ | rintro _ _ ⟨_, rfl, rfl⟩ | rintro _ _ ⟨_, _, ⟨_, _⟩, rfl, rfl⟩); try refine ⟨sConv, ?_⟩) | refine Dr.two ?_ ?_)
      rw [h2']
      exact ret1 rfl sRet sConv (⟨rfl, rfl⟩)
  · rw [show rep4 n = false from decide_eq_false (by omega)]
    repeat (first | refine wMh ?_ | (refine kMh ?_; (first | rintro _ _ ⟨rfl, rfl⟩ | rintro _ _ ⟨_, rfl, rfl⟩ | rintro _ _ ⟨_, _, ⟨_, _⟩, rfl, rfl⟩); try refine ⟨sConv, ?_⟩) | refine Dr.two ?_ ?_)
    exact ret1 rfl sRet sConv (⟨rfl, rfl⟩)
theorem rmaykey_any (k : Keyv) : Tri Try.prog E 81 #[.agg k.cs.toArray] [] fun e H' => e = .returned (.bool k.may) ∧ H' = [] := by
  refine tri Try.func81 rfl Try.ntmps81 (by simp) ?_
  unfold Keyv.may
  repeat (first | refine wMh ?_ | (refine kMh ?_; (first | rintro _ _ ⟨rfl, rfl⟩ | rintro _ _ ⟨_, rfl, rfl⟩ | rintro _ _ ⟨_, _, ⟨_, _⟩, rfl, rfl⟩); try refine ⟨sConv, ?_⟩) | refine Dr.two ?_ ?_)
  refine L.step (by decide) (S.call rfl rfl Try.func82 (by kernel_rfl) rfl sPicks (fun E' hE => rmay_any E' k.id) ?_)
  rintro e H' ⟨rfl, rfl⟩
  refine ⟨_, rfl, _, sCat, ?_⟩
  cases h1 : k.id.may
  · repeat (first | refine wMh ?_ | (refine kMh ?_; (first | rintro _ _ ⟨rfl, rfl⟩ | rintro _ _ ⟨_, rfl, rfl⟩ | rintro _ _ ⟨_, _, ⟨_, _⟩, rfl, rfl⟩); try refine ⟨sConv, ?_⟩) | refine Dr.two ?_ ?_)
    exact ret1 rfl sRet sConv (⟨rfl, rfl⟩)
  · by_cases h2 : 1 ≤ k.ord
    · have h3 : decide (k.ord ≤ 255) = decide (1 ≤ k.ord ∧ k.ord ≤ 255) := by rw [decide_eq_decide]; exact ⟨fun h => ⟨h2, h⟩, fun h => h.2⟩
      rw [← h3]
      repeat (first | refine wMh ?_ | (refine kMh ?_; (first | rintro _ _ ⟨rfl, rfl⟩ | rintro _ _ ⟨_, rfl, rfl⟩ | rintro _ _ ⟨_, _, ⟨_, _⟩, rfl, rfl⟩); try refine ⟨sConv, ?_⟩) | refine Dr.two ?_ ?_)
      exact ret1 rfl sRet sConv (⟨rfl, rfl⟩)
    · rw [show decide (1 ≤ k.ord ∧ k.ord ≤ 255) = false from decide_eq_false (fun h => h2 h.1)]
      repeat (first | refine wMh ?_ | (refine kMh ?_; (first | rintro _ _ ⟨rfl, rfl⟩ | rintro _ _ ⟨_, rfl, rfl⟩ | rintro _ _ ⟨_, _, ⟨_, _⟩, rfl, rfl⟩); try refine ⟨sConv, ?_⟩) | refine Dr.two ?_ ?_)
      exact ret1 rfl sRet sConv (⟨rfl, rfl⟩)
theorem rparties : Tri Try.prog E 53 #[.agg (mcs m A n c B k d).toArray] [] fun e H' => e = .returned (.bool m.parties) ∧ H' = [] := by
  refine tri Try.func53 rfl Try.ntmps53 (by simp) ?_
  unfold Mg.parties
  by_cases h3 : m.kind = 3
  · rw [if_pos h3]
    repeat (first | refine wMh ?_ | (refine kMh ?_; (first | rintro _ _ ⟨rfl, rfl⟩ | rintro _ _ ⟨_, rfl, rfl⟩ | rintro _ _ ⟨_, _, ⟨_, _⟩, rfl, rfl⟩); try refine ⟨sConv, ?_⟩) | refine Dr.two ?_ ?_)
    refine L.step (by decide) (S.call rfl rfl Try.func80 (by kernel_rfl) rfl sPicks (fun E' hE => rrp4 E' m.fr) ?_)
    cases hf : rep4 m.fr
    · rintro e H' ⟨rfl, rfl⟩
      refine ⟨_, rfl, _, sCat, ?_⟩
      repeat (first | refine wMh ?_ | (refine kMh ?_; (first | rintro _ _ ⟨rfl, rfl⟩ | rintro _ _ ⟨_, rfl, rfl⟩ | rintro _ _ ⟨_, _, ⟨_, _⟩, rfl, rfl⟩); try refine ⟨sConv, ?_⟩) | refine Dr.two ?_ ?_)
      exact ret1 rfl sRet sConv (⟨rfl, rfl⟩)
    · rintro e H' ⟨rfl, rfl⟩
      refine ⟨_, rfl, _, sCat, ?_⟩
      repeat (first | refine wMh ?_ | (refine kMh ?_; (first | rintro _ _ ⟨rfl, rfl⟩ | rintro _ _ ⟨_, rfl, rfl⟩ | rintro _ _ ⟨_, _, ⟨_, _⟩, rfl, rfl⟩); try refine ⟨sConv, ?_⟩) | refine Dr.two ?_ ?_)
      exact ret1 rfl sRet sConv (⟨rfl, rfl⟩)
  rw [if_neg h3]
  by_cases h4 : m.kind = 4
  · rw [if_pos h4]
    by_cases hf : m.fr = 9
    · rw [decide_eq_true hf]
      repeat (first | refine wMh ?_ | (refine kMh ?_; (first | rintro _ _ ⟨rfl, rfl⟩ | rintro _ _ ⟨_, rfl, rfl⟩ | rintro _ _ ⟨_, _, ⟨_, _⟩, rfl, rfl⟩); try refine ⟨sConv, ?_⟩) | refine Dr.two ?_ ?_)
      refine L.step (by decide) (S.call rfl rfl Try.func80 (by kernel_rfl) rfl sPicks (fun E' hE => rrp4 E' m.to) ?_)
      rintro e H' ⟨rfl, rfl⟩
      refine ⟨_, rfl, _, sCat, ?_⟩
      repeat (first | refine wMh ?_ | (refine kMh ?_; (first | rintro _ _ ⟨rfl, rfl⟩ | rintro _ _ ⟨_, rfl, rfl⟩ | rintro _ _ ⟨_, _, ⟨_, _⟩, rfl, rfl⟩); try refine ⟨sConv, ?_⟩) | refine Dr.two ?_ ?_)
      exact ret1 rfl sRet sConv (⟨rfl, rfl⟩)
    · rw [decide_eq_false hf]
      repeat (first | refine wMh ?_ | (refine kMh ?_; (first | rintro _ _ ⟨rfl, rfl⟩ | rintro _ _ ⟨_, rfl, rfl⟩ | rintro _ _ ⟨_, _, ⟨_, _⟩, rfl, rfl⟩); try refine ⟨sConv, ?_⟩) | refine Dr.two ?_ ?_)
      exact ret1 rfl sRet sConv (⟨rfl, rfl⟩)
  rw [if_neg h4]
  repeat (first | refine wMh ?_ | (refine kMh ?_; (first | rintro _ _ ⟨rfl, rfl⟩ | rintro _ _ ⟨_, rfl, rfl⟩ | rintro _ _ ⟨_, _, ⟨_, _⟩, rfl, rfl⟩); try refine ⟨sConv, ?_⟩) | refine Dr.two ?_ ?_)
  refine L.step (by decide) (S.call rfl rfl Try.func80 (by kernel_rfl) rfl sPicks (fun E' hE => rrp4 E' m.fr) ?_)
  cases hf : rep4 m.fr
  · rintro e H' ⟨rfl, rfl⟩
    refine ⟨_, rfl, _, sCat, ?_⟩
    repeat (first | refine wMh ?_ | (refine kMh ?_; (first | rintro _ _ ⟨rfl, rfl⟩ | rintro _ _ ⟨_, rfl, rfl⟩ | rintro _ _ ⟨_, _, ⟨_, _⟩, rfl, rfl⟩); try refine ⟨sConv, ?_⟩) | refine Dr.two ?_ ?_)
    exact ret1 rfl sRet sConv (⟨rfl, rfl⟩)
  · rintro e H' ⟨rfl, rfl⟩
    refine ⟨_, rfl, _, sCat, ?_⟩
    repeat (first | refine wMh ?_ | (refine kMh ?_; (first | rintro _ _ ⟨rfl, rfl⟩ | rintro _ _ ⟨_, rfl, rfl⟩ | rintro _ _ ⟨_, _, ⟨_, _⟩, rfl, rfl⟩); try refine ⟨sConv, ?_⟩) | refine Dr.two ?_ ?_)
    refine L.step (by decide) (S.call rfl rfl Try.func80 (by kernel_rfl) rfl sPicks (fun E' hE => rrp4 E' m.to) ?_)
    rintro e H' ⟨rfl, rfl⟩
    refine ⟨_, rfl, _, sCat, ?_⟩
    repeat (first | refine wMh ?_ | (refine kMh ?_; (first | rintro _ _ ⟨rfl, rfl⟩ | rintro _ _ ⟨_, rfl, rfl⟩ | rintro _ _ ⟨_, _, ⟨_, _⟩, rfl, rfl⟩); try refine ⟨sConv, ?_⟩) | refine Dr.two ?_ ?_)
    exact ret1 rfl sRet sConv (⟨rfl, rfl⟩)
theorem rbare (h : 1 ≤ m.kind ∧ m.kind ≤ 4) : Tri Try.prog E 55 #[.agg (mcs m A n c B k d).toArray] [] fun e H' => (∃ r, e = .returned r ∧ BareP m A n c B k d r) ∧ H' = [] := by
  refine tri Try.func55 rfl Try.ntmps55 (by simp) ?_
  rcases (show m.kind = 1 ∨ m.kind = 2 ∨ m.kind = 3 ∨ m.kind = 4 by omega) with h1 | h1 | h1 | h1
  · have hp := bareP1 m A n c B k d h1
    repeat (first | refine wMh ?_ | (refine kMh ?_; (first | rintro _ _ ⟨rfl, rfl⟩ | rintro _ _ ⟨_, rfl, rfl⟩ | rintro _ _ ⟨_, _, ⟨_, _⟩, rfl, rfl⟩); try refine ⟨sConv, ?_⟩) | refine Dr.two ?_ ?_)
    apply retC1; (· exact rfl); (· exact sRet); (· exact rfl); (· exact rfl); (· exact rfl); (· exact sHas); (· exact rfl); rotate_left; (· exact (⟨⟨_, rfl, hp⟩, rfl⟩)); (· exact sConv)
  · have hp := bareP2 m A n c B k d h1
    repeat (first | refine wMh ?_ | (refine kMh ?_; (first | rintro _ _ ⟨rfl, rfl⟩ | rintro _ _ ⟨_, rfl, rfl⟩ | rintro _ _ ⟨_, _, ⟨_, _⟩, rfl, rfl⟩); try refine ⟨sConv, ?_⟩) | refine Dr.two ?_ ?_)
    apply retC1; (· exact rfl); (· exact sRet); (· exact rfl); (· exact rfl); (· exact rfl); (· exact sHas); (· exact rfl); rotate_left; (· exact (⟨⟨_, rfl, hp⟩, rfl⟩)); (· exact sConv)
  · have hp := bareP3 m A n c B k d h1
    repeat (first | refine wMh ?_ | (refine kMh ?_; (first | rintro _ _ ⟨rfl, rfl⟩ | rintro _ _ ⟨_, rfl, rfl⟩ | rintro _ _ ⟨_, _, ⟨_, _⟩, rfl, rfl⟩); try refine ⟨sConv, ?_⟩) | refine Dr.two ?_ ?_)
    apply retC1; (· exact rfl); (· exact sRet); (· exact rfl); (· exact rfl); (· exact rfl); (· exact sHas); (· exact rfl); rotate_left; (· exact (⟨⟨_, rfl, hp⟩, rfl⟩)); (· exact sConv)
  · have hp := bareP4 m A n c B k d h1
    repeat (first | refine wMh ?_ | (refine kMh ?_; (first | rintro _ _ ⟨rfl, rfl⟩ | rintro _ _ ⟨_, rfl, rfl⟩ | rintro _ _ ⟨_, _, ⟨_, _⟩, rfl, rfl⟩); try refine ⟨sConv, ?_⟩) | refine Dr.two ?_ ?_)
    apply retC1; (· exact rfl); (· exact sRet); (· exact rfl); (· exact rfl); (· exact rfl); (· exact sHas); (· exact rfl); rotate_left; (· exact (⟨⟨_, rfl, hp⟩, rfl⟩)); (· exact sConv)
theorem rfine1 (hI : Rd E idnT A n c m.ids) (hC : Rd E chgT B k d m.chs) (h1 : m.kind = 1) : Tri Try.prog E 54 #[.agg (mcs m A n c B k d).toArray] [] fun e H' => e = .returned (.bool m.fine) ∧ H' = [] := by
  have hn := hI.len
  have hk := hC.len
  have hnc := hI.cap
  have hkc := hC.cap
  have hmax : maxLen = 9223372036854775807 := rfl
  have hfin : m.fine = (m.ks.all sq && bs m.base) := by unfold Mg.fine; rw [if_pos h1]; simp [Bool.and_assoc]
  rw [hfin]
  refine tri Try.func54 rfl Try.ntmps54 (by simp) ?_
  by_cases hb0 : m.base < 0
  · rw [show bs m.base = false from decide_eq_false (by omega), Bool.and_false]
    repeat (first | refine wMh ?_ | (refine kMh ?_; (first | rintro _ _ ⟨rfl, rfl⟩ | rintro _ _ ⟨_, rfl, rfl⟩ | rintro _ _ ⟨_, _, ⟨_, _⟩, rfl, rfl⟩); try refine ⟨sConv, ?_⟩) | refine Dr.two ?_ ?_)
    exact ret1 rfl sRet sConv (⟨rfl, rfl⟩)
  by_cases hb1 : 48 < m.base
  · rw [show bs m.base = false from decide_eq_false (by omega), Bool.and_false]
    repeat (first | refine wMh ?_ | (refine kMh ?_; (first | rintro _ _ ⟨rfl, rfl⟩ | rintro _ _ ⟨_, rfl, rfl⟩ | rintro _ _ ⟨_, _, ⟨_, _⟩, rfl, rfl⟩); try refine ⟨sConv, ?_⟩) | refine Dr.two ?_ ?_)
    exact ret1 rfl sRet sConv (⟨rfl, rfl⟩)
  rw [show bs m.base = true from decide_eq_true (by omega), Bool.and_true]
  repeat (first | refine wMh ?_ | (refine kMh ?_; (first | rintro _ _ ⟨rfl, rfl⟩ | rintro _ _ ⟨_, rfl, rfl⟩ | rintro _ _ ⟨_, _, ⟨_, _⟩, rfl, rfl⟩); try refine ⟨sConv, ?_⟩) | refine Dr.two ?_ ?_)
  rename_i gb
  refine C.loop (X := Nat) (fun i => [(1, .pointer (some ⟨gb, 0, none⟩)), (3, .int .i64 i)]) (fun _ => [blk gb 38 (mcs m A n c B k d)]) (fun i => i ≤ 4 ∧ ∀ j y, j < i → m.ks[j]? = some y → sq y = true) (fun i => 4 - i) 0 sHolds sConv ⟨Nat.zero_le _, fun j y hj => by omega⟩ ?_
  rintro i G ⟨hi, hall⟩
  by_cases hlt : i < 4
  · have hx : m.ks[i]? = some m.ks[i] := List.getElem?_eq_getElem hlt
    generalize m.ks[i] = x at hx
    have hc := known_at (A := A) (n := n) (c := c) (B := B) (k := k) (d := d) hx
    by_cases hx0 : x < 0
    · rw [all_no hx (show sq x = false from decide_eq_false (by omega))]
      repeat (first | refine wMh ?_ | (refine kMh ?_; (first | rintro _ _ ⟨rfl, rfl⟩ | rintro _ _ ⟨_, rfl, rfl⟩ | rintro _ _ ⟨_, _, ⟨_, _⟩, rfl, rfl⟩); try refine ⟨sConv, ?_⟩) | refine Dr.two ?_ ?_)
      exact ret1 rfl sRet sConv (⟨rfl, rfl⟩)
    by_cases hx1 : 65535 < x
    · rw [all_no hx (show sq x = false from decide_eq_false (by omega))]
      repeat (first | refine wMh ?_ | (refine kMh ?_; (first | rintro _ _ ⟨rfl, rfl⟩ | rintro _ _ ⟨_, rfl, rfl⟩ | rintro _ _ ⟨_, _, ⟨_, _⟩, rfl, rfl⟩); try refine ⟨sConv, ?_⟩) | refine Dr.two ?_ ?_)
      exact ret1 rfl sRet sConv (⟨rfl, rfl⟩)
    repeat (first | refine wMh ?_ | (refine kMh ?_; (first | rintro _ _ ⟨rfl, rfl⟩ | rintro _ _ ⟨_, rfl, rfl⟩ | rintro _ _ ⟨_, _, ⟨_, _⟩, rfl, rfl⟩); try refine ⟨sConv, ?_⟩) | refine Dr.two ?_ ?_)
    exact ⟨i + 1, sHolds, sConv, ⟨by omega, all_step hall hx (decide_eq_true (by omega))⟩, by omega⟩
  · obtain rfl : i = 4 := by omega
    rw [all_of (l := m.ks) rfl hall]
    repeat (first | refine wMh ?_ | (refine kMh ?_; (first | rintro _ _ ⟨rfl, rfl⟩ | rintro _ _ ⟨_, rfl, rfl⟩ | rintro _ _ ⟨_, _, ⟨_, _⟩, rfl, rfl⟩); try refine ⟨sConv, ?_⟩) | refine Dr.two ?_ ?_)
    refine C.loop (X := Nat) (fun _ => [(1, .pointer (some ⟨gb, 0, none⟩)), (4, .int .i64 0)]) (fun _ => [blk gb 38 (mcs m A n c B k d)]) (fun _ => True) (fun i => i) 0 sHolds sConv trivial ?_
    rintro - G -
    by_cases hn0 : 0 < n
    · repeat (first | refine wMh ?_ | (refine kMh ?_; (first | rintro _ _ ⟨rfl, rfl⟩ | rintro _ _ ⟨_, rfl, rfl⟩ | rintro _ _ ⟨_, _, ⟨_, _⟩, rfl, rfl⟩); try refine ⟨sConv, ?_⟩) | refine Dr.two ?_ ?_)
      refine C.loop (X := Nat) (fun _ => [(1, .pointer (some ⟨gb, 0, none⟩)), (5, .int .i64 0)]) (fun _ => [blk gb 38 (mcs m A n c B k d)]) (fun _ => True) (fun i => i) 0 sHolds sConv trivial ?_
      rintro - G -
      by_cases hk0 : 0 < k
      · repeat (first | refine wMh ?_ | (refine kMh ?_; (first | rintro _ _ ⟨rfl, rfl⟩ | rintro _ _ ⟨_, rfl, rfl⟩ | rintro _ _ ⟨_, _, ⟨_, _⟩, rfl, rfl⟩); try refine ⟨sConv, ?_⟩) | refine Dr.two ?_ ?_)
        exact ret1 rfl sRet sConv (⟨rfl, rfl⟩)
      · repeat (first | refine wMh ?_ | (refine kMh ?_; (first | rintro _ _ ⟨rfl, rfl⟩ | rintro _ _ ⟨_, rfl, rfl⟩ | rintro _ _ ⟨_, _, ⟨_, _⟩, rfl, rfl⟩); try refine ⟨sConv, ?_⟩) | refine Dr.two ?_ ?_)
        exact ret1 rfl sRet sConv (⟨rfl, rfl⟩)
    · repeat (first | refine wMh ?_ | (refine kMh ?_; (first | rintro _ _ ⟨rfl, rfl⟩ | rintro _ _ ⟨_, rfl, rfl⟩ | rintro _ _ ⟨_, _, ⟨_, _⟩, rfl, rfl⟩); try refine ⟨sConv, ?_⟩) | refine Dr.two ?_ ?_)
      refine C.loop (X := Nat) (fun _ => [(1, .pointer (some ⟨gb, 0, none⟩)), (5, .int .i64 0)]) (fun _ => [blk gb 38 (mcs m A n c B k d)]) (fun _ => True) (fun i => i) 0 sHolds sConv trivial ?_
      rintro - G -
      by_cases hk0 : 0 < k
      · repeat (first | refine wMh ?_ | (refine kMh ?_; (first | rintro _ _ ⟨rfl, rfl⟩ | rintro _ _ ⟨_, rfl, rfl⟩ | rintro _ _ ⟨_, _, ⟨_, _⟩, rfl, rfl⟩); try refine ⟨sConv, ?_⟩) | refine Dr.two ?_ ?_)
        exact ret1 rfl sRet sConv (⟨rfl, rfl⟩)
      · repeat (first | refine wMh ?_ | (refine kMh ?_; (first | rintro _ _ ⟨rfl, rfl⟩ | rintro _ _ ⟨_, rfl, rfl⟩ | rintro _ _ ⟨_, _, ⟨_, _⟩, rfl, rfl⟩); try refine ⟨sConv, ?_⟩) | refine Dr.two ?_ ?_)
        exact ret1 rfl sRet sConv (⟨rfl, rfl⟩)
theorem rfine2 (hI : Rd E idnT A n c m.ids) (hC : Rd E chgT B k d m.chs) (h1 : m.kind = 2) : Tri Try.prog E 54 #[.agg (mcs m A n c B k d).toArray] [] fun e H' => e = .returned (.bool m.fine) ∧ H' = [] := by
  have hn := hI.len
  have hk := hC.len
  have hnc := hI.cap
  have hkc := hC.cap
  have hmax : maxLen = 9223372036854775807 := rfl
  have hfin : m.fine = (((decide (n ≤ 16) && m.ids.all Idn.may) && (decide (k ≤ 8) && m.chs.all Chg.may)) && bs m.base) := by unfold Mg.fine; rw [if_neg (by omega), if_pos h1, hn, hk]
  rw [hfin]
  refine tri Try.func54 rfl Try.ntmps54 (by simp) ?_
  by_cases hb0 : m.base < 0
  · rw [show bs m.base = false from decide_eq_false (by omega), Bool.and_false]
    repeat (first | refine wMh ?_ | (refine kMh ?_; (first | rintro _ _ ⟨rfl, rfl⟩ | rintro _ _ ⟨_, rfl, rfl⟩ | rintro _ _ ⟨_, _, ⟨_, _⟩, rfl, rfl⟩); try refine ⟨sConv, ?_⟩) | refine Dr.two ?_ ?_)
    exact ret1 rfl sRet sConv (⟨rfl, rfl⟩)
  by_cases hb1 : 48 < m.base
  · rw [show bs m.base = false from decide_eq_false (by omega), Bool.and_false]
    repeat (first | refine wMh ?_ | (refine kMh ?_; (first | rintro _ _ ⟨rfl, rfl⟩ | rintro _ _ ⟨_, rfl, rfl⟩ | rintro _ _ ⟨_, _, ⟨_, _⟩, rfl, rfl⟩); try refine ⟨sConv, ?_⟩) | refine Dr.two ?_ ?_)
    exact ret1 rfl sRet sConv (⟨rfl, rfl⟩)
  rw [show bs m.base = true from decide_eq_true (by omega), Bool.and_true]
  repeat (first | refine wMh ?_ | (refine kMh ?_; (first | rintro _ _ ⟨rfl, rfl⟩ | rintro _ _ ⟨_, rfl, rfl⟩ | rintro _ _ ⟨_, _, ⟨_, _⟩, rfl, rfl⟩); try refine ⟨sConv, ?_⟩) | refine Dr.two ?_ ?_)
  rename_i gb
  refine C.loop (X := Nat) (fun _ => [(1, .pointer (some ⟨gb, 0, none⟩)), (3, .int .i64 0)]) (fun _ => [blk gb 38 (mcs m A n c B k d)]) (fun _ => True) (fun i => i) 0 sHolds sConv trivial ?_
  rintro - G -
  by_cases hn16 : n ≤ 16
  case neg =>
    rw [decide_eq_false hn16]
    repeat (first | refine wMh ?_ | (refine kMh ?_; (first | rintro _ _ ⟨rfl, rfl⟩ | rintro _ _ ⟨_, rfl, rfl⟩ | rintro _ _ ⟨_, _, ⟨_, _⟩, rfl, rfl⟩); try refine ⟨sConv, ?_⟩) | refine Dr.two ?_ ?_)
    exact ret1 rfl sRet sConv (⟨rfl, rfl⟩)
  by_cases hk8 : k ≤ 8
  case neg =>
    rw [decide_eq_false hk8, Bool.false_and, Bool.and_false]
    repeat (first | refine wMh ?_ | (refine kMh ?_; (first | rintro _ _ ⟨rfl, rfl⟩ | rintro _ _ ⟨_, rfl, rfl⟩ | rintro _ _ ⟨_, _, ⟨_, _⟩, rfl, rfl⟩); try refine ⟨sConv, ?_⟩) | refine Dr.two ?_ ?_)
    exact ret1 rfl sRet sConv (⟨rfl, rfl⟩)
  rw [decide_eq_true hn16, decide_eq_true hk8, Bool.true_and, Bool.true_and]
  repeat (first | refine wMh ?_ | (refine kMh ?_; (first | rintro _ _ ⟨rfl, rfl⟩ | rintro _ _ ⟨_, rfl, rfl⟩ | rintro _ _ ⟨_, _, ⟨_, _⟩, rfl, rfl⟩); try refine ⟨sConv, ?_⟩) | refine Dr.two ?_ ?_)
  refine C.loop (X := Nat) (fun i => [(1, .pointer (some ⟨gb, 0, none⟩)), (4, .int .i64 i)]) (fun _ => [blk gb 38 (mcs m A n c B k d)]) (fun i => i ≤ n ∧ ∀ j y, j < i → m.ids[j]? = some y → y.may = true) (fun i => n - i) 0 sHolds sConv ⟨Nat.zero_le _, fun j y hj => by omega⟩ ?_
  rintro i G ⟨hi, hall⟩
  by_cases hlt : i < n
  · have hx : m.ids[i]? = some m.ids[i] := List.getElem?_eq_getElem (by omega)
    generalize m.ids[i] = x at hx
    repeat (first | refine wMh ?_ | (refine kMh ?_; (first | rintro _ _ ⟨rfl, rfl⟩ | rintro _ _ ⟨_, rfl, rfl⟩ | rintro _ _ ⟨_, _, ⟨_, _⟩, rfl, rfl⟩); try refine ⟨sConv, ?_⟩) | refine Dr.two ?_ ?_)
    refine L.step (by decide) (S.call rfl rfl Try.func82 (by kernel_rfl) rfl sPicks (fun E' hE => rmay_any E' x) ?_)
    rintro e H' ⟨rfl, rfl⟩
    refine ⟨_, rfl, _, sCat, ?_⟩
    cases hp : x.may
    · rw [all_no hx hp]
      repeat (first | refine wMh ?_ | (refine kMh ?_; (first | rintro _ _ ⟨rfl, rfl⟩ | rintro _ _ ⟨_, rfl, rfl⟩ | rintro _ _ ⟨_, _, ⟨_, _⟩, rfl, rfl⟩); try refine ⟨sConv, ?_⟩) | refine Dr.two ?_ ?_)
      exact ret1 rfl sRet sConv (⟨rfl, rfl⟩)
    · repeat (first | refine wMh ?_ | (refine kMh ?_; (first | rintro _ _ ⟨rfl, rfl⟩ | rintro _ _ ⟨_, rfl, rfl⟩ | rintro _ _ ⟨_, _, ⟨_, _⟩, rfl, rfl⟩); try refine ⟨sConv, ?_⟩) | refine Dr.two ?_ ?_)
      exact ⟨i + 1, sHolds, sConv, ⟨by omega, all_step hall hx hp⟩, by omega⟩
  obtain rfl : i = n := by omega
  rw [all_of (l := m.ids) hn hall, Bool.true_and]
  repeat (first | refine wMh ?_ | (refine kMh ?_; (first | rintro _ _ ⟨rfl, rfl⟩ | rintro _ _ ⟨_, rfl, rfl⟩ | rintro _ _ ⟨_, _, ⟨_, _⟩, rfl, rfl⟩); try refine ⟨sConv, ?_⟩) | refine Dr.two ?_ ?_)
  refine C.loop (X := Nat) (fun j => [(1, .pointer (some ⟨gb, 0, none⟩)), (5, .int .i64 j)]) (fun _ => [blk gb 38 (mcs m A i c B k d)]) (fun j => j ≤ k ∧ ∀ z y, z < j → m.chs[z]? = some y → y.may = true) (fun j => k - j) 0 sHolds sConv ⟨Nat.zero_le _, fun j y hj => by omega⟩ ?_
  rintro j G ⟨hj, hall2⟩
  by_cases hlt2 : j < k
  · have hx : m.chs[j]? = some m.chs[j] := List.getElem?_eq_getElem (by omega)
    generalize m.chs[j] = x at hx
    repeat (first | refine wMh ?_ | (refine kMh ?_; (first | rintro _ _ ⟨rfl, rfl⟩ | rintro _ _ ⟨_, rfl, rfl⟩ | rintro _ _ ⟨_, _, ⟨_, _⟩, rfl, rfl⟩); try refine ⟨sConv, ?_⟩) | refine Dr.two ?_ ?_)
    refine L.step (by decide) (S.call rfl rfl Try.func78 (by kernel_rfl) rfl sPicks (fun E' hE => r9may_any E' x) ?_)
    rintro e H' ⟨rfl, rfl⟩
    refine ⟨_, rfl, _, sCat, ?_⟩
    cases hp : x.may
    · rw [all_no hx hp]
      repeat (first | refine wMh ?_ | (refine kMh ?_; (first | rintro _ _ ⟨rfl, rfl⟩ | rintro _ _ ⟨_, rfl, rfl⟩ | rintro _ _ ⟨_, _, ⟨_, _⟩, rfl, rfl⟩); try refine ⟨sConv, ?_⟩) | refine Dr.two ?_ ?_)
      exact ret1 rfl sRet sConv (⟨rfl, rfl⟩)
    · repeat (first | refine wMh ?_ | (refine kMh ?_; (first | rintro _ _ ⟨rfl, rfl⟩ | rintro _ _ ⟨_, rfl, rfl⟩ | rintro _ _ ⟨_, _, ⟨_, _⟩, rfl, rfl⟩); try refine ⟨sConv, ?_⟩) | refine Dr.two ?_ ?_)
      exact ⟨j + 1, sHolds, sConv, ⟨by omega, all_step hall2 hx hp⟩, by omega⟩
  · obtain rfl : j = k := by omega
    rw [all_of (l := m.chs) hk hall2]
    repeat (first | refine wMh ?_ | (refine kMh ?_; (first | rintro _ _ ⟨rfl, rfl⟩ | rintro _ _ ⟨_, rfl, rfl⟩ | rintro _ _ ⟨_, _, ⟨_, _⟩, rfl, rfl⟩); try refine ⟨sConv, ?_⟩) | refine Dr.two ?_ ?_)
    exact ret1 rfl sRet sConv (⟨rfl, rfl⟩)
theorem rfine (hI : Rd E idnT A n c m.ids) (hC : Rd E chgT B k d m.chs) (h : 1 ≤ m.kind ∧ m.kind ≤ 4) : Tri Try.prog E 54 #[.agg (mcs m A n c B k d).toArray] [] fun e H' => e = .returned (.bool m.fine) ∧ H' = [] := by
  rcases (show m.kind = 1 ∨ m.kind = 2 ∨ m.kind = 3 ∨ m.kind = 4 by omega) with h1 | h1 | h1 | h1
  · exact rfine1 E m A n c B k d hI hC h1
  · exact rfine2 E m A n c B k d hI hC h1
  · refine tri Try.func54 rfl Try.ntmps54 (by simp) ?_
    unfold Mg.fine
    rw [if_neg (by omega), if_neg (by omega), if_pos h1]
    repeat (first | refine wMh ?_ | (refine kMh ?_; (first | rintro _ _ ⟨rfl, rfl⟩ | rintro _ _ ⟨_, rfl, rfl⟩ | rintro _ _ ⟨_, _, ⟨_, _⟩, rfl, rfl⟩); try refine ⟨sConv, ?_⟩) | refine Dr.two ?_ ?_)
    refine L.step (by decide) (S.call rfl rfl Try.func81 (by kernel_rfl) rfl sPicks (fun E' hE => rmaykey_any E' m.key) ?_)
    cases hs : m.key.may
    · rintro e H' ⟨rfl, rfl⟩
      refine ⟨_, rfl, _, sCat, ?_⟩
      repeat (first | refine wMh ?_ | (refine kMh ?_; (first | rintro _ _ ⟨rfl, rfl⟩ | rintro _ _ ⟨_, rfl, rfl⟩ | rintro _ _ ⟨_, _, ⟨_, _⟩, rfl, rfl⟩); try refine ⟨sConv, ?_⟩) | refine Dr.two ?_ ?_)
      exact ret1 rfl sRet sConv (⟨rfl, rfl⟩)
    · rintro e H' ⟨rfl, rfl⟩
      refine ⟨_, rfl, _, sCat, ?_⟩
      repeat (first | refine wMh ?_ | (refine kMh ?_; (first | rintro _ _ ⟨rfl, rfl⟩ | rintro _ _ ⟨_, rfl, rfl⟩ | rintro _ _ ⟨_, _, ⟨_, _⟩, rfl, rfl⟩); try refine ⟨sConv, ?_⟩) | refine Dr.two ?_ ?_)
      refine L.step (by decide) (S.call rfl rfl Try.func79 (by kernel_rfl) rfl sPicks (fun E' hE => rfcheck E' m.what) ?_)
      rintro e H' ⟨rfl, rfl⟩
      refine ⟨_, rfl, _, sCat, ?_⟩
      repeat (first | refine wMh ?_ | (refine kMh ?_; (first | rintro _ _ ⟨rfl, rfl⟩ | rintro _ _ ⟨_, rfl, rfl⟩ | rintro _ _ ⟨_, _, ⟨_, _⟩, rfl, rfl⟩); try refine ⟨sConv, ?_⟩) | refine Dr.two ?_ ?_)
      exact ret1 rfl sRet sConv (⟨rfl, rfl⟩)
  · refine tri Try.func54 rfl Try.ntmps54 (by simp) ?_
    unfold Mg.fine
    rw [if_neg (by omega), if_neg (by omega), if_neg (by omega)]
    repeat (first | refine wMh ?_ | (refine kMh ?_; (first | rintro _ _ ⟨rfl, rfl⟩ | rintro _ _ ⟨_, rfl, rfl⟩ | rintro _ _ ⟨_, _, ⟨_, _⟩, rfl, rfl⟩); try refine ⟨sConv, ?_⟩) | refine Dr.two ?_ ?_)
    refine L.step (by decide) (S.call rfl rfl Try.func81 (by kernel_rfl) rfl sPicks (fun E' hE => rmaykey_any E' m.key) ?_)
    cases hs : m.key.may
    · rintro e H' ⟨rfl, rfl⟩
      refine ⟨_, rfl, _, sCat, ?_⟩
      repeat (first | refine wMh ?_ | (refine kMh ?_; (first | rintro _ _ ⟨rfl, rfl⟩ | rintro _ _ ⟨_, rfl, rfl⟩ | rintro _ _ ⟨_, _, ⟨_, _⟩, rfl, rfl⟩); try refine ⟨sConv, ?_⟩) | refine Dr.two ?_ ?_)
      exact ret1 rfl sRet sConv (⟨rfl, rfl⟩)
    · rintro e H' ⟨rfl, rfl⟩
      refine ⟨_, rfl, _, sCat, ?_⟩
      repeat (first | refine wMh ?_ | (refine kMh ?_; (first | rintro _ _ ⟨rfl, rfl⟩ | rintro _ _ ⟨_, rfl, rfl⟩ | rintro _ _ ⟨_, _, ⟨_, _⟩, rfl, rfl⟩); try refine ⟨sConv, ?_⟩) | refine Dr.two ?_ ?_)
      exact ret1 rfl sRet sConv (⟨rfl, rfl⟩)
theorem rcheck26 (hI : Rd E idnT A n c m.ids) (hC : Rd E chgT B k d m.chs) : Tri Try.prog E 24 #[.agg (mcs m A n c B k d).toArray] [] fun e H' => e = .returned (.int .i64 m.check) ∧ H' = [] := by
  refine tri Try.func24 rfl Try.ntmps24 (by simp) ?_
  unfold Mg.check
  by_cases h0 : m.kind < 1
  · rw [if_neg (by omega)]
    repeat (first | refine wMh ?_ | (refine kMh ?_; (first | rintro _ _ ⟨rfl, rfl⟩ | rintro _ _ ⟨_, rfl, rfl⟩ | rintro _ _ ⟨_, _, ⟨_, _⟩, rfl, rfl⟩); try refine ⟨sConv, ?_⟩) | refine Dr.two ?_ ?_)
    exact ret1 rfl sRet sConv (⟨rfl, rfl⟩)
  by_cases h4 : 4 < m.kind
  · rw [if_neg (by omega)]
    repeat (first | refine wMh ?_ | (refine kMh ?_; (first | rintro _ _ ⟨rfl, rfl⟩ | rintro _ _ ⟨_, rfl, rfl⟩ | rintro _ _ ⟨_, _, ⟨_, _⟩, rfl, rfl⟩); try refine ⟨sConv, ?_⟩) | refine Dr.two ?_ ?_)
    exact ret1 rfl sRet sConv (⟨rfl, rfl⟩)
  have h : 1 ≤ m.kind ∧ m.kind ≤ 4 := by omega
  rw [if_pos h]
  repeat (first | refine wMh ?_ | (refine kMh ?_; (first | rintro _ _ ⟨rfl, rfl⟩ | rintro _ _ ⟨_, rfl, rfl⟩ | rintro _ _ ⟨_, _, ⟨_, _⟩, rfl, rfl⟩); try refine ⟨sConv, ?_⟩) | refine Dr.two ?_ ?_)
  refine L.step (by decide) (S.call rfl rfl Try.func53 (by kernel_rfl) rfl sPicks (fun E' hE => rparties E' m A n c B k d) ?_)
  cases hp : m.parties
  · rw [if_neg (by simp)]
    rintro e H' ⟨rfl, rfl⟩
    refine ⟨_, rfl, _, sCat, ?_⟩
    repeat (first | refine wMh ?_ | (refine kMh ?_; (first | rintro _ _ ⟨rfl, rfl⟩ | rintro _ _ ⟨_, rfl, rfl⟩ | rintro _ _ ⟨_, _, ⟨_, _⟩, rfl, rfl⟩); try refine ⟨sConv, ?_⟩) | refine Dr.two ?_ ?_)
    exact ret1 rfl sRet sConv (⟨rfl, rfl⟩)
  rintro e H' ⟨rfl, rfl⟩
  refine ⟨_, rfl, _, sCat, ?_⟩
  repeat (first | refine wMh ?_ | (refine kMh ?_; (first | rintro _ _ ⟨rfl, rfl⟩ | rintro _ _ ⟨_, rfl, rfl⟩ | rintro _ _ ⟨_, _, ⟨_, _⟩, rfl, rfl⟩); try refine ⟨sConv, ?_⟩) | refine Dr.two ?_ ?_)
  refine L.step (by decide) (S.call rfl rfl Try.func54 (by kernel_rfl) rfl sPicks (fun E' hE => rfine E' m A n c B k d sRd sRd h) ?_)
  cases hf : m.fine
  · rw [if_neg (by simp)]
    rintro e H' ⟨rfl, rfl⟩
    refine ⟨_, rfl, _, sCat, ?_⟩
    repeat (first | refine wMh ?_ | (refine kMh ?_; (first | rintro _ _ ⟨rfl, rfl⟩ | rintro _ _ ⟨_, rfl, rfl⟩ | rintro _ _ ⟨_, _, ⟨_, _⟩, rfl, rfl⟩); try refine ⟨sConv, ?_⟩) | refine Dr.two ?_ ?_)
    exact ret1 rfl sRet sConv (⟨rfl, rfl⟩)
  rw [if_pos (by rfl)]
  rintro e H' ⟨rfl, rfl⟩
  refine ⟨_, rfl, _, sCat, ?_⟩
  repeat (first | refine wMh ?_ | (refine kMh ?_; (first | rintro _ _ ⟨rfl, rfl⟩ | rintro _ _ ⟨_, rfl, rfl⟩ | rintro _ _ ⟨_, _, ⟨_, _⟩, rfl, rfl⟩); try refine ⟨sConv, ?_⟩) | refine Dr.two ?_ ?_)
  refine C.regionA 100000 (.one 0 false (.one 1 false (.one 2 true (.one 3 true (.one 4 false .nil))))) _ (by kernel_rfl) (by kernel_rfl) Conv.refl ?_
  repeat (first | refine wMh ?_ | (refine kMh ?_; (first | rintro _ _ ⟨rfl, rfl⟩ | rintro _ _ ⟨_, rfl, rfl⟩ | rintro _ _ ⟨_, _, ⟨_, _⟩, rfl, rfl⟩); try refine ⟨sConv, ?_⟩) | refine Dr.two ?_ ?_)
  refine Dr.go rfl (by rintro k ⟨⟩ <;> decide) sGon (S.call rfl rfl Try.func55 (by kernel_rfl) rfl sPicks (fun E' hE => rbare E' m A n c B k d h) ?_)
  rintro e H' ⟨⟨r, rfl, A', n', c', B', k', d', rfl, hi', hc'⟩, rfl⟩
  refine ⟨_, rfl, _, sCat, sConv, ?_⟩
  repeat (first | refine wMh ?_ | (refine kMh ?_; (first | rintro _ _ ⟨rfl, rfl⟩ | rintro _ _ ⟨_, rfl, rfl⟩ | rintro _ _ ⟨_, _, ⟨_, _⟩, rfl, rfl⟩); try refine ⟨sConv, ?_⟩) | refine Dr.two ?_ ?_)
  refine Dr.go rfl (by rintro k ⟨⟩ <;> decide) sGon (S.call rfl rfl Try.func11 (by kernel_rfl) rfl sPicks (fun E' hE => rsame E' A n c B k d A' n' c' B' k' d' m m.bare sRd sRd (hi' _ sRd) (hc' _ sRd)) ?_)
  by_cases hb : m.bare = m
  · rw [decide_eq_true hb.symm, if_pos hb]
    rintro e H' ⟨rfl, rfl⟩
    refine ⟨_, rfl, _, sCat, sConv, ?_⟩
    repeat (first | refine wMh ?_ | (refine kMh ?_; (first | rintro _ _ ⟨rfl, rfl⟩ | rintro _ _ ⟨_, rfl, rfl⟩ | rintro _ _ ⟨_, _, ⟨_, _⟩, rfl, rfl⟩); try refine ⟨sConv, ?_⟩) | refine Dr.two ?_ ?_)
    exact ret1 rfl sRet sConv (⟨rfl, rfl⟩)
  · rw [decide_eq_false (fun h => hb h.symm), if_neg hb]
    rintro e H' ⟨rfl, rfl⟩
    refine ⟨_, rfl, _, sCat, sConv, ?_⟩
    repeat (first | refine wMh ?_ | (refine kMh ?_; (first | rintro _ _ ⟨rfl, rfl⟩ | rintro _ _ ⟨_, rfl, rfl⟩ | rintro _ _ ⟨_, _, ⟨_, _⟩, rfl, rfl⟩); try refine ⟨sConv, ?_⟩) | refine Dr.two ?_ ?_)
    exact ret1 rfl sRet sConv (⟨rfl, rfl⟩)
end
end Go.Proofs.Ytihblcljkndpgaa.Sep
