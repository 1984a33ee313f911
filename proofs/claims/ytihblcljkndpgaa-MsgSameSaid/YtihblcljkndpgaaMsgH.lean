/- The law of messages: whether two are alike; a clone can be written on. -/
import Derived.Test.YtihblcljkndpgaaMsgG
namespace Go.Proofs.Ytihblcljkndpgaa.Sep
open Go.RowKit Go.Proofs.Ytihblcljkndpgaa.Reg Go.Proofs.Ytihblcljkndpgaa.Oct
open Go.Proofs.Ytihblcljkndpgaa.Mem hiding Rd Own
-- types: octT idnT chgT intT
-- recs: rec_Reader idnT_rec effT_rec chgT_rec keyT_rec mgT_rec rgT_rec wrT_rec rdT_rec
-- arrs: arr4_rec
-- eqs: idnT_eqa effT_eqa chgT_eqa keyT_eqa
-- eqrs: k4_eqr
-- zeros: z_octs z_rdr
-- funcs
-- flds
-- arrp
set_option maxRecDepth 100000
set_option maxHeartbeats 6000000
def upI (a : Idn) : Idn := ⟨a.rep, IntKind.i64.wrap (a.seq + 1)⟩
def upC (a : Chg) : Chg := ⟨a.id, a.time, IntKind.i64.wrap (a.kind + 1), a.a, a.b, a.n, a.ref⟩
theorem wrap_ne {n : Int} (h : I64 n) : IntKind.i64.wrap (n + 1) ≠ n := by
  unfold I64 at h
  by_cases hq : n + 1 ≤ 9223372036854775807
  · rw [IntWalk.i64_in _ (by omega)]; omega
  · obtain rfl : n = 9223372036854775807 := by omega
    decide
theorem upI_ne {a : Idn} (h : a.ok) : upI a ≠ a := by
  intro hq
  have := congrArg Idn.seq hq
  exact wrap_ne h.2 this
theorem upC_ne {a : Chg} (h : a.ok) : upC a ≠ a := by
  intro hq
  have := congrArg Chg.kind hq
  exact wrap_ne h.2.2.1 this
/-- the first i of a list, changed -/
def upto_ {α : Type} (f : α → α) (l : List α) (i : Nat) : List α := (l.take i).map f ++ l.drop i
theorem upto_zero {α : Type} (f : α → α) (l : List α) : upto_ f l 0 = l := by simp [upto_]
theorem upto_all {α : Type} (f : α → α) (l : List α) {n : Nat} (h : n = l.length) : upto_ f l n = l.map f := by subst h; simp [upto_]
theorem upto_length {α : Type} (f : α → α) (l : List α) (i : Nat) : (upto_ f l i).length = l.length := by unfold upto_; rw [List.length_append, List.length_map, List.length_take, List.length_drop]; omega
theorem upto_at {α : Type} (f : α → α) {l : List α} {i : Nat} {x : α} (h : l[i]? = some x) : (upto_ f l i)[i]? = some x := by
  obtain ⟨hi, he⟩ := List.getElem?_eq_some_iff.1 h
  unfold upto_
  rw [List.getElem?_append_right (by simp; omega), List.length_map, List.length_take, Nat.min_eq_left (by omega), List.getElem?_drop, show i + (i - i) = i by omega, h]
theorem upto_set {α : Type} (f : α → α) {l : List α} {i : Nat} {x : α} (h : l[i]? = some x) : (upto_ f l i).set i (f x) = upto_ f l (i + 1) := by
  obtain ⟨hi, he⟩ := List.getElem?_eq_some_iff.1 h
  unfold upto_
  have hln : ((l.take i).map f).length = i := by rw [List.length_map, List.length_take]; omega
  rw [List.set_append_right _ _ (by omega), hln, Nat.sub_self, List.drop_eq_getElem_cons hi, List.set_cons_zero, List.take_succ_eq_append_getElem hi, List.map_append, he]
  simp
def Mg.up (m : Mg) : Mg := ⟨m.kind, m.fr, m.to, m.k0, m.k1, m.k2, m.k3, m.base, m.ids.map upI, m.chs.map upC, m.key, m.what⟩
theorem map_ne {α : Type} {f : α → α} {l : List α} (h : ∀ x ∈ l, f x ≠ x) (hl : 0 < l.length) : l ≠ l.map f := by
  intro hq
  cases l with
  | nil => simp at hl
  | cons a t =>
    rw [List.map_cons] at hq
    injection hq with h1 _
    exact h a (List.mem_cons_self) h1.symm
theorem Mg.up_iff {m : Mg} (hI : ∀ a ∈ m.ids, a.ok) (hC : ∀ a ∈ m.chs, a.ok) : m = m.up ↔ m.ids.length + m.chs.length = 0 := by
  constructor
  · intro h
    have h1 := congrArg Mg.ids h
    have h2 := congrArg Mg.chs h
    by_cases hi : 0 < m.ids.length
    · exact absurd h1 (map_ne (fun x hx => upI_ne (hI x hx)) hi)
    by_cases hk : 0 < m.chs.length
    · exact absurd h2 (map_ne (fun x hx => upC_ne (hC x hx)) hk)
    omega
  · intro h
    have h1 : m.ids = [] := List.length_eq_zero_iff.1 (by omega)
    have h2 : m.chs = [] := List.length_eq_zero_iff.1 (by omega)
    rw [Mg.eq_iff]
    unfold Mg.up
    rw [h1, h2]
    exact ⟨rfl, rfl, rfl, rfl, rfl, rfl, rfl, rfl, rfl, rfl, rfl, rfl⟩
section
variable (E : Env) (A : Option Addr) (n c : Nat) (B : Option Addr) (k d : Nat) (A2 : Option Addr) (n2 c2 : Nat) (B2 : Option Addr) (k2 d2 : Nat)
theorem same26 (m m2 : Mg) (hI : Rd E idnT A n c m.ids) (hC : Rd E chgT B k d m.chs) (hI2 : Rd E idnT A2 n2 c2 m2.ids) (hC2 : Rd E chgT B2 k2 d2 m2.chs) (hok : ∀ a ∈ m.ids, a.ok) (hok2 : ∀ a ∈ m.chs, a.ok) : Tri Try.prog E 5 #[.agg (mcs m A n c B k d).toArray, .agg (mcs m2 A2 n2 c2 B2 k2 d2).toArray] [] fun e _ => e = .returned (.bool true) := by
  have hI3 : Rd E idnT A (min n 30) c m.few.ids := few_rd hI
  have hC3 : Rd E chgT B (min k 30) d m.few.chs := few_rd hC
  have hI4 : Rd E idnT A2 (min n2 30) c2 m2.few.ids := few_rd hI2
  have hC4 : Rd E chgT B2 (min k2 30) d2 m2.few.chs := few_rd hC2
  have hok3 : ∀ a ∈ m.few.ids, a.ok := fun a ha => hok a (List.mem_of_mem_take ha)
  have hok4 : ∀ a ∈ m.few.chs, a.ok := fun a ha => hok2 a (List.mem_of_mem_take ha)
  refine tri Try.func5 rfl Try.ntmps5 (by simp) ?_
  repeat (first | refine wMl ?_ | (refine kMl ?_; (first | rintro _ _ ⟨rfl, rfl⟩ | rintro _ _ ⟨_, rfl, rfl⟩ | rintro _ _ ⟨_, _, ⟨_, _⟩, rfl, rfl⟩); try refine ⟨sConv, ?_⟩) | refine Dr.two ?_ ?_)
  refine L.step (by decide) (S.call rfl rfl Try.func6 (by kernel_rfl) rfl sPicks (fun E' hE => alive26 E') ?_)
  rintro e H' ⟨rfl, rfl⟩
  refine ⟨_, rfl, _, sCat, ?_⟩
  repeat (first | refine wMl ?_ | (refine kMl ?_; (first | rintro _ _ ⟨rfl, rfl⟩ | rintro _ _ ⟨_, rfl, rfl⟩ | rintro _ _ ⟨_, _, ⟨_, _⟩, rfl, rfl⟩); try refine ⟨sConv, ?_⟩) | refine Dr.two ?_ ?_)
  rename_i gA gB
  refine C.regionA 5 (.one 2 false (.one 0 true (.one 1 true (.one 3 true (.one 4 true (.one 5 true .nil)))))) ([blk gB 34 (mcs m2 A2 n2 c2 B2 k2 d2)]) (by kernel_rfl) (by kernel_rfl) sConv ?_
  repeat (first | refine wMl ?_ | (refine kMl ?_; (first | rintro _ _ ⟨rfl, rfl⟩ | rintro _ _ ⟨_, rfl, rfl⟩ | rintro _ _ ⟨_, _, ⟨_, _⟩, rfl, rfl⟩); try refine ⟨sConv, ?_⟩) | refine Dr.two ?_ ?_)
  apply Dr.val; (· exact rfl); (· decide); (· exact sGon); (· exact sYMl); (· exact sConv)
  refine Dr.go rfl (by rintro k ⟨⟩ <;> decide) sGon (S.call rfl rfl Try.func13 (by kernel_rfl) rfl sPicks (fun E' hE => few26 E' A n c B k d m sRd sRd) ?_)
  rintro e H' ⟨rfl, rfl⟩
  refine ⟨_, rfl, _, sCat, sConv, ?_⟩
  repeat (first | refine wMl ?_ | (refine kMl ?_; (first | rintro _ _ ⟨rfl, rfl⟩ | rintro _ _ ⟨_, rfl, rfl⟩ | rintro _ _ ⟨_, _, ⟨_, _⟩, rfl, rfl⟩); try refine ⟨sConv, ?_⟩) | refine Dr.two ?_ ?_)
  refine Dr.go rfl (by rintro k ⟨⟩ <;> decide) sGon (S.call rfl rfl Try.func13 (by kernel_rfl) rfl sPicks (fun E' hE => few26 E' A2 n2 c2 B2 k2 d2 m2 sRd sRd) ?_)
  rintro e H' ⟨rfl, rfl⟩
  refine ⟨_, rfl, _, sCat, sConv, ?_⟩
  clear hI hC hI2 hC2 hok hok2
  have hn30 : min n 30 ≤ 30 := Nat.min_le_right _ _
  have hk30 : min k 30 ≤ 30 := Nat.min_le_right _ _
  generalize m.few = f at *
  generalize m2.few = h at *
  generalize min n 30 = n at *
  generalize min k 30 = k at *
  generalize min n2 30 = n2 at *
  generalize min k2 30 = k2 at *
  repeat (first | refine wMl ?_ | (refine kMl ?_; (first | rintro _ _ ⟨rfl, rfl⟩ | rintro _ _ ⟨_, rfl, rfl⟩ | rintro _ _ ⟨_, _, ⟨_, _⟩, rfl, rfl⟩); try refine ⟨sConv, ?_⟩) | refine Dr.two ?_ ?_)
  have hn1 := hI3.len
  have hk1 := hC3.len
  refine L.step (by decide) (S.call rfl rfl Try.func14 (by kernel_rfl) rfl sPicks (fun E' hE => mclone E' A n c B k d f sRd sRd (by omega) (by omega)) ?_)
  rintro e H' ⟨A', c', B', d', rfl, hc1, hd1, rfl⟩
  refine ⟨_, rfl, _, sCat, ?_⟩
  repeat (first | refine wMl ?_ | (refine kMl ?_; (first | rintro _ _ ⟨rfl, rfl⟩ | rintro _ _ ⟨_, rfl, rfl⟩ | rintro _ _ ⟨_, _, ⟨_, _⟩, rfl, rfl⟩); try refine ⟨sConv, ?_⟩) | refine Dr.two ?_ ?_)
  rename_i g5
  have hself : decide (f = f) = true := decide_eq_true rfl
  refine L.step (by decide) (S.call rfl rfl Try.func9 (by kernel_rfl) rfl sPicks (fun E' hE => msame E' A' n c' B' k d' A n c B k d f f sRd sRd sRd sRd) ?_)
  rw [hself]
  rintro e H' ⟨rfl, rfl⟩
  refine ⟨_, rfl, _, sCat, ?_⟩
  have hmax : maxLen = 9223372036854775807 := rfl
  repeat (first | refine wMl ?_ | (refine kMl ?_; (first | rintro _ _ ⟨rfl, rfl⟩ | rintro _ _ ⟨_, rfl, rfl⟩ | rintro _ _ ⟨_, _, ⟨_, _⟩, rfl, rfl⟩); try refine ⟨sConv, ?_⟩) | refine Dr.two ?_ ?_)
  refine C.loop (X := Nat) (fun i => [(2, .pointer (some ⟨gA, 0, none⟩)), (3, .pointer (some ⟨gB, 0, none⟩)), (5, .pointer (some ⟨g5, 0, none⟩)), (6, .bool true), (7, .int .i64 i)]) (fun i => [blk gA 34 (mcs f A n c B k d), blk gB 34 (mcs h A2 n2 c2 B2 k2 d2), blk g5 34 (mcs f A' n c' B' k d'), own idnT A' n c' (upto_ upI f.ids i), own chgT B' k d' f.chs]) (fun i => i ≤ n) (fun i => n - i) 0 sHolds (by rw [upto_zero]; exact sConv) (Nat.zero_le _) ?_
  rintro i G hi
  by_cases hlt : i < n
  · obtain ⟨x, hx⟩ : ∃ x, f.ids[i]? = some x := ⟨_, List.getElem?_eq_getElem (by omega)⟩
    have hx2 := upto_at upI hx
    have hst := upto_set upI hx
    have hfs : Fset idnT x 1 (.int .i64 (IntKind.i64.wrap (x.seq + 1))) (upI x) := Fset.mk1 rfl (by decide) rfl
    have hul := upto_length upI f.ids i
    repeat (first | refine wMl ?_ | (refine kMl ?_; (first | rintro _ _ ⟨rfl, rfl⟩ | rintro _ _ ⟨_, rfl, rfl⟩ | rintro _ _ ⟨_, _, ⟨_, _⟩, rfl, rfl⟩); try refine ⟨sConv, ?_⟩) | refine Dr.two ?_ ?_)
    refine C.regionA 12 (.one 0 false (.one 1 false (.one 2 false (.one 3 false (.one 4 false (.one 5 false (.one 6 false (.one 7 false (.one 8 false (.one 9 false (.one 10 false (.one 11 false (.one 12 true .nil))))))))))))) _ (by kernel_rfl) (by kernel_rfl) Conv.refl ?_
    repeat (first | refine wMl ?_ | (refine kMl ?_; (first | rintro _ _ ⟨rfl, rfl⟩ | rintro _ _ ⟨_, rfl, rfl⟩ | rintro _ _ ⟨_, _, ⟨_, _⟩, rfl, rfl⟩); try refine ⟨sConv, ?_⟩) | refine Dr.two ?_ ?_)
    rw [hst]
    exact ⟨i + 1, sHolds, sConv, by omega, by omega⟩
  obtain rfl : i = n := by omega
  rw [upto_all upI f.ids hn1]
  repeat (first | refine wMl ?_ | (refine kMl ?_; (first | rintro _ _ ⟨rfl, rfl⟩ | rintro _ _ ⟨_, rfl, rfl⟩ | rintro _ _ ⟨_, _, ⟨_, _⟩, rfl, rfl⟩); try refine ⟨sConv, ?_⟩) | refine Dr.two ?_ ?_)
  refine C.loop (X := Nat) (fun j => [(2, .pointer (some ⟨gA, 0, none⟩)), (3, .pointer (some ⟨gB, 0, none⟩)), (5, .pointer (some ⟨g5, 0, none⟩)), (6, .bool true), (8, .int .i64 j)]) (fun j => [blk gA 34 (mcs f A i c B k d), blk gB 34 (mcs h A2 n2 c2 B2 k2 d2), blk g5 34 (mcs f A' i c' B' k d'), own idnT A' i c' (f.ids.map upI), own chgT B' k d' (upto_ upC f.chs j)]) (fun j => j ≤ k) (fun j => k - j) 0 sHolds (by rw [upto_zero]; exact sConv) (Nat.zero_le _) ?_
  rintro j G hj
  by_cases hlt2 : j < k
  · obtain ⟨x, hx⟩ : ∃ x, f.chs[j]? = some x := ⟨_, List.getElem?_eq_getElem (by omega)⟩
    have hx2 := upto_at upC hx
    have hst := upto_set upC hx
    have hfs : Fset chgT x 3 (.int .i64 (IntKind.i64.wrap (x.kind + 1))) (upC x) := Fset.mk1 rfl (by decide) rfl
    have hul := upto_length upC f.chs j
    repeat (first | refine wMl ?_ | (refine kMl ?_; (first | rintro _ _ ⟨rfl, rfl⟩ | rintro _ _ ⟨_, rfl, rfl⟩ | rintro _ _ ⟨_, _, ⟨_, _⟩, rfl, rfl⟩); try refine ⟨sConv, ?_⟩) | refine Dr.two ?_ ?_)
    refine C.regionA 12 (.one 0 false (.one 1 false (.one 2 false (.one 3 false (.one 4 false (.one 5 false (.one 6 false (.one 7 false (.one 8 false (.one 9 false (.one 10 false (.one 11 false (.one 12 true .nil))))))))))))) _ (by kernel_rfl) (by kernel_rfl) Conv.refl ?_
    repeat (first | refine wMl ?_ | (refine kMl ?_; (first | rintro _ _ ⟨rfl, rfl⟩ | rintro _ _ ⟨_, rfl, rfl⟩ | rintro _ _ ⟨_, _, ⟨_, _⟩, rfl, rfl⟩); try refine ⟨sConv, ?_⟩) | refine Dr.two ?_ ?_)
    rw [hst]
    exact ⟨j + 1, sHolds, sConv, by omega, by omega⟩
  obtain rfl : j = k := by omega
  rw [upto_all upC f.chs hk1]
  have hup := Mg.up_iff hok3 hok4
  have hI5 : f.up.ids = f.ids.map upI := rfl
  have hC5 : f.up.chs = f.chs.map upC := rfl
  rw [← hI5, ← hC5]
  have hcells : mcs f A' i c' B' j d' = mcs f.up A' i c' B' j d' := rfl
  rw [hcells]
  generalize f.up = u at *
  repeat (first | refine wMl ?_ | (refine kMl ?_; (first | rintro _ _ ⟨rfl, rfl⟩ | rintro _ _ ⟨_, rfl, rfl⟩ | rintro _ _ ⟨_, _, ⟨_, _⟩, rfl, rfl⟩); try refine ⟨sConv, ?_⟩) | refine Dr.two ?_ ?_)
  have hcmp : decide (0 < (i : Int) + (j : Int)) = !decide (f = u) := by
    by_cases h0 : i + j = 0
    · rw [decide_eq_true (hup.2 (by omega)), decide_eq_false (by omega)]; rfl
    · have hne : ¬ f = u := fun hq => h0 (by have := hup.1 hq; omega)
      rw [decide_eq_false hne, decide_eq_true (by omega)]; rfl
  rw [hcmp]
  cases hb : decide (f = h)
  all_goals cases hd : decide (f = u)
  · refine C.regionA 100000 (.one 0 false (.one 1 false (.one 2 false (.one 3 false (.one 5 false (.one 6 false (.one 4 true (.one 7 false (.one 8 false (.one 9 false (.one 10 false (.one 11 false (.one 13 false (.one 15 false (.one 12 true (.one 14 true (.one 16 true (.one 17 true (.one 18 false (.one 19 false (.one 20 false .nil))))))))))))))))))))) _ (by kernel_rfl) (by kernel_rfl) Conv.refl ?_
    repeat (first | refine wMl ?_ | (refine kMl ?_; (first | rintro _ _ ⟨rfl, rfl⟩ | rintro _ _ ⟨_, rfl, rfl⟩ | rintro _ _ ⟨_, _, ⟨_, _⟩, rfl, rfl⟩); try refine ⟨sConv, ?_⟩) | refine Dr.two ?_ ?_)
    refine Dr.go rfl (by rintro k ⟨⟩ <;> decide) sGon (S.call rfl rfl Try.func9 (by kernel_rfl) rfl sPicks (fun E' hE => msame E' A i c B j d A' i c' B' j d' f u sRd sRd sRd sRd) ?_)
    rw [hd]
    rintro e H' ⟨rfl, rfl⟩
    refine ⟨_, rfl, _, sCat, sConv, ?_⟩
    repeat (first | refine wMl ?_ | (refine kMl ?_; (first | rintro _ _ ⟨rfl, rfl⟩ | rintro _ _ ⟨_, rfl, rfl⟩ | rintro _ _ ⟨_, _, ⟨_, _⟩, rfl, rfl⟩); try refine ⟨sConv, ?_⟩) | refine Dr.two ?_ ?_)
    refine Dr.go rfl (by rintro k ⟨⟩ <;> decide) sGon (S.call rfl rfl Try.func9 (by kernel_rfl) rfl sPicks (fun E' hE => msame E' A i c B j d A2 n2 c2 B2 k2 d2 f h sRd sRd sRd sRd) ?_)
    rw [hb]
    rintro e H' ⟨rfl, rfl⟩
    refine ⟨_, rfl, _, sCat, sConv, ?_⟩
    repeat (first | refine wMl ?_ | (refine kMl ?_; (first | rintro _ _ ⟨rfl, rfl⟩ | rintro _ _ ⟨_, rfl, rfl⟩ | rintro _ _ ⟨_, _, ⟨_, _⟩, rfl, rfl⟩); try refine ⟨sConv, ?_⟩) | refine Dr.two ?_ ?_)
    refine Dr.go rfl (by rintro k ⟨⟩ <;> decide) sGon (S.call rfl rfl Try.func12 (by kernel_rfl) rfl sPicks (fun E' hE => mpair E' A i c B j d f) ?_)
    rintro e H' ⟨rfl, rfl⟩
    refine ⟨_, rfl, _, sCat, sConv, ?_⟩
    repeat (first | refine wMl ?_ | (refine kMl ?_; (first | rintro _ _ ⟨rfl, rfl⟩ | rintro _ _ ⟨_, rfl, rfl⟩ | rintro _ _ ⟨_, _, ⟨_, _⟩, rfl, rfl⟩); try refine ⟨sConv, ?_⟩) | refine Dr.two ?_ ?_)
    refine Dr.go rfl (by rintro k ⟨⟩ <;> decide) sGon (S.call rfl rfl Try.func12 (by kernel_rfl) rfl sPicks (fun E' hE => mpair E' A2 n2 c2 B2 k2 d2 h) ?_)
    rintro e H' ⟨rfl, rfl⟩
    refine ⟨_, rfl, _, sCat, sConv, ?_⟩
    repeat (first | refine wMl ?_ | (refine kMl ?_; (first | rintro _ _ ⟨rfl, rfl⟩ | rintro _ _ ⟨_, rfl, rfl⟩ | rintro _ _ ⟨_, _, ⟨_, _⟩, rfl, rfl⟩); try refine ⟨sConv, ?_⟩) | refine Dr.two ?_ ?_)
    refine Dr.go rfl (by rintro k ⟨⟩ <;> decide) sGon (S.call rfl rfl Try.func11 (by kernel_rfl) rfl sPicks (fun E' hE => rsame E' A i c B j d A2 n2 c2 B2 k2 d2 f h sRd sRd sRd sRd) ?_)
    rw [hb]
    rintro e H' ⟨rfl, rfl⟩
    refine ⟨_, rfl, _, sCat, sConv, ?_⟩
    repeat (first | refine wMl ?_ | (refine kMl ?_; (first | rintro _ _ ⟨rfl, rfl⟩ | rintro _ _ ⟨_, rfl, rfl⟩ | rintro _ _ ⟨_, _, ⟨_, _⟩, rfl, rfl⟩); try refine ⟨sConv, ?_⟩) | refine Dr.two ?_ ?_)
    exact ret1 rfl sRet sConv (rfl)
  · refine C.regionA 100000 (.one 0 false (.one 1 false (.one 2 false (.one 3 false (.one 5 false (.one 6 false (.one 4 true (.one 7 false (.one 8 false (.one 9 false (.one 10 false (.one 11 false (.one 13 false (.one 15 false (.one 12 true (.one 14 true (.one 16 true (.one 17 true (.one 18 false (.one 19 false (.one 20 false .nil))))))))))))))))))))) _ (by kernel_rfl) (by kernel_rfl) Conv.refl ?_
    repeat (first | refine wMl ?_ | (refine kMl ?_; (first | rintro _ _ ⟨rfl, rfl⟩ | rintro _ _ ⟨_, rfl, rfl⟩ | rintro _ _ ⟨_, _, ⟨_, _⟩, rfl, rfl⟩); try refine ⟨sConv, ?_⟩) | refine Dr.two ?_ ?_)
    refine Dr.go rfl (by rintro k ⟨⟩ <;> decide) sGon (S.call rfl rfl Try.func9 (by kernel_rfl) rfl sPicks (fun E' hE => msame E' A i c B j d A' i c' B' j d' f u sRd sRd sRd sRd) ?_)
    rw [hd]
    rintro e H' ⟨rfl, rfl⟩
    refine ⟨_, rfl, _, sCat, sConv, ?_⟩
    repeat (first | refine wMl ?_ | (refine kMl ?_; (first | rintro _ _ ⟨rfl, rfl⟩ | rintro _ _ ⟨_, rfl, rfl⟩ | rintro _ _ ⟨_, _, ⟨_, _⟩, rfl, rfl⟩); try refine ⟨sConv, ?_⟩) | refine Dr.two ?_ ?_)
    refine Dr.go rfl (by rintro k ⟨⟩ <;> decide) sGon (S.call rfl rfl Try.func9 (by kernel_rfl) rfl sPicks (fun E' hE => msame E' A i c B j d A2 n2 c2 B2 k2 d2 f h sRd sRd sRd sRd) ?_)
    rw [hb]
    rintro e H' ⟨rfl, rfl⟩
    refine ⟨_, rfl, _, sCat, sConv, ?_⟩
    repeat (first | refine wMl ?_ | (refine kMl ?_; (first | rintro _ _ ⟨rfl, rfl⟩ | rintro _ _ ⟨_, rfl, rfl⟩ | rintro _ _ ⟨_, _, ⟨_, _⟩, rfl, rfl⟩); try refine ⟨sConv, ?_⟩) | refine Dr.two ?_ ?_)
    refine Dr.go rfl (by rintro k ⟨⟩ <;> decide) sGon (S.call rfl rfl Try.func12 (by kernel_rfl) rfl sPicks (fun E' hE => mpair E' A i c B j d f) ?_)
    rintro e H' ⟨rfl, rfl⟩
    refine ⟨_, rfl, _, sCat, sConv, ?_⟩
    repeat (first | refine wMl ?_ | (refine kMl ?_; (first | rintro _ _ ⟨rfl, rfl⟩ | rintro _ _ ⟨_, rfl, rfl⟩ | rintro _ _ ⟨_, _, ⟨_, _⟩, rfl, rfl⟩); try refine ⟨sConv, ?_⟩) | refine Dr.two ?_ ?_)
    refine Dr.go rfl (by rintro k ⟨⟩ <;> decide) sGon (S.call rfl rfl Try.func12 (by kernel_rfl) rfl sPicks (fun E' hE => mpair E' A2 n2 c2 B2 k2 d2 h) ?_)
    rintro e H' ⟨rfl, rfl⟩
    refine ⟨_, rfl, _, sCat, sConv, ?_⟩
    repeat (first | refine wMl ?_ | (refine kMl ?_; (first | rintro _ _ ⟨rfl, rfl⟩ | rintro _ _ ⟨_, rfl, rfl⟩ | rintro _ _ ⟨_, _, ⟨_, _⟩, rfl, rfl⟩); try refine ⟨sConv, ?_⟩) | refine Dr.two ?_ ?_)
    refine Dr.go rfl (by rintro k ⟨⟩ <;> decide) sGon (S.call rfl rfl Try.func11 (by kernel_rfl) rfl sPicks (fun E' hE => rsame E' A i c B j d A2 n2 c2 B2 k2 d2 f h sRd sRd sRd sRd) ?_)
    rw [hb]
    rintro e H' ⟨rfl, rfl⟩
    refine ⟨_, rfl, _, sCat, sConv, ?_⟩
    repeat (first | refine wMl ?_ | (refine kMl ?_; (first | rintro _ _ ⟨rfl, rfl⟩ | rintro _ _ ⟨_, rfl, rfl⟩ | rintro _ _ ⟨_, _, ⟨_, _⟩, rfl, rfl⟩); try refine ⟨sConv, ?_⟩) | refine Dr.two ?_ ?_)
    exact ret1 rfl sRet sConv (rfl)
  · refine C.regionA 100000 (.one 0 false (.one 1 false (.one 2 false (.one 3 false (.one 5 false (.one 6 false (.one 4 true (.one 7 false (.one 8 false (.one 9 false (.one 10 false (.one 11 false (.one 13 false (.one 15 false (.one 12 true (.one 14 true (.one 16 true (.one 17 true (.one 18 false (.one 19 false (.one 20 false .nil))))))))))))))))))))) _ (by kernel_rfl) (by kernel_rfl) Conv.refl ?_
    repeat (first | refine wMl ?_ | (refine kMl ?_; (first | rintro _ _ ⟨rfl, rfl⟩ | rintro _ _ ⟨_, rfl, rfl⟩ | rintro _ _ ⟨_, _, ⟨_, _⟩, rfl, rfl⟩); try refine ⟨sConv, ?_⟩) | refine Dr.two ?_ ?_)
    refine Dr.go rfl (by rintro k ⟨⟩ <;> decide) sGon (S.call rfl rfl Try.func9 (by kernel_rfl) rfl sPicks (fun E' hE => msame E' A i c B j d A' i c' B' j d' f u sRd sRd sRd sRd) ?_)
    rw [hd]
    rintro e H' ⟨rfl, rfl⟩
    refine ⟨_, rfl, _, sCat, sConv, ?_⟩
    repeat (first | refine wMl ?_ | (refine kMl ?_; (first | rintro _ _ ⟨rfl, rfl⟩ | rintro _ _ ⟨_, rfl, rfl⟩ | rintro _ _ ⟨_, _, ⟨_, _⟩, rfl, rfl⟩); try refine ⟨sConv, ?_⟩) | refine Dr.two ?_ ?_)
    refine Dr.go rfl (by rintro k ⟨⟩ <;> decide) sGon (S.call rfl rfl Try.func9 (by kernel_rfl) rfl sPicks (fun E' hE => msame E' A i c B j d A2 n2 c2 B2 k2 d2 f h sRd sRd sRd sRd) ?_)
    rw [hb]
    rintro e H' ⟨rfl, rfl⟩
    refine ⟨_, rfl, _, sCat, sConv, ?_⟩
    repeat (first | refine wMl ?_ | (refine kMl ?_; (first | rintro _ _ ⟨rfl, rfl⟩ | rintro _ _ ⟨_, rfl, rfl⟩ | rintro _ _ ⟨_, _, ⟨_, _⟩, rfl, rfl⟩); try refine ⟨sConv, ?_⟩) | refine Dr.two ?_ ?_)
    refine Dr.go rfl (by rintro k ⟨⟩ <;> decide) sGon (S.call rfl rfl Try.func12 (by kernel_rfl) rfl sPicks (fun E' hE => mpair E' A i c B j d f) ?_)
    rintro e H' ⟨rfl, rfl⟩
    refine ⟨_, rfl, _, sCat, sConv, ?_⟩
    repeat (first | refine wMl ?_ | (refine kMl ?_; (first | rintro _ _ ⟨rfl, rfl⟩ | rintro _ _ ⟨_, rfl, rfl⟩ | rintro _ _ ⟨_, _, ⟨_, _⟩, rfl, rfl⟩); try refine ⟨sConv, ?_⟩) | refine Dr.two ?_ ?_)
    refine Dr.go rfl (by rintro k ⟨⟩ <;> decide) sGon (S.call rfl rfl Try.func12 (by kernel_rfl) rfl sPicks (fun E' hE => mpair E' A2 n2 c2 B2 k2 d2 h) ?_)
    rintro e H' ⟨rfl, rfl⟩
    refine ⟨_, rfl, _, sCat, sConv, ?_⟩
    repeat (first | refine wMl ?_ | (refine kMl ?_; (first | rintro _ _ ⟨rfl, rfl⟩ | rintro _ _ ⟨_, rfl, rfl⟩ | rintro _ _ ⟨_, _, ⟨_, _⟩, rfl, rfl⟩); try refine ⟨sConv, ?_⟩) | refine Dr.two ?_ ?_)
    refine Dr.go rfl (by rintro k ⟨⟩ <;> decide) sGon (S.call rfl rfl Try.func11 (by kernel_rfl) rfl sPicks (fun E' hE => rsame E' A i c B j d A2 n2 c2 B2 k2 d2 f h sRd sRd sRd sRd) ?_)
    rw [hb]
    rintro e H' ⟨rfl, rfl⟩
    refine ⟨_, rfl, _, sCat, sConv, ?_⟩
    repeat (first | refine wMl ?_ | (refine kMl ?_; (first | rintro _ _ ⟨rfl, rfl⟩ | rintro _ _ ⟨_, rfl, rfl⟩ | rintro _ _ ⟨_, _, ⟨_, _⟩, rfl, rfl⟩); try refine ⟨sConv, ?_⟩) | refine Dr.two ?_ ?_)
    exact ret1 rfl sRet sConv (rfl)
  · refine C.regionA 100000 (.one 0 false (.one 1 false (.one 2 false (.one 3 false (.one 5 false (.one 6 false (.one 4 true (.one 7 false (.one 8 false (.one 9 false (.one 10 false (.one 11 false (.one 13 false (.one 15 false (.one 12 true (.one 14 true (.one 16 true (.one 17 true (.one 18 false (.one 19 false (.one 20 false .nil))))))))))))))))))))) _ (by kernel_rfl) (by kernel_rfl) Conv.refl ?_
    repeat (first | refine wMl ?_ | (refine kMl ?_; (first | rintro _ _ ⟨rfl, rfl⟩ | rintro _ _ ⟨_, rfl, rfl⟩ | rintro _ _ ⟨_, _, ⟨_, _⟩, rfl, rfl⟩); try refine ⟨sConv, ?_⟩) | refine Dr.two ?_ ?_)
    refine Dr.go rfl (by rintro k ⟨⟩ <;> decide) sGon (S.call rfl rfl Try.func9 (by kernel_rfl) rfl sPicks (fun E' hE => msame E' A i c B j d A' i c' B' j d' f u sRd sRd sRd sRd) ?_)
    rw [hd]
    rintro e H' ⟨rfl, rfl⟩
    refine ⟨_, rfl, _, sCat, sConv, ?_⟩
    repeat (first | refine wMl ?_ | (refine kMl ?_; (first | rintro _ _ ⟨rfl, rfl⟩ | rintro _ _ ⟨_, rfl, rfl⟩ | rintro _ _ ⟨_, _, ⟨_, _⟩, rfl, rfl⟩); try refine ⟨sConv, ?_⟩) | refine Dr.two ?_ ?_)
    refine Dr.go rfl (by rintro k ⟨⟩ <;> decide) sGon (S.call rfl rfl Try.func9 (by kernel_rfl) rfl sPicks (fun E' hE => msame E' A i c B j d A2 n2 c2 B2 k2 d2 f h sRd sRd sRd sRd) ?_)
    rw [hb]
    rintro e H' ⟨rfl, rfl⟩
    refine ⟨_, rfl, _, sCat, sConv, ?_⟩
    repeat (first | refine wMl ?_ | (refine kMl ?_; (first | rintro _ _ ⟨rfl, rfl⟩ | rintro _ _ ⟨_, rfl, rfl⟩ | rintro _ _ ⟨_, _, ⟨_, _⟩, rfl, rfl⟩); try refine ⟨sConv, ?_⟩) | refine Dr.two ?_ ?_)
    refine Dr.go rfl (by rintro k ⟨⟩ <;> decide) sGon (S.call rfl rfl Try.func12 (by kernel_rfl) rfl sPicks (fun E' hE => mpair E' A i c B j d f) ?_)
    rintro e H' ⟨rfl, rfl⟩
    refine ⟨_, rfl, _, sCat, sConv, ?_⟩
    repeat (first | refine wMl ?_ | (refine kMl ?_; (first | rintro _ _ ⟨rfl, rfl⟩ | rintro _ _ ⟨_, rfl, rfl⟩ | rintro _ _ ⟨_, _, ⟨_, _⟩, rfl, rfl⟩); try refine ⟨sConv, ?_⟩) | refine Dr.two ?_ ?_)
    refine Dr.go rfl (by rintro k ⟨⟩ <;> decide) sGon (S.call rfl rfl Try.func12 (by kernel_rfl) rfl sPicks (fun E' hE => mpair E' A2 n2 c2 B2 k2 d2 h) ?_)
    rintro e H' ⟨rfl, rfl⟩
    refine ⟨_, rfl, _, sCat, sConv, ?_⟩
    repeat (first | refine wMl ?_ | (refine kMl ?_; (first | rintro _ _ ⟨rfl, rfl⟩ | rintro _ _ ⟨_, rfl, rfl⟩ | rintro _ _ ⟨_, _, ⟨_, _⟩, rfl, rfl⟩); try refine ⟨sConv, ?_⟩) | refine Dr.two ?_ ?_)
    refine Dr.go rfl (by rintro k ⟨⟩ <;> decide) sGon (S.call rfl rfl Try.func11 (by kernel_rfl) rfl sPicks (fun E' hE => rsame E' A i c B j d A2 n2 c2 B2 k2 d2 f h sRd sRd sRd sRd) ?_)
    rw [hb]
    rintro e H' ⟨rfl, rfl⟩
    refine ⟨_, rfl, _, sCat, sConv, ?_⟩
    repeat (first | refine wMl ?_ | (refine kMl ?_; (first | rintro _ _ ⟨rfl, rfl⟩ | rintro _ _ ⟨_, rfl, rfl⟩ | rintro _ _ ⟨_, _, ⟨_, _⟩, rfl, rfl⟩); try refine ⟨sConv, ?_⟩) | refine Dr.two ?_ ?_)
    exact ret1 rfl sRet sConv (rfl)
end
end Go.Proofs.Ytihblcljkndpgaa.Sep
