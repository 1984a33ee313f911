/- the document's log: where the half that counts begins, octets laid; by parts of memory. -/
import Derived.Test.YtkhmplaocfjpjaaRef12
namespace Go.Proofs.Ytkhmplaocfjpjaa.Sep
open Go.RowKit Go.Proofs.Ytkhmplaocfjpjaa.Reg
open Go.Proofs.Ytkhmplaocfjpjaa.Mem hiding Rd Own
set_option maxRecDepth 100000
-- types: octT slT op12T
-- recs: rec_Disk plate_rec log_rec rdisk_rec rlog_rec op12_rec
set_option maxRecDepth 100000
set_option maxHeartbeats 6000000
structure RL where
  N : Nat
  pos : Nat
  R : Option Addr
  m : Nat
  rc : Nat
  recs : List Oc
  dur : Nat
  P : Option Addr
  p : Nat
  pc : Nat
  pend : List UInt8
  B : Option Addr
  k : Nat
  bc : Nat
  D : List UInt8
  F : Int
  dead : Bool
  wr : Int
abbrev rlg (g e : Nat) (w : RL) : Asn := blk g 159 [.pointer (some ⟨e, 0, none⟩), .int .i64 (w.N : Int), .int .i64 (w.pos : Int), .slice w.R w.m w.rc, .int .i64 (w.dur : Int), .slice w.P w.p w.pc]
abbrev rst (g e : Nat) (w : RL) : List Asn := [rlg g e w, own slT w.R w.m w.rc w.recs, each oOc w.recs, own octT w.P w.p w.pc w.pend, rdk e w.B w.k w.bc w.F w.dead w.wr, own octT w.B w.k w.bc w.D]
def RL.s (w : RL) : LS := ⟨w.N, w.D, w.recs.map (·.b), w.dur, w.pos, w.pend, w.dead, w.F⟩
structure RL.ok (w : RL) : Prop where
  hm : w.m = w.recs.length
  hp : w.p = w.pend.length
  hk : w.k = w.D.length
  n0 : 1 ≤ w.N
  n1 : w.N ≤ 64
  len : w.k = 32 * (2 * w.N + 1)
  a0 : -1 ≤ w.F
  a1 : w.F ≤ 9223372036854775807
  w0 : 0 ≤ w.wr
  fit : w.pos + w.pend.length ≤ 32 * w.N
  recs : w.m ≤ 100000
  dur : w.dur ≤ w.m
  wide : ∀ x ∈ w.recs, x.n = x.b.length ∧ x.b.length ≤ 4096
section
variable (E : Env) (g e : Nat) (w : RL)
theorem rhalf (other : Bool) (hD : w.D.length = w.k) (hk : 32 ≤ w.k) (hk2 : w.k ≤ 10000) (hN : w.N ≤ 64) (dead : Bool) (F wr : Int) : Tri Try.prog E 126 #[.pointer (some ⟨g, 0, none⟩), .bool other] [rlg g e w, rdk e w.B w.k w.bc F dead wr, own octT w.B w.k w.bc w.D] fun r H' => r = .returned (.int .i64 ((hfrom w.N (if other = true then 1 - hb w.D else hb w.D) : Nat) : Int)) ∧ H' = [rlg g e w, rdk e w.B w.k w.bc F dead wr, own octT w.B w.k w.bc w.D] := by
  have hmax : maxLen = 9223372036854775807 := rfl
  obtain ⟨x, hx⟩ : ∃ x, w.D[0]? = some x := ⟨_, List.getElem?_eq_getElem (i := 0) (by omega)⟩
  have hbx : hb w.D = x.toNat % 2 := by
    unfold hb
    cases hf : w.D with
    | nil => rw [hf] at hx; cases hx
    | cons y t => rw [hf] at hx; injection hx with hx; rw [hx]; rfl
  have hrem : (x.toNat : Int).tmod 2 = ((x.toNat % 2 : Nat) : Int) := by rw [Int.tmod_eq_emod_of_nonneg (by omega)]; omega
  have e1 : IntKind.i64.wrap (1 + (w.N : Int)) = 1 + (w.N : Int) := IntWalk.i64_in _ (by omega)
  have e2 : IntKind.i64.wrap (32 * (1 + (w.N : Int))) = ((hfrom w.N 1 : Nat) : Int) := by rw [IntWalk.i64_in _ (by omega)]; unfold hfrom; omega
  have e3 : ((hfrom w.N 0 : Nat) : Int) = 32 := by unfold hfrom; omega
  rw [hbx]
  refine tri Try.func126 rfl Try.ntmps126 (by simp) ?_
  have h01 : x.toNat % 2 = 0 ∨ x.toNat % 2 = 1 := by omega
  rcases h01 with h0 | h0
  · rw [h0] at hrem ⊢
    cases other
    · rw [if_neg Bool.false_ne_true, e3]
      repeat (first | refine wRf12 ?_ | (refine kRf12 ?_; (first | rintro _ _ ⟨rfl, rfl⟩ | rintro _ _ ⟨_, rfl, rfl⟩ | rintro _ _ ⟨_, _, ⟨_, _⟩, rfl, rfl⟩); try refine ⟨sConv, ?_⟩) | refine Dr.two ?_ ?_)
      exact ret1 rfl sRet sConv (⟨rfl, rfl⟩)
    · rw [if_pos rfl, show 1 - 0 = 1 from rfl]
      repeat (first | refine wRf12 ?_ | (refine kRf12 ?_; (first | rintro _ _ ⟨rfl, rfl⟩ | rintro _ _ ⟨_, rfl, rfl⟩ | rintro _ _ ⟨_, _, ⟨_, _⟩, rfl, rfl⟩); try refine ⟨sConv, ?_⟩) | refine Dr.two ?_ ?_)
      exact ret1 rfl sRet sConv (⟨rfl, rfl⟩)
  · rw [h0] at hrem ⊢
    cases other
    · rw [if_neg Bool.false_ne_true]
      repeat (first | refine wRf12 ?_ | (refine kRf12 ?_; (first | rintro _ _ ⟨rfl, rfl⟩ | rintro _ _ ⟨_, rfl, rfl⟩ | rintro _ _ ⟨_, _, ⟨_, _⟩, rfl, rfl⟩); try refine ⟨sConv, ?_⟩) | refine Dr.two ?_ ?_)
      exact ret1 rfl sRet sConv (⟨rfl, rfl⟩)
    · rw [if_pos rfl, show 1 - 1 = 0 from rfl, e3]
      repeat (first | refine wRf12 ?_ | (refine kRf12 ?_; (first | rintro _ _ ⟨rfl, rfl⟩ | rintro _ _ ⟨_, rfl, rfl⟩ | rintro _ _ ⟨_, _, ⟨_, _⟩, rfl, rfl⟩); try refine ⟨sConv, ?_⟩) | refine Dr.two ?_ ?_)
      exact ret1 rfl sRet sConv (⟨rfl, rfl⟩)
theorem fill_step {C : List UInt8} {j : Nat} {x : UInt8} (hC : C.length = 32) (hx : C[j]? = some x) : (C.take j ++ List.replicate (32 - j) 0).set j x = C.take (j + 1) ++ List.replicate (32 - (j + 1)) 0 := by
  have hj := (List.getElem?_eq_some_iff.1 hx).1
  have l1 : (C.take j).length = j := by rw [List.length_take]; omega
  rw [List.set_append_right _ _ (by omega), l1, Nat.sub_self, show 32 - j = (32 - (j + 1)) + 1 by omega, List.replicate_succ, List.set_cons_zero, List.take_succ_eq_append_getElem hj, (List.getElem?_eq_some_iff.1 hx).2, List.append_assoc]
  rfl
def RLayPost (g e : Nat) (w : RL) (F wr : Int) (D : List UInt8) (h a : Nat) (b : List UInt8) : Ending → List Asn → Prop := fun r H' =>
  ∃ wr', r = .returned (.bool (!lcut F a b.length)) ∧ wr ≤ wr' ∧ wr' ≤ wr + 2048 ∧ H' = [rlg g e w, rdk e w.B w.k w.bc (larm F a b.length) (lcut F a b.length) wr', own octT w.B w.k w.bc (sp D (hfrom w.N h + a) (b.take (lq F a b.length)))]
theorem rlay (F wr : Int) (D : List UInt8) (h a : Nat) (X : Option Addr) (m cx : Nat) (b : List UInt8) (hr : Rd E octT X m cx b) (hD : D.length = w.k) (hlen : w.k = 32 * (2 * w.N + 1)) (hh : h ≤ 1) (hN64 : w.N ≤ 64) (ha : -1 ≤ F) (ha2 : F ≤ 9223372036854775807) (hw : 0 ≤ wr) (hw2 : wr ≤ 900000) (hfit : a + b.length ≤ 32 * w.N) :
    Tri Try.prog E 125 #[.pointer (some ⟨g, 0, none⟩), .int .i64 ((hfrom w.N h : Nat) : Int), .int .i64 (a : Int), .slice X m cx] [rlg g e w, rdk e w.B w.k w.bc F false wr, own octT w.B w.k w.bc D] (RLayPost g e w F wr D h a b) := by
  have hmax : maxLen = 9223372036854775807 := rfl
  have hm := hr.len
  have hcx := hr.cap
  have hDl : D.length = 32 * (2 * w.N + 1) := by omega
  have hol := hocts_length (D := D) hDl hh
  have hf := hfrom_le (N := w.N) hh
  unfold RLayPost
  refine tri Try.func125 rfl Try.ntmps125 (by simp) ?_
  by_cases hb0 : m = 0
  · have hbn : b = [] := List.eq_nil_of_length_eq_zero (by omega)
    subst hb0 hbn
    have h1 : lcut F a ([] : List UInt8).length = false := lcut_none _ _
    have h2 : larm F a ([] : List UInt8).length = F := by
      unfold larm cnt
      rw [if_neg (by simp <;> omega)]
      split
      · rename_i h; exact h.symm
      · simp
    rw [h1, h2, List.take_nil, sp_nil]
    repeat (first | refine wRf12 ?_ | (refine kRf12 ?_; (first | rintro _ _ ⟨rfl, rfl⟩ | rintro _ _ ⟨_, rfl, rfl⟩ | rintro _ _ ⟨_, _, ⟨_, _⟩, rfl, rfl⟩); try refine ⟨sConv, ?_⟩) | refine Dr.two ?_ ?_)
    exact ret1 rfl sRet sConv (⟨wr, rfl, Int.le_refl _, by omega, rfl⟩)
  have hab : IntKind.i64.wrap ((a : Int) + (m : Int)) = ((a + m : Nat) : Int) := by rw [IntWalk.i64_in _ (by omega)]; omega
  have hq32 : IntKind.i64.wrap ((a : Int).tdiv 32) = ((a / 32 : Nat) : Int) := by
    rw [show (a : Int).tdiv 32 = ((a / 32 : Nat) : Int) by rw [Int.tdiv_eq_ediv_of_nonneg (by omega)]; omega]
    exact IntWalk.i64_in _ (by omega)
  obtain ⟨q, hq⟩ : ∃ q, h * w.N = q := ⟨_, rfl⟩
  have hqN : q ≤ w.N := by rw [← hq]; have : h * w.N ≤ 1 * w.N := Nat.mul_le_mul_right _ hh; omega
  have hfr : hfrom w.N h = 32 * (1 + q) := by unfold hfrom; rw [hq]
  have hSl : (sp (hocts D w.N h) a b).length = 32 * w.N := by rw [sp_length (by omega), hol]
  have hqf : IntKind.i64.wrap (((hfrom w.N h : Nat) : Int).tdiv 32) = ((1 + q : Nat) : Int) := by
    rw [show ((hfrom w.N h : Nat) : Int).tdiv 32 = ((1 + q : Nat) : Int) by rw [Int.tdiv_eq_ediv_of_nonneg (by omega)]; omega]
    exact IntWalk.i64_in _ (by omega)
  repeat (first | refine wRf12 ?_ | (refine kRf12 ?_; (first | rintro _ _ ⟨rfl, rfl⟩ | rintro _ _ ⟨_, rfl, rfl⟩ | rintro _ _ ⟨_, _, ⟨_, _⟩, rfl, rfl⟩); try refine ⟨sConv, ?_⟩) | refine Dr.two ?_ ?_)
  refine C.loop (X := Nat × Int × Int) (fun x => [(0, .pointer (some ⟨g, 0, none⟩)), (1, .int .i64 ((hfrom w.N h : Nat) : Int)), (2, .int .i64 (a : Int)), (3, .slice X m cx), (9, .int .i64 x.1)])
    (fun x => [rlg g e w, rdk e w.B w.k w.bc x.2.1 false x.2.2, own octT w.B w.k w.bc (sp D (hfrom w.N h + a) (b.take (min b.length (32 * x.1 - a))))])
    (fun x => a / 32 ≤ x.1 ∧ 32 * x.1 < a + m + 32 ∧ ((F = -1 ∧ x.2.1 = -1) ∨ (0 ≤ x.2.1 ∧ x.2.1 = F - 32 * ((x.1 : Int) - (a / 32 : Nat)))) ∧ x.2.2 = wr + 32 * ((x.1 : Int) - (a / 32 : Nat)))
    (fun x => a + m + 32 - 32 * x.1) (a / 32, F, wr) sHolds (by dsimp only; rw [show 32 * (a / 32) - a = 0 by omega, Nat.min_eq_right (Nat.zero_le _), List.take_zero, sp_nil]; exact sConv) ⟨Nat.le_refl _, by dsimp only; omega, by dsimp only; omega, by dsimp only; omega⟩ ?_
  rintro ⟨i, Fi, wi⟩ G ⟨hi0, hi1, hF, hwi⟩
  dsimp only at hi0 hi1 hF hwi ⊢
  have hi32 : IntKind.i64.wrap ((i : Int) * 32) = ((32 * i : Nat) : Int) := by rw [IntWalk.i64_in _ (by omega)]; omega
  have hcn : cnt a b.length = (a + b.length + 31) / 32 - a / 32 := by unfold cnt; rw [if_neg (by omega)]
  by_cases hlt : 32 * i < a + m
  · obtain ⟨Di, hDi⟩ : ∃ Di, sp D (hfrom w.N h + a) (b.take (min b.length (32 * i - a))) = Di := ⟨_, rfl⟩
    have hbt : (b.take (min b.length (32 * i - a))).length = min b.length (32 * i - a) := by rw [List.length_take]; omega
    have hDil : Di.length = w.k := by rw [← hDi, sp_length (by rw [hbt]; omega)]; exact hD
    obtain ⟨C0, hC0⟩ : ∃ C0, ((sp (hocts D w.N h) a b).drop (32 * i)).take 32 = C0 := ⟨_, rfl⟩
    have hCl : C0.length = 32 := by rw [← hC0, List.length_take, List.length_drop, hSl]; omega
    have hCat : ∀ j, j < 32 → C0[j]? = if a ≤ 32 * i + j ∧ 32 * i + j < a + b.length then b[32 * i + j - a]? else Di[hfrom w.N h + 32 * i + j]? := by
      intro j hj
      rw [← hC0, take_get, if_pos hj, List.getElem?_drop, sp_get (by omega), ← hDi, sp_get (by rw [hbt]; omega), hbt]
      by_cases c1 : 32 * i + j < a
      · rw [if_pos c1, if_neg (by omega), hocts_get (by omega), if_pos (by omega)]; congr 1; omega
      · rw [if_neg c1]
        by_cases c2 : 32 * i + j < a + b.length
        · rw [if_pos c2, if_pos (by omega)]
        · rw [if_neg c2, if_neg (by omega), hocts_get (by omega), if_neg (by omega), if_neg (by omega)]; congr 1; omega
    have hnew : sp Di (32 * (1 + q + i)) (C0.take (wk Fi)) = sp D (hfrom w.N h + a) (b.take (min b.length (32 * i + wk Fi - a))) := by
      rw [← hDi, ← hC0, show 32 * (1 + q + i) = hfrom w.N h + 32 * i by rw [hfr]; omega]
      exact lay_one hDl hh hfit hi0 (by omega) (wk_le _)
    have hFi1 : -1 ≤ Fi := by omega
    have hFi2 : Fi ≤ 9223372036854775807 := by omega
    have hwi1 : 0 ≤ wi := by omega
    have hwi2 : wi ≤ 1000000 := by omega
    have e44 : IntKind.i64.wrap (((hfrom w.N h : Nat) : Int) + ((32 * i : Nat) : Int)) = ((hfrom w.N h + 32 * i : Nat) : Int) := by rw [IntWalk.i64_in _ (by omega)]; omega
    rw [hDi]
    repeat (first | refine wRf12 ?_ | (refine kRf12 ?_; (first | rintro _ _ ⟨rfl, rfl⟩ | rintro _ _ ⟨_, rfl, rfl⟩ | rintro _ _ ⟨_, _, ⟨_, _⟩, rfl, rfl⟩); try refine ⟨sConv, ?_⟩) | refine Dr.two ?_ ?_)
    rename_i gs
    refine C.loop (X := Nat) (fun j => [(0, .pointer (some ⟨g, 0, none⟩)), (1, .int .i64 ((hfrom w.N h : Nat) : Int)), (2, .int .i64 (a : Int)), (3, .slice X m cx), (9, .int .i64 i), (10, .slice (some ⟨gs, 0, none⟩) 32 32), (11, .int .i64 j)])
      (fun j => [own octT (some ⟨gs, 0, none⟩) 32 32 (C0.take j ++ List.replicate (32 - j) 0), rlg g e w, rdk e w.B w.k w.bc Fi false wi, own octT w.B w.k w.bc Di]) (fun j => j ≤ 32) (fun j => 32 - j) 0 sHolds (by rw [List.take_zero, List.nil_append, show List.replicate (32 - 0) (0 : UInt8) = List.replicate 32 octT_z from rfl]; exact sConv) (Nat.zero_le _) ?_
    rintro j G2 hj
    by_cases hjl : j < 32
    · obtain ⟨v, hv⟩ : ∃ v, Di[hfrom w.N h + 32 * i + j]? = some v := ⟨_, List.getElem?_eq_getElem (by omega)⟩
      have hLl : (C0.take j ++ List.replicate (32 - j) (0 : UInt8)).length = 32 := by rw [List.length_append, List.length_take, List.length_replicate]; omega
      obtain ⟨y, hy⟩ : ∃ y, (C0.take j ++ List.replicate (32 - j) (0 : UInt8))[j]? = some y := ⟨_, List.getElem?_eq_getElem (by omega)⟩
      have hCj := hCat j hjl
      have e46 : IntKind.i64.wrap (((hfrom w.N h + 32 * i : Nat) : Int) + (j : Int)) = ((hfrom w.N h + 32 * i + j : Nat) : Int) := by rw [IntWalk.i64_in _ (by omega)]; omega
      have e53 : IntKind.i64.wrap (((32 * i : Nat) : Int) + (j : Int)) = ((32 * i + j : Nat) : Int) := by rw [IntWalk.i64_in _ (by omega)]; omega
      by_cases hin : a ≤ 32 * i + j ∧ 32 * i + j < a + b.length
      · rw [if_pos hin] at hCj
        obtain ⟨x, hx⟩ : ∃ x, b[32 * i + j - a]? = some x := ⟨_, List.getElem?_eq_getElem (by omega)⟩
        rw [hx] at hCj
        have hst := fill_step hCl hCj
        have e55 : IntKind.i64.wrap (((32 * i + j : Nat) : Int) - (a : Int)) = ((32 * i + j - a : Nat) : Int) := by rw [IntWalk.i64_in _ (by omega)]; omega
        have hy2 : ((C0.take j ++ List.replicate (32 - j) (0 : UInt8)).set j v)[j]? = some v := List.getElem?_set_self (by omega)
        have hss : ((C0.take j ++ List.replicate (32 - j) (0 : UInt8)).set j v).set j x = (C0.take j ++ List.replicate (32 - j) (0 : UInt8)).set j x := by rw [List.set_set]
        repeat (first | refine wRf12 ?_ | (refine kRf12 ?_; (first | rintro _ _ ⟨rfl, rfl⟩ | rintro _ _ ⟨_, rfl, rfl⟩ | rintro _ _ ⟨_, _, ⟨_, _⟩, rfl, rfl⟩); try refine ⟨sConv, ?_⟩) | refine Dr.two ?_ ?_)
        exact ⟨j + 1, sHolds, by rw [hss, hst]; exact sConv, by omega, by omega⟩
      · rw [if_neg hin, hv] at hCj
        have hst := fill_step hCl hCj
        by_cases hlo : a ≤ 32 * i + j
        · have e55 : IntKind.i64.wrap (((32 * i + j : Nat) : Int) - (a : Int)) = ((32 * i + j - a : Nat) : Int) := by rw [IntWalk.i64_in _ (by omega)]; omega
          repeat (first | refine wRf12 ?_ | (refine kRf12 ?_; (first | rintro _ _ ⟨rfl, rfl⟩ | rintro _ _ ⟨_, rfl, rfl⟩ | rintro _ _ ⟨_, _, ⟨_, _⟩, rfl, rfl⟩); try refine ⟨sConv, ?_⟩) | refine Dr.two ?_ ?_)
          exact ⟨j + 1, sHolds, by rw [hst]; exact sConv, by omega, by omega⟩
        · have e55 : IntKind.i64.wrap (((32 * i + j : Nat) : Int) - (a : Int)) = ((32 * i + j : Nat) : Int) - (a : Int) := IntWalk.i64_in _ (by omega)
          repeat (first | refine wRf12 ?_ | (refine kRf12 ?_; (first | rintro _ _ ⟨rfl, rfl⟩ | rintro _ _ ⟨_, rfl, rfl⟩ | rintro _ _ ⟨_, _, ⟨_, _⟩, rfl, rfl⟩); try refine ⟨sConv, ?_⟩) | refine Dr.two ?_ ?_)
          exact ⟨j + 1, sHolds, by rw [hst]; exact sConv, by omega, by omega⟩
    obtain rfl : j = 32 := by omega
    rw [show 32 - 32 = 0 from rfl, List.replicate_zero, List.append_nil, List.take_of_length_le (l := C0) (i := 32) (by omega)]
    have e78 : IntKind.i64.wrap (((1 + q : Nat) : Int) + (i : Int)) = ((1 + q + i : Nat) : Int) := by rw [IntWalk.i64_in _ (by omega)]; omega
    have hkl : w.k = Di.length := hDil.symm
    have hk2 : w.k ≤ 10000 := by omega
    have hin2 : 32 * (1 + q + i) + 32 ≤ w.k := by omega
    repeat (first | refine wRf12 ?_ | (refine kRf12 ?_; (first | rintro _ _ ⟨rfl, rfl⟩ | rintro _ _ ⟨_, rfl, rfl⟩ | rintro _ _ ⟨_, _, ⟨_, _⟩, rfl, rfl⟩); try refine ⟨sConv, ?_⟩) | refine Dr.two ?_ ?_)
    refine L.step (by decide) (S.call rfl rfl Try.func127 (by kernel_rfl) rfl sPicks (fun E' hE => rwrite E' e w.B w.k w.bc Fi wi Di (some ⟨gs, 0, none⟩) 32 C0 (1 + q + i) hCl (Sub.own hE sHas) hkl hk2 hin2 hFi1 hFi2 hwi1 hwi2) ?_)
    rw [hnew]
    cases hwd : wdead Fi
    · unfold wdead at hwd
      have hwd := of_decide_eq_false hwd
      have hk : wk Fi = 32 := by unfold wk; rw [if_neg hwd]
      rw [hk]
      rintro r H' ⟨rfl, rfl⟩
      refine ⟨_, rfl, _, sCat, ?_⟩
      repeat (first | refine wRf12 ?_ | (refine kRf12 ?_; (first | rintro _ _ ⟨rfl, rfl⟩ | rintro _ _ ⟨_, rfl, rfl⟩ | rintro _ _ ⟨_, _, ⟨_, _⟩, rfl, rfl⟩); try refine ⟨sConv, ?_⟩) | refine Dr.two ?_ ?_)
      refine ⟨(i + 1, _, _), sHolds, by dsimp only; rw [show 32 * (i + 1) = 32 * i + 32 by omega]; exact sConv, ⟨by dsimp only; omega, by dsimp only; omega, ?_, ?_⟩, by dsimp only; omega⟩
      · dsimp only
        unfold warmed
        rw [if_neg hwd]
        split <;> omega
      · dsimp only
        omega
    · unfold wdead at hwd
      have hwd := of_decide_eq_true hwd
      have hk : wk Fi = Fi.toNat := by unfold wk; rw [if_pos hwd]
      have hcut : 0 ≤ F ∧ F < 32 * (cnt a b.length : Nat) := by rw [hcn]; omega
      have h1 : lcut F a b.length = true := decide_eq_true hcut
      have h2 : larm F a b.length = -1 := by unfold larm; rw [if_pos hcut]
      have h3 : lq F a b.length = min b.length (32 * i + wk Fi - a) := by unfold lq; rw [if_pos hcut, hk]; omega
      have h4 : warmed Fi = -1 := by unfold warmed; rw [if_pos hwd]
      rw [h1, h2, h3, h4]
      rintro r H' ⟨rfl, rfl⟩
      refine ⟨_, rfl, _, sCat, ?_⟩
      repeat (first | refine wRf12 ?_ | (refine kRf12 ?_; (first | rintro _ _ ⟨rfl, rfl⟩ | rintro _ _ ⟨_, rfl, rfl⟩ | rintro _ _ ⟨_, _, ⟨_, _⟩, rfl, rfl⟩); try refine ⟨sConv, ?_⟩) | refine Dr.two ?_ ?_)
      exact ret1 rfl sRet sConv (⟨_, rfl, by rw [hk]; omega, by rw [hk]; omega, rfl⟩)
  · have hcut : ¬ (0 ≤ F ∧ F < 32 * (cnt a b.length : Nat)) := by rw [hcn]; omega
    have h1 : lcut F a b.length = false := decide_eq_false hcut
    have h2 : larm F a b.length = Fi := by unfold larm; rw [if_neg hcut, hcn]; split <;> omega
    have h3 : lq F a b.length = min b.length (32 * i - a) := by unfold lq; rw [if_neg hcut]; omega
    rw [h1, h2, h3]
    repeat (first | refine wRf12 ?_ | (refine kRf12 ?_; (first | rintro _ _ ⟨rfl, rfl⟩ | rintro _ _ ⟨_, rfl, rfl⟩ | rintro _ _ ⟨_, _, ⟨_, _⟩, rfl, rfl⟩); try refine ⟨sConv, ?_⟩) | refine Dr.two ?_ ?_)
    exact ret1 rfl sRet sConv (⟨wi, rfl, by omega, by omega, rfl⟩)
end
end Go.Proofs.Ytkhmplaocfjpjaa.Sep
