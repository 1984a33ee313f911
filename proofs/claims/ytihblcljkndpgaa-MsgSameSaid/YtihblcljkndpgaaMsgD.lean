/- The document's message, read: a key, a request's effect. -/
import Derived.Test.YtihblcljkndpgaaMsg9
import Derived.Test.YtihblcljkndpgaaMsgLaw
import Derived.Test.YtihblcljkndpgaaEnt10
import Derived.Test.YtihblcljkndpgaaFrame2
import Derived.Test.YtihblcljkndpgaaMsg4
namespace Go.Proofs.Ytihblcljkndpgaa.Sep
open Go.RowKit Go.Proofs.Ytihblcljkndpgaa.Reg Go.Proofs.Ytihblcljkndpgaa.Oct
open Go.Proofs.Ytihblcljkndpgaa.Mem hiding Rd Own
-- types: octT idnT chgT intT
-- recs: rec_Reader idnT_rec effT_rec chgT_rec keyT_rec mgT_rec rgT_rec wrT_rec rdT_rec
-- eqs: idnT_eqa effT_eqa chgT_eqa keyT_eqa
-- eqrs: k4_eqr
-- zeros: z_octs z_rdr
-- funcs
-- flds
-- arrp
set_option maxRecDepth 100000
set_option maxHeartbeats 6000000
theorem oct_at {x : List UInt8} {i : Nat} (h : i < x.length) : ∃ b, x[i]? = some b ∧ fld x i 1 = b.toNat ∧ b.toNat < 256 := ⟨x[i], List.getElem?_eq_getElem h, fld_one h, UInt8.toNat_lt _⟩
theorem oct_drop {x : List UInt8} {j i : Nat} (h : j + i < x.length) : ∃ b, (x.drop j)[i]? = some b ∧ fld x (j + i) 1 = b.toNat ∧ b.toNat < 256 := by
  obtain ⟨b, h1, h2, h3⟩ := oct_at h
  exact ⟨b, by rw [List.getElem?_drop]; exact h1, h2, h3⟩
section
variable (E : Env) (A : Option Addr) (n c : Nat)
/-- what GetEffect answers -/
def eff13 (l : List UInt8) : Option Eff := if l.length = 13 then fget13 l else none
theorem rfget_all (l : List UInt8) (o : Option Eff) (ho : eff13 l = o) (hr : Rd E octT A n c l) : Tri Try.prog E 52 #[.slice A n c] [] fun e H' => e = .returned (.tuple #[.agg (o.getD effT_z).cs.toArray, .bool o.isSome]) ∧ H' = [] := by
  have hn := hr.len
  subst ho
  by_cases h : n = 13
  · have he : eff13 l = fget13 l := if_pos (by omega)
    rw [he]
    exact rfget_any E A n c l _ rfl hr h
  · have he : eff13 l = none := if_neg (by omega)
    have hcap := hr.cap
    rw [he]
    refine tri Try.func52 rfl Try.ntmps52 (by simp) ?_
    repeat (first | refine wMh ?_ | (refine kMh ?_; (first | rintro _ _ ⟨rfl, rfl⟩ | rintro _ _ ⟨_, rfl, rfl⟩ | rintro _ _ ⟨_, _, ⟨_, _⟩, rfl, rfl⟩); try refine ⟨sConv, ?_⟩) | refine Dr.two ?_ ?_)
    apply retC2; (· exact rfl); (· exact sRet); (· exact rfl); (· exact rfl); (· exact rfl); (· exact sHas); (· exact rfl); (· exact sRet); rotate_left; (· exact (⟨rfl, rfl⟩)); (· exact sConv)
def RK (o : Option Mg) (e : Ending) (H' : List Asn) : Prop :=
  match o with
  | some m => e = .returned (.tuple #[.agg (mcs m none 0 0 none 0 0).toArray, .bool true]) ∧ (m.ids = [] ∧ m.chs = []) ∧ H' = []
  | none => (∃ m', e = .returned (.tuple #[.agg (mcs m' none 0 0 none 0 0).toArray, .bool false]) ∧ m'.ids = [] ∧ m'.chs = []) ∧ H' = []
theorem rkeyed (x : List UInt8) (kd : Int) (hkd : kd = 3 ∨ kd = 4) (h3 : 3 ≤ x.length) (hr : Rd E octT A n c (x.drop 3)) : Tri Try.prog E 23 #[.agg (mcs (mst kd (fld x 1 1 : Nat) (fld x 2 1 : Nat)) none 0 0 none 0 0).toArray, .slice A n c] [] (RK (if kd = 4 then mans x else mreq x)) := by
  have hn : n = x.length - 3 := by rw [hr.len, List.length_drop]
  have hcap := hr.cap
  refine tri Try.func23 rfl Try.ntmps23 (by simp) ?_
  have hno : (x.length < 8 ∨ 1 < fld x 7 1) → (if kd = 4 then mans x else mreq x) = none := by
    intro h
    split
    · exact if_neg fun hq => by omega
    · exact if_neg fun hq => by omega
  by_cases hl : n < 5
  · rw [hno (by omega)]
    repeat (first | refine wMh ?_ | (refine kMh ?_; (first | rintro _ _ ⟨rfl, rfl⟩ | rintro _ _ ⟨_, rfl, rfl⟩ | rintro _ _ ⟨_, _, ⟨_, _⟩, rfl, rfl⟩); try refine ⟨sConv, ?_⟩) | refine Dr.two ?_ ?_)
    apply retC2; (· exact rfl); (· exact sRet); (· exact rfl); (· exact rfl); (· exact rfl); (· exact sHas); (· exact rfl); (· exact sRet); rotate_left; (· exact (⟨⟨mst 0 0 0, rfl, rfl, rfl⟩, rfl⟩)); (· exact sConv)
  obtain ⟨b4, g4, f4, u4⟩ := oct_drop (x := x) (j := 3) (i := 4) (by omega)
  simp only [Nat.reduceAdd] at f4
  by_cases h7 : 1 < b4.toNat
  · rw [hno (by omega)]
    repeat (first | refine wMh ?_ | (refine kMh ?_; (first | rintro _ _ ⟨rfl, rfl⟩ | rintro _ _ ⟨_, rfl, rfl⟩ | rintro _ _ ⟨_, _, ⟨_, _⟩, rfl, rfl⟩); try refine ⟨sConv, ?_⟩) | refine Dr.two ?_ ?_)
    apply retC2; (· exact rfl); (· exact sRet); (· exact rfl); (· exact rfl); (· exact rfl); (· exact sHas); (· exact rfl); (· exact sRet); rotate_left; (· exact (⟨⟨mst 0 0 0, rfl, rfl, rfl⟩, rfl⟩)); (· exact sConv)
  obtain ⟨b0, g0, f0, u0⟩ := oct_drop (x := x) (j := 3) (i := 0) (by omega)
  obtain ⟨b3, g3, f3, u3⟩ := oct_drop (x := x) (j := 3) (i := 3) (by omega)
  have hk : keyAt x 3 = ⟨⟨b0.toNat, (fld x 4 2 : Nat)⟩, b3.toNat, decide ((b4.toNat : Int) = 1)⟩ := by
    simp only [Nat.reduceAdd] at f0 f3
    unfold keyAt
    simp only [Nat.reduceAdd, f0, f3, f4]
  have f12 : fld (x.drop 3) 1 2 = fld x 4 2 := fld_drop x 3 1 2
  have u12 : fld x 4 2 < 65536 := fld_lt x 4 2
  have m3 : 3 ≤ n := by omega
  unfold mans mreq
  rw [hk]
  rw [f4]
  repeat (first | refine wMh ?_ | (refine kMh ?_; (first | rintro _ _ ⟨rfl, rfl⟩ | rintro _ _ ⟨_, rfl, rfl⟩ | rintro _ _ ⟨_, _, ⟨_, _⟩, rfl, rfl⟩); try refine ⟨sConv, ?_⟩) | refine Dr.two ?_ ?_)
  rename_i g4r g2
  refine C.regionA 100000 (.one 0 false (.one 1 false (.one 2 false (.one 3 false (.one 4 false (.one 5 false (.one 9 false (.one 10 false (.one 11 false (.one 12 false (.one 13 false (.one 14 false (.one 15 false (.one 16 false (.one 6 true (.one 7 false (.one 8 false (.one 17 false (.one 18 false (.one 19 true .nil)))))))))))))))))))) ([]) (by kernel_rfl) (by kernel_rfl) sConv ?_
  repeat (first | refine wMh ?_ | (refine kMh ?_; (first | rintro _ _ ⟨rfl, rfl⟩ | rintro _ _ ⟨_, rfl, rfl⟩ | rintro _ _ ⟨_, _, ⟨_, _⟩, rfl, rfl⟩); try refine ⟨sConv, ?_⟩) | refine Dr.two ?_ ?_)
  refine Dr.go rfl (by rintro k ⟨⟩ <;> decide) sGon (S.call rfl rfl Try.func21 (by kernel_rfl) rfl sPicks (fun E' hE => rgetf_any E' A n c (x.drop 3) sRd 1 3 2 rfl (by decide) m3) ?_)
  rw [f12]
  rintro e H' ⟨rfl, rfl⟩
  refine ⟨_, rfl, _, sCat, sConv, ?_⟩
  rcases hkd with rfl | rfl
  · rw [if_neg (by decide)]
    have hr5 := hr.from_ (k := 5) (by omega)
    have hdd : (x.drop 3).drop 5 = x.drop 8 := List.drop_drop
    rw [hdd] at hr5
    have h5n : 5 ≤ n := by omega
    repeat (first | refine wMh ?_ | (refine kMh ?_; (first | rintro _ _ ⟨rfl, rfl⟩ | rintro _ _ ⟨_, rfl, rfl⟩ | rintro _ _ ⟨_, _, ⟨_, _⟩, rfl, rfl⟩); try refine ⟨sConv, ?_⟩) | refine Dr.two ?_ ?_)
    refine L.step (by decide) (S.call rfl rfl Try.func52 (by kernel_rfl) rfl sPicks (fun E' hE => rfget_all E' _ _ _ (x.drop 8) _ rfl sRd) ?_)
    rintro e H' ⟨rfl, rfl⟩
    refine ⟨_, rfl, _, sCat, ?_⟩
    have hlen : (x.drop 8).length = x.length - 8 := List.length_drop
    by_cases hl21 : x.length = 21
    · have he : eff13 (x.drop 8) = fget13 (x.drop 8) := if_pos (by omega)
      rw [if_pos ⟨hl21, by omega⟩, he]
      cases fget13 (x.drop 8) with
      | none =>
        repeat (first | refine wMh ?_ | (refine kMh ?_; (first | rintro _ _ ⟨rfl, rfl⟩ | rintro _ _ ⟨_, rfl, rfl⟩ | rintro _ _ ⟨_, _, ⟨_, _⟩, rfl, rfl⟩); try refine ⟨sConv, ?_⟩) | refine Dr.two ?_ ?_)
        apply retC2; (· exact rfl); (· exact sRet); (· exact rfl); (· exact rfl); (· exact rfl); (· exact sHas); (· exact rfl); (· exact sRet); rotate_left; (· exact (⟨⟨(⟨3, (fld x 1 1 : Nat), (fld x 2 1 : Nat), 0, 0, 0, 0, 0, [], [], ⟨⟨b0.toNat, (fld x 4 2 : Nat)⟩, b3.toNat, decide ((b4.toNat : Int) = 1)⟩, ez⟩ : Mg), rfl, rfl, rfl⟩, rfl⟩)); (· exact sConv)
      | some f =>
        repeat (first | refine wMh ?_ | (refine kMh ?_; (first | rintro _ _ ⟨rfl, rfl⟩ | rintro _ _ ⟨_, rfl, rfl⟩ | rintro _ _ ⟨_, _, ⟨_, _⟩, rfl, rfl⟩); try refine ⟨sConv, ?_⟩) | refine Dr.two ?_ ?_)
        apply retC2; (· exact rfl); (· exact sRet); (· exact rfl); (· exact rfl); (· exact rfl); (· exact sHas); (· exact rfl); (· exact sRet); rotate_left; (· exact (⟨rfl, ⟨rfl, rfl⟩, rfl⟩)); (· exact sConv)
    · have he : eff13 (x.drop 8) = none := if_neg (by omega)
      rw [if_neg fun h => hl21 h.1, he]
      repeat (first | refine wMh ?_ | (refine kMh ?_; (first | rintro _ _ ⟨rfl, rfl⟩ | rintro _ _ ⟨_, rfl, rfl⟩ | rintro _ _ ⟨_, _, ⟨_, _⟩, rfl, rfl⟩); try refine ⟨sConv, ?_⟩) | refine Dr.two ?_ ?_)
      apply retC2; (· exact rfl); (· exact sRet); (· exact rfl); (· exact rfl); (· exact rfl); (· exact sHas); (· exact rfl); (· exact sRet); rotate_left; (· exact (⟨⟨(⟨3, (fld x 1 1 : Nat), (fld x 2 1 : Nat), 0, 0, 0, 0, 0, [], [], ⟨⟨b0.toNat, (fld x 4 2 : Nat)⟩, b3.toNat, decide ((b4.toNat : Int) = 1)⟩, ez⟩ : Mg), rfl, rfl, rfl⟩, rfl⟩)); (· exact sConv)
  · rw [if_pos rfl]
    by_cases hl8 : x.length = 8
    · have hn5 : decide ((n : Int) = 5) = true := decide_eq_true (by omega)
      rw [if_pos ⟨hl8, by omega⟩]
      repeat (first | refine wMh ?_ | (refine kMh ?_; (first | rintro _ _ ⟨rfl, rfl⟩ | rintro _ _ ⟨_, rfl, rfl⟩ | rintro _ _ ⟨_, _, ⟨_, _⟩, rfl, rfl⟩); try refine ⟨sConv, ?_⟩) | refine Dr.two ?_ ?_)
      rw [hn5]
      apply retC2; (· exact rfl); (· exact sRet); (· exact rfl); (· exact rfl); (· exact rfl); (· exact sHas); (· exact rfl); (· exact sRet); rotate_left; (· exact (⟨rfl, ⟨rfl, rfl⟩, rfl⟩)); (· exact sConv)
    · have hn5 : decide ((n : Int) = 5) = false := decide_eq_false (by omega)
      rw [if_neg fun h => hl8 h.1]
      repeat (first | refine wMh ?_ | (refine kMh ?_; (first | rintro _ _ ⟨rfl, rfl⟩ | rintro _ _ ⟨_, rfl, rfl⟩ | rintro _ _ ⟨_, _, ⟨_, _⟩, rfl, rfl⟩); try refine ⟨sConv, ?_⟩) | refine Dr.two ?_ ?_)
      rw [hn5]
      apply retC2; (· exact rfl); (· exact sRet); (· exact rfl); (· exact rfl); (· exact rfl); (· exact sHas); (· exact rfl); (· exact sRet); rotate_left; (· exact (⟨⟨(⟨4, (fld x 1 1 : Nat), (fld x 2 1 : Nat), 0, 0, 0, 0, 0, [], [], ⟨⟨b0.toNat, (fld x 4 2 : Nat)⟩, b3.toNat, decide ((b4.toNat : Int) = 1)⟩, ez⟩ : Mg), rfl, rfl, rfl⟩, rfl⟩)); (· exact sConv)
end
end Go.Proofs.Ytihblcljkndpgaa.Sep
/- The document's message, read: a push. -/
namespace Go.Proofs.Ytihblcljkndpgaa.Sep
open Go.RowKit Go.Proofs.Ytihblcljkndpgaa.Reg Go.Proofs.Ytihblcljkndpgaa.Oct
open Go.Proofs.Ytihblcljkndpgaa.Mem hiding Rd Own
-- types: octT idnT chgT intT
-- recs: rec_Reader idnT_rec effT_rec chgT_rec keyT_rec mgT_rec rgT_rec wrT_rec rdT_rec
-- eqs: idnT_eqa effT_eqa chgT_eqa keyT_eqa
-- eqrs: k4_eqr
-- zeros: z_octs z_rdr
-- funcs
-- flds
-- arrp
set_option maxRecDepth 100000
set_option maxHeartbeats 6000000
theorem wrap_small {a : Int} (h : 0 ≤ a) (h2 : a ≤ 9223372036854775807) : IntKind.i64.wrap a = a := IntWalk.i64_in _ (by omega)
theorem idsOf_drop (l : List UInt8) (j i n : Nat) : idsOf n i (l.drop j) = idsOf n (j + i) l := by
  induction n with
  | zero => rfl
  | succ n ih =>
    rw [idsOf, idsOf, ih]
    unfold idnOf
    rw [fld_drop, fld_drop]
    rw [show j + (i + 3 * n) = j + i + 3 * n by omega, show j + (i + 3 * n + 1) = j + i + 3 * n + 1 by omega]
section
variable (E : Env) (A : Option Addr) (n c : Nat)
def RP (o : Option Mg) (e : Ending) (H' : List Asn) : Prop :=
  match o with
  | some m => ∃ O p q B k d, e = .returned (.tuple #[.agg (mcs m O p q B k d).toArray, .bool true]) ∧ H' = [own idnT O p q m.ids, own chgT B k d m.chs]
  | none => (∃ m', e = .returned (.tuple #[.agg (mcs m' none 0 0 none 0 0).toArray, .bool false]) ∧ m'.ids = [] ∧ m'.chs = []) ∧ H' = []
theorem rpush (x : List UInt8) (kd : Int) (hkd : kd = 2) (h3 : 3 ≤ x.length) (hr : Rd E octT A n c (x.drop 3)) (hxl : n ≤ 140737488355200) : Tri Try.prog E 22 #[.agg (mcs (mst kd (fld x 1 1 : Nat) (fld x 2 1 : Nat)) none 0 0 none 0 0).toArray, .slice A n c] [] (RP (mpush x)) := by
  subst hkd
  have hn : n = x.length - 3 := by rw [hr.len, List.length_drop]
  have hcap := hr.cap
  have hmax : maxLen = 9223372036854775807 := rfl
  refine tri Try.func22 rfl Try.ntmps22 (by simp) ?_
  by_cases hl : n < 2
  · have hno : mpush x = none := if_neg (by omega)
    rw [hno]
    repeat (first | refine wMh ?_ | (refine kMh ?_; (first | rintro _ _ ⟨rfl, rfl⟩ | rintro _ _ ⟨_, rfl, rfl⟩ | rintro _ _ ⟨_, _, ⟨_, _⟩, rfl, rfl⟩); try refine ⟨sConv, ?_⟩) | refine Dr.two ?_ ?_)
    apply retC2; (· exact rfl); (· exact sRet); (· exact rfl); (· exact rfl); (· exact rfl); (· exact sHas); (· exact rfl); (· exact sRet); rotate_left; (· exact (⟨⟨mst 0 0 0, rfl, rfl, rfl⟩, rfl⟩)); (· exact sConv)
  obtain ⟨b3, g3, f3, u3⟩ := oct_drop (x := x) (j := 3) (i := 0) (by omega)
  obtain ⟨b4, g4, f4, u4⟩ := oct_drop (x := x) (j := 3) (i := 1) (by omega)
  simp only [Nat.reduceAdd, Nat.add_zero] at f3 f4
  have hr2 := hr.from_ (k := 2) (by omega)
  have hdd : (x.drop 3).drop 2 = x.drop 5 := List.drop_drop
  rw [hdd] at hr2
  have h2n : 2 ≤ n := by omega
  unfold mpush
  rw [f3, f4]
  generalize fld x 1 1 = fr at *
  generalize fld x 2 1 = to at *
  have hw1 : IntKind.i64.wrap (3 * (b4.toNat : Int)) = ((3 * b4.toNat : Nat) : Int) := by rw [wrap_small (by omega) (by omega)]; omega
  have hw2 : IntKind.i64.wrap (((3 * b4.toNat : Nat) : Int) + 1) = ((3 * b4.toNat + 1 : Nat) : Int) := by rw [wrap_small (by omega) (by omega)]; omega
  by_cases hl2 : n - 2 < 3 * b4.toNat + 1
  · rw [if_neg (by omega)]
    repeat (first | refine wMh ?_ | (refine kMh ?_; (first | rintro _ _ ⟨rfl, rfl⟩ | rintro _ _ ⟨_, rfl, rfl⟩ | rintro _ _ ⟨_, _, ⟨_, _⟩, rfl, rfl⟩); try refine ⟨sConv, ?_⟩) | refine Dr.two ?_ ?_)
    apply retC2; (· exact rfl); (· exact sRet); (· exact rfl); (· exact rfl); (· exact rfl); (· exact sHas); (· exact rfl); (· exact sRet); rotate_left; (· exact (⟨⟨mst 0 0 0, rfl, rfl, rfl⟩, rfl⟩)); (· exact sConv)
  rw [if_pos (by omega)]
  repeat ((fail_if_success (refine C.seq (x := Code.region 8 _ _) ?_)); first | refine vMh ?_ | (refine kMh ?_; (first | rintro _ _ ⟨rfl, rfl⟩ | rintro _ _ ⟨_, rfl, rfl⟩ | rintro _ _ ⟨_, _, ⟨_, _⟩, rfl, rfl⟩); try refine ⟨sConv, ?_⟩) | refine Dr.two ?_ ?_)
  generalize b4.toNat = N at *
  generalize b3.toNat = base at *
  rename_i g2 gres
  have hnz : n - 2 = x.length - 5 := by omega
  have hcz : n - 2 ≤ c - 2 := by omega
  have hcm : c - 2 ≤ maxLen := by omega
  have hnb : n - 2 ≤ 140737488355200 := by omega
  generalize n - 2 = nz at *
  generalize c - 2 = cz at *
  generalize (if c = 2 then A else Option.map (fun x => x.add (2 * octT.size)) A) = Z at *
  refine C.mid (X := Option Addr × Nat) (fun y => [(1, .slice Z nz cz), (2, .pointer (some ⟨g2, 0, none⟩)), (4, .pointer (some ⟨gres, 0, none⟩)), (6, .int .i64 N)]) (fun y => [blk g2 38 (mcs ⟨2, fr, to, 0, 0, 0, 0, base, [], [], kz, ez⟩ y.1 N y.2 none 0 0), own idnT y.1 N y.2 (idsOf N 5 x), blk gres 38 (mcs (mst 0 0 0) none 0 0 none 0 0)]) (fun y => N ≤ y.2 ∧ y.2 ≤ maxLen) ?_ ?_
  · repeat (first | refine wMh ?_ | (refine kMh ?_; (first | rintro _ _ ⟨rfl, rfl⟩ | rintro _ _ ⟨_, rfl, rfl⟩ | rintro _ _ ⟨_, _, ⟨_, _⟩, rfl, rfl⟩); try refine ⟨sConv, ?_⟩) | refine Dr.two ?_ ?_)
    refine C.loop (X := Nat × Option Addr × Nat) (fun y => [(1, .slice Z nz cz), (2, .pointer (some ⟨g2, 0, none⟩)), (4, .pointer (some ⟨gres, 0, none⟩)), (6, .int .i64 N), (7, .int .i64 y.1)]) (fun y => [blk g2 38 (mcs ⟨2, fr, to, 0, 0, 0, 0, base, [], [], kz, ez⟩ y.2.1 y.1 y.2.2 none 0 0), own idnT y.2.1 y.1 y.2.2 (idsOf y.1 5 x), blk gres 38 (mcs (mst 0 0 0) none 0 0 none 0 0)]) (fun y => y.1 ≤ N ∧ y.1 ≤ y.2.2 ∧ y.2.2 ≤ maxLen) (fun y => N - y.1) (0, none, 0) sHolds (by simp only [idsOf]; exact (Conv.nil idnT).trans sConv) ⟨Nat.zero_le _, Nat.zero_le _, Nat.zero_le _⟩ ?_
    rintro ⟨i, O, co⟩ G ⟨hi, hc1, hc2⟩
    dsimp only at hi hc1 hc2 ⊢
    have hlv := idsOf_length i 5 x
    by_cases hlt : i < N
    · obtain ⟨b, gb, fb, ub⟩ := oct_drop (x := x) (j := 5) (i := 3 * i) (by omega)
      have hb2 := fld_lt (x.drop 5) (3 * i + 1) 2
      have hz : idsOf i 5 x ++ [⟨b.toNat, (fld (x.drop 5) (3 * i + 1) 2 : Nat)⟩] = idsOf (i + 1) 5 x := by
        rw [idsOf]
        unfold idnOf
        rw [fb, fld_drop, show 5 + (3 * i + 1) = 5 + 3 * i + 1 by omega]
      have w1 : IntKind.i64.wrap (3 * (i : Int)) = ((3 * i : Nat) : Int) := by rw [wrap_small (by omega) (by omega)]; omega
      have w2 : IntKind.i64.wrap (((3 * i : Nat) : Int) + 1) = ((3 * i + 1 : Nat) : Int) := by rw [wrap_small (by omega) (by omega)]; omega
      have w3 : IntKind.i64.wrap (((3 * i : Nat) : Int) + 3) = ((3 * i + 3 : Nat) : Int) := by rw [wrap_small (by omega) (by omega)]; omega
      have w4 : IntKind.i64.wrap ((fld (x.drop 5) (3 * i + 1) 2 : Nat) : Int) = ((fld (x.drop 5) (3 * i + 1) 2 : Nat) : Int) := wrap_small (by omega) (by omega)
      have h33 : 3 * i + 3 ≤ nz := by omega
      have e33 : 3 * i + 3 = 3 * i + 1 + 2 := rfl
      have e2 : 2 ≤ 8 := by omega
      repeat (first | refine wMh ?_ | (refine kMh ?_; (first | rintro _ _ ⟨rfl, rfl⟩ | rintro _ _ ⟨_, rfl, rfl⟩ | rintro _ _ ⟨_, _, ⟨_, _⟩, rfl, rfl⟩); try refine ⟨sConv, ?_⟩) | refine Dr.two ?_ ?_)
      refine C.regionA 22 (.one 0 false (.one 1 false (.one 2 false (.one 3 false (.one 4 false (.one 5 false (.one 6 false (.one 7 false (.one 8 false (.one 9 false (.one 10 false (.one 11 false (.one 12 false (.one 13 false (.one 14 false (.one 15 false (.one 16 true (.one 17 false (.one 18 false (.one 19 true (.one 20 true (.one 21 false (.one 22 true .nil))))))))))))))))))))))) ([blk g2 38 (mcs ⟨2, fr, to, 0, 0, 0, 0, base, [], [], kz, ez⟩ O i co none 0 0)]) (by kernel_rfl) (by kernel_rfl) sConv ?_
      repeat (first | refine wMh ?_ | (refine kMh ?_; (first | rintro _ _ ⟨rfl, rfl⟩ | rintro _ _ ⟨_, rfl, rfl⟩ | rintro _ _ ⟨_, _, ⟨_, _⟩, rfl, rfl⟩); try refine ⟨sConv, ?_⟩) | refine Dr.two ?_ ?_)
      refine Dr.go rfl (by rintro k ⟨⟩ <;> decide) sGon (S.call rfl rfl Try.func21 (by kernel_rfl) rfl sPicks (fun E' hE => rgetf_any E' Z nz cz (x.drop 5) sRd (3 * i + 1) (3 * i + 3) 2 e33 e2 h33) ?_)
      rintro e H' ⟨rfl, rfl⟩
      refine ⟨_, rfl, _, sCat, sConv, ?_⟩
      generalize fld (x.drop 5) (3 * i + 1) 2 = v at *
      repeat (first | refine wMh ?_ | (refine kMh ?_; (first | rintro _ _ ⟨rfl, rfl⟩ | rintro _ _ ⟨_, rfl, rfl⟩ | rintro _ _ ⟨_, _, ⟨_, _⟩, rfl, rfl⟩); try refine ⟨sConv, ?_⟩) | refine Dr.two ?_ ?_)
      refine Dr.goK rfl (by rintro k ⟨⟩ <;> decide) sGon (S.buildSlice1K (T := idnT) (e := ⟨b.toNat, v⟩) rfl rfl rfl rfl (by decide)) ?_; rintro _ _ ⟨_, rfl, rfl⟩; refine ⟨sConv, ?_⟩
      repeat (first | refine wMh ?_ | (refine kMh ?_; (first | rintro _ _ ⟨rfl, rfl⟩ | rintro _ _ ⟨_, rfl, rfl⟩ | rintro _ _ ⟨_, _, ⟨_, _⟩, rfl, rfl⟩); try refine ⟨sConv, ?_⟩) | refine Dr.two ?_ ?_)
      rename_i O' co' _ _
      rw [hz]
      exact ⟨(i + 1, O', co'), sHolds, sConv, ⟨by dsimp only; omega, by assumption, by assumption⟩, by dsimp only; omega⟩
    · obtain rfl : i = N := by omega
      repeat (first | refine wMh ?_ | (refine kMh ?_; (first | rintro _ _ ⟨rfl, rfl⟩ | rintro _ _ ⟨_, rfl, rfl⟩ | rintro _ _ ⟨_, _, ⟨_, _⟩, rfl, rfl⟩); try refine ⟨sConv, ?_⟩) | refine Dr.two ?_ ?_)
      exact ⟨(O, co), sHolds, sConv, hc1, hc2⟩
  rintro ⟨O, co⟩ G ⟨hc1, hc2⟩
  dsimp only at hc1 hc2 ⊢
  obtain ⟨b, gb, fb, ub⟩ := oct_drop (x := x) (j := 5) (i := 3 * N) (by omega)
  have hd6 : (x.drop 5).drop (3 * N + 1) = x.drop (5 + 3 * N + 1) := List.drop_drop
  have hcl : clist8 (x.drop (5 + 3 * N)) = if (x.drop (5 + 3 * N + 1)).length = 22 * b.toNat then pieces b.toNat (x.drop (5 + 3 * N + 1)) else none := by
    have e : x.drop (5 + 3 * N) = b :: x.drop (5 + 3 * N + 1) := by
      have hlt : 5 + 3 * N < x.length := by omega
      rw [List.drop_eq_getElem_cons hlt]
      congr 1
      rw [List.getElem?_drop, List.getElem?_eq_getElem hlt] at gb
      exact Option.some.inj gb
    rw [e]
    rfl
  rw [hcl]
  have hr6 := hr2.from_ (k := 3 * N + 1) (by omega)
  rw [hd6] at hr6
  have w1 : IntKind.i64.wrap (22 * (b.toNat : Int)) = ((22 * b.toNat : Nat) : Int) := by rw [wrap_small (by omega) (by omega)]; omega
  have hn6 : 3 * N + 1 ≤ nz := by omega
  have hul : (x.drop (5 + 3 * N + 1)).length = nz - (3 * N + 1) := by rw [List.length_drop]; omega
  by_cases hl6 : nz - (3 * N + 1) = 22 * b.toNat
  case neg =>
    have hne : decide (((nz - (3 * N + 1) : Nat) : Int) ≠ ((22 * b.toNat : Nat) : Int)) = true := decide_eq_true (by omega)
    rw [if_neg (by omega)]
    repeat (first | refine wMh ?_ | (refine kMh ?_; (first | rintro _ _ ⟨rfl, rfl⟩ | rintro _ _ ⟨_, rfl, rfl⟩ | rintro _ _ ⟨_, _, ⟨_, _⟩, rfl, rfl⟩); try refine ⟨sConv, ?_⟩) | refine Dr.two ?_ ?_)
    apply retC2; (· exact rfl); (· exact sRet); (· exact rfl); (· exact rfl); (· exact rfl); (· exact sHas); (· exact rfl); (· exact sRet); rotate_left; (· exact (⟨⟨mst 0 0 0, rfl, rfl, rfl⟩, rfl⟩)); (· exact sConv)
  have hne : decide (((nz - (3 * N + 1) : Nat) : Int) ≠ ((22 * b.toNat : Nat) : Int)) = false := decide_eq_false (by omega)
  rw [if_pos (by omega)]
  generalize x.drop (5 + 3 * N + 1) = u at *
  repeat ((fail_if_success (refine C.seq (x := Code.region 16 _ _) ?_)); first | refine vMh ?_ | (refine kMh ?_; (first | rintro _ _ ⟨rfl, rfl⟩ | rintro _ _ ⟨_, rfl, rfl⟩ | rintro _ _ ⟨_, _, ⟨_, _⟩, rfl, rfl⟩); try refine ⟨sConv, ?_⟩) | refine Dr.two ?_ ?_)
  generalize b.toNat = k at *
  have hnu : nz - (3 * N + 1) = 22 * k := hl6
  have hcu : nz - (3 * N + 1) ≤ cz - (3 * N + 1) := by omega
  have hcm6 : cz - (3 * N + 1) ≤ maxLen := by omega
  rw [hnu] at *
  generalize cz - (3 * N + 1) = cu at *
  generalize (if cz = 3 * N + 1 then Z else Option.map (fun x => x.add ((3 * N + 1) * octT.size)) Z) = U at *
  repeat (first | refine wMh ?_ | (refine kMh ?_; (first | rintro _ _ ⟨rfl, rfl⟩ | rintro _ _ ⟨_, rfl, rfl⟩ | rintro _ _ ⟨_, _, ⟨_, _⟩, rfl, rfl⟩); try refine ⟨sConv, ?_⟩) | refine Dr.two ?_ ?_)
  refine C.loop (X := List Chg × Option Addr × Nat) (fun y => [(1, .slice U (22 * k) cu), (2, .pointer (some ⟨g2, 0, none⟩)), (4, .pointer (some ⟨gres, 0, none⟩)), (8, .int .i64 k), (9, .int .i64 y.1.length)]) (fun y => [blk g2 38 (mcs ⟨2, fr, to, 0, 0, 0, 0, base, [], [], kz, ez⟩ O N co y.2.1 y.1.length y.2.2), own idnT O N co (idsOf N 5 x), own chgT y.2.1 y.1.length y.2.2 y.1, blk gres 38 (mcs (mst 0 0 0) none 0 0 none 0 0)]) (fun y => y.1.length ≤ k ∧ pieces k u = (pieces (k - y.1.length) (u.drop (22 * y.1.length))).map (y.1 ++ ·)) (fun y => k - y.1.length) ([], none, 0) sHolds (by simp only [List.length_nil]; exact (Conv.nil chgT).trans sConv) ⟨Nat.zero_le _, by simp⟩ ?_
  rintro ⟨xs, Q, cq⟩ G ⟨hk, hp⟩
  dsimp only at hk hp ⊢
  by_cases hlt : xs.length < k
  · have hdd2 : (u.drop (22 * xs.length)).drop 22 = u.drop (22 * (xs.length + 1)) := by rw [List.drop_drop]; congr 1
    have hpk : k - xs.length = (k - (xs.length + 1)) + 1 := by omega
    rw [hpk, pieces, hdd2] at hp
    have v1 : IntKind.i64.wrap (22 * (xs.length : Int)) = ((22 * xs.length : Nat) : Int) := by rw [wrap_small (by omega) (by omega)]; omega
    have v2 : IntKind.i64.wrap (((22 * xs.length : Nat) : Int) + 22) = ((22 * xs.length + 22 : Nat) : Int) := by rw [wrap_small (by omega) (by omega)]; omega
    have hct := hr6.cut (j := 22 * xs.length) (m := 22 * xs.length + 22) (by omega) (by omega)
    have hct2 : (u.take (22 * xs.length + 22)).drop (22 * xs.length) = (u.drop (22 * xs.length)).take 22 := by rw [List.drop_take]; congr 1; omega
    rw [hct2] at hct
    have hj : 22 * xs.length ≤ 22 * xs.length + 22 := by omega
    have hj2 : 22 * xs.length + 22 ≤ 22 * k := by omega
    obtain ⟨r, hx⟩ : ∃ r, cget ((u.drop (22 * xs.length)).take 22) = r := ⟨_, rfl⟩
    rw [hx] at hp
    repeat (first | refine wMh ?_ | (refine kMh ?_; (first | rintro _ _ ⟨rfl, rfl⟩ | rintro _ _ ⟨_, rfl, rfl⟩ | rintro _ _ ⟨_, _, ⟨_, _⟩, rfl, rfl⟩); try refine ⟨sConv, ?_⟩) | refine Dr.two ?_ ?_)
    refine L.step (by decide) (S.call rfl rfl Try.func51 (by kernel_rfl) rfl sPicks (fun E' hE => r9get_any E' _ _ _ _ r hx sRd) ?_)
    rintro e H' ⟨rfl, rfl⟩
    refine ⟨_, rfl, _, sCat, ?_⟩
    cases r with
    | none =>
      dsimp only [Option.getD, Option.isSome]
      have hpn : pieces k u = none := hp
      rw [hpn]
      repeat (first | refine wMh ?_ | (refine kMh ?_; (first | rintro _ _ ⟨rfl, rfl⟩ | rintro _ _ ⟨_, rfl, rfl⟩ | rintro _ _ ⟨_, _, ⟨_, _⟩, rfl, rfl⟩); try refine ⟨sConv, ?_⟩) | refine Dr.two ?_ ?_)
      apply retC2; (· exact rfl); (· exact sRet); (· exact rfl); (· exact rfl); (· exact rfl); (· exact sHas); (· exact rfl); (· exact sRet); rotate_left; (· exact (⟨⟨mst 0 0 0, rfl, rfl, rfl⟩, rfl⟩)); (· exact sConv)
    | some y =>
      dsimp only [Option.getD, Option.isSome]
      repeat (first | refine wMh ?_ | (refine kMh ?_; (first | rintro _ _ ⟨rfl, rfl⟩ | rintro _ _ ⟨_, rfl, rfl⟩ | rintro _ _ ⟨_, _, ⟨_, _⟩, rfl, rfl⟩); try refine ⟨sConv, ?_⟩) | refine Dr.two ?_ ?_)
      rename_i Q' cq' _ _
      refine ⟨(xs ++ [y], Q', cq'), ?_, ?_, ⟨by simp; omega, ?_⟩, by simp; omega⟩
      · dsimp only
        rw [show (xs ++ [y]).length = xs.length + 1 by simp]
        exact sHolds
      · dsimp only
        rw [show (xs ++ [y]).length = xs.length + 1 by simp]
        exact sConv
      · dsimp only
        rw [show (xs ++ [y]).length = xs.length + 1 by simp, hp]
        cases pieces (k - (xs.length + 1)) (u.drop (22 * (xs.length + 1))) <;> simp
  · have hkk : xs.length = k := by omega
    have hpn : pieces k u = some xs := by
      rw [hp, hkk, Nat.sub_self]
      simp [pieces]
    rw [hpn]
    repeat (first | refine wMh ?_ | (refine kMh ?_; (first | rintro _ _ ⟨rfl, rfl⟩ | rintro _ _ ⟨_, rfl, rfl⟩ | rintro _ _ ⟨_, _, ⟨_, _⟩, rfl, rfl⟩); try refine ⟨sConv, ?_⟩) | refine Dr.two ?_ ?_)
    apply retC2; (· exact rfl); (· exact sRet); (· exact rfl); (· exact rfl); (· exact rfl); (· exact sHas); (· exact rfl); (· exact sRet); rotate_left; (· exact (⟨_, _, _, _, _, _, rfl, rfl⟩)); (· exact sConv)
end
end Go.Proofs.Ytihblcljkndpgaa.Sep
/- The document's message, read. -/
namespace Go.Proofs.Ytihblcljkndpgaa.Sep
open Go.RowKit Go.Proofs.Ytihblcljkndpgaa.Reg Go.Proofs.Ytihblcljkndpgaa.Oct
open Go.Proofs.Ytihblcljkndpgaa.Mem hiding Rd Own
-- types: octT idnT chgT intT
-- recs: rec_Reader idnT_rec effT_rec chgT_rec keyT_rec mgT_rec rgT_rec wrT_rec rdT_rec
-- eqs: idnT_eqa effT_eqa chgT_eqa keyT_eqa
-- eqrs: k4_eqr
-- zeros: z_octs z_rdr
-- funcs
-- flds
-- arrp
set_option maxRecDepth 100000
set_option maxHeartbeats 6000000
def RM (o : Option Mg) (e : Ending) (H' : List Asn) : Prop := ∃ m f O p q B k d, e = .returned (.tuple #[.agg (mcs m O p q B k d).toArray, .bool f]) ∧ o = (if f then some m else none) ∧ H' = [own idnT O p q m.ids, own chgT B k d m.chs]
section
variable (E : Env) (A : Option Addr) (n c : Nat)
theorem rkeyed_m (x : List UInt8) (kd : Int) (hkd : kd = 3 ∨ kd = 4) (h3 : 3 ≤ x.length) (hr : Rd E octT A n c (x.drop 3)) : Tri Try.prog E 23 #[.agg (mcs (mst kd (fld x 1 1 : Nat) (fld x 2 1 : Nat)) none 0 0 none 0 0).toArray, .slice A n c] [] (RM (if kd = 4 then mans x else mreq x)) := by
  refine Tri.monoC (rkeyed E A n c x kd hkd h3 hr) ?_
  cases (if kd = 4 then mans x else mreq x) with
  | none =>
    rintro e H' ⟨⟨m, rfl, h1, h2⟩, rfl⟩
    refine ⟨_, ⟨m, false, none, 0, 0, none, 0, 0, rfl, rfl, rfl⟩, ?_⟩
    rw [h1, h2]
    exact (Conv.nil chgT).trans (Conv.nil idnT)
  | some m =>
    rintro e H' ⟨rfl, ⟨h1, h2⟩, rfl⟩
    refine ⟨_, ⟨m, true, none, 0, 0, none, 0, 0, rfl, rfl, rfl⟩, ?_⟩
    rw [h1, h2]
    exact (Conv.nil chgT).trans (Conv.nil idnT)
theorem rpush_m (x : List UInt8) (kd : Int) (hkd : kd = 2) (h3 : 3 ≤ x.length) (hr : Rd E octT A n c (x.drop 3)) (hxl : n ≤ 140737488355200) : Tri Try.prog E 22 #[.agg (mcs (mst kd (fld x 1 1 : Nat) (fld x 2 1 : Nat)) none 0 0 none 0 0).toArray, .slice A n c] [] (RM (mpush x)) := by
  refine Tri.monoC (rpush E A n c x kd hkd h3 hr hxl) ?_
  cases mpush x with
  | none =>
    rintro e H' ⟨⟨m, rfl, h1, h2⟩, rfl⟩
    refine ⟨_, ⟨m, false, none, 0, 0, none, 0, 0, rfl, rfl, rfl⟩, ?_⟩
    rw [h1, h2]
    exact (Conv.nil chgT).trans (Conv.nil idnT)
  | some m =>
    rintro e H' ⟨O, p, q, B, k, d, rfl, rfl⟩
    exact ⟨_, ⟨m, true, O, p, q, B, k, d, rfl, rfl, rfl⟩, Conv.refl⟩
def GR (o : Option Mg) (e : Ending) (H' : List Asn) : Prop :=
  match o with
  | some m => ∃ O p q B k d, e = .returned (.tuple #[.agg (mcs m O p q B k d).toArray, .bool true]) ∧ H' = [own idnT O p q m.ids, own chgT B k d m.chs]
  | none => e = .returned (.tuple #[.agg (mcs (mst 0 0 0) none 0 0 none 0 0).toArray, .bool false]) ∧ H' = []
def fTup (x : List UInt8) : Nat → Int × Int × Int × Int
  | 0 => (0, 0, 0, 0)
  | 1 => ((fld x 3 2 : Nat), 0, 0, 0)
  | 2 => ((fld x 3 2 : Nat), (fld x 5 2 : Nat), 0, 0)
  | 3 => ((fld x 3 2 : Nat), (fld x 5 2 : Nat), (fld x 7 2 : Nat), 0)
  | _ => ((fld x 3 2 : Nat), (fld x 5 2 : Nat), (fld x 7 2 : Nat), (fld x 9 2 : Nat))
theorem mfull_no {b : List UInt8} (h : Frm.fget b = none) : mfull b = none := by unfold mfull; rw [h]
theorem mfull_some {b x : List UInt8} {k : Nat} (h : Frm.fget b = some (x, k)) : mfull b = if k = b.length then mget x else none := by unfold mfull; rw [h]
theorem rgetm (b : List UInt8) (hr : Rd E octT A n c b) (hl : n ≤ 140737488355200) : Tri Try.prog E 8 #[.slice A n c] [] (GR (mfull b)) := by
  have hn := hr.len
  have hcap := hr.cap
  refine tri Try.func8 rfl Try.ntmps8 (by simp) ?_
  cases hf : Frm.fget b with
  | none =>
    rw [mfull_no hf]
    repeat (first | refine wMh ?_ | (refine kMh ?_; (first | rintro _ _ ⟨rfl, rfl⟩ | rintro _ _ ⟨_, rfl, rfl⟩ | rintro _ _ ⟨_, _, ⟨_, _⟩, rfl, rfl⟩); try refine ⟨sConv, ?_⟩) | refine Dr.two ?_ ?_)
    refine L.step (by decide) (S.call rfl rfl Try.func20 (by kernel_rfl) rfl sPicks (fun E' hE => rgetf_no E' A n c b sRd hl hf) ?_)
    rintro e H' ⟨rfl, rfl⟩
    refine ⟨_, rfl, _, sCat, ?_⟩
    have hml : 0 ≤ maxLen := Nat.zero_le _
    by_cases h0 : n = 0
    · have hd : decide ((0 : Int) ≠ (n : Int)) = false := decide_eq_false (by omega)
      repeat (first | refine wMh ?_ | (refine kMh ?_; (first | rintro _ _ ⟨rfl, rfl⟩ | rintro _ _ ⟨_, rfl, rfl⟩ | rintro _ _ ⟨_, _, ⟨_, _⟩, rfl, rfl⟩); try refine ⟨sConv, ?_⟩) | refine Dr.two ?_ ?_)
      apply retC2; (· exact rfl); (· exact sRet); (· exact rfl); (· exact rfl); (· exact rfl); (· exact sHas); (· exact rfl); (· exact sRet); rotate_left; (· exact (⟨rfl, rfl⟩)); (· exact sConv)
    · have hd : decide ((0 : Int) ≠ (n : Int)) = true := decide_eq_true (by omega)
      repeat (first | refine wMh ?_ | (refine kMh ?_; (first | rintro _ _ ⟨rfl, rfl⟩ | rintro _ _ ⟨_, rfl, rfl⟩ | rintro _ _ ⟨_, _, ⟨_, _⟩, rfl, rfl⟩); try refine ⟨sConv, ?_⟩) | refine Dr.two ?_ ?_)
      apply retC2; (· exact rfl); (· exact sRet); (· exact rfl); (· exact rfl); (· exact rfl); (· exact sHas); (· exact rfl); (· exact sRet); rotate_left; (· exact (⟨rfl, rfl⟩)); (· exact sConv)
  | some p =>
    obtain ⟨x, k⟩ := p
    rw [mfull_some hf]
    have hfb := Frm.fget_bound hf
    repeat (first | refine wMh ?_ | (refine kMh ?_; (first | rintro _ _ ⟨rfl, rfl⟩ | rintro _ _ ⟨_, rfl, rfl⟩ | rintro _ _ ⟨_, _, ⟨_, _⟩, rfl, rfl⟩); try refine ⟨sConv, ?_⟩) | refine Dr.two ?_ ?_)
    refine L.step (by decide) (S.call rfl rfl Try.func20 (by kernel_rfl) rfl sPicks (fun E' hE => rgetf_yes E' A n c b sRd hl x k hf) ?_)
    rintro e H' ⟨⟨B, d, rfl, hrx0⟩, rfl⟩
    refine ⟨_, rfl, _, sCat, ?_⟩
    have hrx := hrx0 E hr
    have hxcap := hrx.cap
    by_cases hk : k = n
    case neg =>
      have hd : decide ((k : Int) ≠ (n : Int)) = true := decide_eq_true (by omega)
      rw [if_neg (by omega)]
      repeat (first | refine wMh ?_ | (refine kMh ?_; (first | rintro _ _ ⟨rfl, rfl⟩ | rintro _ _ ⟨_, rfl, rfl⟩ | rintro _ _ ⟨_, _, ⟨_, _⟩, rfl, rfl⟩); try refine ⟨sConv, ?_⟩) | refine Dr.two ?_ ?_)
      apply retC2; (· exact rfl); (· exact sRet); (· exact rfl); (· exact rfl); (· exact rfl); (· exact sHas); (· exact rfl); (· exact sRet); rotate_left; (· exact (⟨rfl, rfl⟩)); (· exact sConv)
    have hd : decide ((k : Int) ≠ (n : Int)) = false := decide_eq_false (by omega)
    rw [if_pos (by omega)]
    have hg : mget x = match mraw x with
      | some m => if m.check = 0 then some m else none
      | none => none := rfl
    rw [hg]
    by_cases h3 : x.length < 3
    · have hno : mraw x = none := if_pos h3
      rw [hno]
      repeat (first | refine wMh ?_ | (refine kMh ?_; (first | rintro _ _ ⟨rfl, rfl⟩ | rintro _ _ ⟨_, rfl, rfl⟩ | rintro _ _ ⟨_, _, ⟨_, _⟩, rfl, rfl⟩); try refine ⟨sConv, ?_⟩) | refine Dr.two ?_ ?_)
      apply retC2; (· exact rfl); (· exact sRet); (· exact rfl); (· exact rfl); (· exact rfl); (· exact sHas); (· exact rfl); (· exact sRet); rotate_left; (· exact (⟨rfl, rfl⟩)); (· exact sConv)
    obtain ⟨b0, g0, f0, u0⟩ := oct_at (x := x) (i := 0) (by omega)
    obtain ⟨b1, g1, f1, u1⟩ := oct_at (x := x) (i := 1) (by omega)
    obtain ⟨b2, g2, f2, u2⟩ := oct_at (x := x) (i := 2) (by omega)
    have e0 : mraw x = if b0.toNat = 1 then mask x else if b0.toNat = 2 then mpush x else if b0.toNat = 3 then mreq x else if b0.toNat = 4 then mans x else none := by
      unfold mraw
      rw [if_neg h3, f0]
    have hy := hrx.from_ (k := 3) (by omega)
    have h3x : 3 ≤ x.length := by omega
    repeat (first | refine wMh ?_ | (refine kMh ?_; (first | rintro _ _ ⟨rfl, rfl⟩ | rintro _ _ ⟨_, rfl, rfl⟩ | rintro _ _ ⟨_, _, ⟨_, _⟩, rfl, rfl⟩); try refine ⟨sConv, ?_⟩) | refine Dr.two ?_ ?_)
    refine C.regionA 100000 (.one 0 false (.one 1 false (.one 2 false (.one 3 false (.one 4 false (.one 5 false (.one 6 false (.one 7 false (.one 8 false (.one 9 false (.one 10 false (.one 11 false (.one 12 false (.one 13 true (.one 14 true (.one 15 false .nil)))))))))))))))) _ (by kernel_rfl) (by kernel_rfl) Conv.refl ?_
    repeat ((fail_if_success (refine C.seq (x := Code.region 6 _ _) ?_)); first | refine vMh ?_ | (refine kMh ?_; (first | rintro _ _ ⟨rfl, rfl⟩ | rintro _ _ ⟨_, rfl, rfl⟩ | rintro _ _ ⟨_, _, ⟨_, _⟩, rfl, rfl⟩); try refine ⟨sConv, ?_⟩) | refine Dr.two ?_ ?_)
    rename_i gr g6
    have hny : x.length - 3 + 3 = x.length := by omega
    have hyc := hy.cap
    generalize x.length - 3 = ny at *
    generalize d - 3 = cy at *
    generalize (if d = 3 then B else Option.map (fun x => x.add (3 * octT.size)) B) = Z at *
    refine C.mid (X := Mg × Bool × (Option Addr × Nat × Nat) × Option Addr × Nat × Nat) (fun y => [(2, .pointer (some ⟨gr, 0, none⟩)), (6, .pointer (some ⟨g6, 0, none⟩)), (7, .bool y.2.1)]) (fun y => [blk g6 38 (mcs y.1 y.2.2.1.1 y.2.2.1.2.1 y.2.2.1.2.2 y.2.2.2.1 y.2.2.2.2.1 y.2.2.2.2.2), own idnT y.2.2.1.1 y.2.2.1.2.1 y.2.2.1.2.2 y.1.ids, own chgT y.2.2.2.1 y.2.2.2.2.1 y.2.2.2.2.2 y.1.chs, blk gr 38 (mcs (mst 0 0 0) none 0 0 none 0 0)]) (fun y => mraw x = if y.2.1 then some y.1 else none) ?_ ?_
    · have hnl : Conv E [blk g6 38 (mcs (mst b0.toNat b1.toNat b2.toNat) none 0 0 none 0 0), blk gr 38 (mcs (mst 0 0 0) none 0 0 none 0 0)] [own idnT none 0 0 [], own chgT none 0 0 [], blk g6 38 (mcs (mst b0.toNat b1.toNat b2.toNat) none 0 0 none 0 0), blk gr 38 (mcs (mst 0 0 0) none 0 0 none 0 0)] := (Conv.nil chgT).trans (Conv.nil idnT)
      by_cases k1 : b0.toNat = 1
      · rw [if_pos k1] at e0
        by_cases k12 : ny = 9
        · have hx12 : x.length = 12 := by omega
          have hm : mraw x = some ⟨b0.toNat, b1.toNat, b2.toNat, (fld x 3 2 : Nat), (fld x 5 2 : Nat), (fld x 7 2 : Nat), (fld x 9 2 : Nat), (fld x 11 1 : Nat), [], [], kz, ez⟩ := by
            rw [e0]
            unfold mask
            rw [if_pos hx12, f1, f2, k1]
            rfl
          obtain ⟨b11, g11, f11, u11⟩ := oct_drop (x := x) (j := 3) (i := 8) (by omega)
          simp only [Nat.reduceAdd] at f11
          rw [f11] at hm
          have u3 : fld x 3 2 < 65536 := fld_lt x 3 2
          have u5 : fld x 5 2 < 65536 := fld_lt x 5 2
          have u7 : fld x 7 2 < 65536 := fld_lt x 7 2
          have u9 : fld x 9 2 < 65536 := fld_lt x 9 2
          have q3 : fld (x.drop 3) 0 2 = fld x 3 2 := fld_drop x 3 0 2
          have q5 : fld (x.drop 3) 2 2 = fld x 5 2 := fld_drop x 3 2 2
          have q7 : fld (x.drop 3) 4 2 = fld x 7 2 := fld_drop x 3 4 2
          have q9 : fld (x.drop 3) 6 2 = fld x 9 2 := fld_drop x 3 6 2
          repeat ((fail_if_success (refine C.seq (x := Code.region 7 _ _) ?_)); first | refine vMh ?_ | (refine kMh ?_; (first | rintro _ _ ⟨rfl, rfl⟩ | rintro _ _ ⟨_, rfl, rfl⟩ | rintro _ _ ⟨_, _, ⟨_, _⟩, rfl, rfl⟩); try refine ⟨sConv, ?_⟩) | refine Dr.two ?_ ?_)
          refine C.mid (X := Unit) (fun _ => [(2, .pointer (some ⟨gr, 0, none⟩)), (4, .slice Z ny cy), (6, .pointer (some ⟨g6, 0, none⟩))]) (fun _ => [blk g6 38 (mcs ⟨b0.toNat, b1.toNat, b2.toNat, (fld x 3 2 : Nat), (fld x 5 2 : Nat), (fld x 7 2 : Nat), (fld x 9 2 : Nat), 0, [], [], kz, ez⟩ none 0 0 none 0 0), blk gr 38 (mcs (mst 0 0 0) none 0 0 none 0 0)]) (fun _ => True) ?_ ?_
          · repeat (first | refine wMh ?_ | (refine kMh ?_; (first | rintro _ _ ⟨rfl, rfl⟩ | rintro _ _ ⟨_, rfl, rfl⟩ | rintro _ _ ⟨_, _, ⟨_, _⟩, rfl, rfl⟩); try refine ⟨sConv, ?_⟩) | refine Dr.two ?_ ?_)
            refine C.loop (X := Nat × Int × Int × Int × Int) (fun y => [(2, .pointer (some ⟨gr, 0, none⟩)), (4, .slice Z ny cy), (6, .pointer (some ⟨g6, 0, none⟩)), (8, .int .i64 y.1)]) (fun y => [blk g6 38 (mcs ⟨b0.toNat, b1.toNat, b2.toNat, y.2.1, y.2.2.1, y.2.2.2.1, y.2.2.2.2, 0, [], [], kz, ez⟩ none 0 0 none 0 0), blk gr 38 (mcs (mst 0 0 0) none 0 0 none 0 0)]) (fun y => y.1 ≤ 4 ∧ y.2 = fTup x y.1) (fun y => 4 - y.1) (0, (0, 0, 0, 0)) sHolds sConv ⟨Nat.zero_le _, rfl⟩ ?_
            rintro ⟨i, tp⟩ G ⟨hi, ht⟩
            dsimp only at hi ht ⊢
            subst ht
            have h4w : 2 ≤ 8 := by omega
            rcases (show i = 0 ∨ i = 1 ∨ i = 2 ∨ i = 3 ∨ i = 4 by omega) with rfl | rfl | rfl | rfl | rfl
            · dsimp only [fTup]
              have w1 : IntKind.i64.wrap (2 * ((0 : Nat) : Int)) = ((0 : Nat) : Int) := by decide
              have w2 : IntKind.i64.wrap (((0 : Nat) : Int) + 2) = ((2 : Nat) : Int) := by decide
              have hmn : 2 ≤ ny := by omega
              repeat (first | refine wMh ?_ | (refine kMh ?_; (first | rintro _ _ ⟨rfl, rfl⟩ | rintro _ _ ⟨_, rfl, rfl⟩ | rintro _ _ ⟨_, _, ⟨_, _⟩, rfl, rfl⟩); try refine ⟨sConv, ?_⟩) | refine Dr.two ?_ ?_)
              refine L.step (by decide) (S.call rfl rfl Try.func21 (by kernel_rfl) rfl sPicks (fun E' hE => rgetf_any E' Z ny cy (x.drop 3) sRd 0 2 2 rfl h4w hmn) ?_)
              rw [q3]
              rintro e H' ⟨rfl, rfl⟩
              refine ⟨_, rfl, _, sCat, ?_⟩
              repeat (first | refine wMh ?_ | (refine kMh ?_; (first | rintro _ _ ⟨rfl, rfl⟩ | rintro _ _ ⟨_, rfl, rfl⟩ | rintro _ _ ⟨_, _, ⟨_, _⟩, rfl, rfl⟩); try refine ⟨sConv, ?_⟩) | refine Dr.two ?_ ?_)
              exact ⟨(1, ((fld x 3 2 : Nat), 0, 0, 0)), sHolds, sConv, ⟨by dsimp only; omega, rfl⟩, by dsimp only; omega⟩
            · dsimp only [fTup]
              have w1 : IntKind.i64.wrap (2 * ((1 : Nat) : Int)) = ((2 : Nat) : Int) := by decide
              have w2 : IntKind.i64.wrap (((2 : Nat) : Int) + 2) = ((4 : Nat) : Int) := by decide
              have hmn : 4 ≤ ny := by omega
              repeat (first | refine wMh ?_ | (refine kMh ?_; (first | rintro _ _ ⟨rfl, rfl⟩ | rintro _ _ ⟨_, rfl, rfl⟩ | rintro _ _ ⟨_, _, ⟨_, _⟩, rfl, rfl⟩); try refine ⟨sConv, ?_⟩) | refine Dr.two ?_ ?_)
              refine L.step (by decide) (S.call rfl rfl Try.func21 (by kernel_rfl) rfl sPicks (fun E' hE => rgetf_any E' Z ny cy (x.drop 3) sRd 2 4 2 rfl h4w hmn) ?_)
              rw [q5]
              rintro e H' ⟨rfl, rfl⟩
              refine ⟨_, rfl, _, sCat, ?_⟩
              repeat (first | refine wMh ?_ | (refine kMh ?_; (first | rintro _ _ ⟨rfl, rfl⟩ | rintro _ _ ⟨_, rfl, rfl⟩ | rintro _ _ ⟨_, _, ⟨_, _⟩, rfl, rfl⟩); try refine ⟨sConv, ?_⟩) | refine Dr.two ?_ ?_)
              exact ⟨(2, ((fld x 3 2 : Nat), (fld x 5 2 : Nat), 0, 0)), sHolds, sConv, ⟨by dsimp only; omega, rfl⟩, by dsimp only; omega⟩
            · dsimp only [fTup]
              have w1 : IntKind.i64.wrap (2 * ((2 : Nat) : Int)) = ((4 : Nat) : Int) := by decide
              have w2 : IntKind.i64.wrap (((4 : Nat) : Int) + 2) = ((6 : Nat) : Int) := by decide
              have hmn : 6 ≤ ny := by omega
              repeat (first | refine wMh ?_ | (refine kMh ?_; (first | rintro _ _ ⟨rfl, rfl⟩ | rintro _ _ ⟨_, rfl, rfl⟩ | rintro _ _ ⟨_, _, ⟨_, _⟩, rfl, rfl⟩); try refine ⟨sConv, ?_⟩) | refine Dr.two ?_ ?_)
              refine L.step (by decide) (S.call rfl rfl Try.func21 (by kernel_rfl) rfl sPicks (fun E' hE => rgetf_any E' Z ny cy (x.drop 3) sRd 4 6 2 rfl h4w hmn) ?_)
              rw [q7]
              rintro e H' ⟨rfl, rfl⟩
              refine ⟨_, rfl, _, sCat, ?_⟩
              repeat (first | refine wMh ?_ | (refine kMh ?_; (first | rintro _ _ ⟨rfl, rfl⟩ | rintro _ _ ⟨_, rfl, rfl⟩ | rintro _ _ ⟨_, _, ⟨_, _⟩, rfl, rfl⟩); try refine ⟨sConv, ?_⟩) | refine Dr.two ?_ ?_)
              exact ⟨(3, ((fld x 3 2 : Nat), (fld x 5 2 : Nat), (fld x 7 2 : Nat), 0)), sHolds, sConv, ⟨by dsimp only; omega, rfl⟩, by dsimp only; omega⟩
            · dsimp only [fTup]
              have w1 : IntKind.i64.wrap (2 * ((3 : Nat) : Int)) = ((6 : Nat) : Int) := by decide
              have w2 : IntKind.i64.wrap (((6 : Nat) : Int) + 2) = ((8 : Nat) : Int) := by decide
              have hmn : 8 ≤ ny := by omega
              repeat (first | refine wMh ?_ | (refine kMh ?_; (first | rintro _ _ ⟨rfl, rfl⟩ | rintro _ _ ⟨_, rfl, rfl⟩ | rintro _ _ ⟨_, _, ⟨_, _⟩, rfl, rfl⟩); try refine ⟨sConv, ?_⟩) | refine Dr.two ?_ ?_)
              refine L.step (by decide) (S.call rfl rfl Try.func21 (by kernel_rfl) rfl sPicks (fun E' hE => rgetf_any E' Z ny cy (x.drop 3) sRd 6 8 2 rfl h4w hmn) ?_)
              rw [q9]
              rintro e H' ⟨rfl, rfl⟩
              refine ⟨_, rfl, _, sCat, ?_⟩
              repeat (first | refine wMh ?_ | (refine kMh ?_; (first | rintro _ _ ⟨rfl, rfl⟩ | rintro _ _ ⟨_, rfl, rfl⟩ | rintro _ _ ⟨_, _, ⟨_, _⟩, rfl, rfl⟩); try refine ⟨sConv, ?_⟩) | refine Dr.two ?_ ?_)
              exact ⟨(4, ((fld x 3 2 : Nat), (fld x 5 2 : Nat), (fld x 7 2 : Nat), (fld x 9 2 : Nat))), sHolds, sConv, ⟨by dsimp only; omega, rfl⟩, by dsimp only; omega⟩
            · dsimp only [fTup]
              repeat (first | refine wMh ?_ | (refine kMh ?_; (first | rintro _ _ ⟨rfl, rfl⟩ | rintro _ _ ⟨_, rfl, rfl⟩ | rintro _ _ ⟨_, _, ⟨_, _⟩, rfl, rfl⟩); try refine ⟨sConv, ?_⟩) | refine Dr.two ?_ ?_)
              exact ⟨(), sHolds, sConv, trivial⟩
          rintro - G -
          repeat (first | refine wMh ?_ | (refine kMh ?_; (first | rintro _ _ ⟨rfl, rfl⟩ | rintro _ _ ⟨_, rfl, rfl⟩ | rintro _ _ ⟨_, _, ⟨_, _⟩, rfl, rfl⟩); try refine ⟨sConv, ?_⟩) | refine Dr.two ?_ ?_)
          exact ⟨(⟨b0.toNat, b1.toNat, b2.toNat, (fld x 3 2 : Nat), (fld x 5 2 : Nat), (fld x 7 2 : Nat), (fld x 9 2 : Nat), b11.toNat, [], [], kz, ez⟩, true, (none, 0, 0), none, 0, 0), sHolds, ((Conv.nil chgT).trans (Conv.nil idnT)).trans sConv, hm⟩
        · have hno : mraw x = none := by rw [e0]; exact if_neg (by omega)
          repeat (first | refine wMh ?_ | (refine kMh ?_; (first | rintro _ _ ⟨rfl, rfl⟩ | rintro _ _ ⟨_, rfl, rfl⟩ | rintro _ _ ⟨_, _, ⟨_, _⟩, rfl, rfl⟩); try refine ⟨sConv, ?_⟩) | refine Dr.two ?_ ?_)
          exact ⟨(mst b0.toNat b1.toNat b2.toNat, false, (none, 0, 0), none, 0, 0), sHolds, hnl.trans sConv, hno⟩
      rw [if_neg k1] at e0
      by_cases k2 : b0.toNat = 2
      · rw [if_pos k2] at e0
        have hq : ∀ E A n c, Rd E octT A n c (x.drop 3) → n ≤ 140737488355200 → _ := fun E A n c h1 h2 => rpush_m E A n c x (b0.toNat : Nat) (by omega) h3x h1 h2
        rw [f1, f2] at hq
        repeat (first | refine wMh ?_ | (refine kMh ?_; (first | rintro _ _ ⟨rfl, rfl⟩ | rintro _ _ ⟨_, rfl, rfl⟩ | rintro _ _ ⟨_, _, ⟨_, _⟩, rfl, rfl⟩); try refine ⟨sConv, ?_⟩) | refine Dr.two ?_ ?_)
        refine L.step (by decide) (S.call rfl rfl Try.func22 (by kernel_rfl) rfl sPicks (fun E' hE => hq E' Z ny cy sRd (by omega)) ?_)
        rintro e H' ⟨m, f, O, p, q, Q, k5, d5, rfl, hm, rfl⟩
        refine ⟨_, rfl, _, sCat, ?_⟩
        rw [← e0] at hm
        repeat (first | refine wMh ?_ | (refine kMh ?_; (first | rintro _ _ ⟨rfl, rfl⟩ | rintro _ _ ⟨_, rfl, rfl⟩ | rintro _ _ ⟨_, _, ⟨_, _⟩, rfl, rfl⟩); try refine ⟨sConv, ?_⟩) | refine Dr.two ?_ ?_)
        exact ⟨(m, f, (O, p, q), Q, k5, d5), sHolds, sConv, hm⟩
      rw [if_neg k2] at e0
      by_cases k3 : b0.toNat = 3
      · rw [if_pos k3] at e0
        have hq : ∀ E A n c, Rd E octT A n c (x.drop 3) → _ := fun E A n c h1 => rkeyed_m E A n c x (b0.toNat : Nat) (.inl (by omega)) h3x h1
        rw [f1, f2, if_neg (by omega)] at hq
        repeat (first | refine wMh ?_ | (refine kMh ?_; (first | rintro _ _ ⟨rfl, rfl⟩ | rintro _ _ ⟨_, rfl, rfl⟩ | rintro _ _ ⟨_, _, ⟨_, _⟩, rfl, rfl⟩); try refine ⟨sConv, ?_⟩) | refine Dr.two ?_ ?_)
        refine L.step (by decide) (S.call rfl rfl Try.func23 (by kernel_rfl) rfl sPicks (fun E' hE => hq E' Z ny cy sRd) ?_)
        rintro e H' ⟨m, f, O, p, q, Q, k5, d5, rfl, hm, rfl⟩
        refine ⟨_, rfl, _, sCat, ?_⟩
        rw [← e0] at hm
        repeat (first | refine wMh ?_ | (refine kMh ?_; (first | rintro _ _ ⟨rfl, rfl⟩ | rintro _ _ ⟨_, rfl, rfl⟩ | rintro _ _ ⟨_, _, ⟨_, _⟩, rfl, rfl⟩); try refine ⟨sConv, ?_⟩) | refine Dr.two ?_ ?_)
        exact ⟨(m, f, (O, p, q), Q, k5, d5), sHolds, sConv, hm⟩
      rw [if_neg k3] at e0
      by_cases k4 : b0.toNat = 4
      · rw [if_pos k4] at e0
        have hq : ∀ E A n c, Rd E octT A n c (x.drop 3) → _ := fun E A n c h1 => rkeyed_m E A n c x (b0.toNat : Nat) (.inr (by omega)) h3x h1
        rw [f1, f2, if_pos (by omega)] at hq
        repeat (first | refine wMh ?_ | (refine kMh ?_; (first | rintro _ _ ⟨rfl, rfl⟩ | rintro _ _ ⟨_, rfl, rfl⟩ | rintro _ _ ⟨_, _, ⟨_, _⟩, rfl, rfl⟩); try refine ⟨sConv, ?_⟩) | refine Dr.two ?_ ?_)
        refine L.step (by decide) (S.call rfl rfl Try.func23 (by kernel_rfl) rfl sPicks (fun E' hE => hq E' Z ny cy sRd) ?_)
        rintro e H' ⟨m, f, O, p, q, Q, k5, d5, rfl, hm, rfl⟩
        refine ⟨_, rfl, _, sCat, ?_⟩
        rw [← e0] at hm
        repeat (first | refine wMh ?_ | (refine kMh ?_; (first | rintro _ _ ⟨rfl, rfl⟩ | rintro _ _ ⟨_, rfl, rfl⟩ | rintro _ _ ⟨_, _, ⟨_, _⟩, rfl, rfl⟩); try refine ⟨sConv, ?_⟩) | refine Dr.two ?_ ?_)
        exact ⟨(m, f, (O, p, q), Q, k5, d5), sHolds, sConv, hm⟩
      rw [if_neg k4] at e0
      repeat (first | refine wMh ?_ | (refine kMh ?_; (first | rintro _ _ ⟨rfl, rfl⟩ | rintro _ _ ⟨_, rfl, rfl⟩ | rintro _ _ ⟨_, _, ⟨_, _⟩, rfl, rfl⟩); try refine ⟨sConv, ?_⟩) | refine Dr.two ?_ ?_)
      exact ⟨(mst b0.toNat b1.toNat b2.toNat, false, (none, 0, 0), none, 0, 0), sHolds, hnl.trans sConv, e0⟩
    rintro ⟨m, ok, ⟨O, p, q⟩, Q, k3, d3⟩ G hm
    dsimp only at hm ⊢
    rw [hm]
    clear hm e0 hg hy hrx hrx0 hny hyc hd f0 f1 f2 g0 g1 g2 u0 u1 u2 hfb hf h3x h3 hk
    cases ok
    · rw [if_neg Bool.false_ne_true]
      dsimp only
      repeat (first | refine wMh ?_ | (refine kMh ?_; (first | rintro _ _ ⟨rfl, rfl⟩ | rintro _ _ ⟨_, rfl, rfl⟩ | rintro _ _ ⟨_, _, ⟨_, _⟩, rfl, rfl⟩); try refine ⟨sConv, ?_⟩) | refine Dr.two ?_ ?_)
      apply retC2; (· exact rfl); (· exact sRet); (· exact rfl); (· exact rfl); (· exact rfl); (· exact sHas); (· exact rfl); (· exact sRet); rotate_left; (· exact (⟨rfl, rfl⟩)); (· exact sConv)
    · rw [if_pos rfl]
      repeat (first | refine wMh ?_ | (refine kMh ?_; (first | rintro _ _ ⟨rfl, rfl⟩ | rintro _ _ ⟨_, rfl, rfl⟩ | rintro _ _ ⟨_, _, ⟨_, _⟩, rfl, rfl⟩); try refine ⟨sConv, ?_⟩) | refine Dr.two ?_ ?_)
      refine L.step (by decide) (S.call rfl rfl Try.func24 (by kernel_rfl) rfl sPicks (fun E' hE => rcheck26 E' m O p q Q k3 d3 sRd sRd) ?_)
      by_cases hc : m.check = 0
      · rw [hc]
        dsimp only
        rw [if_pos hc]
        rintro e H' ⟨rfl, rfl⟩
        refine ⟨_, rfl, _, sCat, ?_⟩
        repeat (first | refine wMh ?_ | (refine kMh ?_; (first | rintro _ _ ⟨rfl, rfl⟩ | rintro _ _ ⟨_, rfl, rfl⟩ | rintro _ _ ⟨_, _, ⟨_, _⟩, rfl, rfl⟩); try refine ⟨sConv, ?_⟩) | refine Dr.two ?_ ?_)
        apply retC2; (· exact rfl); (· exact sRet); (· exact rfl); (· exact rfl); (· exact rfl); (· exact sHas); (· exact rfl); (· exact sRet); rotate_left; (· exact (⟨_, _, _, _, _, _, rfl, rfl⟩)); (· exact sConv)
      · dsimp only
        rw [if_neg hc]
        generalize m.check = ck at *
        rintro e H' ⟨rfl, rfl⟩
        refine ⟨_, rfl, _, sCat, ?_⟩
        repeat (first | refine wMh ?_ | (refine kMh ?_; (first | rintro _ _ ⟨rfl, rfl⟩ | rintro _ _ ⟨_, rfl, rfl⟩ | rintro _ _ ⟨_, _, ⟨_, _⟩, rfl, rfl⟩); try refine ⟨sConv, ?_⟩) | refine Dr.two ?_ ?_)
        apply retC2; (· exact rfl); (· exact sRet); (· exact rfl); (· exact rfl); (· exact rfl); (· exact sHas); (· exact rfl); (· exact sRet); rotate_left; (· exact (⟨rfl, rfl⟩)); (· exact sConv)
end
end Go.Proofs.Ytihblcljkndpgaa.Sep
