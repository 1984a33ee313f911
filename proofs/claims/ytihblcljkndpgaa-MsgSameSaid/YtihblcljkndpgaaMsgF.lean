/- The law of messages: with one bit turned no message's octets are read. -/
import Derived.Test.YtihblcljkndpgaaMsgE
namespace Go.Proofs.Ytihblcljkndpgaa.Sep
open Go.RowKit Go.Proofs.Ytihblcljkndpgaa.Reg Go.Proofs.Ytihblcljkndpgaa.Oct
open Go.Proofs.Ytihblcljkndpgaa.Mem hiding Rd Own
-- types: octT idnT chgT intT
-- recs: rec_Reader idnT_rec effT_rec chgT_rec keyT_rec mgT_rec rgT_rec wrT_rec rdT_rec
-- arrs: arr4_rec
-- eqs: idnT_eqa effT_eqa chgT_eqa keyT_eqa
-- eqrs: k4_eqr
-- zeros: z_octs z_rdr
-- funcs
-- flds
-- arrp
set_option maxRecDepth 100000
set_option maxHeartbeats 6000000
/-- at most so many parts -/
def Mg.few (m : Mg) : Mg := ⟨m.kind, m.fr, m.to, m.k0, m.k1, m.k2, m.k3, m.base, m.ids.take 30, m.chs.take 30, m.key, m.what⟩
section
variable (E : Env) (A : Option Addr) (n c : Nat) (B : Option Addr) (k d : Nat)
theorem few_rd {α : Type} {T : Ty α} {E : Env} {A : Option Addr} {n c : Nat} {l : List α} (h : Rd E T A n c l) : Rd E T A (min n 30) c (l.take 30) := by
  have hc := h.cap
  have hn := h.len
  by_cases hh : n ≤ 30
  · rw [Nat.min_eq_left hh, List.take_of_length_le (by omega)]
    exact h
  · rw [Nat.min_eq_right (by omega)]
    exact h.upto (by omega) (by omega) (Nat.le_refl c)
theorem few26 (m : Mg) (hI : Rd E idnT A n c m.ids) (hC : Rd E chgT B k d m.chs) : Tri Try.prog E 13 #[.agg (mcs m A n c B k d).toArray] [] fun e H' => e = .returned (.agg (mcs m.few A (min n 30) c B (min k 30) d).toArray) ∧ H' = [] := by
  have hc := hI.cap
  have hd := hC.cap
  refine tri Try.func13 rfl Try.ntmps13 (by simp) ?_
  by_cases h1 : n ≤ 30
  · rw [Nat.min_eq_left h1]
    by_cases h2 : k ≤ 30
    · rw [Nat.min_eq_left h2]
      repeat (first | refine wMl ?_ | (refine kMl ?_; (first | rintro _ _ ⟨rfl, rfl⟩ | rintro _ _ ⟨_, rfl, rfl⟩ | rintro _ _ ⟨_, _, ⟨_, _⟩, rfl, rfl⟩); try refine ⟨sConv, ?_⟩) | refine Dr.two ?_ ?_)
      apply retC1; (· exact rfl); (· exact sRet); (· exact rfl); (· exact rfl); (· exact rfl); (· exact sHas); (· exact rfl); rotate_left; (· exact (⟨rfl, rfl⟩)); (· exact sConv)
    · rw [Nat.min_eq_right (by omega)]
      have h30 : 30 ≤ k := by omega
      repeat (first | refine wMl ?_ | (refine kMl ?_; (first | rintro _ _ ⟨rfl, rfl⟩ | rintro _ _ ⟨_, rfl, rfl⟩ | rintro _ _ ⟨_, _, ⟨_, _⟩, rfl, rfl⟩); try refine ⟨sConv, ?_⟩) | refine Dr.two ?_ ?_)
      apply retC1; (· exact rfl); (· exact sRet); (· exact rfl); (· exact rfl); (· exact rfl); (· exact sHas); (· exact rfl); rotate_left; (· exact (⟨rfl, rfl⟩)); (· exact sConv)
  · rw [Nat.min_eq_right (by omega)]
    have h30n : 30 ≤ n := by omega
    by_cases h2 : k ≤ 30
    · rw [Nat.min_eq_left h2]
      repeat (first | refine wMl ?_ | (refine kMl ?_; (first | rintro _ _ ⟨rfl, rfl⟩ | rintro _ _ ⟨_, rfl, rfl⟩ | rintro _ _ ⟨_, _, ⟨_, _⟩, rfl, rfl⟩); try refine ⟨sConv, ?_⟩) | refine Dr.two ?_ ?_)
      apply retC1; (· exact rfl); (· exact sRet); (· exact rfl); (· exact rfl); (· exact rfl); (· exact sHas); (· exact rfl); rotate_left; (· exact (⟨rfl, rfl⟩)); (· exact sConv)
    · rw [Nat.min_eq_right (by omega)]
      have h30 : 30 ≤ k := by omega
      repeat (first | refine wMl ?_ | (refine kMl ?_; (first | rintro _ _ ⟨rfl, rfl⟩ | rintro _ _ ⟨_, rfl, rfl⟩ | rintro _ _ ⟨_, _, ⟨_, _⟩, rfl, rfl⟩); try refine ⟨sConv, ?_⟩) | refine Dr.two ?_ ?_)
      apply retC1; (· exact rfl); (· exact sRet); (· exact rfl); (· exact rfl); (· exact rfl); (· exact sHas); (· exact rfl); rotate_left; (· exact (⟨rfl, rfl⟩)); (· exact sConv)
/-- an octet, one bit of which is turned -/
def turn8 (b : UInt8) (k : Nat) : UInt8 := UInt8.ofNat (b.toNat ^^^ 2 ^ k)
theorem turn8_ne (b : UInt8) (k : Nat) (hk : k < 8) : turn8 b k ≠ b := by
  intro h
  have h1 := congrArg UInt8.toNat h
  have hx : b.toNat ^^^ 2 ^ k < 256 := Nat.xor_lt_two_pow (n := 8) (UInt8.toNat_lt b) (Nat.pow_lt_pow_right (by decide) hk)
  rw [turn8, UInt8.toNat_ofNat', Nat.mod_eq_of_lt hx] at h1
  have h2 : b.toNat ^^^ (b.toNat ^^^ 2 ^ k) = b.toNat ^^^ b.toNat := by rw [h1]
  rw [← Nat.xor_assoc, Nat.xor_self, Nat.zero_xor] at h2
  have := Nat.two_pow_pos k
  omega
theorem xor8 (b : UInt8) {k : Nat} (hk : k < 8) {z : Int} (hz : z = 2 ^ k % 256) : Go.bits .xor .u8 (b.toNat : Int) z = ((turn8 b k).toNat : Int) := by
  subst hz
  have hx := UInt8.toNat_lt b
  have hp2 : 2 ^ k < 256 := Nat.pow_lt_pow_right (n := 8) (by decide) hk
  have e : ((2 : Int) ^ k % 256) = ((2 ^ k : Nat) : Int) := by
    have h1 : ((2 ^ k : Nat) : Int) = (2 : Int) ^ k := by simp
    have h2 : ((2 ^ k : Nat) : Int) < 256 := by omega
    rw [← h1]
    exact Int.emod_eq_of_lt (Int.natCast_nonneg _) h2
  have hlt : b.toNat ^^^ 2 ^ k < 256 := Nat.xor_lt_two_pow (n := 8) hx hp2
  rw [e, u8_xor_nat _ _ hx hp2, turn8, UInt8.toNat_ofNat', Nat.mod_eq_of_lt hlt]
/-- a place within n, as the law reckons it -/
theorem place (a : Int) (n : Nat) (hn : 0 < n) : ∃ (z : Int) (j : Nat), a.tmod n = z ∧ -(n : Int) < z ∧ z < n ∧ (z + n).tmod n = (j : Int) ∧ j < n := by
  have h1 : -(n : Int) < a.tmod n := by have := Int.lt_tmod_of_pos a (b := (n : Int)) (by omega); omega
  have h2 : a.tmod n < n := Int.tmod_lt_of_pos a (by omega)
  have h3 : (a.tmod n + n).tmod n = (a.tmod n + n) % n := Int.tmod_eq_emod_of_nonneg (by omega)
  have h4 : 0 ≤ (a.tmod n + n) % n := Int.emod_nonneg _ (by omega)
  have h5 : (a.tmod n + n) % n < n := Int.emod_lt_of_pos _ (by omega)
  refine ⟨_, ((a.tmod n + n) % n).toNat, rfl, h1, h2, ?_, ?_⟩
  · rw [h3]; omega
  · omega
theorem turns26 (m : Mg) (hI : Rd E idnT A n c m.ids) (hC : Rd E chgT B k d m.chs) (at_ bit : Int) : Tri Try.prog E 4 #[.agg (mcs m A n c B k d).toArray, .int .i64 at_, .int .i64 bit] [] fun e _ => e = .returned (.bool true) := by
  have hI2 := few_rd hI
  have hC2 := few_rd hC
  refine tri Try.func4 rfl Try.ntmps4 (by simp) ?_
  repeat (first | refine wMl ?_ | (refine kMl ?_; (first | rintro _ _ ⟨rfl, rfl⟩ | rintro _ _ ⟨_, rfl, rfl⟩ | rintro _ _ ⟨_, _, ⟨_, _⟩, rfl, rfl⟩); try refine ⟨sConv, ?_⟩) | refine Dr.two ?_ ?_)
  refine L.step (by decide) (S.call rfl rfl Try.func6 (by kernel_rfl) rfl sPicks (fun E' hE => alive26 E') ?_)
  rintro e H' ⟨rfl, rfl⟩
  refine ⟨_, rfl, _, sCat, ?_⟩
  repeat (first | refine wMl ?_ | (refine kMl ?_; (first | rintro _ _ ⟨rfl, rfl⟩ | rintro _ _ ⟨_, rfl, rfl⟩ | rintro _ _ ⟨_, _, ⟨_, _⟩, rfl, rfl⟩); try refine ⟨sConv, ?_⟩) | refine Dr.two ?_ ?_)
  refine L.step (by decide) (S.call rfl rfl Try.func13 (by kernel_rfl) rfl sPicks (fun E' hE => few26 E' A n c B k d m sRd sRd) ?_)
  rintro e H' ⟨rfl, rfl⟩
  refine ⟨_, rfl, _, sCat, ?_⟩
  have hI3 : Rd E idnT A (min n 30) c m.few.ids := hI2
  have hC3 : Rd E chgT B (min k 30) d m.few.chs := hC2
  clear hI2 hC2 hI hC
  generalize m.few = f at *
  generalize min n 30 = n at *
  generalize min k 30 = k at *
  repeat (first | refine wMl ?_ | (refine kMl ?_; (first | rintro _ _ ⟨rfl, rfl⟩ | rintro _ _ ⟨_, rfl, rfl⟩ | rintro _ _ ⟨_, _, ⟨_, _⟩, rfl, rfl⟩); try refine ⟨sConv, ?_⟩) | refine Dr.two ?_ ?_)
  by_cases hc : f.check = 0
  case neg =>
    refine L.step (by decide) (S.call rfl rfl Try.func10 (by kernel_rfl) rfl sPicks (fun E' hE => mput_no E' f A n c B k d sRd sRd hc) ?_)
    generalize f.check = ck at *
    rintro e H' ⟨rfl, rfl⟩
    refine ⟨_, rfl, _, sCat, ?_⟩
    have hml : 0 ≤ maxLen := Nat.zero_le _
    repeat (first | refine wMl ?_ | (refine kMl ?_; (first | rintro _ _ ⟨rfl, rfl⟩ | rintro _ _ ⟨_, rfl, rfl⟩ | rintro _ _ ⟨_, _, ⟨_, _⟩, rfl, rfl⟩); try refine ⟨sConv, ?_⟩) | refine Dr.two ?_ ?_)
    exact ret1 rfl sRet sConv (rfl)
  have hsz := Mg.size hc
  have htn := @mfull_turn f
  have hel : f.enc.length = f.body.length + 7 := Frm.fr_length _
  refine L.step (by decide) (S.call rfl rfl Try.func10 (by kernel_rfl) rfl sPicks (fun E' hE => mput_ok E' f A n c B k d sRd sRd hc) ?_)
  unfold MPut
  generalize hL : f.body.length + 7 = ln at *
  rintro e H' ⟨A1, c1, rfl, rfl⟩
  refine ⟨_, rfl, _, sCat, ?_⟩
  obtain ⟨z, j, z1, z2, z3, z4, hj⟩ := place at_ ln (by omega)
  obtain ⟨y, q, y1, y2, y3, y4, hq⟩ : ∃ (y : Int) (q : Nat), bit.tmod 8 = y ∧ -8 < y ∧ y < 8 ∧ (y + 8).tmod 8 = (q : Int) ∧ q < 8 := place bit 8 (by decide)
  obtain ⟨x, hx⟩ : ∃ x, f.enc[j]? = some x := ⟨_, List.getElem?_eq_getElem (by omega)⟩
  have hz : IntKind.u8.wrap (1 * 2 ^ min ((q : Nat) : Int).toNat IntKind.u8.bits) = 2 ^ q % 256 := by
    rw [Int.toNat_natCast, show min q IntKind.u8.bits = q from Nat.min_eq_left (show q ≤ 8 by omega), Int.one_mul]
    exact IntKind.wrap_u8 _
  have hxor := xor8 x (k := q) hq rfl
  have hno := htn (i := j) (y := turn8 x q) (by omega) (by rw [hx]; intro h; exact turn8_ne x q hq (Option.some.inj h).symm)
  have hLm : ln ≤ maxLen := by unfold maxLen; omega
  have hd2 : decide (mst 0 0 0 = mst 0 0 0) = true := decide_eq_true rfl
  repeat (first | refine wMl ?_ | (refine kMl ?_; (first | rintro _ _ ⟨rfl, rfl⟩ | rintro _ _ ⟨_, rfl, rfl⟩ | rintro _ _ ⟨_, _, ⟨_, _⟩, rfl, rfl⟩); try refine ⟨sConv, ?_⟩) | refine Dr.two ?_ ?_)
  refine C.regionA 10 (.one 0 false (.one 1 false (.one 2 false (.one 3 false (.one 4 false (.one 5 false (.one 6 false (.one 7 false (.one 8 false (.one 9 false (.one 10 true .nil))))))))))) _ (by kernel_rfl) (by kernel_rfl) Conv.refl ?_
  repeat (first | refine wMl ?_ | (refine kMl ?_; (first | rintro _ _ ⟨rfl, rfl⟩ | rintro _ _ ⟨_, rfl, rfl⟩ | rintro _ _ ⟨_, _, ⟨_, _⟩, rfl, rfl⟩); try refine ⟨sConv, ?_⟩) | refine Dr.two ?_ ?_)
  refine L.step (by decide) (S.call rfl rfl Try.func7 (by kernel_rfl) rfl sPicks (fun E' hE => mgetm E' A1 ln c1 (f.enc.set j (turn8 x q)) sRd (by omega)) ?_)
  rw [hno]
  rintro e H' ⟨rfl, rfl⟩
  refine ⟨_, rfl, _, sCat, ?_⟩
  repeat (first | refine wMl ?_ | (refine kMl ?_; (first | rintro _ _ ⟨rfl, rfl⟩ | rintro _ _ ⟨_, rfl, rfl⟩ | rintro _ _ ⟨_, _, ⟨_, _⟩, rfl, rfl⟩); try refine ⟨sConv, ?_⟩) | refine Dr.two ?_ ?_)
  refine L.step (by decide) (S.call rfl rfl Try.func9 (by kernel_rfl) rfl sPicks (fun E' hE => msame E' none 0 0 none 0 0 none 0 0 none 0 0 (mst 0 0 0) (mst 0 0 0) (Rd.nil _ _) (Rd.nil _ _) (Rd.nil _ _) (Rd.nil _ _)) ?_)
  rw [hd2]
  rintro e H' ⟨rfl, rfl⟩
  refine ⟨_, rfl, _, sCat, ?_⟩
  repeat (first | refine wMl ?_ | (refine kMl ?_; (first | rintro _ _ ⟨rfl, rfl⟩ | rintro _ _ ⟨_, rfl, rfl⟩ | rintro _ _ ⟨_, _, ⟨_, _⟩, rfl, rfl⟩); try refine ⟨sConv, ?_⟩) | refine Dr.two ?_ ?_)
  exact ret1 rfl sRet sConv (rfl)
end
end Go.Proofs.Ytihblcljkndpgaa.Sep
