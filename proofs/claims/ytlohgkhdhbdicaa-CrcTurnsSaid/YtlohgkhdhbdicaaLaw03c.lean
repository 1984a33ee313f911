/- The walk of CrcTurns. -/
import Derived.Test.YtlohgkhdhbdicaaLaw03b
namespace Go.Proofs.Ytlohgkhdhbdicaa.Crc
open Go.RowKit Go.Proofs.Ytlohgkhdhbdicaa.Mem Go.Proofs.Ytlohgkhdhbdicaa.Oct Go.Proofs.Ytlohgkhdhbdicaa.Reg

/-- a bit turned is another octet -/
def turn (b : UInt8) (k : Nat) : UInt8 := UInt8.ofNat (b.toNat ^^^ 2 ^ k)
theorem turn_ne (b : UInt8) (k : Nat) (hk : k < 8) : turn b k ≠ b := by
  intro h
  have h1 := congrArg UInt8.toNat h
  have hx : b.toNat ^^^ 2 ^ k < 256 := Nat.xor_lt_two_pow (n := 8) (UInt8.toNat_lt b) (Nat.pow_lt_pow_right (by decide) hk)
  rw [turn, UInt8.toNat_ofNat', Nat.mod_eq_of_lt hx] at h1
  have h2 : b.toNat ^^^ (b.toNat ^^^ 2 ^ k) = b.toNat ^^^ b.toNat := by rw [h1]
  rw [xor_xor, Nat.xor_self] at h2
  have := Nat.two_pow_pos k
  omega

/-- octets with their sum, one of them another one -/
theorem turned_not (l : List UInt8) (j : Nat) (b : UInt8) (hj : j < (sealed l).length) (hb : b ≠ (sealed l)[j]) :
    ¬ okay ((sealed l).set j b) = true ∧ (j < l.length → sum (((sealed l).set j b).take l.length) ≠ sum l) := by
  have hlen : ((sealed l).set j b).length = l.length + 4 := by simp [sealed, be_length]
  have hlt := sum_lt l
  by_cases hjl : j < l.length
  · have hset : (sealed l).set j b = (l.set j b) ++ be (sum l) 4 := by unfold sealed; rw [List.set_append_left _ _ hjl]
    have htake : ((sealed l).set j b).take l.length = l.set j b := by rw [hset, List.take_left' (by simp)]
    have hdrop : ((sealed l).set j b).drop l.length = be (sum l) 4 := by rw [hset, List.drop_left' (by simp)]
    have hbl : b ≠ l[j] := by
      intro e
      apply hb
      have h4 : (sealed l)[j]? = some b := by
        unfold sealed
        rw [List.getElem?_append_left hjl, List.getElem?_eq_getElem hjl, e]
      rw [List.getElem?_eq_getElem hj] at h4
      exact (Option.some.inj h4).symm
    have hne : sum (l.set j b) ≠ sum l := by
      have e1 : l.set j b = l.take j ++ b :: l.drop (j + 1) := List.set_eq_take_append_cons_drop.trans (by rw [if_pos hjl])
      have e2 : l = l.take j ++ l[j] :: l.drop (j + 1) := by rw [List.getElem_cons_drop, List.take_append_drop]
      rw [e1]
      conv => rhs; rw [e2]
      exact sum_ne _ _ _ _ hbl
    refine ⟨?_, fun _ => by rw [htake]; exact hne⟩
    rw [okay_iff _ l.length hlen, htake, hdrop, get_be, Nat.mod_eq_of_lt (by omega)]
    simpa using fun h => hne h.symm
  · refine ⟨?_, fun h => absurd h hjl⟩
    have hj4 : j - l.length < 4 := by simp [sealed, be_length] at hj; omega
    have hset : (sealed l).set j b = l ++ (be (sum l) 4).set (j - l.length) b := by unfold sealed; rw [List.set_append_right _ _ (by omega)]
    have htake : ((sealed l).set j b).take l.length = l := by rw [hset, List.take_left' rfl]
    have hdrop : ((sealed l).set j b).drop l.length = (be (sum l) 4).set (j - l.length) b := by rw [hset, List.drop_left' rfl]
    rw [okay_iff _ l.length hlen, htake, hdrop]
    intro h
    have h := beq_iff_eq.1 h
    have h2 := be_get ((be (sum l) 4).set (j - l.length) b)
    rw [h, List.length_set, be_length] at h2
    apply hb
    have h4 : (sealed l)[j]? = some b := by
      unfold sealed
      rw [List.getElem?_append_right (by omega), h2, List.getElem?_set_self (by simp [be_length]; exact hj4)]
    rw [List.getElem?_eq_getElem hj] at h4
    exact (Option.some.inj h4).symm

set_option maxHeartbeats 4000000 in
theorem turns_walk (A : Option Addr) (n cap : Nat) (l : List UInt8) (at_ bit : Int) (W : World) (hr : Rd octE W W.heap.size A n cap l) (hl : n ≤ 140737488355200) :
    Calls Try.prog 8 #[.slice A n cap, .int .i64 at_, .int .i64 bit] W (True_ W) := by
  have hcap := hr.cap
  unfold maxLen at hcap
  have b1 : -8 < bit.tmod 8 := by have := Int.lt_tmod_of_pos bit (b := 8) (by decide); omega
  have b2 : bit.tmod 8 < 8 := Int.tmod_lt_of_pos bit (by decide)
  go_enter Try.func8, Try.ntmps8
  go_wp2_with ((with_reducible refine (alive_any _).mono ?_); rintro e w0 ⟨rfl, hb0⟩)
  have hr0 := hr.below hb0
  have e0 : Ext W w0 := hb0
  refine (cput_any A n cap l w0 (hr0.more hb0.size) (by omega)).mono ?_
  rintro e w1 ⟨A1, n1, c1, rfl, hown1, hb1⟩
  have hn1 : n1 = n + 4 := by rw [hown1.len, sealed, List.length_append, be_length, hr.len]
  subst hn1
  have e1 : Ext W w1 := e0.trans hb1
  have a1 : -((n : Int) + 4) < at_.tmod ((n : Int) + 4) := by have := Int.lt_tmod_of_pos at_ (b := (n : Int) + 4) (by omega); omega
  have a2 : at_.tmod ((n : Int) + 4) < (n : Int) + 4 := Int.tmod_lt_of_pos at_ (by omega)
  have hrs := hown1.rd.alloc (Nat.le_refl _) (.cells #[] 5)
  go_wp2_with (at_builtin; refine app_oct rfl _ _ rfl w1.heap.size (some ⟨w1.heap.size, 0, none⟩) 0 0 [] w1.heap.size A1 (n + 4) c1 (sealed l) rfl rfl (Own.made w1 rfl (Nat.le_refl _)) hrs (by omega) (by simp) ?_; intro A2 c2 w2 hown2 hg2 hgb2)
  have hb2 : Below w1.heap.size w1 w2 := below_app hg2 (by simp [blk])
  have e2 : Ext W w2 := e1.trans hb2
  rw [List.nil_append, Nat.zero_add] at hown2
  have j1 : 0 ≤ at_.tmod ((n : Int) + 4) % ((n : Int) + 4) := Int.emod_nonneg _ (by omega)
  have j2 : at_.tmod ((n : Int) + 4) % ((n : Int) + 4) < (n : Int) + 4 := Int.emod_lt_of_pos _ (by omega)
  have k1 : 0 ≤ bit.tmod 8 % 8 := by omega
  have k2 : bit.tmod 8 % 8 < 8 := by omega
  clear a1 a2 b1 b2 hrs hg2 hgb2
  generalize at_.tmod ((n : Int) + 4) % ((n : Int) + 4) = J at *
  generalize bit.tmod 8 % 8 = K at *
  generalize at_.tmod ((n : Int) + 4) = J' at *
  generalize bit.tmod 8 = K' at *
  obtain ⟨j, rfl⟩ := Int.eq_ofNat_of_zero_le j1
  obtain ⟨k, rfl⟩ := Int.eq_ofNat_of_zero_le k1
  have hj : j < n + 4 := by omega
  have hk8 : k < 8 := by omega
  have hlen : (sealed l).length = n + 4 := hown2.len.symm
  obtain ⟨g, cur, rfl, hgb, hgl, hgh, hcs, hct, hc1, hc2⟩ := hown2.row (by omega)
  obtain ⟨ad, hade, _, hjl, hcell⟩ := hown2.rd.oct (k := j) (by omega)
  injection hade with hade
  subst hade
  have hadd : (⟨g, 0, none⟩ : Addr).add j = ⟨g, j, none⟩ := by unfold Addr.add; split <;> simp_all
  rw [hadd] at hcell
  have hfz : w2.frozen? ⟨g, j, none⟩ = false := by simp [World.frozen?, hgh]
  have hx := UInt8.toNat_lt (sealed l)[j]
  have hp2 : 2 ^ k < 256 := Nat.pow_lt_pow_right (n := 8) (by decide) hk8
  go_region
  go_wp2_with fail
  have hxor : Go.bits .xor .u8 ((sealed l)[j].toNat : Int) (2 ^ k % 256) = ((turn (sealed l)[j] k).toNat : Int) := by
    have e : ((2 : Int) ^ k % 256) = ((2 ^ k : Nat) : Int) := by
      have h1 : ((2 ^ k : Nat) : Int) = (2 : Int) ^ k := by simp
      have h2 : ((2 ^ k : Nat) : Int) < 256 := by omega
      rw [← h1]
      exact Int.emod_eq_of_lt (Int.natCast_nonneg _) h2
    have hlt : (sealed l)[j].toNat ^^^ 2 ^ k < 256 := Nat.xor_lt_two_pow (n := 8) hx hp2
    rw [e, u8_xor_nat _ _ hx hp2, turn, UInt8.toNat_ofNat', Nat.mod_eq_of_lt hlt]
  rw [hxor]
  have hown3 := (hown2.set1 (l' := (sealed l).set j (turn (sealed l)[j] k)) g j rfl (.int .u8 ((turn (sealed l)[j] k).toNat : Int)) (by simp) (octs_set _ _ _)).drew
  have hb3 : Below W.heap.size W (w2.setCell ⟨g, j, none⟩ (.int .u8 ((turn (sealed l)[j] k).toNat : Int))).drew := (e2.below.setCell (by have := e1.size; show W.heap.size ≤ g; omega) _).drew
  obtain ⟨t1, t2⟩ := turned_not l j (turn (sealed l)[j] k) hjl (turn_ne _ k hk8)
  clear hxor hcell hfz hx hp2 hgh hct hcs
  generalize (w2.setCell ⟨g, j, none⟩ (.int .u8 ((turn (sealed l)[j] k).toNat : Int))).drew = w3 at *
  generalize (sealed l).set j (turn (sealed l)[j] k) = l3 at *
  refine (check_any _ (n + 4) c2 l3 w3 hown3.rd (by omega)).mono ?_
  rintro e w4 ⟨hb4, h4⟩
  rw [if_neg t1] at h4
  subst h4
  have e3 : Ext W w3 := hb3
  have e4 : Ext W w4 := e3.trans hb4
  have hr4 := hr.below e4.below
  have hr3 := hown3.rd.below hb4
  have hln := hr.len
  by_cases hjn : j < n
  · have hne := t2 (by omega)
    have ht3 : l3.take l.length = l3.take n := by rw [hln]
    rw [ht3] at hne
    have hs1 := sum_lt (l3.take n)
    have hs2 := sum_lt l
    have hup := hr3.upto (k := n) (m := c2) (by omega) (by omega) (Nat.le_refl _)
    have hone := RdS.one hup (Nat.le_trans (Below.size hb4) (Nat.le_refl _)) 24 rfl
    have hnc : (n : Int) ≤ c2 := by omega
    have kq : (((sum (l3.take n) : Nat) : Int) != ((sum l : Nat) : Int)) = true := by simp only [bne_iff_ne]; omega
    have hm1 : ¬ (n : Int) ≤ j := by omega
    have hone2 := RdS.one ((hr4.more e4.size).alloc (Nat.le_refl _) (.cells #[.slice (some ⟨g, 0, none⟩) n c2] 24)) (by simp) 24 (b := w4.heap.size + 1) (by simp)
    clear t1 t2 ht3 hne hln
    go_wp2_with fail
    refine (sum_any _ _ _ _ _ _ hone).mono ?_
    simp only [List.flatten_cons, List.flatten_nil, List.append_nil]
    rintro e w' ⟨rfl, rfl⟩
    go_wp2_with fail
    refine (sum_any _ _ _ _ _ _ hone2).mono ?_
    simp only [List.flatten_cons, List.flatten_nil, List.append_nil]
    rintro e w' ⟨rfl, rfl⟩
    go_wp2_with fail
    go_ret
    exact ⟨by simp, (e4.below.alloc e4.size _).alloc (by have := e4.size; simp; omega) _⟩
  · have hm1 : (n : Int) ≤ j := by omega
    clear hln
    go_wp2_with fail
    go_ret
    exact ⟨by simp, e4.below⟩
end Go.Proofs.Ytlohgkhdhbdicaa.Crc
