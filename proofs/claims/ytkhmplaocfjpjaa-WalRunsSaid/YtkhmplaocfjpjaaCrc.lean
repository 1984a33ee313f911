/- The walks of layer 3's functions and of its reference. -/
import Derived.Test.YtkhmplaocfjpjaaMem
import Derived.Test.YtkhmplaocfjpjaaCrcPlain
namespace Go.Proofs.Ytkhmplaocfjpjaa.Crc
open Go.RowKit Go.Proofs.Ytkhmplaocfjpjaa.Mem

theorem ret_u32 {k : IntKind} {a b : Nat} (h : a = b) : Ending.returned (.int k (a : Int)) = .returned (.int k (b : Int)) := by rw [h]
theorem mask1 {c : Nat} (h : c < 4294967296) : Go.bits .and .u32 (c : Int) 1 = ((c % 2 : Nat) : Int) := by
  rw [show (1 : Int) = ((1 : Nat) : Int) from rfl, u32_and_nat c 1 h (by decide), nat_mask1]
theorem neg32 {c : Nat} (h : c < 4294967296) : Go.bits .xor .u32 IntKind.u32.max (c : Int) = ((4294967295 ^^^ c : Nat) : Int) := u32_xor_nat 4294967295 c (by decide) h
theorem half {c : Nat} : (c : Int) / 2 = ((c / 2 : Nat) : Int) := by simp

set_option maxHeartbeats 1000000 in
theorem more_any (c : Nat) (hc : c < 4294967296) (A : Option Addr) (n cap B : Nat) (l : List UInt8) (W : World) (hr : Rd octE W B A n cap l) :
    Calls Try.prog 136 #[.int .u32 (c : Int), .slice A n cap] W fun e w' => e = .returned (.int .u32 (more c l : Nat)) ∧ W = w' := by
  have hn := hr.cap
  have hnl := Lib.hid hr.len
  unfold maxLen at hn
  have hx := neg32 hc
  have hd : ∀ l, 4294967295 ^^^ raw (4294967295 ^^^ c) l = more c l := fun _ => rfl
  have HD := Lib.hid hd
  clear hd
  have hc0 : 4294967295 ^^^ c < 4294967296 := lt_xor (by decide) hc
  generalize 4294967295 ^^^ c = c0 at *
  go_enter Try.func136, Try.ntmps136
  go_wp2
  clear hx
  go_loop [5, 12] (fun t i => ∃ k : Nat, k ≤ n ∧ i = .int .i64 k ∧ t = .int .u32 (raw c0 (l.take k) : Nat)) (fun _ i => n - (intOf i).toNat)
  case atStart => exact ⟨0, by omega, rfl, rfl⟩
  case round =>
    obtain ⟨k, hk, rfl, rfl⟩ := hrel
    have hb := raw_lt hc0 (l.take k)
    by_cases hlt : k < n
    · obtain ⟨ad, rfl, _, hl, hcell⟩ := hr.oct hlt
      have hs : raw c0 (l.take (k + 1)) = byte (raw c0 (l.take k)) l[k].toNat := by
        rw [List.take_succ_eq_append_getElem hl, raw_snoc]
      have HS := Lib.hid hs
      clear hs
      have hx := UInt8.toNat_lt l[k]
      generalize hR : raw c0 (l.take k) = R at *
      clear hR
      generalize l[k].toNat = x at *
      have hxx : Go.bits .xor .u32 (R : Int) (x : Int) = ((R ^^^ x : Nat) : Int) := u32_xor_nat R x hb (by omega)
      have hR2 : R ^^^ x < 4294967296 := lt_xor hb (by omega)
      have hby : bits (R ^^^ x) 8 = byte R x := rfl
      have HBY := Lib.hid hby
      clear hby
      generalize hY : R ^^^ x = Y at *
      clear hY
      go_wp2
      clear hxx
      go_loop [5, 20] (fun t i => ∃ j : Nat, j ≤ 8 ∧ i = .int .i64 j ∧ t = .int .u32 (bits Y j : Nat)) (fun _ i => 8 - (intOf i).toNat)
      case atStart => exact ⟨0, by omega, rfl, rfl⟩
      case round =>
        obtain ⟨j, hj, rfl, rfl⟩ := hrel
        have hbb := bits_lt hR2 j
        have hst : bits Y (j + 1) = bit1 (bits Y j) := rfl
        have HST := Lib.hid hst
        clear hst
        by_cases h8 : j < 8
        · generalize bits Y j = Z at *
          have hm := mask1 hbb
          have hq : (Z : Int) / 2 = ((Z / 2 : Nat) : Int) := by simp
          have hp : Go.bits .xor .u32 ((Z : Int) / 2) 3988292384 = ((Z / 2 ^^^ poly : Nat) : Int) := by
            rw [hq]; exact u32_xor_nat (Z / 2) 3988292384 (by omega) (by decide)
          clear hq
          by_cases h1 : Z % 2 = 1
          · have hs1 : bit1 Z = Z / 2 ^^^ poly := if_pos h1
            have HS1 := Lib.hid hs1
            clear hs1
            go_wp2
            all_goals go_round
            case rel => exact ⟨j + 1, by omega, by go_num, val_nat (by rw [HST.out, HS1.out])⟩
            case measure => simp [intOf]; omega
          · have hs1 : bit1 Z = Z / 2 := if_neg h1
            have HS1 := Lib.hid hs1
            clear hs1 hp
            go_wp2
            all_goals go_round
            case rel => exact ⟨j + 1, by omega, by go_num, by rw [HST.out, HS1.out]; simp⟩
            case measure => simp [intOf]; omega
        · obtain rfl : j = 8 := by omega
          go_wp2
          go_round
          case rel => exact ⟨k + 1, by omega, by go_num, val_nat (by rw [HS.out, HBY.out])⟩
          case measure => simp [intOf]; omega
    · obtain rfl : k = n := by omega
      go_wp2
      go_ret
      exact ⟨ret_int (by rw [neg32 hb, HD.out, hnl.out, List.take_length]), rfl⟩

theorem rem2 {c : Nat} : (c : Int) % 2 = ((c % 2 : Nat) : Int) := by simp
set_option maxHeartbeats 1000000 in
theorem rsum_any (A : Option Addr) (n cap B : Nat) (l : List UInt8) (W : World) (hr : Rd octE W B A n cap l) :
    Calls Try.prog 142 #[.slice A n cap] W fun e w' => e = .returned (.int .u32 (sum l : Nat)) ∧ W = w' := by
  have hn := hr.cap
  have hnl := Lib.hid hr.len
  unfold maxLen at hn
  have hd : ∀ l, 4294967295 - raw 4294967295 l = sum l := fun l => by
    rw [← not_sub (raw_lt (by decide) l)]; rfl
  have HD := Lib.hid hd
  clear hd
  have hc0 : 4294967295 < 4294967296 := by decide
  have h8 : (8 : Int) ≤ 8 := by omega
  go_enter Try.func142, Try.ntmps142
  go_wp2
  go_loop [3, 4] (fun t i => ∃ k : Nat, k ≤ n ∧ i = .int .i64 k ∧ t = .int .u32 (raw 4294967295 (l.take k) : Nat)) (fun _ i => n - (intOf i).toNat)
  case atStart => exact ⟨0, by omega, rfl, rfl⟩
  case round =>
    obtain ⟨k, hk, rfl, rfl⟩ := hrel
    have hb := raw_lt hc0 (l.take k)
    by_cases hlt : k < n
    · obtain ⟨ad, rfl, _, hl, hcell⟩ := hr.oct hlt
      have hs : raw 4294967295 (l.take (k + 1)) = rbits (raw 4294967295 (l.take k)) l[k].toNat 8 := by
        rw [List.take_succ_eq_append_getElem hl, raw_snoc, rbyte_eq _ _ (UInt8.toNat_lt _)]
      have HS := Lib.hid hs
      clear hs
      have hx := UInt8.toNat_lt l[k]
      generalize hR : raw 4294967295 (l.take k) = R at *
      clear hR
      generalize l[k].toNat = x at *
      go_wp2
      go_loop [3, 5] (fun t i => ∃ j : Nat, j ≤ 8 ∧ i = .int .i64 j ∧ t = .int .u32 (rbits R x j : Nat)) (fun _ i => 8 - (intOf i).toNat)
      case atStart => exact ⟨0, by omega, rfl, rfl⟩
      case round =>
        obtain ⟨j, hj, rfl, rfl⟩ := hrel
        have hbb := rbits_lt hb x j
        have hst : rbits R x (j + 1) = rbit (rbits R x j) x j := rfl
        have HST := Lib.hid hst
        clear hst
        by_cases h8 : j < 8
        · generalize rbits R x j = Z at *
          have hp : Go.bits .xor .u32 ((Z : Int) / 2) 3988292384 = ((Z / 2 ^^^ poly : Nat) : Int) := by
            rw [show (Z : Int) / 2 = ((Z / 2 : Nat) : Int) by simp]; exact u32_xor_nat (Z / 2) 3988292384 (by omega) (by decide)
          have hxj : ((x / 2 ^ j : Nat) : Int) = (x : Int) / 2 ^ j := by simp
          have h0 : (0 : Int) ≤ (x : Int) / 2 ^ j := hxj ▸ Int.natCast_nonneg _
          have HXJ := Lib.hid hxj
          clear hxj
          by_cases h1 : Z % 2 = x / 2 ^ j % 2
          · have ht : ((Z : Int) % 2 != (x : Int) / 2 ^ j % 2) = false := by
              rw [← HXJ.out]; simp only [bne_eq_false_iff_eq]; omega
            have hs1 : rbit Z x j = Z / 2 := if_neg (by simpa using h1)
            have HS1 := Lib.hid hs1
            clear hs1 hp h1
            go_wp2
            all_goals go_round
            case rel => exact ⟨j + 1, by omega, by go_num, by rw [HST.out, HS1.out]; simp⟩
            case measure => simp [intOf]; omega
          · have ht : ((Z : Int) % 2 != (x : Int) / 2 ^ j % 2) = true := by
              rw [← HXJ.out]; simp only [bne_iff_ne]; omega
            have hs1 : rbit Z x j = Z / 2 ^^^ poly := if_pos h1
            have HS1 := Lib.hid hs1
            clear hs1 h1
            go_wp2
            all_goals go_round
            case rel => exact ⟨j + 1, by omega, by go_num, val_nat (by rw [HST.out, HS1.out])⟩
            case measure => simp [intOf]; omega
        · obtain rfl : j = 8 := by omega
          go_wp2
          go_round
          case rel => exact ⟨k + 1, by omega, by go_num, val_nat (by rw [HS.out])⟩
          case measure => simp [intOf]; omega
    · obtain rfl : k = n := by omega
      go_wp2
      go_ret
      have ht : l.take k = l := by rw [hnl.out, List.take_length]
      rw [ht] at hb
      exact ⟨ret_int (by rw [ht, ← HD.out]; omega), rfl⟩

def sums (c : Nat) (ls : List (List UInt8)) : Nat := ls.foldl more c
theorem sums_lt {c : Nat} (h : c < 4294967296) : ∀ ls, sums c ls < 4294967296 := by
  intro ls; induction ls generalizing c with
  | nil => exact h
  | cons x l ih => exact ih (more_lt h x)
theorem sums_flatten (c : Nat) (ls : List (List UInt8)) : sums c ls = more c ls.flatten := by
  induction ls generalizing c with
  | nil => exact (more_nil c).symm
  | cons x l ih => rw [List.flatten_cons, more_append, ← ih]; rfl
theorem sums_snoc (c : Nat) (ls : List (List UInt8)) (x : List UInt8) : sums c (ls ++ [x]) = more (sums c ls) x := by simp [sums]

theorem sum_any (A : Option Addr) (n cap B : Nat) (ls : List (List UInt8)) (W : World) (hr : RdS octE W B A n cap ls) :
    Calls Try.prog 116 #[.slice A n cap] W fun e w' => e = .returned (.int .u32 (sum ls.flatten : Nat)) ∧ W = w' := by
  have hn := hr.cap
  have hnl := Lib.hid hr.len
  unfold maxLen at hn
  have hd := Lib.hid (sums_flatten 0 ls)
  go_enter Try.func116, Try.ntmps116
  go_wp2_with fail
  go_loop [3, 8] (fun t i => ∃ k : Nat, k ≤ n ∧ i = .int .i64 k ∧ t = .int .u32 (sums 0 (ls.take k) : Nat)) (fun _ i => n - (intOf i).toNat)
  case atStart => exact ⟨0, by omega, rfl, rfl⟩
  case round =>
    obtain ⟨k, hk, rfl, rfl⟩ := hrel
    have hb := sums_lt (c := 0) (by decide) (ls.take k)
    by_cases hlt : k < n
    · obtain ⟨ad, rfl, _, hl, X, nx, cx, hcell, hx⟩ := hr.at_ hlt
      have hs := Lib.hid (show sums 0 (ls.take (k + 1)) = more (sums 0 (ls.take k)) ls[k] by rw [List.take_succ_eq_append_getElem hl, sums_snoc])
      generalize sums 0 (ls.take k) = s at *
      go_wp2_with ((with_reducible refine (more_any _ hb _ _ _ _ _ _ hx).mono ?_); rintro e w' ⟨rfl, rfl⟩)
      go_round
      case rel => exact ⟨k + 1, by omega, by go_num, val_nat hs.out.symm⟩
      case measure => simp [intOf]; omega
    · obtain rfl : k = n := by omega
      go_wp2_with fail
      go_ret
      exact ⟨ret_u32 (by rw [hnl.out, List.take_length, hd.out]; rfl), rfl⟩
end Go.Proofs.Ytkhmplaocfjpjaa.Crc
