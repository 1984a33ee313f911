/- The walks of layer 2's functions on numbers, and of its reference. -/
import Derived.Test.YtlohgkhdhbdicaaMem
import Derived.Test.YtlohgkhdhbdicaaOctetPlain
namespace Go.Proofs.Ytlohgkhdhbdicaa.Oct
open Go.RowKit Go.Proofs.Ytlohgkhdhbdicaa.Mem

/-- a row of the call's own, grown, behind a new block: what was below is as it was -/
theorem below_app {W w1 : World} {A : Option Addr} {o : Obj} (hg : (W.alloc o).grownBy w1 (blk A)) (ha : ∀ k, blk A = some k → W.heap.size ≤ k) : Below W.heap.size W w1 :=
  ((Below.refl W.heap.size W).alloc (Nat.le_refl _) o).grown hg (by simp) ha

def PutPost (W : World) (l : List UInt8) (n : Nat) (w : Int) (e : Ending) (w' : World) : Prop :=
  ∃ A' n' c', e = .returned (.slice A' n' c') ∧ Own octE w' W.heap.size A' n' c' (put l n w) ∧ Below W.heap.size W w'

theorem put_out (A : Option Addr) (nl cap : Nat) (l : List UInt8) (n : Nat) (w : Int) (W : World) (hr : Rd octE W W.heap.size A nl cap l) (hl : nl ≤ 140737488355300) (hw : w < 1 ∨ 8 < w) :
    Calls Try.prog 36 #[.slice A nl cap, .int .u64 (n : Int), .int .i64 w] W (PutPost W l n w) := by
  have hp : put l n w = l := if_pos hw
  have HP := Lib.hid hp
  clear hp
  go_enter Try.func36, Try.ntmps36
  go_wp2_with (at_builtin; refine app_oct rfl _ _ rfl W.heap.size (some ⟨W.heap.size, 0, none⟩) 0 0 [] W.heap.size A nl cap l rfl rfl (Own.made W rfl (Nat.le_refl _)) (hr.alloc (Nat.le_refl _) _) (by omega) (by simp) ?_; intro A1 c1 w1 hown hg hb)
  all_goals go_ret
  all_goals exact ⟨_, _, _, rfl, by rw [HP.out]; simpa using hown, below_app hg (by simp [blk])⟩

set_option maxHeartbeats 1000000 in
theorem put_in (A : Option Addr) (nl cap : Nat) (l : List UInt8) (n : Nat) (w : Nat) (W : World) (hr : Rd octE W W.heap.size A nl cap l) (hn : n < 18446744073709551616) (hl : nl ≤ 140737488355300) (h1 : 1 ≤ w) (h8 : w ≤ 8) :
    Calls Try.prog 36 #[.slice A nl cap, .int .u64 (n : Int), .int .i64 (w : Int)] W (PutPost W l n w) := by
  have hp : put l n w = l ++ be n w := if_neg (by omega)
  have HP := Lib.hid hp
  clear hp
  have hnn : (0 : Int) ≤ n := by omega
  go_enter Try.func36, Try.ntmps36
  go_wp2_with (at_builtin; refine app_oct rfl _ _ rfl W.heap.size (some ⟨W.heap.size, 0, none⟩) 0 0 [] W.heap.size A nl cap l rfl rfl (Own.made W rfl (Nat.le_refl _)) (hr.alloc (Nat.le_refl _) _) (by omega) (by simp) ?_; intro A1 c1 w1 hown hg hb)
  have HB0 := Lib.hid (below_app hg (by simp [blk]))
  have HO := Lib.hid hown
  clear hown hg hb
  go_loopw [7, 8] (fun v i wr => ∃ (k : Nat) (A' : Option Addr) (n' c' : Nat), k ≤ w ∧ i = .int .i64 ((w : Int) - 1 - k) ∧ v = .slice A' n' c' ∧ n' = nl + k ∧ Own octE wr W.heap.size A' n' c' (l ++ (be n w).take k) ∧ Below W.heap.size W wr) (fun _ i _ => (intOf i + 1).toNat)
  case atStart => exact ⟨0, A1, nl, c1, by omega, val_int (by omega), rfl, rfl, by simpa using HO.out, HB0.out⟩
  case round =>
    obtain ⟨k, A', n', c', hk, rfl, rfl, hn', hown, hbe⟩ := hrel
    have HN := Lib.hid hn'
    have hn2 : n' ≤ nl + 8 := by omega
    have hsz := hbe.size
    clear hn'
    by_cases hlt : k < w
    · have ht : l ++ (be n w).take (k + 1) = (l ++ (be n w).take k) ++ [UInt8.ofNat ((n : Int) / 2 ^ (8 * (w - 1 - k)) % 256).toNat] := by
        rw [be_take n w k hlt, List.append_assoc, div_pow_cast, byte_mod]
      have HT := Lib.hid ht
      clear ht
      have hx0 : 0 ≤ (n : Int) / 2 ^ (8 * (w - 1 - k)) % 256 := by omega
      have hx1 : (n : Int) / 2 ^ (8 * (w - 1 - k)) % 256 < 256 := by omega
      have hone := Rd.one wr _ hx0 hx1
      clear hx0 hx1
      go_wp2_with (at_builtin; refine app_oct rfl _ _ rfl W.heap.size A' n' c' _ _ _ 1 1 _ rfl rfl (hown.alloc _) hone (by omega) (by simp; omega) ?_; intro A2 c2 w2 hown2 hg2 hb2)
      go_roundw
      case rel =>
        refine ⟨k + 1, A2, n' + 1, c2, by omega, val_int (by omega), rfl, by rw [HN.out]; omega, by rw [HT.out]; exact hown2, ?_⟩
        exact (hbe.alloc hsz _).grown hg2 (by simp; omega) (fun g hg => (hown.lt g hg).1)
      case measure => simp [intOf]; omega
    · obtain rfl : k = w := by omega
      have ht : (be n k).take k = be n k := List.take_of_length_le (by rw [be_length]; omega)
      have HT := Lib.hid ht
      clear ht
      go_wp2_with fail
      go_ret
      exact ⟨_, _, _, rfl, by rw [HP.out, ← HT.out]; exact hown, hbe⟩

theorem put_any (A : Option Addr) (nl cap : Nat) (l : List UInt8) (n : Nat) (w : Int) (W : World) (hr : Rd octE W W.heap.size A nl cap l) (hn : n < 18446744073709551616) (hl : nl ≤ 140737488355300) :
    Calls Try.prog 36 #[.slice A nl cap, .int .u64 (n : Int), .int .i64 w] W (PutPost W l n w) := by
  by_cases hw : w < 1 ∨ 8 < w
  · exact put_out A nl cap l n w W hr hl hw
  · obtain ⟨m, rfl⟩ := Int.eq_ofNat_of_zero_le (show 0 ≤ w by omega)
    exact put_in A nl cap l n m W hr hn hl (by omega) (by omega)

/-! ### the reference -/
set_option maxHeartbeats 1000000 in
theorem rput_in (A : Option Addr) (nl cap : Nat) (l : List UInt8) (n : Nat) (w : Nat) (W : World) (hr : Rd octE W W.heap.size A nl cap l) (hn : n < 18446744073709551616) (hl : nl ≤ 140737488355300) (h8 : w ≤ 8) :
    Calls Try.prog 25 #[.slice A nl cap, .int .u64 (n : Int), .int .i64 (w : Int)] W (PutPost W l n w) := by
  have hp : put l n w = l ++ be n w := by
    unfold put
    split
    · have h0 : w = 0 := by omega
      subst h0
      simp [be]
    · rfl
  have HP := Lib.hid hp
  clear hp
  have hnn : (0 : Int) ≤ n := by omega
  go_enter Try.func25, Try.ntmps25
  go_wp2_with (at_builtin; refine app_oct rfl _ _ rfl W.heap.size none 0 0 [] W.heap.size A nl cap l rfl rfl (Own.nil W _) hr (by omega) (by simp) ?_; intro A1 c1 w1 hown hg hb)
  have HB0 := Lib.hid ((Below.refl W.heap.size W).grown hg (by simp) (by simp [blk]))
  have HO := Lib.hid hown
  clear hown hg hb
  go_loopw [7, 8] (fun v i wr => ∃ (k : Nat) (A' : Option Addr) (n' c' : Nat), k ≤ w ∧ i = .int .i64 ((w : Int) - 1 - k) ∧ v = .slice A' n' c' ∧ n' = nl + k ∧ Own octE wr W.heap.size A' n' c' (l ++ (be n w).take k) ∧ Below W.heap.size W wr) (fun _ i _ => (intOf i + 1).toNat)
  case atStart => exact ⟨0, A1, nl, c1, by omega, val_int (by omega), rfl, rfl, by simpa using HO.out, HB0.out⟩
  case round =>
    obtain ⟨k, A', n', c', hk, rfl, rfl, hn', hown, hbe⟩ := hrel
    have HN := Lib.hid hn'
    have hn2 : n' ≤ nl + 8 := by omega
    have hsz := hbe.size
    clear hn'
    by_cases hlt : k < w
    · go_wp2_with fail
      obtain ⟨wo, rfl⟩ : ∃ wo : World, wo = wr := ⟨_, rfl⟩
      go_loop [9, 10] (fun m j => ∃ i : Nat, i ≤ w - 1 - k ∧ j = .int .i64 i ∧ m = .int .u64 ((n / 256 ^ i : Nat) : Int)) (fun _ j => 8 - (intOf j).toNat)
      case atStart => exact ⟨0, by omega, rfl, by simp⟩
      case round =>
        obtain ⟨i, hi, rfl, rfl⟩ := hrel
        have hm : n / 256 ^ i ≤ n := Nat.div_le_self _ _
        have hds := Lib.hid (show n / 256 ^ (i + 1) = n / 256 ^ i / 256 by rw [Nat.pow_succ, Nat.div_div_eq_div_mul])
        have hde : n / 256 ^ (w - 1 - k) = n / 2 ^ (8 * (w - 1 - k)) := by rw [Nat.pow_mul]
        have HDE := Lib.hid hde
        clear hde
        by_cases hlj : i < w - 1 - k
        · generalize n / 256 ^ i = M at *
          go_wp2_with fail
          go_round
          case rel => exact ⟨i + 1, by omega, by go_num, by rw [hds.out]; simp⟩
          case measure => simp [intOf]; omega
        · obtain rfl : i = w - 1 - k := by omega
          have ht : l ++ (be n w).take (k + 1) = (l ++ (be n w).take k) ++ [UInt8.ofNat (((n / 256 ^ (w - 1 - k) : Nat) : Int) % 256).toNat] := by
            rw [be_take n w k hlt, List.append_assoc, HDE.out, byte_mod]
          have HT := Lib.hid ht
          clear ht
          generalize n / 256 ^ (w - 1 - k) = M at *
          have hx0 : 0 ≤ (M : Int) % 256 := by omega
          have hx1 : (M : Int) % 256 < 256 := by omega
          have hone := Rd.one wo _ hx0 hx1
          clear hx0 hx1
          go_wp2_with (at_builtin; refine app_oct rfl _ _ rfl W.heap.size A' n' c' _ _ _ 1 1 _ rfl rfl (hown.alloc _) hone (by omega) (by simp; omega) ?_; intro A2 c2 w2 hown2 hg2 hb2)
          go_roundw
          case rel =>
            refine ⟨k + 1, A2, n' + 1, c2, by omega, val_int (by omega), rfl, by rw [HN.out]; omega, by rw [HT.out]; exact hown2, ?_⟩
            exact (hbe.alloc hsz _).grown hg2 (by simp; omega) (fun g hg => (hown.lt g hg).1)
          case measure => simp [intOf]; omega
    · obtain rfl : k = w := by omega
      have ht : (be n k).take k = be n k := List.take_of_length_le (by rw [be_length]; omega)
      have HT := Lib.hid ht
      clear ht
      go_wp2_with fail
      go_ret
      exact ⟨_, _, _, rfl, by rw [HP.out, ← HT.out]; exact hown, hbe⟩

theorem rget_any (A : Option Addr) (n cap B : Nat) (l : List UInt8) (W : World) (hr : Rd octE W B A n cap l) (h8 : n ≤ 8) :
    Calls Try.prog 26 #[.slice A n cap] W fun e w' => e = .returned (.int .u64 (get l : Nat)) ∧ W = w' := by
  have hn := hr.cap
  have hnl := Lib.hid hr.len
  unfold maxLen at hn
  go_enter Try.func26, Try.ntmps26
  go_wp2_with fail
  go_loop [3, 4] (fun t i => ∃ k : Nat, k ≤ n ∧ i = .int .i64 k ∧ t = .int .u64 (get (l.take k) : Nat)) (fun _ i => n - (intOf i).toNat)
  case atStart => exact ⟨0, by omega, rfl, rfl⟩
  case round =>
    obtain ⟨k, hk, rfl, rfl⟩ := hrel
    by_cases hlt : k < n
    · obtain ⟨ad, rfl, _, hl, hcell⟩ := hr.oct hlt
      have hs := Lib.hid (show get (l.take (k + 1)) = get (l.take k) * 256 + l[k].toNat by rw [List.take_succ_eq_append_getElem hl, get_snoc])
      have hb : get (l.take k) < 256 ^ 7 := by
        have h1 := get_lt (l.take k)
        have h2 : (l.take k).length ≤ 7 := by rw [List.length_take]; omega
        exact Nat.lt_of_lt_of_le h1 (Nat.pow_le_pow_right (by decide) h2)
      have hx := UInt8.toNat_lt l[k]
      generalize get (l.take k) = s at *
      generalize l[k].toNat = x at *
      go_wp2_with fail
      go_round
      case rel => exact ⟨k + 1, by omega, by go_num, by rw [hs.out]; simp⟩
      case measure => simp [intOf]; omega
    · obtain rfl : k = n := by omega
      go_wp2_with fail
      go_ret
      exact ⟨ret_int (by rw [hnl.out, List.take_length]), rfl⟩
end Go.Proofs.Ytlohgkhdhbdicaa.Oct
