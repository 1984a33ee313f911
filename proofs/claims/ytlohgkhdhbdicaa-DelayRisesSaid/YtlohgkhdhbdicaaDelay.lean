/- The walks of layer 5's functions and of its reference. -/
import Derived.Test.YtlohgkhdhbdicaaRows
import Derived.Test.YtlohgkhdhbdicaaDelayPlain
import Derived.WalkKit
import Derived.ProofKit
import Derived.OpenShut
import Derived.Lib.Hide
namespace Go.Proofs.Ytlohgkhdhbdicaa.Dly
open Go.RowKit

theorem clamp_any (n lo hi : Int) (w : World) :
    Calls Try.prog 35 #[.int .i64 n, .int .i64 lo, .int .i64 hi] w fun e w' => e = .returned (.int .i64 (clamp n lo hi)) ∧ w = w' := by
  unfold clamp
  go_enter Try.func35, Try.ntmps35
  go_wp2
  all_goals go_ret
  all_goals simp_all

theorem near_any (n lo hi : Int) (w : World) :
    Calls Try.prog 22 #[.int .i64 n, .int .i64 lo, .int .i64 hi] w fun e w' => e = .returned (.int .i64 (clamp n lo hi)) ∧ w = w' := by
  unfold clamp
  go_enter Try.func22, Try.ntmps22
  go_wp2
  all_goals go_ret
  all_goals simp_all

theorem ret_int {k : IntKind} {a b : Int} (h : a = b) : Ending.returned (.int k a) = .returned (.int k b) := by rw [h]

theorem dbl_step (m w : Int) (k : Nat) : dbl m (k + 1) w = min (2 * dbl m k w) m := rfl

/-- the loop of Wait, from its head on, whatever came ahead -/
theorem wait_lo (base most n : Int) (w : World) (h : n < 1) :
    Calls Try.prog 18 #[.int .i64 base, .int .i64 most, .int .i64 n] w fun e w' => e = .returned (.int .i64 (wait base most n)) ∧ w = w' := by
  have hv : wait base most n = 0 := if_pos h
  have HV := Lib.hid hv
  clear hv
  go_enter Try.func18, Try.ntmps18
  go_wp2_with ((with_reducible refine (clamp_any _ _ _ _).mono ?_); rintro e w' ⟨rfl, rfl⟩)
  all_goals go_ret
  all_goals exact ⟨ret_int HV.out.symm, rfl⟩

theorem ret_bool {a b : Bool} (h : a = b) : Ending.returned (.bool a) = .returned (.bool b) := by rw [h]
theorem ret_val {k : IntKind} {a b : Int} (h : a = b) : Value.int k a = Value.int k b := by rw [h]

set_option maxHeartbeats 400000 in
theorem wait_hi (base most n : Int) (w : World) (h : 1 ≤ n) :
    Calls Try.prog 18 #[.int .i64 base, .int .i64 most, .int .i64 n] w fun e w' => e = .returned (.int .i64 (wait base most n)) ∧ w = w' := by
  have hv : wait base most n = dbl (clamp most 1 64) ((min n 64 - 1).toNat) (min (clamp base 1 64) (clamp most 1 64)) := if_neg (by omega)
  have HV := Lib.hid hv
  clear hv
  have hm1 := clamp_lo most 1 64 (by omega)
  have hm2 := clamp_hi most 1 64 (by omega)
  have hb1 := clamp_lo base 1 64 (by omega)
  have hb2 := clamp_hi base 1 64 (by omega)
  have hbd := dbl_bd (clamp most 1 64) (min (clamp base 1 64) (clamp most 1 64)) (by omega) (by omega)
  have HBD := Lib.hid hbd
  clear hbd
  go_enter Try.func18, Try.ntmps18
  go_wp2_with ((with_reducible refine (clamp_any _ _ _ _).mono ?_); rintro e w' ⟨rfl, rfl⟩)
  all_goals
    go_loop [7, 19] (fun t i => ∃ k : Nat, (k : Int) ≤ min n 64 - 1 ∧ i = .int .i64 k ∧ t = .int .i64 (dbl (clamp most 1 64) k (min (clamp base 1 64) (clamp most 1 64)))) (fun _ i => (64 - intOf i).toNat)
    case atStart => exact ⟨0, by omega, rfl, ret_val (by show _ = min _ _; omega)⟩
    case round =>
      obtain ⟨k, hk, rfl, rfl⟩ := hrel
      have hb := HBD.out k
      have hs := dbl_step (clamp most 1 64) (min (clamp base 1 64) (clamp most 1 64)) k
      have HS := Lib.hid hs
      clear hs
      by_cases hlt : (k : Int) < min n 64 - 1
      · go_wp2
        all_goals
          go_round
          case rel => exact ⟨k + 1, by omega, by go_num, ret_val (by rw [HS.out]; omega)⟩
          case measure => simp [intOf]; omega
      · go_wp2
        go_ret
        exact ⟨ret_int (by rw [HV.out]; congr 1; omega), rfl⟩

theorem wait_any (base most n : Int) (w : World) :
    Calls Try.prog 18 #[.int .i64 base, .int .i64 most, .int .i64 n] w fun e w' => e = .returned (.int .i64 (wait base most n)) ∧ w = w' := by
  by_cases h : n < 1
  · exact wait_lo base most n w h
  · exact wait_hi base most n w (by omega)

theorem due_any (base most n last : Int) (w : World) :
    Calls Try.prog 19 #[.int .i64 base, .int .i64 most, .int .i64 n, .int .i64 last] w fun e w' => e = .returned (.int .i64 (due base most n last)) ∧ w = w' := by
  have h1 := wait_bd base most n
  have h2 := clamp_lo last 0 1073741824 (by omega)
  have h3 := clamp_hi last 0 1073741824 (by omega)
  go_enter Try.func19, Try.ntmps19
  go_wp2_with (first | ((with_reducible refine (clamp_any _ _ _ _).mono ?_); rintro e w' ⟨rfl, rfl⟩) | ((with_reducible refine (wait_any _ _ _ _).mono ?_); rintro e w' ⟨rfl, rfl⟩))
  go_ret
  exact ⟨ret_int rfl, rfl⟩

def ready (base most n last now : Int) : Bool := decide (n < 1) || decide (due base most n last ≤ now)

theorem ready_any (base most n last now : Int) (w : World) :
    Calls Try.prog 20 #[.int .i64 base, .int .i64 most, .int .i64 n, .int .i64 last, .int .i64 now] w fun e w' => e = .returned (.bool (ready base most n last now)) ∧ w = w' := by
  by_cases h : n < 1
  · have hv : ready base most n last now = true := by simp [ready, h]
    have HV := Lib.hid hv
    clear hv
    go_enter Try.func20, Try.ntmps20
    go_wp2_with fail
    go_ret
    exact ⟨ret_bool HV.out.symm, rfl⟩
  · have h' : 1 ≤ n := by omega
    clear h
    go_enter Try.func20, Try.ntmps20
    go_wp2_with ((with_reducible refine (due_any _ _ _ _ _).mono ?_); rintro e w' ⟨rfl, rfl⟩)
    go_ret
    exact ⟨ret_bool rfl, rfl⟩

theorem total_any (base most n : Int) (w : World) :
    Calls Try.prog 21 #[.int .i64 base, .int .i64 most, .int .i64 n] w fun e w' => e = .returned (.int .i64 (total base most (clamp n 0 64).toNat)) ∧ w = w' := by
  have h2 := clamp_lo n 0 64 (by omega)
  have h3 := clamp_hi n 0 64 (by omega)
  go_enter Try.func21, Try.ntmps21
  go_wp2_with ((with_reducible refine (clamp_any _ _ _ _).mono ?_); rintro e w' ⟨rfl, rfl⟩)
  go_loop [7, 11] (fun t i => ∃ k : Nat, (k : Int) ≤ clamp n 0 64 ∧ i = .int .i64 k ∧ t = .int .i64 (total base most k)) (fun _ i => (64 - intOf i).toNat)
  case atStart => exact ⟨0, by omega, rfl, rfl⟩
  case round =>
    obtain ⟨k, hk, rfl, rfl⟩ := hrel
    have hb := total_bd base most k
    have hw := wait_bd base most (k + 1)
    by_cases hlt : (k : Int) < clamp n 0 64
    · go_wp2_with ((with_reducible refine (wait_any _ _ _ _).mono ?_); rintro e w' ⟨rfl, rfl⟩)
      go_round
      case rel => exact ⟨k + 1, by omega, by go_num, ret_val (by show _ = total base most k + _; rfl)⟩
      case measure => simp [intOf]; omega
    · go_wp2
      go_ret
      exact ⟨ret_int (by congr 1; omega), rfl⟩

theorem rwait_lo (base most n : Int) (w : World) (h : n < 1) :
    Calls Try.prog 16 #[.int .i64 base, .int .i64 most, .int .i64 n] w fun e w' => e = .returned (.int .i64 (wait base most n)) ∧ w = w' := by
  have hv : wait base most n = 0 := if_pos h
  have HV := Lib.hid hv
  clear hv
  go_enter Try.func16, Try.ntmps16
  go_wp2_with ((with_reducible refine (near_any _ _ _ _).mono ?_); rintro e w' ⟨rfl, rfl⟩)
  all_goals go_ret
  all_goals exact ⟨ret_int HV.out.symm, rfl⟩

set_option maxHeartbeats 400000 in
theorem rwait_hi (base most n : Int) (w : World) (h : 1 ≤ n) :
    Calls Try.prog 16 #[.int .i64 base, .int .i64 most, .int .i64 n] w fun e w' => e = .returned (.int .i64 (wait base most n)) ∧ w = w' := by
  have hm1 := clamp_lo most 1 64 (by omega)
  have hm2 := clamp_hi most 1 64 (by omega)
  have hb1 := clamp_lo base 1 64 (by omega)
  have hb2 := clamp_hi base 1 64 (by omega)
  have hv : wait base most n = min (ref (clamp most 1 64) ((min n 64 - 1).toNat) (clamp base 1 64)) (clamp most 1 64) := by
    rw [ref_dbl _ _ _ (by omega) (by omega)]; exact if_neg (by omega)
  have HV := Lib.hid hv
  clear hv
  go_enter Try.func16, Try.ntmps16
  go_wp2_with ((with_reducible refine (near_any _ _ _ _).mono ?_); rintro e w' ⟨rfl, rfl⟩)
  go_loop [7, 8] (fun t i => ∃ (k : Nat) (v : Int), (k : Int) + 1 ≤ min n 64 ∧ i = .int .i64 (k + 1) ∧ t = .int .i64 v ∧ 1 ≤ v ∧ v ≤ 128 ∧ ref (clamp most 1 64) ((min n 64 - 1).toNat - k) v = ref (clamp most 1 64) ((min n 64 - 1).toNat) (clamp base 1 64)) (fun _ i => (64 - intOf i).toNat)
  case atStart => exact ⟨0, _, by omega, rfl, rfl, by omega, by omega, rfl⟩
  case round =>
    obtain ⟨k, v, hk, rfl, rfl, hv1, hv2, hr⟩ := hrel
    have HR := Lib.hid hr
    clear hr
    by_cases hlt : (k : Int) + 1 < min n 64
    · by_cases hvm : v < clamp most 1 64
      · go_wp2
        go_round
        case rel =>
          refine ⟨k + 1, v * 2, by omega, ret_val (by omega), rfl, by omega, by omega, ?_⟩
          rw [← HR.out, show (min n 64 - 1).toNat - k = ((min n 64 - 1).toNat - (k + 1)) + 1 by omega, ref, if_pos hvm]
        case measure => simp [intOf]; omega
      · have hz : ref (clamp most 1 64) ((min n 64 - 1).toNat - k) v = v := by
          rw [show (min n 64 - 1).toNat - k = ((min n 64 - 1).toNat - (k + 1)) + 1 by omega, ref, if_neg hvm]
        have HZ := Lib.hid hz
        clear hz
        go_wp2
        all_goals go_ret
        all_goals exact ⟨ret_int (by rw [HV.out, ← HR.out, HZ.out]; omega), rfl⟩
    · have hz : ref (clamp most 1 64) ((min n 64 - 1).toNat - k) v = v := by
        rw [show (min n 64 - 1).toNat - k = 0 by omega, ref]
      have HZ := Lib.hid hz
      clear hz
      go_wp2
      all_goals go_ret
      all_goals exact ⟨ret_int (by rw [HV.out, ← HR.out, HZ.out]; omega), rfl⟩

theorem rwait_any (base most n : Int) (w : World) :
    Calls Try.prog 16 #[.int .i64 base, .int .i64 most, .int .i64 n] w fun e w' => e = .returned (.int .i64 (wait base most n)) ∧ w = w' := by
  by_cases h : n < 1
  · exact rwait_lo base most n w h
  · exact rwait_hi base most n w (by omega)

theorem rdue_any (base most n last : Int) (w : World) :
    Calls Try.prog 17 #[.int .i64 base, .int .i64 most, .int .i64 n, .int .i64 last] w fun e w' => e = .returned (.int .i64 (due base most n last)) ∧ w = w' := by
  have h1 := wait_bd base most n
  have h2 := clamp_lo last 0 1073741824 (by omega)
  have h3 := clamp_hi last 0 1073741824 (by omega)
  go_enter Try.func17, Try.ntmps17
  go_wp2_with (first | ((with_reducible refine (near_any _ _ _ _).mono ?_); rintro e w' ⟨rfl, rfl⟩) | ((with_reducible refine (rwait_any _ _ _ _).mono ?_); rintro e w' ⟨rfl, rfl⟩))
  go_ret
  exact ⟨ret_int rfl, rfl⟩
end Go.Proofs.Ytlohgkhdhbdicaa.Dly
