/- The walks of layer 5's three laws. -/
import Derived.Test.YtlohgkhdhbdicaaDelay
namespace Go.Proofs.Ytlohgkhdhbdicaa.Dly
open Go.RowKit

theorem alive_any (w : World) :
    Calls Try.prog 15 #[] w fun e w' => e = .returned (.bool true) ∧ w = w' := by
  have a1 : (wait 3 10 1 == 3) = true := rfl
  have a2 : (wait 3 10 2 == 6) = true := rfl
  have a3 : (wait 3 10 3 == 10) = true := rfl
  have a4 : (due 3 10 2 5 == 11) = true := rfl
  have a5 : ready 3 10 0 99 0 = true := rfl
  have a6 : (total 3 10 (clamp 3 0 64).toNat == 19) = true := rfl
  go_enter Try.func15, Try.ntmps15
  go_wp2_with (first | ((with_reducible refine (wait_any _ _ _ _).mono ?_); rintro e w' ⟨rfl, rfl⟩) | ((with_reducible refine (due_any _ _ _ _ _).mono ?_); rintro e w' ⟨rfl, rfl⟩) | ((with_reducible refine (ready_any _ _ _ _ _ _).mono ?_); rintro e w' ⟨rfl, rfl⟩) | ((with_reducible refine (total_any _ _ _ _).mono ?_); rintro e w' ⟨rfl, rfl⟩))
  go_ret
  exact ⟨rfl, rfl⟩

theorem late_walk (base most n last now later : Int) (w : World) :
    Calls Try.prog 6 #[.int .i64 base, .int .i64 most, .int .i64 n, .int .i64 last, .int .i64 now, .int .i64 later] w fun e w' => e = .returned (.bool true) ∧ w = w' := by
  have key : (decide (later < now) || !(ready base most n last now) || ready base most n last later) = true := by
    simp only [ready]
    by_cases h1 : later < now <;> by_cases h2 : n < 1 <;> by_cases h3 : due base most n last ≤ now <;> by_cases h4 : due base most n last ≤ later <;> simp_all <;> omega
  have HK := Lib.hid key
  clear key
  go_enter Try.func6, Try.ntmps6
  go_wp2_with (first | ((with_reducible refine (alive_any _).mono ?_); rintro e w' ⟨rfl, rfl⟩) | ((with_reducible refine (ready_any _ _ _ _ _ _).mono ?_); rintro e w' ⟨rfl, rfl⟩))
  all_goals go_ret
  all_goals refine ⟨ret_bool ?_, rfl⟩
  all_goals first | rfl | (have := HK.out; simp_all; done) | (have := HK.out; simp_all; omega)

theorem rises_plain (base most n : Int) (h : 1 ≤ n) : 1 ≤ wait base most n ∧ wait base most n ≤ clamp most 1 64 ∧ wait base most n ≤ wait base most (n + 1) ∧ (wait base most (n + 1) = 2 * wait base most n ∨ wait base most (n + 1) = clamp most 1 64) := by
  have hm1 := clamp_lo most 1 64 (by omega)
  have hm2 := clamp_hi most 1 64 (by omega)
  have hb1 := clamp_lo base 1 64 (by omega)
  unfold wait
  rw [if_neg (by omega), if_neg (by omega)]
  generalize hw : min (clamp base 1 64) (clamp most 1 64) = w
  generalize clamp most 1 64 = m at *
  have b1 := dbl_bd m w (by omega) (by omega) ((min n 64 - 1).toNat)
  by_cases h64 : n < 64
  · rw [show (min (n + 1) 64 - 1).toNat = (min n 64 - 1).toNat + 1 by omega]
    have := dbl_mono m w (by omega) (by omega) ((min n 64 - 1).toNat)
    exact ⟨b1.1, b1.2, this.1, this.2⟩
  · rw [show (min (n + 1) 64 - 1).toNat = 63 by omega, show (min n 64 - 1).toNat = 63 by omega, dbl_top m w (by omega) (by omega) (by omega)]
    omega

theorem rises_walk (base most n : Int) (w : World) :
    Calls Try.prog 5 #[.int .i64 base, .int .i64 most, .int .i64 n] w fun e w' => e = .returned (.bool true) ∧ w = w' := by
  have n1 := clamp_lo n 1 70 (by omega)
  have n2 := clamp_hi n 1 70 (by omega)
  have m2 := clamp_hi most 1 64 (by omega)
  obtain ⟨k1, k2, k3, k4⟩ := rises_plain base most (clamp n 1 70) n1
  have k5 : (wait base most 0 == 0) = true := rfl
  go_enter Try.func5, Try.ntmps5
  rcases k4 with k4 | k4
  · have k6 : (wait base most (clamp n 1 70 + 1) == 2 * wait base most (clamp n 1 70)) = true := by simpa using k4
    clear k4
    go_wp2_with (first | ((with_reducible refine (alive_any _).mono ?_); rintro e w' ⟨rfl, rfl⟩) | ((with_reducible refine (near_any _ _ _ _).mono ?_); rintro e w' ⟨rfl, rfl⟩) | ((with_reducible refine (wait_any _ _ _ _).mono ?_); rintro e w' ⟨rfl, rfl⟩))
    all_goals go_ret
    all_goals exact ⟨rfl, rfl⟩
  · have k6 : (wait base most (clamp n 1 70 + 1) == clamp most 1 64) = true := by simpa using k4
    clear k4
    go_wp2_with (first | ((with_reducible refine (alive_any _).mono ?_); rintro e w' ⟨rfl, rfl⟩) | ((with_reducible refine (near_any _ _ _ _).mono ?_); rintro e w' ⟨rfl, rfl⟩) | ((with_reducible refine (wait_any _ _ _ _).mono ?_); rintro e w' ⟨rfl, rfl⟩))
    all_goals go_ret
    all_goals refine ⟨ret_bool (by simp), rfl⟩

theorem waits_walk (base most n last now : Int) (w : World) :
    Calls Try.prog 4 #[.int .i64 base, .int .i64 most, .int .i64 n, .int .i64 last, .int .i64 now] w fun e w' => e = .returned (.bool true) ∧ w = w' := by
  go_enter Try.func4, Try.ntmps4
  go_wp2_with (first | ((with_reducible refine (alive_any _).mono ?_); rintro e w' ⟨rfl, rfl⟩))
  go_loop [11, 12] (fun t i => ∃ k : Nat, ((k : Int) ≤ clamp n 0 64) ∧ i = .int .i64 (k + 1) ∧ t = .int .i64 (total base most k)) (fun _ i => (65 - intOf i).toNat)
  case atStart => exact ⟨0, by have := clamp_lo n 0 64 (by omega); omega, rfl, rfl⟩
  case round =>
    obtain ⟨k, hk, rfl, rfl⟩ := hrel
    have hb := total_bd base most k
    have hw := wait_bd base most (k + 1)
    have hc1 := clamp_lo n 0 64 (by omega)
    have hc2 := clamp_hi n 0 64 (by omega)
    by_cases hlt : (k : Int) < clamp n 0 64
    · have hn : (k : Int) + 1 ≤ n := by unfold clamp at hlt; split at hlt <;> (try split at hlt) <;> omega
      go_wp2_with ((with_reducible refine (rwait_any _ _ _ _).mono ?_); rintro e w' ⟨rfl, rfl⟩)
      go_round
      case rel => exact ⟨k + 1, by omega, ret_val (by omega), ret_val (by show _ = total base most k + _; rfl)⟩
      case measure => simp [intOf]; omega
    · have hkc : (clamp n 0 64).toNat = k := by omega
      have k1 : (wait base most n == wait base most n) = true := by simp
      have k2 : (due base most n last == due base most n last) = true := by simp
      have k4 : (total base most (clamp n 0 64).toNat == total base most k) = true := by rw [hkc]; simp
      have k3 : (ready base most n last now == (decide (n < 1) || decide (due base most n last ≤ now))) = true := by simp [ready]
      have hn : n ≤ k ∨ (64 : Int) ≤ k := by unfold clamp at hk hlt; split at hlt <;> (try split at hlt) <;> simp_all <;> omega
      clear hkc hk hlt
      go_wp2_with (first | ((with_reducible refine (rdue_any _ _ _ _ _).mono ?_); rintro e w' ⟨rfl, rfl⟩) | ((with_reducible refine (rwait_any _ _ _ _).mono ?_); rintro e w' ⟨rfl, rfl⟩) | ((with_reducible refine (wait_any _ _ _ _).mono ?_); rintro e w' ⟨rfl, rfl⟩) | ((with_reducible refine (due_any _ _ _ _ _).mono ?_); rintro e w' ⟨rfl, rfl⟩) | ((with_reducible refine (ready_any _ _ _ _ _ _).mono ?_); rintro e w' ⟨rfl, rfl⟩) | ((with_reducible refine (total_any _ _ _ _).mono ?_); rintro e w' ⟨rfl, rfl⟩))
      all_goals go_ret
      all_goals refine ⟨ret_bool ?_, rfl⟩
      all_goals first | rfl | (simp [ready]; done) | (simp_all [ready]; done) | (simp_all [ready]; omega)
end Go.Proofs.Ytlohgkhdhbdicaa.Dly
