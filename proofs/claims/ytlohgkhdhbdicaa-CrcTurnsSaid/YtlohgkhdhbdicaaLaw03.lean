/- The walks of layer 3's three laws. -/
import Derived.Test.YtlohgkhdhbdicaaCrc2
import Derived.Test.YtlohgkhdhbdicaaReg
namespace Go.Proofs.Ytlohgkhdhbdicaa.Crc
open Go.RowKit Go.Proofs.Ytlohgkhdhbdicaa.Mem Go.Proofs.Ytlohgkhdhbdicaa.Oct Go.Proofs.Ytlohgkhdhbdicaa.Reg

def True_ (W : World) (e : Ending) (w' : World) : Prop := e = .returned (.bool true) ∧ Below W.heap.size W w'

def digits : List UInt8 := [49, 50, 51, 52, 53, 54, 55, 56, 57]
theorem sum_digits : sum digits = 3421780262 := by decide +kernel

theorem alive_any (W : World) : Calls Try.prog 11 #[] W (True_ W) := by
  have h1 : ((sum [digits].flatten : Nat) : Int) = 3421780262 := by
    rw [show [digits].flatten = digits from rfl, sum_digits]; rfl
  have h2 : ((sum ([] : List (List UInt8)).flatten : Nat) : Int) = 0 := rfl
  have hd := Rd.lit (E := octE) W digits #[.int .u8 49, .int .u8 50, .int .u8 51, .int .u8 52, .int .u8 53, .int .u8 54, .int .u8 55, .int .u8 56, .int .u8 57] 5 (9, 10) rfl (by unfold maxLen; decide) rfl (show 9 = _ from rfl)
  have hone := RdS.one hd (by simp) 24 (b := W.heap.size + 1) (by simp)
  have kc := fun (w : World) (C : Array Value) (n c : Nat) => Lib.run_convert_bytes_const (P := Try.prog) w 24 5 C n c Try.underlying24 Try.underlying5
  go_enter Try.func11, Try.ntmps11
  go_wp2_with fail
  refine (sum_any _ _ _ _ [digits] _ hone).mono ?_
  rw [h1]
  rintro e w' ⟨rfl, rfl⟩
  go_wp2_with fail
  refine (sum_any _ _ _ _ [] _ (RdS.nil _ 0)).mono ?_
  rw [h2]
  rintro e w' ⟨rfl, rfl⟩
  go_wp2_with fail
  refine (cput_any _ _ _ [] _ (Rd.nil _ _) (by omega)).mono ?_
  rintro e w' ⟨A1, n1, c1, rfl, hown, hb⟩
  have hn1 : n1 = 4 := by have := hown.len; simpa [sealed, be_length] using this
  subst hn1
  go_wp2_with fail
  go_ret
  refine ⟨rfl, ?_⟩
  exact (((Below.refl W.heap.size W).alloc (Nat.le_refl _) _).alloc (by simp) _).trans (hb.mono (by simp; omega))

set_option maxHeartbeats 1000000 in
theorem sums_walk (A : Option Addr) (n cap : Nat) (ls : List (List UInt8)) (W : World) (hr : RdS octE W W.heap.size A n cap ls) (hlen : ls.flatten.length ≤ 1048576) :
    Calls Try.prog 3 #[.slice A n cap] W (True_ W) := by
  have hn := hr.cap
  have hnl := Lib.hid hr.len
  unfold maxLen at hn
  have HL := Lib.hid hlen
  clear hlen
  go_enter Try.func3, Try.ntmps3
  go_wp2_with ((with_reducible refine (alive_any _).mono ?_); rintro e w0 ⟨rfl, hb0⟩)
  have hr0 := hr.below hb0
  go_loopw [3, 4, 5] (fun v t i wr => ∃ (k : Nat) (A' : Option Addr) (n' c' : Nat), k ≤ n ∧ i = .int .i64 k ∧ v = .slice A' n' c' ∧ t = .int .u32 (sums 0 (ls.take k) : Nat) ∧ Own octE wr W.heap.size A' n' c' (ls.take k).flatten ∧ Below W.heap.size W wr) (fun _ _ i _ => n - (intOf i).toNat)
  case atStart => exact ⟨0, none, 0, 0, by omega, rfl, rfl, rfl, Own.nil _ _, hb0⟩
  case round =>
    obtain ⟨k, A', n', c', hk, rfl, rfl, rfl, hown, hbe⟩ := hrel
    have hsz := hbe.size
    have hb := sums_lt (c := 0) (by decide) (ls.take k)
    by_cases hlt : k < n
    · obtain ⟨ad, rfl, hadb, hl, X, nx, cx, hcell, hx⟩ := (hr.below hbe).at_ hlt
      have htk : ls.take (k + 1) = ls.take k ++ [ls[k]] := List.take_succ_eq_append_getElem hl
      have hs := Lib.hid (show sums 0 (ls.take (k + 1)) = more (sums 0 (ls.take k)) ls[k] by rw [htk, sums_snoc])
      have hf := Lib.hid (show (ls.take (k + 1)).flatten = (ls.take k).flatten ++ ls[k] by simp only [htk, List.flatten_append, List.flatten_cons, List.flatten_nil, List.append_nil])
      have hfl : n' + nx ≤ 1048576 := by
        have h1 := hown.len
        have h2 := hx.len
        have h3 : (ls.take (k + 1)).flatten.length ≤ ls.flatten.length := by
          conv => rhs; rw [← List.take_append_drop (k + 1) ls]
          rw [List.flatten_append, List.length_append]; omega
        rw [hf.out, List.length_append] at h3
        have := HL.out
        omega
      clear htk
      generalize sums 0 (ls.take k) = s at *
      generalize (ls.take k).flatten = f at *
      have hgb := Lib.hid hb
      go_wp2_with (first | (at_builtin; refine app_oct rfl _ _ rfl W.heap.size A' n' c' f W.heap.size X nx cx _ rfl rfl hown hx (by omega) hsz ?_; intro A2 c2 w2 hown2 hg2 hb2; have hbe2 : Below W.heap.size W w2 := hbe.grown hg2 hsz (fun g hg => (hown.lt g hg).1); have hcell2 : w2.cell? (ad.add k) = some (.slice X nx cx) := (hg2.cell hcell (fun e => by have := (hown.lt _ e.symm).1; rw [block_of_add] at this; omega)); have hx2 := hx.grown hg2 hsz (fun g hg => (hown.lt g hg).1)) | ((with_reducible refine (more_any _ hgb.out _ _ _ _ _ _ hx2).mono ?_); rintro e w' ⟨rfl, rfl⟩))
      go_roundw
      case rel => exact ⟨k + 1, A2, n' + nx, c2, by omega, by go_num, rfl, val_nat hs.out.symm, by rw [hf.out]; exact hown2, hbe2⟩
      case measure => simp [intOf]; omega
    · obtain rfl : k = n := by omega
      have htk : ls.take k = ls := by rw [hnl.out, List.take_length]
      have hs2 : sums 0 ls = sum ls.flatten := sums_flatten 0 ls
      rw [htk] at hown ⊢
      rw [hs2]
      have hrf := hr.below hbe
      have hone := RdS.one hown.rd (Nat.le_refl _) 24 rfl
      have hfl : [ls.flatten].flatten = ls.flatten := by simp
      have HF := Lib.hid hfl
      clear htk hs2 hfl hb
      generalize hS : sum ls.flatten = S at *
      have HS := Lib.hid hS
      clear hS
      go_wp2_with fail
      refine (rsum_any _ _ _ _ _ _ hown.rd).mono ?_
      rw [HS.out]
      rintro e w' ⟨rfl, rfl⟩
      go_wp2_with fail
      refine (sum_any _ _ _ _ _ _ hrf).mono ?_
      rw [HS.out]
      rintro e w' ⟨rfl, rfl⟩
      go_wp2_with fail
      refine (sum_any _ _ _ _ _ _ hone).mono ?_
      rw [HF.out, HS.out]
      rintro e w' ⟨rfl, rfl⟩
      go_wp2_with fail
      go_ret
      exact ⟨by simp, hbe.alloc hsz _⟩
end Go.Proofs.Ytlohgkhdhbdicaa.Crc
