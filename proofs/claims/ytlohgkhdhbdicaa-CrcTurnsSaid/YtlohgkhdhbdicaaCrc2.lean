/- The walks of layer 3's functions that make octets. -/
import Derived.Test.YtlohgkhdhbdicaaCrc
import Derived.Test.YtlohgkhdhbdicaaOctet
namespace Go.Proofs.Ytlohgkhdhbdicaa.Crc
open Go.RowKit Go.Proofs.Ytlohgkhdhbdicaa.Mem Go.Proofs.Ytlohgkhdhbdicaa.Oct

def sealed (l : List UInt8) : List UInt8 := l ++ be (sum l) 4
theorem put4 (l : List UInt8) (n : Nat) : put l n 4 = l ++ be n 4 := if_neg (by omega)
def PutPost (W : World) (l : List UInt8) (e : Ending) (w' : World) : Prop :=
  ∃ A' n' c', e = .returned (.slice A' n' c') ∧ Own octE w' W.heap.size A' n' c' (sealed l) ∧ Below W.heap.size W w'

theorem cput_any (A : Option Addr) (nl cap : Nat) (l : List UInt8) (W : World) (hr : Rd octE W W.heap.size A nl cap l) (hl : nl ≤ 140737488355300) :
    Calls Try.prog 24 #[.slice A nl cap] W (PutPost W l) := by
  have hs := sum_lt l
  have hs2 : sum l < 18446744073709551616 := by omega
  have HS2 := Lib.hid hs2
  clear hs2
  have hone := RdS.one hr (Nat.le_refl _) 24 rfl
  have hr2 : Rd octE (W.alloc (.cells #[.slice A nl cap] 24)) (W.alloc (.cells #[.slice A nl cap] 24)).heap.size A nl cap l := (hr.alloc (Nat.le_refl _) _).more (by simp)
  have h4 := Lib.hid (put4 l (sum l))
  go_enter Try.func24, Try.ntmps24
  go_wp2_with (first | ((with_reducible refine (sum_any _ _ _ _ _ _ hone).mono ?_); simp only [List.flatten_cons, List.flatten_nil, List.append_nil]; rintro e w' ⟨rfl, rfl⟩) | ((with_reducible refine (put_any _ _ _ _ _ _ _ hr2 HS2.out hl).mono ?_); rintro e w' ⟨A1, n1, c1, rfl, hown, hb⟩))
  go_ret
  have hb2 : Below W.heap.size W w' := ((Below.refl _ _).alloc (Nat.le_refl _) _).trans (hb.mono (by simp))
  exact ⟨_, _, _, rfl, by have := hown.weaken (B := W.heap.size) (by simp); rw [h4.out] at this; exact this, hb2⟩

/-- octets with their sum -/
def okay (b : List UInt8) : Bool := decide (4 ≤ b.length) && decide (sealed (b.take (b.length - 4)) = b)
def CheckPost (W : World) (b : List UInt8) (e : Ending) (w' : World) : Prop :=
  Below W.heap.size W w' ∧ (if okay b then ∃ A' n' c', e = .returned (.tuple #[.slice A' n' c', .bool true]) ∧ Own octE w' W.heap.size A' n' c' (b.take (b.length - 4))
    else e = .returned (.tuple #[.slice none 0 0, .bool false]))

theorem check_any (A : Option Addr) (n cap : Nat) (l : List UInt8) (W : World) (hr : Rd octE W W.heap.size A n cap l) (hl : n ≤ 140737488355300) :
    Calls Try.prog 23 #[.slice A n cap] W (CheckPost W l) := by
  have hcap := hr.cap
  unfold maxLen at hcap
  by_cases h4 : 4 ≤ n
  · obtain ⟨m, rfl⟩ : ∃ m, n = m + 4 := ⟨n - 4, by omega⟩
    have hr4 := hr.upto (k := m) (m := cap) (by omega) (by omega) (Nat.le_refl _)
    have hr4d := hr4.drew
    have hs0 := str_rd hr.drew
    have hm1 : (0 : Int) ≤ m := by omega
    have hm2 : (m : Int) ≤ cap := by omega
    have hlen := hr.len
    have hokd : okay l = decide (sealed (l.take m) = l) := by
      unfold okay; rw [show decide (4 ≤ l.length) = true by simp; omega, show l.length - 4 = m by omega]; rfl
    have htake : l.take (l.length - 4) = l.take m := by congr 1; omega
    have HT := Lib.hid htake
    clear htake
    have HLN := Lib.hid hlen
    clear hlen
    by_cases hq : sealed (l.take m) = l
    · have hbt : ((txt (sealed (l.take m))).toList == (txt l).toList) = true := by rw [txt_toList, txt_toList, hq]; simp
      have hok : okay l = true := by rw [hokd]; simp [hq]
      have HOK := Lib.hid hok
      clear hok hokd hq
      go_enter Try.func23, Try.ntmps23
      go_wp2_with fail
      go_region_with (first | (go_at_call 24; refine (cput_any _ _ _ _ _ hr4d (by omega)).mono ?_; rintro e w1 ⟨A1, n1, c1, rfl, hown, hb⟩; have hs1 := str_rd hown.rd; have hs2 := str_rd ((hr.drew).below hb)))
      all_goals
        have hb0 : Below W.heap.size W w1 := (Below.refl _ _).drew.trans hb
        have hr5 : Rd octE (w1.alloc (.cells #[] 5)) W.heap.size A m cap (l.take m) := (hr4.below hb0).alloc hb0.size _
        go_wp2_with (at_builtin; refine app_oct rfl _ _ rfl w1.heap.size (some ⟨w1.heap.size, 0, none⟩) 0 0 [] W.heap.size A m cap _ rfl rfl (Own.made w1 rfl (Nat.le_refl _)) hr5 (by omega) (by simp) ?_; intro A2 c2 w2 hown2 hg2 hb2)
        go_ret2
        refine ⟨hb0.trans ((below_app hg2 (by simp [blk])).mono hb0.size), ?_⟩
        rw [if_pos HOK.out]
        exact ⟨_, _, _, rfl, by rw [HT.out]; simpa using hown2.weaken hb0.size⟩
    · have hbt : ((txt (sealed (l.take m))).toList == (txt l).toList) = false := by rw [txt_toList, txt_toList]; simpa using hq
      have hok : ¬ okay l = true := by rw [hokd]; simp [hq]
      have HOK := Lib.hid hok
      clear hok hokd hq
      go_enter Try.func23, Try.ntmps23
      go_wp2_with fail
      go_region_with (first | (go_at_call 24; refine (cput_any _ _ _ _ _ hr4d (by omega)).mono ?_; rintro e w1 ⟨A1, n1, c1, rfl, hown, hb⟩; have hs1 := str_rd hown.rd; have hs2 := str_rd ((hr.drew).below hb)))
      all_goals
        have hb0 : Below W.heap.size W w1 := (Below.refl _ _).drew.trans hb
        go_wp2_with fail
        go_ret2
        refine ⟨hb0, ?_⟩
        rw [if_neg HOK.out]
        rfl
  · have hok : ¬ okay l = true := by
      have := hr.len
      unfold okay
      rw [show decide (4 ≤ l.length) = false by simp; omega]
      simp
    have HOK := Lib.hid hok
    clear hok
    go_enter Try.func23, Try.ntmps23
    go_wp2_with fail
    go_ret2
    refine ⟨Below.refl _ _, ?_⟩
    rw [if_neg HOK.out]
    rfl
end Go.Proofs.Ytlohgkhdhbdicaa.Crc
