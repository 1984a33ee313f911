/- Plain arithmetic of waits: no program in sight. -/
namespace Go.Proofs.Ytihblcljkndpgaa.Dly

def clamp (n lo hi : Int) : Int := if n < lo then lo else if hi < n then hi else n
/-- k doublings, capped -/
def dbl (m : Int) : Nat → Int → Int
  | 0, w => w
  | k + 1, w => min (2 * dbl m k w) m
def wait (base most n : Int) : Int :=
  if n < 1 then 0 else dbl (clamp most 1 64) ((min n 64 - 1).toNat) (min (clamp base 1 64) (clamp most 1 64))
def due (base most n last : Int) : Int := clamp last 0 1073741824 + wait base most n
def total (base most : Int) : Nat → Int
  | 0 => 0
  | k + 1 => total base most k + wait base most (k + 1)

theorem clamp_lo (n lo hi : Int) (h : lo ≤ hi) : lo ≤ clamp n lo hi := by unfold clamp; split; omega; split <;> omega
theorem clamp_hi (n lo hi : Int) (h : lo ≤ hi) : clamp n lo hi ≤ hi := by unfold clamp; split; omega; split <;> omega

theorem dbl_bd (m w : Int) (h1 : 1 ≤ w) (h2 : w ≤ m) : ∀ k, 1 ≤ dbl m k w ∧ dbl m k w ≤ m
  | 0 => ⟨h1, h2⟩
  | k + 1 => by have := dbl_bd m w h1 h2 k; unfold dbl; omega

theorem wait_bd (base most n : Int) : 0 ≤ wait base most n ∧ wait base most n ≤ 64 := by
  unfold wait
  split
  · omega
  · have hm1 := clamp_lo most 1 64 (by omega)
    have hm2 := clamp_hi most 1 64 (by omega)
    have hb1 := clamp_lo base 1 64 (by omega)
    have := dbl_bd (clamp most 1 64) (min (clamp base 1 64) (clamp most 1 64)) (by omega) (by omega) ((min n 64 - 1).toNat)
    omega

theorem total_bd (base most : Int) : ∀ k : Nat, 0 ≤ total base most k ∧ total base most k ≤ 64 * k
  | 0 => by unfold total; omega
  | k + 1 => by have := total_bd base most k; have := wait_bd base most (k + 1); unfold total; omega

/-- the reference's loop: plain doubling while below the cap, then cut at the cap -/
def ref (m : Int) : Nat → Int → Int
  | 0, w => w
  | k + 1, w => if w < m then ref m k (w * 2) else w

theorem ref_dbl (m : Int) : ∀ (k : Nat) (w : Int), 1 ≤ w → 1 ≤ m → min (ref m k w) m = dbl m k (min w m)
  | 0, w, _, _ => rfl
  | k + 1, w, hw, hm => by
    have shift : ∀ (k : Nat) (v : Int), dbl m (k + 1) v = dbl m k (min (2 * v) m) := by
      intro k; induction k with
      | zero => intro v; rfl
      | succ k ih => intro v; rw [dbl, ih v]; rfl
    rw [shift]
    unfold ref
    split
    · rw [ref_dbl m k (w * 2) (by omega) hm]; congr 1; omega
    · have fix : ∀ k, dbl m k m = m := by
        intro k; induction k with
        | zero => rfl
        | succ k ih => rw [dbl, ih]; omega
      rw [show min (2 * min w m) m = m by omega, fix]; omega

theorem dbl_mono (m w : Int) (h1 : 1 ≤ w) (h2 : w ≤ m) (k : Nat) : dbl m k w ≤ dbl m (k + 1) w ∧ (dbl m (k + 1) w = 2 * dbl m k w ∨ dbl m (k + 1) w = m) := by
  have := dbl_bd m w h1 h2 k
  show _ ≤ min (2 * dbl m k w) m ∧ (min (2 * dbl m k w) m = _ ∨ min (2 * dbl m k w) m = _)
  omega

/-- a cap within 64 doublings: from the 64th on nothing rises any more -/
theorem dbl_top (m w : Int) (h1 : 1 ≤ w) (h2 : w ≤ m) (h3 : m ≤ 64) : dbl m 63 w = m := by
  have key : ∀ k : Nat, dbl m k w = m ∨ (2 : Int) ^ k ≤ dbl m k w := by
    intro k; induction k with
    | zero => right; simpa [dbl] using h1
    | succ k ih =>
      rcases ih with h | h
      · left; rw [dbl, h]; omega
      · rw [dbl, Int.pow_succ]; omega
  rcases key 63 with h | h
  · exact h
  · have := (dbl_bd m w h1 h2 63).2; omega

end Go.Proofs.Ytihblcljkndpgaa.Dly
