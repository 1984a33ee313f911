/- Lists of steps as octets, plainly: no function in sight. -/
import Derived.Test.YtncfkkmdhdofpaaCodePlain
import Derived.Test.YtncfkkmdhdofpaaCode4
namespace Go.Proofs.Ytncfkkmdhdofpaa.Sep
open Go.Proofs.Ytncfkkmdhdofpaa.Oct
set_option maxRecDepth 100000
def sputall (l : List Stpv) : List UInt8 := (l.map Stpv.put).flatten
theorem sputall_cons (x : Stpv) (l : List Stpv) : sputall (x :: l) = x.put ++ sputall l := rfl
theorem sputall_snoc (l : List Stpv) (x : Stpv) : sputall (l ++ [x]) = sputall l ++ x.put := by simp [sputall]
theorem sputall_length (l : List Stpv) : (sputall l).length = 21 * l.length := by
  induction l with
  | nil => rfl
  | cons c l ih => rw [sputall_cons, List.length_append, c.put_length, ih, List.length_cons]; omega
/-- the first error -/
def sbad : List Stpv → Int
  | [] => 0
  | x :: l => if x.check = 0 then sbad l else x.check
theorem sbad_mem {l : List Stpv} (h : sbad l = 0) : ∀ x ∈ l, x.check = 0 := by
  induction l with
  | nil => intro x hx; cases hx
  | cons y l ih =>
    unfold sbad at h
    split at h
    · rename_i hy
      intro x hx
      rcases List.mem_cons.1 hx with rfl | hx
      · exact hy
      · exact ih h x hx
    · exact absurd h (by assumption)
theorem sbad_at {l : List Stpv} {i : Nat} {x : Stpv} (h : l[i]? = some x) : sbad (l.drop i) = if x.check = 0 then sbad (l.drop (i + 1)) else x.check := by
  obtain ⟨hi, hx⟩ := List.getElem?_eq_some_iff.1 h
  rw [List.drop_eq_getElem_cons hi, hx]
  rfl
def srds : Nat → List UInt8 → List Stpv × Int
  | 0, _ => ([], 0)
  | k + 1, t => if (stpOf (t.take 21)).check = 0 then (if (srds k (t.drop 21)).2 = 0 then (stpOf (t.take 21) :: (srds k (t.drop 21)).1, 0) else ([], (srds k (t.drop 21)).2)) else ([], (stpOf (t.take 21)).check)
/-- what was read ahead, and the rest -/
def sjoin (a : List Stpv) (r : List Stpv × Int) : List Stpv × Int := if r.2 = 0 then (a ++ r.1, 0) else ([], r.2)
theorem srds_nil {k : Nat} {t : List UInt8} (h : (srds k t).2 ≠ 0) : (srds k t).1 = [] := by
  cases k with
  | zero => exact absurd rfl h
  | succ k =>
    unfold srds at h ⊢
    split
    · rename_i h1
      rw [if_pos h1] at h
      split
      · rename_i h2
        rw [if_pos h2] at h
        exact absurd rfl h
      · rfl
    · rfl
theorem sjoin_nil (k : Nat) (t : List UInt8) : srds k t = sjoin [] (srds k t) := by
  unfold sjoin
  split
  · rename_i h
    rw [List.nil_append, ← h]
  · rename_i h
    rw [← srds_nil h]
theorem srds_some {k : Nat} {t : List UInt8} (h : (srds k t).2 = 0) (ht : t.length = 21 * k) : (srds k t).1.length = k ∧ sputall (srds k t).1 = t ∧ sbad (srds k t).1 = 0 := by
  induction k generalizing t with
  | zero => exact ⟨rfl, (List.eq_nil_of_length_eq_zero (by omega)).symm, rfl⟩
  | succ k ih =>
    unfold srds at h ⊢
    split at h
    · rename_i h1
      rw [if_pos h1]
      split at h
      · rename_i h2
        rw [if_pos h2]
        obtain ⟨e1, e2, e3⟩ := ih h2 (by simp; omega)
        refine ⟨by simp [e1], ?_, ?_⟩
        · rw [sputall_cons, put_stpOf (by simp; omega), e2, List.take_append_drop]
        · unfold sbad
          rw [if_pos h1]
          exact e3
      · rename_i h2
        exact absurd h h2
    · rename_i h1
      exact absurd h h1
theorem srds_putall {l : List Stpv} (hb : sbad l = 0) (hn : ∀ x ∈ l, I64 x.c.n) : srds l.length (sputall l) = (l, 0) := by
  induction l with
  | nil => rfl
  | cons x l ih =>
    have hx := sbad_mem hb x (by simp)
    have hl : sbad l = 0 := by unfold sbad at hb; rwa [if_pos hx] at hb
    rw [List.length_cons, srds, sputall_cons, List.take_left' x.put_length, List.drop_left' x.put_length, stpOf_put hx (hn x (by simp)), ih hl fun y hy => hn y (by simp [hy])]
    simp [hx]
/-- the steps whose octets they are, and the error -/
def stps (b : List UInt8) : List Stpv × Int := if b.length % 21 = 0 then (if b.length / 21 ≤ 256 then srds (b.length / 21) b else ([], 3)) else ([], 16)
theorem stps_some {b : List UInt8} (h : (stps b).2 = 0) : (stps b).1.length ≤ 256 ∧ sputall (stps b).1 = b ∧ sbad (stps b).1 = 0 := by
  unfold stps at h ⊢
  split at h
  · rename_i h1
    rw [if_pos h1]
    split at h
    · rename_i h2
      rw [if_pos h2]
      obtain ⟨e1, e2, e3⟩ := srds_some h (by omega)
      exact ⟨by omega, e2, e3⟩
    · cases h
  · cases h
theorem stps_putall {l : List Stpv} (h : l.length ≤ 256) (hb : sbad l = 0) (hn : ∀ x ∈ l, I64 x.c.n) : stps (sputall l) = (l, 0) := by
  unfold stps
  have e : (sputall l).length = 21 * l.length := sputall_length l
  rw [e, if_pos (by omega), show 21 * l.length / 21 = l.length by omega, if_pos h]
  exact srds_putall hb hn
theorem stps_err {b : List UInt8} (h : (stps b).2 ≠ 0) : (stps b).1 = [] ∧ (b.length % 21 ≠ 0 → (stps b).2 = 16) ∧ (b.length % 21 = 0 → 5376 < b.length → (stps b).2 = 3) := by
  unfold stps at h ⊢
  split
  · rename_i h1
    rw [if_pos h1] at h
    split
    · rename_i h2
      rw [if_pos h2] at h
      exact ⟨srds_nil h, fun hh => absurd h1 hh, fun _ hh => by omega⟩
    · exact ⟨rfl, fun hh => absurd h1 hh, fun _ _ => rfl⟩
  · rename_i h1
    exact ⟨rfl, fun _ => rfl, fun hh => absurd hh h1⟩
end Go.Proofs.Ytncfkkmdhdofpaa.Sep
