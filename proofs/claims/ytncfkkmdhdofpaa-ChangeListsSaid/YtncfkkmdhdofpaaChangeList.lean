/- Lists of changes as octets, plainly: no function in sight. -/
import Derived.Test.YtncfkkmdhdofpaaChangePlain
namespace Go.Proofs.Ytncfkkmdhdofpaa.Sep
open Go.Proofs.Ytncfkkmdhdofpaa.Oct
set_option maxRecDepth 100000
def putall (l : List Chg) : List UInt8 := (l.map Chg.put).flatten
theorem putall_length (l : List Chg) : (putall l).length = 22 * l.length := by
  induction l with
  | nil => rfl
  | cons c l ih =>
    have : putall (c :: l) = c.put ++ putall l := rfl
    rw [this, List.length_append, c.put_length, ih, List.length_cons]; omega
theorem putall_cons (c : Chg) (l : List Chg) : putall (c :: l) = c.put ++ putall l := rfl
theorem putall_snoc (l : List Chg) (c : Chg) : putall (l ++ [c]) = putall l ++ c.put := by simp [putall]
def enlist (l : List Chg) : List UInt8 := UInt8.ofNat l.length :: putall l
def pieces : Nat → List UInt8 → Option (List Chg)
  | 0, _ => some []
  | k + 1, t => match cget (t.take 22), pieces k (t.drop 22) with
    | some c, some l => some (c :: l)
    | _, _ => none
def clst : List UInt8 → Option (List Chg)
  | [] => none
  | h :: t => if h.toNat ≤ 48 ∧ t.length = 22 * h.toNat then pieces h.toNat t else none
theorem pieces_some {k : Nat} {t : List UInt8} {l : List Chg} (h : pieces k t = some l) (ht : t.length = 22 * k) : l.length = k ∧ putall l = t ∧ l.all Chg.may = true ∧ ∀ c ∈ l, c.ok := by
  induction k generalizing t l with
  | zero =>
    injection h with h
    subst h
    exact ⟨rfl, (List.eq_nil_of_length_eq_zero (by omega)).symm, rfl, fun _ hc => by cases hc⟩
  | succ k ih =>
    unfold pieces at h
    split at h
    · rename_i c l' hc hl
      injection h with h
      subst h
      obtain ⟨h1, h2, h3, h4⟩ := ih hl (by simp; omega)
      obtain ⟨_, hm, hp, hok⟩ := cget_some hc
      refine ⟨by simp [h1], ?_, by simp [hm]; simpa using h3, fun x hx => ?_⟩
      · rw [putall_cons, hp, h2, List.take_append_drop]
      · rcases List.mem_cons.1 hx with rfl | hx
        · exact hok
        · exact h4 x hx
    · cases h
theorem pieces_putall {l : List Chg} (hm : l.all Chg.may = true) (hn : ∀ c ∈ l, I64 c.n) : pieces l.length (putall l) = some l := by
  induction l with
  | nil => rfl
  | cons c l ih =>
    simp at hm
    rw [List.length_cons, pieces, putall_cons, List.take_left' c.put_length, List.drop_left' c.put_length, cget_put hm.1 (hn c (by simp)), ih (by simpa using hm.2) fun x hx => hn x (by simp [hx])]
theorem clst_some {b : List UInt8} {l : List Chg} (h : clst b = some l) : l.length ≤ 48 ∧ enlist l = b ∧ l.all Chg.may = true := by
  cases b with
  | nil => cases h
  | cons x t =>
    have h : (if x.toNat ≤ 48 ∧ t.length = 22 * x.toNat then pieces x.toNat t else none) = some l := h
    split at h
    · rename_i hh
      obtain ⟨h1, h2, h3, _⟩ := pieces_some h hh.2
      refine ⟨by omega, ?_, h3⟩
      unfold enlist
      rw [h1, h2]
      congr 1
      exact UInt8.ofNat_toNat
    · cases h
theorem clst_enlist {l : List Chg} (h48 : l.length ≤ 48) (hm : l.all Chg.may = true) (hn : ∀ c ∈ l, I64 c.n) : clst (enlist l) = some l := by
  have e : (UInt8.ofNat l.length).toNat = l.length := by simp; omega
  show (if (UInt8.ofNat l.length).toNat ≤ 48 ∧ (putall l).length = 22 * (UInt8.ofNat l.length).toNat then pieces (UInt8.ofNat l.length).toNat (putall l) else none) = some l
  rw [e, if_pos ⟨h48, putall_length l⟩]
  exact pieces_putall hm hn
theorem enlist_length (l : List Chg) : (enlist l).length = 1 + 22 * l.length := by unfold enlist; rw [List.length_cons, putall_length]; omega
end Go.Proofs.Ytncfkkmdhdofpaa.Sep
