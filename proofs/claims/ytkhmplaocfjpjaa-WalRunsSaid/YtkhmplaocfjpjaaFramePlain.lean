/- Octets in frames, plainly: no program in sight. -/
import Derived.Test.YtkhmplaocfjpjaaOctetPlain
import Derived.Test.YtkhmplaocfjpjaaCrcPlain
namespace Go.Proofs.Ytkhmplaocfjpjaa.Frm
open Go.Proofs.Ytkhmplaocfjpjaa.Oct

/-- a frame -/
def fr (b : List UInt8) : List UInt8 := be b.length 2 ++ b ++ be (Crc.sum b) 4 ++ [90]
theorem fr_length (b : List UInt8) : (fr b).length = b.length + 7 := by simp [fr, be_length]; omega
/-- how many octets it says that it has -/
def size (l : List UInt8) : Nat := get (l.take 2)
/-- what octets begin with -/
def ok (l : List UInt8) : Prop := 2 ≤ l.length ∧ 1 ≤ size l ∧ size l ≤ 4096 ∧ size l + 7 ≤ l.length ∧ l[size l + 6]? = some 90 ∧ get ((l.drop (size l + 2)).take 4) = Crc.sum ((l.drop 2).take (size l))
instance (l : List UInt8) : Decidable (ok l) := by unfold ok; exact inferInstance
def fget (l : List UInt8) : Option (List UInt8 × Nat) := if ok l then some ((l.drop 2).take (size l), size l + 7) else none
theorem fget_bound {l x : List UInt8} {k : Nat} (h : fget l = some (x, k)) : 8 ≤ k ∧ k ≤ l.length ∧ x.length + 7 = k := by
  unfold fget at h
  split at h
  · rename_i ho
    injection h with h; injection h with h1 h2
    subst h1 h2
    obtain ⟨h1, h2, h3, h4, _⟩ := ho
    simp
    omega
  · cases h
/-- it is just a frame -/
theorem ok_iff {l : List UInt8} (h2 : 2 ≤ l.length) (h1 : 1 ≤ size l) (h3 : size l + 7 ≤ l.length) : (l[size l + 6]? = some 90 ∧ get ((l.drop (size l + 2)).take 4) = Crc.sum ((l.drop 2).take (size l))) ↔ fr ((l.drop 2).take (size l)) = l.take (size l + 7) := by
  have hlen : ((l.drop 2).take (size l)).length = size l := by simp; omega
  have e1 : l.take (size l + 7) = l.take 2 ++ (l.drop 2).take (size l) ++ (l.drop (size l + 2)).take 4 ++ (l.drop (size l + 6)).take 1 := by
    rw [show size l + 7 = 2 + size l + 4 + 1 by omega, List.take_add, List.take_add, List.take_add, show 2 + size l + 4 = size l + 6 by omega, show 2 + size l = size l + 2 by omega]
  have e2 : be (size l) 2 = l.take 2 := by
    have := be_get (l.take 2)
    rw [List.length_take, Nat.min_eq_left h2] at this
    exact this
  have hl4 : ((l.drop (size l + 2)).take 4).length = 4 := by simp; omega
  have hone : (l.drop (size l + 6)).take 1 = [90] ↔ l[size l + 6]? = some 90 := by
    rw [List.drop_eq_getElem_cons (by omega), List.getElem?_eq_getElem (by omega), List.take_succ_cons, List.take_zero]
    constructor
    · intro h; injection h with h _; rw [h]
    · intro h; injection h with h; rw [h]
  have hfour : be (Crc.sum ((l.drop 2).take (size l))) 4 = (l.drop (size l + 2)).take 4 ↔ get ((l.drop (size l + 2)).take 4) = Crc.sum ((l.drop 2).take (size l)) := by
    constructor
    · intro h
      rw [← h, get_be, Nat.mod_eq_of_lt]
      exact Crc.sum_lt _
    · intro h
      rw [← h]
      have := be_get ((l.drop (size l + 2)).take 4)
      rw [hl4] at this
      exact this
  unfold fr
  rw [e1, hlen, e2, ← hone, ← hfour]
  constructor
  · rintro ⟨h5, h6⟩
    rw [h5, h6]
  · intro h
    have h7 := List.append_inj' h (by rw [List.length_take]; simp; omega)
    have h8 := List.append_inj' h7.1 (by rw [be_length, hl4])
    exact ⟨h7.2.symm, h8.2⟩
theorem size_fr {b t : List UInt8} (h : b.length ≤ 4096) : size (fr b ++ t) = b.length := by
  unfold size fr
  rw [List.append_assoc, List.append_assoc, List.append_assoc, List.take_left' (be_length _ _), get_be, Nat.mod_eq_of_lt (by omega)]
theorem fget_fr {b t : List UInt8} (h1 : 1 ≤ b.length) (h : b.length ≤ 4096) : fget (fr b ++ t) = some (b, b.length + 7) := by
  have hs := size_fr (t := t) h
  have hl : (fr b ++ t).length = b.length + 7 + t.length := by rw [List.length_append, fr_length]
  have e : ((fr b ++ t).drop 2).take (size (fr b ++ t)) = b := by
    rw [hs]
    unfold fr
    rw [List.append_assoc, List.append_assoc, List.append_assoc, List.drop_left' (be_length _ _), List.take_left' rfl]
  have hok : ok (fr b ++ t) := by
    have h2 : 2 ≤ (fr b ++ t).length := by omega
    have h3 : 1 ≤ size (fr b ++ t) := by omega
    have h4 : size (fr b ++ t) + 7 ≤ (fr b ++ t).length := by omega
    refine ⟨h2, h3, by omega, h4, (ok_iff h2 h3 h4).2 ?_⟩
    rw [e, hs, List.take_left' (fr_length b)]
  unfold fget
  rw [if_pos hok, e, hs]
/-- all frames that follow one another, and where they end -/
def scan : Nat → List UInt8 → List (List UInt8) × Nat
  | 0, _ => ([], 0)
  | k + 1, l => match fget l with
    | none => ([], 0)
    | some (x, n) => (x :: (scan k (l.drop n)).1, n + (scan k (l.drop n)).2)
theorem scan_none {k : Nat} {l : List UInt8} (h : fget l = none) : scan k l = ([], 0) := by
  cases k with
  | zero => rfl
  | succ k => simp [scan, h]
theorem scan_some {k : Nat} {l x : List UInt8} {n : Nat} (h : fget l = some (x, n)) : scan (k + 1) l = (x :: (scan k (l.drop n)).1, n + (scan k (l.drop n)).2) := by simp [scan, h]
theorem scan_more {k m : Nat} {l : List UInt8} (hk : l.length ≤ k) (hm : l.length ≤ m) : scan k l = scan m l := by
  induction k generalizing l m with
  | zero =>
    have h0 : l = [] := List.eq_nil_of_length_eq_zero (by omega)
    subst h0
    rw [scan_none (k := m) rfl]; rfl
  | succ k ih =>
    cases hq : fget l with
    | none => rw [scan_none hq, scan_none hq]
    | some r =>
      obtain ⟨x, n⟩ := r
      have hb := fget_bound hq
      cases m with
      | zero => omega
      | succ m =>
        have := ih (l := l.drop n) (m := m) (by simp; omega) (by simp; omega)
        rw [scan_some hq, scan_some hq, this]
def frames (l : List UInt8) : List (List UInt8) := (scan l.length l).1
def upto (l : List UInt8) : Nat := (scan l.length l).2
theorem frames_none {l : List UInt8} (h : fget l = none) : frames l = [] ∧ upto l = 0 := by unfold frames upto; rw [scan_none h]; exact ⟨rfl, rfl⟩
theorem frames_some {l x : List UInt8} {n : Nat} (h : fget l = some (x, n)) : frames l = x :: frames (l.drop n) ∧ upto l = n + upto (l.drop n) := by
  have hb := fget_bound h
  unfold frames upto
  have e : scan l.length l = (x :: (scan (l.length - 1) (l.drop n)).1, n + (scan (l.length - 1) (l.drop n)).2) := by
    rw [show l.length = (l.length - 1) + 1 by omega]
    exact scan_some h
  have e2 : scan (l.length - 1) (l.drop n) = scan (l.drop n).length (l.drop n) := scan_more (by simp; omega) (Nat.le_refl _)
  rw [e, e2]
  exact ⟨rfl, rfl⟩
theorem frames_count (l : List UInt8) : 8 * (frames l).length ≤ l.length := by
  have key : ∀ (k : Nat) (l : List UInt8), l.length ≤ k → 8 * (frames l).length ≤ l.length := by
    intro k
    induction k with
    | zero =>
      intro l hl
      have h0 : l = [] := List.eq_nil_of_length_eq_zero (by omega)
      subst h0
      rw [(frames_none (l := []) rfl).1]
      simp
    | succ k ih =>
      intro l hl
      cases hq : fget l with
      | none => rw [(frames_none hq).1]; simp
      | some r =>
        obtain ⟨x, n⟩ := r
        have hb := fget_bound hq
        have := ih (l.drop n) (by simp; omega)
        rw [(frames_some hq).1, List.length_cons]
        simp at this
        omega
  exact key _ l (Nat.le_refl _)
/-- the front of a frame, with octets 0 behind, is none -/
theorem fget_cut {b : List UInt8} (h : b.length ≤ 4096) {k z : Nat} (hk : k < b.length + 7) : fget ((fr b).take k ++ List.replicate z 0) = none := by
  unfold fget
  refine if_neg ?_
  rintro ⟨h2, h1, h3, h4, h5, _⟩
  have hl : ((fr b).take k).length = k := by rw [List.length_take, fr_length]; omega
  have hge : k ≤ size ((fr b).take k ++ List.replicate z 0) + 6 := by
    by_cases hk2 : 2 ≤ k
    · have e : size ((fr b).take k ++ List.replicate z 0) = b.length := by
        have h6 := size_fr (t := []) h
        unfold size at h6 ⊢
        rw [List.append_nil] at h6
        rw [List.take_append_of_le_length (by omega), List.take_take, Nat.min_eq_left hk2, h6]
      omega
    · omega
  rw [List.getElem?_append_right (by omega), List.getElem?_replicate] at h5
  split at h5
  · cases h5
  · cases h5
theorem frames_cut (ls : List (List UInt8)) (hls : ∀ x ∈ ls, 1 ≤ x.length ∧ x.length ≤ 4096) (cut z : Nat) (hc : cut ≤ (ls.map fr).flatten.length) :
    ∃ k, k ≤ ls.length ∧ frames ((ls.map fr).flatten.take cut ++ List.replicate z 0) = ls.take k ∧ ((ls.take k).map fr).flatten.length ≤ cut ∧ (k < ls.length → cut < ((ls.take (k + 1)).map fr).flatten.length) := by
  induction ls generalizing cut with
  | nil =>
    refine ⟨0, Nat.le_refl _, ?_, by simp, fun h => absurd h (by simp)⟩
    have h0 : fget (List.replicate z 0) = none := by
      have := fget_cut (b := []) (k := 0) (z := z) (by simp) (by simp)
      simpa using this
    simpa using (frames_none h0).1
  | cons x ls ih =>
    have hx := hls x (by simp)
    simp only [List.map_cons, List.flatten_cons, List.length_append, fr_length] at hc ⊢
    by_cases hk : cut < x.length + 7
    · refine ⟨0, Nat.zero_le _, ?_, by simp, fun _ => by simp [fr_length]; omega⟩
      rw [List.take_append_of_le_length (by rw [fr_length]; omega), (frames_none (fget_cut hx.2 hk)).1]
      rfl
    · obtain ⟨k, h1, h2, h3, h4⟩ := ih (fun y hy => hls y (by simp [hy])) (cut - (x.length + 7)) (by omega)
      have e : (fr x ++ (ls.map fr).flatten).take cut = fr x ++ ((ls.map fr).flatten).take (cut - (x.length + 7)) := by
        rw [List.take_append, List.take_of_length_le (by rw [fr_length]; omega), fr_length]
      refine ⟨k + 1, by simp; omega, ?_, ?_, fun h => ?_⟩
      · rw [e, List.append_assoc]
        have hg := fget_fr (b := x) (t := ((ls.map fr).flatten).take (cut - (x.length + 7)) ++ List.replicate z 0) hx.1 hx.2
        rw [(frames_some hg).1, List.drop_left' (fr_length x), h2]
        rfl
      · simp only [List.take_succ_cons, List.map_cons, List.flatten_cons, List.length_append, fr_length]
        omega
      · have := h4 (by simpa using h)
        rw [List.take_succ_cons, List.map_cons, List.flatten_cons, List.length_append, fr_length]
        omega
end Go.Proofs.Ytkhmplaocfjpjaa.Frm
