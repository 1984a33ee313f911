/- octets laid upon a disk, plainly: no function in sight. -/
import Derived.Test.YtkhmplaocfjpjaaDisk
import Derived.Test.YtkhmplaocfjpjaaFramePlain
namespace Go.Proofs.Ytkhmplaocfjpjaa.Sep
set_option maxRecDepth 100000
/-- octets x stand from o on -/
def sp (D : List UInt8) (o : Nat) (x : List UInt8) : List UInt8 := D.take o ++ x ++ D.drop (o + x.length)
theorem sp_length {D : List UInt8} {o : Nat} {x : List UInt8} (h : o + x.length ≤ D.length) : (sp D o x).length = D.length := by
  unfold sp
  simp only [List.length_append, List.length_take, List.length_drop]; omega
theorem sp_get {D : List UInt8} {o : Nat} {x : List UInt8} (h : o + x.length ≤ D.length) (j : Nat) : (sp D o x)[j]? = if j < o then D[j]? else if j < o + x.length then x[j - o]? else D[j]? := by
  unfold sp
  have h1 : (D.take o).length = o := by rw [List.length_take]; omega
  by_cases h2 : j < o
  · rw [if_pos h2, List.append_assoc, List.getElem?_append_left (by omega), List.getElem?_take, if_pos h2]
  · rw [if_neg h2]
    by_cases h3 : j < o + x.length
    · rw [if_pos h3, List.getElem?_append_left (by rw [List.length_append]; omega), List.getElem?_append_right (by omega), h1]
    · rw [if_neg h3, List.getElem?_append_right (by rw [List.length_append]; omega), List.length_append, h1, List.getElem?_drop]
      congr 1; omega
theorem sp_nil (D : List UInt8) (o : Nat) : sp D o [] = D := by unfold sp; simp
theorem take_get {l : List UInt8} {k j : Nat} : (l.take k)[j]? = if j < k then l[j]? else none := List.getElem?_take
theorem flat_split {l : List Sec} {i : Nat} (h : i < l.length) : flat l = flat (l.take i) ++ l[i].1 ++ flat (l.drop (i + 1)) := by
  have : l = l.take i ++ l[i] :: l.drop (i + 1) := by rw [← List.drop_eq_getElem_cons h, List.take_append_drop]
  conv => lhs; rw [this]
  rw [flat_append, List.append_assoc]
  rfl
theorem flat_set {l : List Sec} {i k : Nat} {b : List UInt8} (hb : b.length = 32) (hk : k ≤ 32) (h : i < l.length) : flat (l.set i (front k b hb hk l[i])) = sp (flat l) (32 * i) (b.take k) := by
  have hset : l.set i (front k b hb hk l[i]) = l.take i ++ front k b hb hk l[i] :: l.drop (i + 1) := by
    rw [List.set_eq_take_append_cons_drop, if_pos h]
  have hA : (flat (l.take i)).length = 32 * i := by rw [flat_length, List.length_take]; omega
  have hS := l[i].2
  have hbk : (b.take k).length = k := by rw [List.length_take]; omega
  rw [hset, flat_append, flat_split h]
  show flat (l.take i) ++ ((b.take k ++ l[i].1.drop k) ++ flat (l.drop (i + 1))) = _
  unfold sp
  rw [hbk]
  simp only [List.append_assoc]
  have hd : (flat (l.take i) ++ (l[i].1 ++ flat (l.drop (i + 1)))).drop (32 * i + k) = l[i].1.drop k ++ flat (l.drop (i + 1)) := by
    rw [← hA, List.drop_append, List.drop_append_of_le_length (by omega)]
    simp
  rw [List.take_left' hA, hd]
theorem flat_sec {l : List Sec} {i : Nat} (h : i < l.length) : l[i].1 = ((flat l).drop (32 * i)).take 32 := by
  have hA : (flat (l.take i)).length = 32 * i := by rw [flat_length, List.length_take]; omega
  rw [flat_split h, List.append_assoc, List.drop_left' hA, List.take_left' l[i].2]
theorem flat_take (l : List Sec) (k : Nat) : flat (l.take k) = (flat l).take (32 * k) := by
  by_cases h : k ≤ l.length
  · have h1 : flat l = flat (l.take k) ++ flat (l.drop k) := by rw [← flat_append, List.take_append_drop]
    rw [h1, List.take_left' (by rw [flat_length, List.length_take]; omega)]
  · rw [List.take_of_length_le (by omega), List.take_of_length_le (by rw [flat_length]; omega)]
theorem flat_drop (l : List Sec) (k : Nat) : flat (l.drop k) = (flat l).drop (32 * k) := by
  by_cases h : k ≤ l.length
  · have h1 : flat l = flat (l.take k) ++ flat (l.drop k) := by rw [← flat_append, List.take_append_drop]
    rw [h1, List.drop_left' (by rw [flat_length, List.length_take]; omega)]
  · rw [List.drop_eq_nil_of_le (by omega), List.drop_eq_nil_of_le (by rw [flat_length]; omega)]; rfl
/-- where a half begins; its octets -/
def hfrom (N h : Nat) : Nat := 32 * (1 + h * N)
def hocts (D : List UInt8) (N h : Nat) : List UInt8 := (D.drop (hfrom N h)).take (32 * N)
theorem hocts_flat (l : List Sec) (N h : Nat) : flat ((l.drop (1 + h * N)).take N) = hocts (flat l) N h := by
  unfold hocts hfrom
  rw [flat_take, flat_drop]
theorem hocts_length {D : List UInt8} {N h : Nat} (hD : D.length = 32 * (2 * N + 1)) (hh : h ≤ 1) : (hocts D N h).length = 32 * N := by
  unfold hocts hfrom
  rw [List.length_take, List.length_drop, hD]
  have : h * N ≤ 1 * N := Nat.mul_le_mul_right _ hh
  omega
theorem hocts_get {D : List UInt8} {N h p : Nat} (hp : p < 32 * N) : (hocts D N h)[p]? = D[hfrom N h + p]? := by
  unfold hocts
  rw [take_get, if_pos hp, List.getElem?_drop]
/-- how many sectors octets of such a length touch from a place on -/
def cnt (at_ len : Nat) : Nat := if len = 0 then 0 else (at_ + len + 31) / 32 - at_ / 32
def lcut (F : Int) (a len : Nat) : Bool := decide (0 ≤ F ∧ F < 32 * (cnt a len : Nat))
def lq (F : Int) (a len : Nat) : Nat := if 0 ≤ F ∧ F < 32 * (cnt a len : Nat) then min len (F.toNat - a % 32) else len
def larm (F : Int) (a len : Nat) : Int := if 0 ≤ F ∧ F < 32 * (cnt a len : Nat) then -1 else if F = -1 then -1 else F - 32 * (cnt a len : Nat)
theorem lq_le (F : Int) (a len : Nat) : lq F a len ≤ len := by unfold lq; split <;> omega
theorem lq_all {F : Int} {a len : Nat} (h : lcut F a len = false) : lq F a len = len := by
  unfold lcut at h
  have h := of_decide_eq_false h
  unfold lq
  rw [if_neg h]
theorem larm_ge {F : Int} (h : -1 ≤ F) (a len : Nat) : -1 ≤ larm F a len := by unfold larm; split; omega; split <;> omega
/-- a sector of what is to be laid, or its front, is written -/
theorem lay_one {D b : List UInt8} {N h a i k : Nat} (hD : D.length = 32 * (2 * N + 1)) (hh : h ≤ 1) (hfit : a + b.length ≤ 32 * N) (hi0 : a / 32 ≤ i) (hi : 32 * i < a + b.length) (hk : k ≤ 32) :
    sp (sp D (hfrom N h + a) (b.take (min b.length (32 * i - a)))) (hfrom N h + 32 * i) ((((sp (hocts D N h) a b).drop (32 * i)).take 32).take k) = sp D (hfrom N h + a) (b.take (min b.length (32 * i + k - a))) := by
  have hNh : h * N ≤ 1 * N := Nat.mul_le_mul_right _ hh
  have hfr : hfrom N h + 32 * N ≤ D.length := by unfold hfrom; omega
  have hol := hocts_length (D := D) hD hh
  have h32 : 32 * i + 32 ≤ 32 * N := by omega
  have hspl : (sp (hocts D N h) a b).length = 32 * N := by rw [sp_length (by omega), hol]
  have l1 : (b.take (min b.length (32 * i - a))).length = min b.length (32 * i - a) := by rw [List.length_take]; omega
  have l2 : (b.take (min b.length (32 * i + k - a))).length = min b.length (32 * i + k - a) := by rw [List.length_take]; omega
  have l3 : ((((sp (hocts D N h) a b).drop (32 * i)).take 32).take k).length = k := by simp only [List.length_take, List.length_drop]; omega
  have b1 : hfrom N h + a + (b.take (min b.length (32 * i - a))).length ≤ D.length := by rw [l1]; omega
  have b2 : hfrom N h + a + (b.take (min b.length (32 * i + k - a))).length ≤ D.length := by rw [l2]; omega
  have b3 : hfrom N h + 32 * i + ((((sp (hocts D N h) a b).drop (32 * i)).take 32).take k).length ≤ (sp D (hfrom N h + a) (b.take (min b.length (32 * i - a)))).length := by rw [l3, sp_length b1]; omega
  apply List.ext_getElem?
  intro j
  rw [sp_get b3, sp_get b2, sp_get b1, l1, l2, l3]
  have hX : ∀ p, p < 32 * N → (sp (hocts D N h) a b)[p]? = if p < a then D[hfrom N h + p]? else if p < a + b.length then b[p - a]? else D[hfrom N h + p]? := by
    intro p hp
    rw [sp_get (by omega), hocts_get hp]
  have hS : ∀ t, t < k → ((((sp (hocts D N h) a b).drop (32 * i)).take 32).take k)[t]? = (sp (hocts D N h) a b)[32 * i + t]? := by
    intro t ht
    rw [take_get, if_pos ht, take_get, if_pos (by omega), List.getElem?_drop]
  revert hX hS
  generalize (((sp (hocts D N h) a b).drop (32 * i)).take 32).take k = Z
  generalize sp (hocts D N h) a b = W
  generalize hfrom N h = f at *
  intro hX hS
  by_cases j1 : j < f + 32 * i
  · rw [if_pos j1]
    by_cases j2 : j < f + a
    · rw [if_pos j2, if_pos j2]
    · rw [if_neg j2, if_neg j2]
      by_cases j3 : j - (f + a) < b.length
      · rw [if_pos (by omega), if_pos (by omega), take_get, take_get, if_pos (by omega), if_pos (by omega)]
      · rw [if_neg (by omega), if_neg (by omega)]
  · rw [if_neg j1]
    by_cases j4 : j < f + 32 * i + k
    · rw [if_pos j4, hS _ (by omega), hX _ (by omega)]
      have e : 32 * i + (j - (f + 32 * i)) = j - f := by omega
      rw [e]
      by_cases j2 : j < f + a
      · rw [if_pos j2, if_pos (by omega)]
        congr 1; omega
      · rw [if_neg j2, if_neg (by omega)]
        by_cases j3 : j - (f + a) < b.length
        · rw [if_pos (by omega), if_pos (by omega), take_get, if_pos (by omega)]
          congr 1; omega
        · rw [if_neg (by omega), if_neg (by omega)]
          congr 1; omega
    · rw [if_neg j4]
      by_cases j2 : j < f + a
      · rw [if_pos j2, if_pos j2]
      · rw [if_neg j2, if_neg j2, if_neg (by omega), if_neg (by omega)]
/-! ### frames -/
theorem fget_take {l x : List UInt8} {k : Nat} (h : Frm.fget l = some (x, k)) : l.take k = Frm.fr x ∧ 1 ≤ x.length ∧ x.length ≤ 4096 := by
  unfold Frm.fget at h
  split at h
  · rename_i ho
    injection h with h; injection h with h1 h2
    obtain ⟨h3, h4, h5, h6, h7⟩ := ho
    have hf := (Frm.ok_iff h3 h4 h6).1 h7
    subst h1 h2
    refine ⟨hf.symm, ?_, ?_⟩ <;> (rw [List.length_take, List.length_drop]; omega)
  · cases h
def cat (ls : List (List UInt8)) : List UInt8 := (ls.map Frm.fr).flatten
theorem cat_nil : cat [] = [] := rfl
theorem cat_cons (x : List UInt8) (ls : List (List UInt8)) : cat (x :: ls) = Frm.fr x ++ cat ls := rfl
theorem cat_append (a b : List (List UInt8)) : cat (a ++ b) = cat a ++ cat b := by simp [cat]
theorem cat_one (b : List UInt8) : cat [b] = Frm.fr b := by simp [cat]
def Oks (ls : List (List UInt8)) : Prop := ∀ x ∈ ls, 1 ≤ x.length ∧ x.length ≤ 4096
theorem frames_front (l : List UInt8) : l.take (Frm.upto l) = cat (Frm.frames l) ∧ Oks (Frm.frames l) ∧ Frm.upto l ≤ l.length := by
  have key : ∀ (k : Nat) (l : List UInt8), l.length ≤ k → l.take (Frm.upto l) = cat (Frm.frames l) ∧ Oks (Frm.frames l) ∧ Frm.upto l ≤ l.length := by
    intro k
    induction k with
    | zero =>
      intro l hl
      have h0 : l = [] := List.eq_nil_of_length_eq_zero (by omega)
      subst h0
      have := Frm.frames_none (l := []) rfl
      rw [this.1, this.2]
      exact ⟨rfl, fun _ h => (List.not_mem_nil h).elim, Nat.le_refl _⟩
    | succ k ih =>
      intro l hl
      cases hq : Frm.fget l with
      | none =>
        have := Frm.frames_none hq
        rw [this.1, this.2]
        exact ⟨rfl, fun _ h => (List.not_mem_nil h).elim, Nat.zero_le _⟩
      | some r =>
        obtain ⟨x, n⟩ := r
        have hb := Frm.fget_bound hq
        obtain ⟨h1, h2, h3⟩ := fget_take hq
        have := Frm.frames_some hq
        rw [this.1, this.2]
        obtain ⟨i1, i2, i3⟩ := ih (l.drop n) (by rw [List.length_drop]; omega)
        rw [List.length_drop] at i3
        refine ⟨by rw [List.take_add, h1, i1, cat_cons], fun y hy => ?_, by omega⟩
        rcases List.mem_cons.1 hy with rfl | hy
        · exact ⟨h2, h3⟩
        · exact i2 y hy
  exact key _ l (Nat.le_refl _)
theorem fget_zeros (z : Nat) : Frm.fget (List.replicate z 0) = none := by
  have := Frm.fget_cut (b := []) (k := 0) (z := z) (by simp) (by simp)
  simpa using this
theorem frames_cat {ls : List (List UInt8)} (h : Oks ls) (z : Nat) : Frm.frames (cat ls ++ List.replicate z 0) = ls ∧ Frm.upto (cat ls ++ List.replicate z 0) = (cat ls).length := by
  induction ls with
  | nil =>
    have := Frm.frames_none (fget_zeros z)
    exact ⟨this.1, this.2⟩
  | cons x ls ih =>
    have hx := h x List.mem_cons_self
    obtain ⟨i1, i2⟩ := ih fun y hy => h y (List.mem_cons_of_mem _ hy)
    have hg := Frm.fget_fr (b := x) (t := cat ls ++ List.replicate z 0) hx.1 hx.2
    rw [cat_cons, List.append_assoc, (Frm.frames_some hg).1, (Frm.frames_some hg).2, List.drop_left' (Frm.fr_length x), i1, i2, List.length_append, Frm.fr_length]
    exact ⟨rfl, rfl⟩
end Go.Proofs.Ytkhmplaocfjpjaa.Sep
