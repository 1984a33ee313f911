/- what holds of a log, plainly: its half is frames, with octets 0 behind. No function in sight. -/
import Derived.Test.YtkhmplaocfjpjaaWal7
namespace Go.Proofs.Ytkhmplaocfjpjaa.Sep
set_option maxRecDepth 100000
theorem hfrom_le {N h : Nat} (hh : h ≤ 1) : 32 ≤ hfrom N h ∧ hfrom N h + 32 * N ≤ 32 * (2 * N + 1) := by
  unfold hfrom
  have : h * N ≤ 1 * N := Nat.mul_le_mul_right _ hh
  omega
theorem hocts_sp {D x : List UInt8} {N h a : Nat} (hD : D.length = 32 * (2 * N + 1)) (hh : h ≤ 1) (ha : a + x.length ≤ 32 * N) : hocts (sp D (hfrom N h + a) x) N h = sp (hocts D N h) a x := by
  have hf := hfrom_le (N := N) hh
  have hl := hocts_length hD hh
  have h1 : hfrom N h + a + x.length ≤ D.length := by omega
  have h2 : a + x.length ≤ (hocts D N h).length := by omega
  have hl2 := hocts_length (D := sp D (hfrom N h + a) x) (by rw [sp_length h1]; exact hD) hh
  apply List.ext_getElem?
  intro j
  by_cases hj : j < 32 * N
  · rw [hocts_get hj, sp_get h1, sp_get h2, hocts_get hj]
    by_cases j1 : j < a
    · rw [if_pos (by omega), if_pos j1]
    · rw [if_neg (by omega), if_neg j1]
      by_cases j2 : j < a + x.length
      · rw [if_pos (by omega), if_pos j2]; congr 1; omega
      · rw [if_neg (by omega), if_neg j2]
  · rw [List.getElem?_eq_none (by omega), List.getElem?_eq_none (by rw [sp_length h2]; omega)]
theorem hocts_away {D x : List UInt8} {N h o : Nat} (hD : D.length = 32 * (2 * N + 1)) (hh : h ≤ 1) (ho : o + x.length ≤ D.length) (haway : o + x.length ≤ hfrom N h ∨ hfrom N h + 32 * N ≤ o) : hocts (sp D o x) N h = hocts D N h := by
  have hf := hfrom_le (N := N) hh
  have hl := hocts_length hD hh
  have hl2 := hocts_length (D := sp D o x) (by rw [sp_length ho]; exact hD) hh
  apply List.ext_getElem?
  intro j
  by_cases hj : j < 32 * N
  · rw [hocts_get hj, sp_get ho, hocts_get hj]
    by_cases j1 : hfrom N h + j < o
    · rw [if_pos j1]
    · rw [if_neg j1, if_neg (by omega)]
  · rw [List.getElem?_eq_none (by omega), List.getElem?_eq_none (by omega)]
theorem sp_zeros {c x : List UInt8} {z : Nat} (h : x.length ≤ z) : sp (c ++ List.replicate z 0) c.length x = c ++ x ++ List.replicate (z - x.length) 0 := by
  unfold sp
  rw [List.take_left' rfl, List.drop_append, List.drop_of_length_le (by omega), List.nil_append, show c.length + x.length - c.length = x.length by omega, List.drop_replicate]
structure Inv (s : LS) : Prop where
  len : s.D.length = 32 * (2 * s.N + 1)
  n0 : 1 ≤ s.N
  n1 : s.N ≤ 64
  oks : Oks s.recs
  dur : s.dur ≤ s.recs.length
  pos : s.pos = (cat (s.recs.take s.dur)).length
  pend : s.pend = cat (s.recs.drop s.dur)
  half : hocts s.D s.N (hb s.D) = cat (s.recs.take s.dur) ++ List.replicate (32 * s.N - s.pos) 0
  fit : s.pos + s.pend.length ≤ 32 * s.N
theorem cat_all {s : LS} (_ : Inv s) : cat s.recs = cat (s.recs.take s.dur) ++ cat (s.recs.drop s.dur) := by rw [← cat_append, List.take_append_drop]
theorem hb_zeros (k : Nat) : hb (List.replicate k 0) = 0 := by
  unfold hb
  cases k <;> rfl
theorem Inv.new {k : Nat} (h0 : 1 ≤ k) (h1 : k ≤ 64) : Inv (LS.new k) := by
  unfold LS.new
  refine ⟨List.length_replicate, h0, h1, fun _ h => (List.not_mem_nil h).elim, Nat.le_refl _, rfl, rfl, ?_, Nat.zero_le _⟩
  show hocts (List.replicate (32 * (2 * k + 1)) 0) k _ = [] ++ List.replicate (32 * k - 0) 0
  rw [hb_zeros]
  unfold hocts hfrom
  rw [List.drop_replicate, List.take_replicate, List.nil_append]
  congr 1
  omega
/-- the same log, but for what is pending -/
structure Like (s0 s : LS) : Prop where
  n : s.N = s0.N
  d : s.D = s0.D
  dead : s.dead = s0.dead
  armed : s.armed = s0.armed
  dur : s.dur = s0.dur
  front : s.recs.take s0.dur = s0.recs.take s0.dur
theorem Like.refl (s : LS) : Like s s := ⟨rfl, rfl, rfl, rfl, rfl, rfl⟩
theorem append_recs {s : LS} {b : List UInt8} : (s.append b).2 = s ∨ ((s.append b).1 = 0 ∧ 1 ≤ b.length ∧ b.length ≤ 4096 ∧ s.pos + s.pend.length + (b.length + 7) ≤ 32 * s.N + (s.pos + s.pend.length - 32 * s.N) ∧ (s.append b).2 = ⟨s.N, s.D, s.recs ++ [b], s.dur, s.pos, s.pend ++ Frm.fr b, s.dead, s.armed⟩) := by
  unfold LS.append
  by_cases h1 : b.length = 0
  · rw [if_pos h1]; exact .inl rfl
  rw [if_neg h1]
  by_cases h2 : 4096 < b.length
  · rw [if_pos h2]; exact .inl rfl
  rw [if_neg h2]
  by_cases h3 : 32 * s.N - s.pos - s.pend.length < b.length + 7
  · rw [if_pos h3]; exact .inl rfl
  rw [if_neg h3]
  exact .inr ⟨rfl, by omega, by omega, by omega, rfl⟩
theorem Inv.append {s : LS} (h : Inv s) (b : List UInt8) : Inv (s.append b).2 := by
  rcases append_recs (s := s) (b := b) with h1 | ⟨_, h1, h2, h3, h4⟩
  · rw [h1]; exact h
  · rw [h4]
    have hf := h.fit
    have hd := h.dur
    have ht : (s.recs ++ [b]).take s.dur = s.recs.take s.dur := List.take_append_of_le_length hd
    refine ⟨h.len, h.n0, h.n1, fun x hx => ?_, by dsimp only; rw [List.length_append]; omega, by dsimp only; rw [ht]; exact h.pos, ?_, by dsimp only; rw [ht]; exact h.half, by dsimp only; rw [List.length_append, Frm.fr_length]; omega⟩
    · rcases List.mem_append.1 hx with hx | hx
      · exact h.oks x hx
      · rw [List.mem_singleton] at hx
        subst hx
        exact ⟨h1, h2⟩
    · dsimp only
      rw [List.drop_append_of_le_length hd, cat_append, cat_one, h.pend]
theorem Like.append {s0 s : LS} (h : Like s0 s) (hi : Inv s) (b : List UInt8) : Like s0 (s.append b).2 := by
  rcases append_recs (s := s) (b := b) with h1 | ⟨_, _, _, _, h4⟩
  · rw [h1]; exact h
  · rw [h4]
    have hd := hi.dur
    rw [h.dur] at hd
    exact ⟨h.n, h.d, h.dead, h.armed, h.dur, by dsimp only; rw [List.take_append_of_le_length hd]; exact h.front⟩
theorem lcut_free (a len : Nat) : lcut (-1) a len = false := by unfold lcut; exact decide_eq_false (by omega)
theorem larm_free (a len : Nat) : larm (-1) a len = -1 := by unfold larm; rw [if_neg (by omega), if_pos rfl]
/-- synced, where it does not die -/
theorem sync_ok {s : LS} (hd : s.dead = false) (hc : lcut s.armed s.pos s.pend.length = false) : s.sync = (0, ⟨s.N, sp s.D (hfrom s.N (hb s.D) + s.pos) s.pend, s.recs, s.recs.length, s.pos + s.pend.length, [], false, larm s.armed s.pos s.pend.length⟩) := by
  unfold LS.sync
  rw [if_neg (by rw [hd]; exact Bool.false_ne_true), if_neg (by rw [hc]; exact Bool.false_ne_true)]
theorem sync_cut {s : LS} (hd : s.dead = false) (hc : lcut s.armed s.pos s.pend.length = true) : s.sync = (19, ⟨s.N, sp s.D (hfrom s.N (hb s.D) + s.pos) (s.pend.take (lq s.armed s.pos s.pend.length)), s.recs, s.dur, s.pos, s.pend, true, larm s.armed s.pos s.pend.length⟩) := by
  unfold LS.sync
  rw [if_neg (by rw [hd]; exact Bool.false_ne_true), if_pos hc]
/-- of what was pending a front stands -/
theorem laid {s : LS} (h : Inv s) (q : Nat) (hq : q ≤ s.pend.length) : hb (sp s.D (hfrom s.N (hb s.D) + s.pos) (s.pend.take q)) = hb s.D ∧ (sp s.D (hfrom s.N (hb s.D) + s.pos) (s.pend.take q)).length = 32 * (2 * s.N + 1) ∧
    hocts (sp s.D (hfrom s.N (hb s.D) + s.pos) (s.pend.take q)) s.N (hb s.D) = (cat s.recs).take (s.pos + q) ++ List.replicate (32 * s.N - (s.pos + q)) 0 := by
  have hf := hfrom_le (N := s.N) (hb_le s.D)
  have hfit := h.fit
  have hlen := h.len
  have hql : (s.pend.take q).length = q := by rw [List.length_take]; omega
  have hin : hfrom s.N (hb s.D) + s.pos + (s.pend.take q).length ≤ s.D.length := by omega
  refine ⟨hb_sp (by omega) hin, by rw [sp_length hin]; exact hlen, ?_⟩
  rw [hocts_sp hlen (hb_le _) (by omega), h.half]
  have hp := h.pos
  conv => lhs; rw [show sp (cat (s.recs.take s.dur) ++ List.replicate (32 * s.N - s.pos) 0) s.pos (s.pend.take q) = sp (cat (s.recs.take s.dur) ++ List.replicate (32 * s.N - s.pos) 0) (cat (s.recs.take s.dur)).length (s.pend.take q) by rw [← hp]]
  rw [sp_zeros (by omega), hql, cat_all h, List.take_append, List.take_of_length_le (l := cat (s.recs.take s.dur)) (i := s.pos + q) (by omega), h.pend, ← hp, show s.pos + q - s.pos = q by omega, show 32 * s.N - s.pos - q = 32 * s.N - (s.pos + q) by omega]
theorem cat_take_mono (v : List (List UInt8)) {i j : Nat} (h : i ≤ j) : (cat (v.take i)).length ≤ (cat (v.take j)).length := by
  have : v.take i = (v.take j).take i := by rw [List.take_take, Nat.min_eq_left h]
  rw [this]
  have h2 : v.take j = (v.take j).take i ++ (v.take j).drop i := (List.take_append_drop _ _).symm
  conv => rhs; rw [h2, cat_append, List.length_append]
  omega
/-- .. opened again: some of the first ones -/
theorem found {s : LS} (h : Inv s) (q : Nat) (hq : q ≤ s.pend.length) : ∃ k, s.dur ≤ k ∧ k ≤ s.recs.length ∧ (q = s.pend.length → k = s.recs.length) ∧ Frm.frames ((cat s.recs).take (s.pos + q) ++ List.replicate (32 * s.N - (s.pos + q)) 0) = s.recs.take k := by
  have hcl : (cat s.recs).length = s.pos + s.pend.length := by rw [cat_all h, List.length_append, ← h.pos, ← h.pend]
  obtain ⟨k, h1, h2, h3, h4⟩ := Frm.frames_cut s.recs h.oks (s.pos + q) (32 * s.N - (s.pos + q)) (by show _ ≤ (cat s.recs).length; omega)
  change (cat (s.recs.take k)).length ≤ _ at h3
  change k < s.recs.length → _ < (cat (s.recs.take (k + 1))).length at h4
  refine ⟨k, ?_, h1, fun hqq => ?_, h2⟩
  · by_cases hk : k < s.dur
    · have hd := h.dur
      have h5 := h4 (by omega)
      have h6 := cat_take_mono s.recs (show k + 1 ≤ s.dur by omega)
      have h7 := h.pos
      omega
    · omega
  · by_cases hk : k < s.recs.length
    · have h5 := h4 hk
      have h6 := cat_take_mono s.recs (show k + 1 ≤ s.recs.length by omega)
      rw [List.take_length] at h6
      omega
    · omega
/-- opened: a log in order -/
theorem Inv.open {N : Nat} {D : List UInt8} {F : Int} (hD : D.length = 32 * (2 * N + 1)) (h0 : 1 ≤ N) (h1 : N ≤ 64) : Inv (LS.open N D F) := by
  have hXl := hocts_length hD (hb_le D)
  have hf := hfrom_le (N := N) (hb_le D)
  obtain ⟨f1, f2, f3⟩ := frames_front (hocts D N (hb D))
  have hps : Frm.upto (hocts D N (hb D)) = (cat (Frm.frames (hocts D N (hb D)))).length := by rw [← f1, List.length_take]; omega
  have hge := tend_ge (X := hocts D N (hb D)) (p := Frm.upto (hocts D N (hb D))) (k := 32 * N) (by omega)
  have hle := tend_le (hocts D N (hb D)) (Frm.upto (hocts D N (hb D))) (32 * N)
  have hot : otail D N = tend (hocts D N (hb D)) (Frm.upto (hocts D N (hb D))) (32 * N) - Frm.upto (hocts D N (hb D)) := rfl
  have hrl : (List.replicate (otail D N) (0 : UInt8)).length = otail D N := List.length_replicate
  have hin : hfrom N (hb D) + Frm.upto (hocts D N (hb D)) + (List.replicate (otail D N) (0 : UInt8)).length ≤ D.length := by omega
  have hbb : hb (sp D (hfrom N (hb D) + Frm.upto (hocts D N (hb D))) (List.replicate (otail D N) 0)) = hb D := hb_sp (by omega) hin
  unfold LS.open
  refine ⟨by dsimp only; rw [sp_length hin]; exact hD, h0, h1, f2, Nat.le_refl _, by dsimp only; rw [List.take_length]; exact hps, by dsimp only; rw [List.drop_length]; rfl, ?_, by dsimp only [List.length_nil]; omega⟩
  dsimp only
  rw [hbb, hocts_sp hD (hb_le D) (by omega), List.take_length, ← f1]
  apply List.ext_getElem?
  intro j
  have hl1 : ((hocts D N (hb D)).take (Frm.upto (hocts D N (hb D)))).length = Frm.upto (hocts D N (hb D)) := by rw [List.length_take]; omega
  rw [sp_get (by omega), hrl]
  by_cases j1 : j < Frm.upto (hocts D N (hb D))
  · rw [if_pos j1, List.getElem?_append_left (by omega), take_get, if_pos j1]
  · rw [if_neg j1, List.getElem?_append_right (by omega), hl1]
    by_cases j2 : j < Frm.upto (hocts D N (hb D)) + otail D N
    · rw [if_pos j2, List.getElem?_replicate, List.getElem?_replicate, if_pos (by omega), if_pos (by omega)]
    · rw [if_neg j2, List.getElem?_replicate]
      by_cases j3 : j < 32 * N
      · rw [if_pos (by omega)]
        exact tend_zero (p := Frm.upto (hocts D N (hb D))) (k := 32 * N) (by omega) j3
      · rw [if_neg (by omega), List.getElem?_eq_none (by omega)]
/-- opened where only frames, and octets 0, are: nothing is written -/
theorem tend_zeros {c : List UInt8} {z : Nat} : tend (c ++ List.replicate z 0) c.length (c.length + z) = c.length := by
  induction z with
  | zero =>
    cases hc : c.length with
    | zero => rfl
    | succ k => unfold tend; rw [if_neg (fun h => absurd h.1 (by omega))]
  | succ z ih =>
    have hstep : ∀ k, k ≤ c.length + z → tend (c ++ List.replicate (z + 1) 0) c.length k = tend (c ++ List.replicate z 0) c.length k := by
      intro k
      induction k with
      | zero => intro _; rfl
      | succ k ihk =>
        intro hk
        unfold tend
        have : (c ++ List.replicate (z + 1) (0 : UInt8))[k]? = (c ++ List.replicate z 0)[k]? := by
          by_cases h : k < c.length
          · rw [List.getElem?_append_left h, List.getElem?_append_left h]
          · rw [List.getElem?_append_right (by omega), List.getElem?_append_right (by omega), List.getElem?_replicate, List.getElem?_replicate, if_pos (by omega), if_pos (by omega)]
        rw [this, ihk (by omega)]
    show tend _ _ ((c.length + z) + 1) = _
    unfold tend
    rw [if_pos ⟨by omega, by rw [List.getElem?_append_right (by omega), List.getElem?_replicate, if_pos (by omega)]⟩, hstep _ (Nat.le_refl _)]
    exact ih
theorem open_clean {s : LS} (h : Inv s) (F : Int) : otail s.D s.N = 0 ∧ Frm.upto (hocts s.D s.N (hb s.D)) = s.pos ∧ Frm.frames (hocts s.D s.N (hb s.D)) = s.recs.take s.dur ∧ LS.open s.N s.D F = ⟨s.N, s.D, s.recs.take s.dur, s.dur, s.pos, [], false, larm F s.pos 0⟩ := by
  have hox : Oks (s.recs.take s.dur) := fun x hx => h.oks x (List.mem_of_mem_take hx)
  have hfc := frames_cat hox (32 * s.N - s.pos)
  have hfit := h.fit
  rw [← h.half] at hfc
  have hup : Frm.upto (hocts s.D s.N (hb s.D)) = s.pos := by rw [hfc.2, h.pos]
  have hot : otail s.D s.N = 0 := by
    unfold otail
    rw [hup]
    have ht := tend_zeros (c := cat (s.recs.take s.dur)) (z := 32 * s.N - s.pos)
    rw [← h.half, ← h.pos, show s.pos + (32 * s.N - s.pos) = 32 * s.N by omega] at ht
    rw [ht, Nat.sub_self]
  refine ⟨hot, hup, hfc.1, ?_⟩
  unfold LS.open
  rw [hot, hup, hfc.1, List.replicate_zero, sp_nil, List.length_take, Nat.min_eq_left h.dur]
end Go.Proofs.Ytkhmplaocfjpjaa.Sep
