/- Records as octets: what the page says of each kind. No function in sight. -/
import Derived.Test.YtncfkkmdhdofpaaRec4
namespace Go.Proofs.Ytncfkkmdhdofpaa.Sep
open Go.Proofs.Ytncfkkmdhdofpaa.Oct
set_option maxRecDepth 100000
theorem kget_len {b : List UInt8} {x : Rcd} (h : kget b = some x) : (x.kind = 1 ∧ b.length = 23) ∨ (x.kind = 2 ∧ b.length = 4) ∨ (x.kind = 3 ∧ b.length = 10) ∨ (x.kind = 4 ∧ b.length = 6) := by
  unfold kget at h
  split at h
  case isFalse => cases h
  rename_i hh
  injection h with h
  subst h
  obtain ⟨hf, hp⟩ := hh
  have hlen := congrArg List.length hp
  unfold fitK at hf
  unfold putK at hlen
  split at hf
  · rename_i h1
    rw [if_pos h1] at hlen
    refine .inl ⟨h1, ?_⟩
    simp [Chg.put_length] at hlen
    omega
  · rename_i h1
    rw [if_neg h1] at hlen
    split at hf
    · rename_i h2
      rw [if_pos h2] at hlen
      refine .inr (.inl ⟨h2, ?_⟩)
      simp [idnB_length] at hlen
      omega
    · rename_i h2
      rw [if_neg h2] at hlen
      split at hf
      · rename_i h3
        rw [if_pos h3] at hlen
        refine .inr (.inr (.inl ⟨h3, ?_⟩))
        simp [keyB_length, be_length] at hlen
        omega
      · rename_i h3
        rw [if_neg h3] at hlen
        split at hf
        · rename_i h4
          refine .inr (.inr (.inr ⟨h4, ?_⟩))
          simp [keyB_length] at hlen
          omega
        · cases hf
theorem rdK_kind (b : List UInt8) : (rdK b).kind = (va recW b 0 : Nat) := by
  by_cases h1 : va recW b 0 = 1
  · rw [rdK_1 h1, h1]; rfl
  by_cases h2 : va recW b 0 = 2
  · rw [rdK_2 h2, h2]; rfl
  by_cases h3 : va recW b 0 = 3
  · rw [rdK_3 h3, h3]; rfl
  by_cases h4 : va recW b 0 = 4
  · rw [rdK_4 h4, h4]; rfl
  rw [rdK_0 (by omega)]
theorem kget_none {b : List UInt8} (h : ¬ (fld b 0 1 = 1 ∧ b.length = 23 ∨ fld b 0 1 = 2 ∧ b.length = 4 ∨ fld b 0 1 = 3 ∧ b.length = 10 ∨ fld b 0 1 = 4 ∧ b.length = 6)) : kget b = none := by
  cases hk : kget b with
  | none => rfl
  | some x =>
    exfalso
    have hl := kget_len hk
    have hx : x = rdK b := by
      unfold kget at hk
      split at hk
      · injection hk with hk; exact hk.symm
      · cases hk
    have hkind := rdK_kind b
    rw [← hx] at hkind
    have hv := (recRun (b := b) rfl).2.2.2 (by omega)
    rw [hv] at hkind
    omega
theorem kget_1 {b : List UInt8} (h0 : fld b 0 1 = 1) (hn : b.length = 23) : kget b = (cget (b.drop 1)).map R1 := by
  have hv := (recRun (b := b) rfl).2.2.2 (by omega)
  have hb := head_eq (x := 1) (by omega) h0
  unfold kget
  rw [rdK_1 (by omega)]
  unfold part1
  cases hc : cget (b.drop 1) with
  | none =>
    rw [if_neg]
    · rfl
    · rintro ⟨hf, _⟩
      have : chgT_z.may = true := hf
      revert this
      decide
  | some c =>
    obtain ⟨_, hm, hp, _⟩ := cget_some hc
    rw [if_pos]
    · rfl
    · refine ⟨hm, ?_⟩
      show [1] ++ c.put = b
      rw [hp]
      exact hb.symm
theorem kget_2 {b : List UInt8} (h0 : fld b 0 1 = 2) (hn : b.length = 4) : kget b = if (idnOf b).may = true then some (R2 (idnOf b)) else none := by
  have hv := (recRun (b := b) rfl).2.2.2 (by omega)
  have hr := (recRun (b := b) rfl).1 (by omega)
  have hb := head_eq (x := 2) (by omega) h0
  unfold kget
  rw [rdK_2 (by omega), hr]
  refine ite_iff ⟨fun h => h.1, fun h => ⟨h, ?_⟩⟩
  show [2] ++ idnB (idnOf b) = b
  rw [front3 (by omega), List.take_of_length_le (by simp; omega)]
  exact hb.symm
theorem kget_3 {b : List UInt8} (h0 : fld b 0 1 = 3) (hn : b.length = 10) : kget b = if fld b 5 1 ≤ 1 ∧ ((keyOf b).may && now_ok (fld b 6 4)) = true then some (R3 (keyOf b) (fld b 6 4)) else none := by
  have hv := (recRun (b := b) rfl).2.2.2 (by omega)
  have hr := (recRun (b := b) rfl).2.1 (by omega)
  have hw := (recRun (b := b) rfl).2.2.1 (by omega)
  have hb := head_eq (x := 3) (by omega) h0
  have hput : putK (R3 (keyOf b) (fld b 6 4)) = b ↔ fld b 5 1 ≤ 1 := by
    have e : putK (R3 (keyOf b) (fld b 6 4)) = 3 :: (keyB (keyOf b) ++ be (fld b 6 4) 4) := by
      show [3] ++ keyB (keyOf b) ++ be ((fld b 6 4 : Nat) : Int).toNat 4 = _
      rw [Int.toNat_natCast]
      simp
    have e2 : b.drop 1 = (b.drop 1).take 5 ++ (b.drop 6).take 4 := by
      rw [List.take_of_length_le (l := b.drop 6) (by simp; omega)]
      have := (List.take_append_drop 5 (b.drop 1)).symm
      rw [List.drop_drop] at this
      exact this
    rw [e, be_fld (by omega), ← keyB_eq (by omega)]
    constructor
    · intro h
      rw [hb] at h
      injection h with _ h
      have h2 : keyB (keyOf b) ++ (b.drop 6).take 4 = b.drop 1 := by
        have h3 := congrArg (List.drop 1) h
        rw [hb]
        simpa using h
      rw [e2] at h2
      exact List.append_cancel_right h2
    · intro h
      rw [h, ← e2]
      exact hb.symm
  unfold kget
  rw [rdK_3 (by omega), hr, hw]
  exact ite_iff ⟨fun h => ⟨hput.1 h.2, h.1⟩, fun h => ⟨h.2, hput.2 h.1⟩⟩
theorem kget_4 {b : List UInt8} (h0 : fld b 0 1 = 4) (hn : b.length = 6) : kget b = if fld b 5 1 ≤ 1 ∧ (keyOf b).may = true then some (R4 (keyOf b)) else none := by
  have hv := (recRun (b := b) rfl).2.2.2 (by omega)
  have hr := (recRun (b := b) rfl).2.1 (by omega)
  have hb := head_eq (x := 4) (by omega) h0
  have hput : putK (R4 (keyOf b)) = b ↔ fld b 5 1 ≤ 1 := by
    have e : putK (R4 (keyOf b)) = 4 :: keyB (keyOf b) := rfl
    have e2 : b.drop 1 = (b.drop 1).take 5 := (List.take_of_length_le (by simp; omega)).symm
    rw [e, ← keyB_eq (by omega), ← e2]
    constructor
    · intro h
      have h3 := congrArg (List.drop 1) h
      simpa using h3
    · intro h
      rw [h]
      exact hb.symm
  unfold kget
  rw [rdK_4 (by omega), hr]
  exact ite_iff ⟨fun h => ⟨hput.1 h.2, h.1⟩, fun h => ⟨h.2, hput.2 h.1⟩⟩
end Go.Proofs.Ytncfkkmdhdofpaa.Sep
