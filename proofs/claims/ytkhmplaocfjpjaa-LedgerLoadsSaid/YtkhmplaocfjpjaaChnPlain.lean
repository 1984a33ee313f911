/- Chains: what each call comes to. No function in sight. -/
import Derived.Test.YtkhmplaocfjpjaaApiChn
import Derived.Test.YtkhmplaocfjpjaaEnt2
namespace Go.Proofs.Ytkhmplaocfjpjaa.Sep
set_option maxRecDepth 100000
/-- is one of the first i not wanted any more? -/
def lost (want : List Eff) (l : List Ent) : Nat → Bool
  | 0 => false
  | i + 1 => lost want l i || (match l[i]? with | some e => e.gone || decide (want[i]? ≠ some e.what) | none => false)
def Ent.mark (e : Ent) (g : Bool) : Ent := ⟨e.ord, e.what, e.sent, e.last, e.acked, g, e.back, e.backLast⟩
def Ent.ack (e : Ent) : Ent := ⟨e.ord, e.what, e.sent, e.last, true, e.gone, e.back, e.backLast⟩
def settle (want : List Eff) (l : List Ent) : List Ent := l.mapIdx fun i e => e.mark (lost want l (i + 1))
theorem settle_length (want : List Eff) (l : List Ent) : (settle want l).length = l.length := by simp [settle]
theorem settle_at {want : List Eff} {l : List Ent} {i : Nat} {e : Ent} (h : l[i]? = some e) : (settle want l)[i]? = some (e.mark (lost want l (i + 1))) := by
  simp [settle, List.getElem?_mapIdx, h]
theorem lost_succ {want : List Eff} {l : List Ent} {i : Nat} {e : Ent} (h : l[i]? = some e) : lost want l (i + 1) = (lost want l i || (e.gone || decide (want[i]? ≠ some e.what))) := by
  simp only [lost, h]
/-- what stands while the first i are settled -/
def stage (want : List Eff) (l : List Ent) (i : Nat) : List Ent := l.mapIdx fun j e => if j < i then e.mark (lost want l (j + 1)) else e
theorem stage_zero (want : List Eff) (l : List Ent) : stage want l 0 = l := by
  refine List.ext_getElem? fun j => ?_
  simp only [stage, List.getElem?_mapIdx, Nat.not_lt_zero, if_false]
  cases l[j]? <;> rfl
theorem stage_all {want : List Eff} {l : List Ent} {n : Nat} (h : n = l.length) : stage want l n = settle want l := by
  refine List.ext_getElem? fun j => ?_
  simp only [stage, settle, List.getElem?_mapIdx]
  cases hj : l[j]? with
  | none => rfl
  | some e =>
    have := (List.getElem?_eq_some_iff.1 hj).1
    simp only [Option.map_some]
    rw [if_pos (by omega)]
theorem stage_at {want : List Eff} {l : List Ent} {i : Nat} {e : Ent} (h : l[i]? = some e) : (stage want l i)[i]? = some e := by
  simp only [stage, List.getElem?_mapIdx, h, Option.map_some, Nat.lt_irrefl, if_false]
theorem stage_length (want : List Eff) (l : List Ent) (i : Nat) : (stage want l i).length = l.length := by simp [stage]
theorem stage_set {want : List Eff} {l : List Ent} {i : Nat} {e : Ent} (h : l[i]? = some e) : (stage want l i).set i (e.mark (lost want l (i + 1))) = stage want l (i + 1) := by
  have hi := (List.getElem?_eq_some_iff.1 h).1
  refine List.ext_getElem? fun j => ?_
  rw [List.getElem?_set, stage_length]
  by_cases hj : i = j
  · subst hj
    rw [if_pos rfl, if_pos hi]
    simp only [stage, List.getElem?_mapIdx, h, Option.map_some]
    rw [if_pos (by omega)]
  · rw [if_neg hj]
    simp only [stage, List.getElem?_mapIdx]
    cases l[j]? with
    | none => rfl
    | some x =>
      simp only [Option.map_some]
      by_cases hlt : j < i
      · rw [if_pos hlt, if_pos (by omega)]
      · rw [if_neg hlt, if_neg (by omega)]
theorem settle_take {want : List Eff} {l : List Ent} {i : Nat} {e : Ent} (h : l[i]? = some e) : (settle want l).take i ++ [e.mark (lost want l (i + 1))] = (settle want l).take (i + 1) := by
  have hs := settle_at (want := want) h
  obtain ⟨h1, h2⟩ := List.getElem?_eq_some_iff.1 hs
  rw [List.take_succ_eq_append_getElem h1, h2]
/-- the ways that 'lost' goes on -/
theorem lost_yes {want : List Eff} {l : List Ent} {i : Nat} {e : Ent} (h : l[i]? = some e) (hy : lost want l i = true ∨ e.gone = true ∨ want.length ≤ i) : lost want l (i + 1) = true := by
  rw [lost_succ h]
  rcases hy with h1 | h1 | h1
  · rw [h1]; rfl
  · rw [h1]; simp
  · rw [List.getElem?_eq_none h1]; simp
theorem lost_eq {want : List Eff} {l : List Ent} {i : Nat} {e : Ent} {w : Eff} (h : l[i]? = some e) (h1 : lost want l i = false) (h2 : e.gone = false) (hw : want[i]? = some w) : lost want l (i + 1) = !decide (e.what = w) := by
  rw [lost_succ h, h1, h2, hw, Bool.false_or, Bool.false_or, Bool.eq_iff_iff]
  simp
  exact ⟨fun h e => h e.symm, fun h e => h e.symm⟩
theorem lost_mono {want : List Eff} {l : List Ent} {i : Nat} (h : lost want l i = true) : lost want l (i + 1) = true := by
  simp only [lost, h, Bool.true_or]
/-- a new one -/
def fresh (id : Idn) (made : Int) (n : Nat) (want : List Eff) : Option Req := match want[n]? with | some f => if made < 255 then some ⟨⟨id, made + 1, false⟩, f⟩ else none | none => none
theorem fresh_no {id : Idn} {made : Int} {n : Nat} {want : List Eff} (h : want.length ≤ n ∨ 255 ≤ made) : fresh id made n want = none := by
  unfold fresh
  split
  · rename_i f hf
    have := (List.getElem?_eq_some_iff.1 hf).1
    exact if_neg (by omega)
  · rfl
theorem fresh_yes {id : Idn} {made : Int} {n : Nat} {want : List Eff} {f : Eff} (h : want[n]? = some f) (h2 : made < 255) : fresh id made n want = some ⟨⟨id, made + 1, false⟩, f⟩ := by
  unfold fresh
  rw [h]
  exact if_pos h2
theorem fresh_some {id : Idn} {made : Int} {n : Nat} {want : List Eff} {q : Req} (h : fresh id made n want = some q) : made < 255 ∧ ∃ f, want[n]? = some f ∧ q = ⟨⟨id, made + 1, false⟩, f⟩ := by
  unfold fresh at h
  split at h
  · rename_i f hf
    split at h
    · injection h with h; exact ⟨by assumption, f, hf, h.symm⟩
    · cases h
  · cases h
/-- the topmost one, if something is next of it -/
def tip (l : List Ent) : Option Ent := match l[l.length - 1]? with | some e => if e.opn then some e else none | none => none
theorem tip_nil : tip [] = none := rfl
theorem tip_opn {l : List Ent} {e : Ent} (h : l[l.length - 1]? = some e) (ho : e.opn = true) : tip l = some e := by
  unfold tip; rw [h]; exact if_pos ho
theorem tip_shut {l : List Ent} {e : Ent} (h : l[l.length - 1]? = some e) (ho : e.opn = false) : tip l = none := by
  unfold tip; rw [h]; exact if_neg (by rw [ho]; exact Bool.false_ne_true)
theorem tip_some {l : List Ent} {e : Ent} (h : tip l = some e) : l[l.length - 1]? = some e ∧ e.opn = true := by
  unfold tip at h
  split at h
  · rename_i x hx
    split at h
    · injection h with h; subst h; exact ⟨hx, by assumption⟩
    · cases h
  · cases h
def next (id : Idn) (made : Int) (l : List Ent) (want : List Eff) : Option Req := match tip l with
  | some e => if e.nt < 8 then some ⟨⟨id, e.ord, e.und⟩, e.what⟩ else none
  | none => fresh id made l.length want
abbrev newEnt (q : Req) (now : Int) : Ent := ⟨q.key.ord, q.what, 1, now, false, false, 0, 0⟩
/-- tried: how many were made, and all -/
def tried (id : Idn) (made : Int) (l : List Ent) (want : List Eff) (now : Int) : Option (Int × List Ent) := match next id made l want with
  | none => none
  | some q => match tip l with
    | some e => some (made, l.set (l.length - 1) (e.try_ now))
    | none => some (made + 1, l ++ [newEnt q now])
def idx (p : Ent → Bool) (l : List Ent) : Int := match l.findIdx? p with | some i => i | none => -1
theorem idx_none {p : Ent → Bool} {l : List Ent} (h : ∀ x ∈ l, p x = false) : idx p l = -1 := by
  unfold idx
  rw [List.findIdx?_eq_none_iff.2 h]
theorem idx_some {p : Ent → Bool} {l : List Ent} {i : Nat} {x : Ent} (hx : l[i]? = some x) (hp : p x = true) (h : ∀ j y, j < i → l[j]? = some y → p y = false) : idx p l = i := by
  unfold idx
  obtain ⟨hi, he⟩ := List.getElem?_eq_some_iff.1 hx
  rw [List.findIdx?_eq_some_iff_getElem.2 ⟨hi, by rw [he]; exact hp, fun j hj => by rw [h j l[j] hj (List.getElem?_eq_getElem (by omega))]; exact Bool.false_ne_true⟩]
/-- the first one from j on -/
def idxFrom (p : Ent → Bool) (l : List Ent) (j : Nat) : Int := match (l.drop j).findIdx? p with | some i => ((j + i : Nat) : Int) | none => -1
theorem idxFrom_zero (p : Ent → Bool) (l : List Ent) : idxFrom p l 0 = idx p l := by
  unfold idxFrom idx
  rw [List.drop_zero]
  cases l.findIdx? p with
  | none => rfl
  | some i => simp
theorem idxFrom_end {p : Ent → Bool} {l : List Ent} {n : Nat} (h : l.length ≤ n) : idxFrom p l n = -1 := by
  unfold idxFrom
  rw [List.drop_of_length_le h]; rfl
theorem idxFrom_step {p : Ent → Bool} {l : List Ent} {j : Nat} {e : Ent} (h : l[j]? = some e) : idxFrom p l j = if p e = true then (j : Int) else idxFrom p l (j + 1) := by
  obtain ⟨hj, he⟩ := List.getElem?_eq_some_iff.1 h
  unfold idxFrom
  rw [List.drop_eq_getElem_cons hj, he, List.findIdx?_cons]
  by_cases hp : p e = true
  · rw [if_pos hp, hp]; simp
  · rw [if_neg hp, show p e = false by simpa using hp]
    simp only [Bool.false_eq_true, if_false]
    cases (l.drop (j + 1)).findIdx? p with
    | none => rfl
    | some i =>
      simp only [Option.map_some]
      omega
def dn : Nat → Int
  | 0 => -1
  | m + 1 => (m : Int)
def acked (id : Idn) (l : List Ent) (k : Keyv) : Option (List Ent) :=
  if k.id ≠ id then none else match l.findIdx? fun e => decide (e.ord = k.ord) with
  | none => none
  | some i => match l[i]? with
    | none => none
    | some e => if (!k.undo && !e.acked) = true then some (l.set i e.ack) else if (k.undo && (e.und && (decide (1 ≤ e.back) && decide (i + 1 = l.length)))) = true then some (l.take i) else none
def quiet (l : List Ent) (want : List Eff) : Bool := decide (l.length = want.length) && l.all fun e => !e.opn
def readyC (id : Idn) (made : Int) (l : List Ent) (want : List Eff) (g : Cfg) (now : Int) : Bool := (next id made l want).isSome && (match tip l with | some e => e.ready g now | none => decide (1 ≤ g.most))
def deadC (l : List Ent) (g : Cfg) (now : Int) : Bool := match l[l.length - 1]? with | some e => e.dead g now | none => false
theorem acked_none {id : Idn} {l : List Ent} {k : Keyv} (h : k.id ≠ id ∨ l.findIdx? (fun e => decide (e.ord = k.ord)) = none) : acked id l k = none := by
  unfold acked
  by_cases h1 : k.id ≠ id
  · exact if_pos h1
  · rw [if_neg h1]
    rcases h with h | h
    · exact absurd h h1
    · rw [h]
theorem acked_at {id : Idn} {l : List Ent} {k : Keyv} {i : Nat} {e : Ent} (h1 : k.id = id) (h2 : l.findIdx? (fun e => decide (e.ord = k.ord)) = some i) (h3 : l[i]? = some e) :
    acked id l k = if (!k.undo && !e.acked) = true then some (l.set i e.ack) else if (k.undo && (e.und && (decide (1 ≤ e.back) && decide (i + 1 = l.length)))) = true then some (l.take i) else none := by
  unfold acked
  rw [if_neg (fun h => h h1), h2]
  dsimp only
  rw [h3]
theorem find_at {p : Ent → Bool} {l : List Ent} {i : Nat} (h : l.findIdx? p = some i) : ∃ e, l[i]? = some e ∧ p e = true := by
  obtain ⟨hi, h1, _⟩ := List.findIdx?_eq_some_iff_getElem.1 h
  exact ⟨l[i], List.getElem?_eq_getElem hi, h1⟩
/-- tried once more it is the same, just if it was tried too often -/
theorem try_same {e : Ent} {now : Int} (ho : e.opn = true) : decide (e.try_ now = e) = decide (8 ≤ e.nt) := by
  have hb : e.nt = if e.und then e.back else e.sent := rfl
  unfold Ent.try_
  by_cases h : e.nt < 8
  · rw [if_pos ⟨ho, h⟩, decide_eq_false (show ¬ 8 ≤ e.nt by omega)]
    refine decide_eq_false fun he => ?_
    cases hu : e.und
    · rw [hu, if_neg Bool.false_ne_true] at he
      have := congrArg Ent.sent he
      dsimp only at this
      omega
    · rw [hu, if_pos rfl] at he
      have := congrArg Ent.back he
      dsimp only at this
      omega
  · rw [if_neg (fun h2 => h h2.2), decide_eq_true rfl, decide_eq_true (show 8 ≤ e.nt by omega)]
theorem try_wrap_same {e : Ent} (now : Int) (ho : e.opn = true) : (decide (e.try_ now = e) = true ↔ 8 ≤ e.nt) := by
  rw [try_same ho]; exact decide_eq_true_iff
end Go.Proofs.Ytkhmplaocfjpjaa.Sep
