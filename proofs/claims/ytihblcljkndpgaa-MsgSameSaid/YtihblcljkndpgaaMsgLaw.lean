/- Messages as octets, plainly: no function in sight. -/
import Derived.Test.YtihblcljkndpgaaEffPlain
import Derived.Test.YtihblcljkndpgaaChange3
import Derived.Test.YtihblcljkndpgaaFrame2
import Derived.Test.YtihblcljkndpgaaApiChn
namespace Go.Proofs.Ytihblcljkndpgaa.Sep
open Go.RowKit Go.Proofs.Ytihblcljkndpgaa.Oct
set_option maxRecDepth 100000
/-! ### numbers, one behind the other -/
def ser : List Nat → List Nat → List UInt8
  | w :: ws, v :: vs => be v w ++ ser ws vs
  | _, _ => []
def nums : List Nat → List UInt8 → List Nat
  | [], _ => []
  | w :: ws, l => Oct.get (l.take w) :: nums ws (l.drop w)
theorem ser_nums (ws : List Nat) (l : List UInt8) (h : ws.sum ≤ l.length) : ser ws (nums ws l) = l.take ws.sum := by
  induction ws generalizing l with
  | nil => simp [ser]
  | cons w ws ih =>
    rw [List.sum_cons] at h
    have hb := be_get (l.take w)
    rw [show (l.take w).length = w by simp; omega] at hb
    show be (Oct.get (l.take w)) w ++ ser ws (nums ws (l.drop w)) = _
    rw [ih (l.drop w) (by simp; omega), hb, List.sum_cons, List.take_add]
def fit : List Nat → List Nat → Prop
  | w :: ws, v :: vs => v < 256 ^ w ∧ fit ws vs
  | [], [] => True
  | _, _ => False
theorem nums_ser (ws vs : List Nat) (t : List UInt8) (h : fit ws vs) : nums ws (ser ws vs ++ t) = vs := by
  induction ws generalizing vs with
  | nil =>
    cases vs with
    | nil => rfl
    | cons _ _ => cases h
  | cons w ws ih =>
    cases vs with
    | nil => cases h
    | cons v vs =>
      show Oct.get (((be v w ++ ser ws vs) ++ t).take w) :: nums ws (((be v w ++ ser ws vs) ++ t).drop w) = _
      rw [List.append_assoc, List.take_left' (be_length _ _), List.drop_left' (be_length _ _), get_be, Nat.mod_eq_of_lt h.1, ih vs h.2]
theorem ser_length (ws vs : List Nat) (h : fit ws vs) : (ser ws vs).length = ws.sum := by
  induction ws generalizing vs with
  | nil =>
    cases vs with
    | nil => rfl
    | cons _ _ => cases h
  | cons w ws ih =>
    cases vs with
    | nil => cases h
    | cons v vs =>
      show (be v w ++ ser ws vs).length = _
      rw [List.length_append, be_length, ih vs h.2, List.sum_cons]
/-! ### messages -/
structure Mg where
  kind : Int
  fr : Int
  to : Int
  k0 : Int
  k1 : Int
  k2 : Int
  k3 : Int
  base : Int
  ids : List Idn
  chs : List Chg
  key : Keyv
  what : Eff
theorem Mg.eq_iff {x y : Mg} : x = y ↔ x.kind = y.kind ∧ x.fr = y.fr ∧ x.to = y.to ∧ x.k0 = y.k0 ∧ x.k1 = y.k1 ∧ x.k2 = y.k2 ∧ x.k3 = y.k3 ∧ x.base = y.base ∧ x.ids = y.ids ∧ x.chs = y.chs ∧ x.key = y.key ∧ x.what = y.what := by
  cases x; cases y; simp
instance : DecidableEq Mg := fun _ _ => decidable_of_iff _ Mg.eq_iff.symm
abbrev Mg.ks (m : Mg) : List Int := [m.k0, m.k1, m.k2, m.k3]
def key0 : Keyv := ⟨⟨0, 0⟩, 0, false⟩
def eff0 : Eff := ⟨0, 0, 0, ⟨0, 0⟩⟩
def mg0 : Mg := ⟨0, 0, 0, 0, 0, 0, 0, 0, [], [], key0, eff0⟩
def Keyv.may (k : Keyv) : Bool := k.id.may && decide (1 ≤ k.ord ∧ k.ord ≤ 255)
theorem Keyv.may_iff (k : Keyv) : k.may = true ↔ (0 ≤ k.id.rep ∧ k.id.rep ≤ 3 ∧ 1 ≤ k.id.seq ∧ k.id.seq ≤ 65535) ∧ 1 ≤ k.ord ∧ k.ord ≤ 255 := by simp [Keyv.may, Idn.may]
def rep4 (n : Int) : Bool := decide (0 ≤ n ∧ n ≤ 3)
def sq (n : Int) : Bool := decide (0 ≤ n ∧ n ≤ 65535)
def bs (n : Int) : Bool := decide (0 ≤ n ∧ n ≤ 48)
def Mg.parties (m : Mg) : Bool := if m.kind = 3 then rep4 m.fr && decide (m.to = 9) else if m.kind = 4 then decide (m.fr = 9) && rep4 m.to else rep4 m.fr && rep4 m.to
def Mg.fine (m : Mg) : Bool :=
  if m.kind = 1 then (sq m.k0 && sq m.k1 && sq m.k2 && sq m.k3) && bs m.base
  else if m.kind = 2 then ((decide (m.ids.length ≤ 16) && m.ids.all Idn.may) && (decide (m.chs.length ≤ 8) && m.chs.all Chg.may)) && bs m.base
  else if m.kind = 3 then m.key.may && decide (m.what.check = 0)
  else m.key.may
def Mg.bare (m : Mg) : Mg :=
  if m.kind = 1 then ⟨m.kind, m.fr, m.to, m.k0, m.k1, m.k2, m.k3, m.base, [], [], key0, eff0⟩
  else if m.kind = 2 then ⟨m.kind, m.fr, m.to, 0, 0, 0, 0, m.base, m.ids, m.chs, key0, eff0⟩
  else if m.kind = 3 then ⟨m.kind, m.fr, m.to, 0, 0, 0, 0, 0, [], [], m.key, m.what⟩
  else if m.kind = 4 then ⟨m.kind, m.fr, m.to, 0, 0, 0, 0, 0, [], [], m.key, eff0⟩
  else ⟨m.kind, m.fr, m.to, 0, 0, 0, 0, 0, [], [], key0, eff0⟩
def Mg.check (m : Mg) : Int :=
  if 1 ≤ m.kind ∧ m.kind ≤ 4 then (if (m.parties && m.fine) = true then (if m.bare = m then 0 else 16) else 4) else 12
theorem Mg.check_zero {m : Mg} (h : m.check = 0) : (1 ≤ m.kind ∧ m.kind ≤ 4) ∧ m.parties = true ∧ m.fine = true ∧ m.bare = m := by
  unfold Mg.check at h
  split at h
  · rename_i h1
    split at h
    · rename_i h2
      split at h
      · rename_i h3
        simp at h2
        exact ⟨h1, h2.1, h2.2, h3⟩
      · cases h
    · cases h
  · cases h
def Mg.ok (m : Mg) : Prop := (∀ c ∈ m.chs, I64 c.n) ∧ I64 m.what.n
/-! ### their octets -/
def undoN (b : Bool) : Nat := if b then 1 else 0
abbrev kW : List Nat := [1, 2, 1, 1]
def keyS (k : Keyv) : List Nat := [k.id.rep.toNat, k.id.seq.toNat, k.ord.toNat, undoN k.undo]
def idnB (a : Idn) : List UInt8 := ser [1, 2] [a.rep.toNat, a.seq.toNat]
def idsB (l : List Idn) : List UInt8 := (l.map idnB).flatten
def Mg.body (m : Mg) : List UInt8 :=
  ser [1, 1, 1] [m.kind.toNat, m.fr.toNat, m.to.toNat] ++
  (if m.kind = 1 then ser [2, 2, 2, 2, 1] [m.k0.toNat, m.k1.toNat, m.k2.toNat, m.k3.toNat, m.base.toNat]
  else if m.kind = 2 then ser [1, 1] [m.base.toNat, m.ids.length] ++ (idsB m.ids ++ enlist m.chs)
  else if m.kind = 3 then ser kW (keyS m.key) ++ m.what.put
  else ser kW (keyS m.key))
def Mg.enc (m : Mg) : List UInt8 := Frm.fr m.body
theorem idnB_length (a : Idn) : (idnB a).length = 3 := by simp [idnB, ser, be_length]
theorem idsB_length (l : List Idn) : (idsB l).length = 3 * l.length := by
  induction l with
  | nil => rfl
  | cons c l ih =>
    have : idsB (c :: l) = idnB c ++ idsB l := rfl
    rw [this, List.length_append, idnB_length, ih, List.length_cons]; omega
theorem idsB_snoc (l : List Idn) (a : Idn) : idsB (l ++ [a]) = idsB l ++ idnB a := by simp [idsB]
def idnOf (l : List UInt8) (i : Nat) : Idn := ⟨(fld l i 1 : Nat), (fld l (i + 1) 2 : Nat)⟩
def idsOf : Nat → Nat → List UInt8 → List Idn
  | 0, _, _ => []
  | n + 1, i, l => idsOf n i l ++ [idnOf l (i + 3 * n)]
theorem idsOf_length (n i : Nat) (l : List UInt8) : (idsOf n i l).length = n := by
  induction n with
  | zero => rfl
  | succ n ih => rw [idsOf, List.length_append, ih]; rfl
theorem fld_drop (l : List UInt8) (j i w : Nat) : fld (l.drop j) i w = fld l (j + i) w := by unfold fld; rw [List.drop_drop]
theorem idnB_idnOf {l : List UInt8} {i : Nat} (h : i + 3 ≤ l.length) : idnB (idnOf l i) = (l.drop i).take 3 := by
  unfold idnB idnOf
  simp only [ser, Int.toNat_natCast, List.append_nil]
  rw [be_fld (by omega), be_fld (by omega), show (3 : Nat) = 1 + 2 from rfl, List.take_add, List.drop_drop]
theorem idsB_idsOf (n i : Nat) (l : List UInt8) (h : i + 3 * n ≤ l.length) : idsB (idsOf n i l) = (l.drop i).take (3 * n) := by
  induction n with
  | zero => simp [idsOf, idsB]
  | succ n ih =>
    rw [idsOf, idsB_snoc, ih (by omega), idnB_idnOf (by omega), show 3 * (n + 1) = 3 * n + 3 by omega, List.take_add, List.drop_drop]
theorem fld_left {a b : List UInt8} {i w : Nat} (h : i + w ≤ a.length) : fld (a ++ b) i w = fld a i w := by
  unfold fld
  rw [List.drop_append_of_le_length (by omega), List.take_append_of_le_length (by simp; omega)]
theorem fld_right {a b : List UInt8} {i w j : Nat} (h : a.length = j) : fld (a ++ b) (j + i) w = fld b i w := by
  unfold fld
  rw [← h, List.drop_append, List.drop_of_length_le (by omega), List.nil_append, show a.length + i - a.length = i by omega]
theorem idnOf_idnB {a : Idn} {x t : List UInt8} {i : Nat} (h : a.may = true) (hx : x.length = i) : idnOf (x ++ (idnB a ++ t)) i = a := by
  rw [Idn.may_iff] at h
  unfold idnOf
  have h1 := fld_right (a := x) (b := idnB a ++ t) (i := 0) (w := 1) hx
  have h2 := fld_right (a := x) (b := idnB a ++ t) (i := 1) (w := 2) hx
  rw [Nat.add_zero] at h1
  rw [h1, h2]
  have e0 : fld (idnB a ++ t) 0 1 = a.rep.toNat := by
    have := fld_at (a := []) (b := be a.seq.toNat 2 ++ t) (i := 0) (w := 1) (n := a.rep.toNat) rfl (by omega)
    simpa [idnB, ser, List.append_assoc] using this
  have e1 : fld (idnB a ++ t) 1 2 = a.seq.toNat := by
    have := fld_at (a := be a.rep.toNat 1) (b := t) (i := 1) (w := 2) (n := a.seq.toNat) (by simp [be_length]) (by omega)
    simpa [idnB, ser, List.append_assoc] using this
  rw [e0, e1]
  cases a
  simp only [Idn.eq_iff]
  simp at h ⊢
  omega
theorem idsOf_idsB (l : List Idn) (x t : List UInt8) (h : l.all Idn.may = true) : idsOf l.length x.length (x ++ (idsB l ++ t)) = l := by
  have key : ∀ k, k ≤ l.length → idsOf k x.length (x ++ (idsB l ++ t)) = l.take k := by
    intro k
    induction k with
    | zero => intro _; rfl
    | succ k ih =>
      intro hk
      have hm : (l[k]'hk).may = true := by
        rw [List.all_eq_true] at h
        exact h _ (List.getElem_mem _)
      have q : ∀ (a b : List Idn) (z : Idn), idsB (a ++ z :: b) = idsB a ++ (idnB z ++ idsB b) := fun a b z => by simp [idsB]
      have hl : l.take k ++ l[k] :: l.drop (k + 1) = l := by rw [← List.drop_eq_getElem_cons hk, List.take_append_drop]
      have e := q (l.take k) (l.drop (k + 1)) (l[k]'hk)
      rw [hl] at e
      rw [idsOf, ih (by omega), List.take_succ_eq_append_getElem hk]
      congr 1
      rw [show x ++ (idsB l ++ t) = (x ++ idsB (l.take k)) ++ (idnB (l[k]'hk) ++ (idsB (l.drop (k + 1)) ++ t)) by rw [e]; simp]
      rw [idnOf_idnB hm (by rw [List.length_append, idsB_length, List.length_take]; omega)]
  rw [key l.length (Nat.le_refl _), List.take_length]
/-! ### what octets are a message's -/
def keyAt (l : List UInt8) (i : Nat) : Keyv := ⟨⟨(fld l i 1 : Nat), (fld l (i + 1) 2 : Nat)⟩, (fld l (i + 3) 1 : Nat), decide (((fld l (i + 4) 1 : Nat) : Int) = 1)⟩
/-- a list of changes of just so many octets -/
def clist8 : List UInt8 → Option (List Chg)
  | [] => none
  | h :: t => if t.length = 22 * h.toNat then pieces h.toNat t else none
def mask (x : List UInt8) : Option Mg :=
  if x.length = 12 then some ⟨1, (fld x 1 1 : Nat), (fld x 2 1 : Nat), (fld x 3 2 : Nat), (fld x 5 2 : Nat), (fld x 7 2 : Nat), (fld x 9 2 : Nat), (fld x 11 1 : Nat), [], [], key0, eff0⟩ else none
def mpush (x : List UInt8) : Option Mg :=
  if 5 + 3 * fld x 4 1 + 1 ≤ x.length then
    (clist8 (x.drop (5 + 3 * fld x 4 1))).map fun cs => ⟨2, (fld x 1 1 : Nat), (fld x 2 1 : Nat), 0, 0, 0, 0, (fld x 3 1 : Nat), idsOf (fld x 4 1) 5 x, cs, key0, eff0⟩
  else none
def mreq (x : List UInt8) : Option Mg :=
  if x.length = 21 ∧ fld x 7 1 ≤ 1 then (fget13 (x.drop 8)).map fun f => ⟨3, (fld x 1 1 : Nat), (fld x 2 1 : Nat), 0, 0, 0, 0, 0, [], [], keyAt x 3, f⟩ else none
def mans (x : List UInt8) : Option Mg :=
  if x.length = 8 ∧ fld x 7 1 ≤ 1 then some ⟨4, (fld x 1 1 : Nat), (fld x 2 1 : Nat), 0, 0, 0, 0, 0, [], [], keyAt x 3, eff0⟩ else none
def mraw (x : List UInt8) : Option Mg :=
  if x.length < 3 then none else if fld x 0 1 = 1 then mask x else if fld x 0 1 = 2 then mpush x else if fld x 0 1 = 3 then mreq x else if fld x 0 1 = 4 then mans x else none
def mget (x : List UInt8) : Option Mg := match mraw x with
  | some m => if m.check = 0 then some m else none
  | none => none
end Go.Proofs.Ytihblcljkndpgaa.Sep
/- A message read leniently, plainly: no function in sight. -/
namespace Go.Proofs.Ytihblcljkndpgaa.Sep
open Go.RowKit Go.Proofs.Ytihblcljkndpgaa.Oct
set_option maxRecDepth 100000
abbrev Rs := Bool × List UInt8
def idAt (s : Rs) : Idn := ⟨(vl s 1 : Nat), (vl (stp s 1) 2 : Nat)⟩
def idSt (s : Rs) : Rs := stp (stp s 1) 2
def idsSt (s : Rs) : Nat → Rs
  | 0 => s
  | i + 1 => idSt (idsSt s i)
def idsVs (s : Rs) : Nat → List Idn
  | 0 => []
  | i + 1 => idsVs s i ++ [idAt (idsSt s i)]
theorem idsVs_length (s : Rs) (n : Nat) : (idsVs s n).length = n := by
  induction n with
  | zero => rfl
  | succ n ih => rw [idsVs, List.length_append, ih]; rfl
theorem id_long {x : List UInt8} {j : Nat} (h : j + 3 ≤ x.length) : idAt (false, x.drop j) = idnOf x j ∧ idSt (false, x.drop j) = (false, x.drop (j + 3)) := by
  unfold idAt idSt idnOf
  obtain ⟨h1, h2, _⟩ := stp_ok (l := x) (i := j) (w := 1) (by omega)
  obtain ⟨h3, h4, _⟩ := stp_ok (l := x) (i := j + 1) (w := 2) (by omega)
  rw [h1, h2, h3, h4]
  exact ⟨rfl, rfl⟩
theorem ids_long {x : List UInt8} {j n : Nat} (h : j + 3 * n ≤ x.length) : idsSt (false, x.drop j) n = (false, x.drop (j + 3 * n)) ∧ idsVs (false, x.drop j) n = idsOf n j x := by
  induction n with
  | zero => exact ⟨rfl, rfl⟩
  | succ n ih =>
    obtain ⟨h1, h2⟩ := ih (by omega)
    obtain ⟨h3, h4⟩ := id_long (x := x) (j := j + 3 * n) (by omega)
    rw [idsSt, idsVs, idsOf, h1, h2, h3, h4]
    exact ⟨rfl, rfl⟩
def keyVs (s : Rs) : Keyv := ⟨idAt s, (vl (idSt s) 1 : Nat), decide (((vl (stp (idSt s) 1) 1 : Nat) : Int) = 1)⟩
def keySt (s : Rs) : Rs := stp (stp (idSt s) 1) 1
theorem key_long {x : List UInt8} {j : Nat} (h : j + 5 ≤ x.length) : keyVs (false, x.drop j) = keyAt x j ∧ keySt (false, x.drop j) = (false, x.drop (j + 5)) := by
  obtain ⟨h1, h2⟩ := id_long (x := x) (j := j) (by omega)
  obtain ⟨h3, h4, _⟩ := stp_ok (l := x) (i := j + 3) (w := 1) (by omega)
  obtain ⟨h5, h6, _⟩ := stp_ok (l := x) (i := j + 4) (w := 1) (by omega)
  unfold keyVs keySt keyAt
  rw [h1, h2, h3, h4, h5, h6]
  exact ⟨rfl, rfl⟩
/-! ### the four numbers of an ask -/
def kSt (s : Rs) : Nat → Rs
  | 0 => s
  | i + 1 => stp (kSt s i) 2
def kVl (s : Rs) (i : Nat) : Int := (vl (kSt s i) 2 : Nat)
theorem k_long {x : List UInt8} {j i : Nat} (h : j + 2 * i ≤ x.length) : kSt (false, x.drop j) i = (false, x.drop (j + 2 * i)) := by
  induction i with
  | zero => rfl
  | succ i ih =>
    rw [kSt, ih (by omega), (stp_ok (by omega)).1]
    rfl
theorem kVl_long {x : List UInt8} {j i : Nat} (h : j + 2 * i + 2 ≤ x.length) : kVl (false, x.drop j) i = (fld x (j + 2 * i) 2 : Nat) := by
  unfold kVl
  rw [k_long (by omega), (stp_ok h).2.1]
/-! ### what is known of a message that was read -/
abbrev hdW : List Nat := [1, 1, 1]
/-- m is the message of these octets, if they are one's -/
def Lm (x : List UInt8) (m : Mg) : Prop := ∀ m0, mget x = some m0 → m = m0
theorem mget_raw {x : List UInt8} {m0 : Mg} (h : mget x = some m0) : mraw x = some m0 ∧ m0.check = 0 := by
  unfold mget at h
  split at h
  · rename_i m hm
    split at h
    · rename_i hc
      injection h with h
      subst h
      exact ⟨hm, hc⟩
    · cases h
  · cases h
theorem mraw_hd {x : List UInt8} {m0 : Mg} (h : mraw x = some m0) : 3 ≤ x.length ∧ va hdW x 0 = fld x 0 1 ∧ va hdW x 1 = fld x 1 1 ∧ va hdW x 2 = fld x 2 1 ∧ st hdW x 3 = (false, x.drop 3) := by
  unfold mraw at h
  split at h
  · cases h
  · have h3 : 3 ≤ x.length := by omega
    exact ⟨h3, va_long rfl rfl (by decide) (by omega), va_long rfl rfl (by decide) (by omega), va_long rfl rfl (by decide) (by omega), st_long (by decide) (by simpa using h3)⟩
theorem mraw_kind {x : List UInt8} {m0 : Mg} (h : mraw x = some m0) : (fld x 0 1 = 1 ∧ mask x = some m0) ∨ (fld x 0 1 = 2 ∧ mpush x = some m0) ∨ (fld x 0 1 = 3 ∧ mreq x = some m0) ∨ (fld x 0 1 = 4 ∧ mans x = some m0) := by
  unfold mraw at h
  split at h
  · cases h
  split at h
  · exact .inl ⟨by assumption, h⟩
  split at h
  · exact .inr (.inl ⟨by assumption, h⟩)
  split at h
  · exact .inr (.inr (.inl ⟨by assumption, h⟩))
  split at h
  · exact .inr (.inr (.inr ⟨by assumption, h⟩))
  · cases h
/-- the head of a message that is read -/
def mhd (x : List UInt8) (k0 k1 k2 k3 base : Int) (ids : List Idn) (chs : List Chg) (key : Keyv) (what : Eff) : Mg := ⟨(va hdW x 0 : Nat), (va hdW x 1 : Nat), (va hdW x 2 : Nat), k0, k1, k2, k3, base, ids, chs, key, what⟩
theorem Lm.ask {x : List UInt8} (hk : va hdW x 0 = 1) : Lm x (mhd x (kVl (st hdW x 3) 0) (kVl (st hdW x 3) 1) (kVl (st hdW x 3) 2) (kVl (st hdW x 3) 3) (vl (kSt (st hdW x 3) 4) 1 : Nat) [] [] key0 eff0) := by
  intro m0 hm
  obtain ⟨h1, _⟩ := mget_raw hm
  obtain ⟨_, e0, e1, e2, e3⟩ := mraw_hd h1
  rcases mraw_kind h1 with ⟨f, h⟩ | ⟨f, h⟩ | ⟨f, h⟩ | ⟨f, h⟩
  · unfold mask at h
    split at h
    · rename_i h12
      injection h with h
      subst h
      unfold mhd
      rw [e0, e1, e2, e3, kVl_long (by omega), kVl_long (by omega), kVl_long (by omega), kVl_long (by omega), k_long (by omega), (stp_ok (by omega)).2.1, f]
      rfl
    · cases h
  · omega
  · omega
  · omega
theorem Lm.ans {x : List UInt8} (hk : va hdW x 0 = 4) : Lm x (mhd x 0 0 0 0 0 [] [] (keyVs (st hdW x 3)) eff0) := by
  intro m0 hm
  obtain ⟨h1, _⟩ := mget_raw hm
  obtain ⟨_, e0, e1, e2, e3⟩ := mraw_hd h1
  rcases mraw_kind h1 with ⟨f, h⟩ | ⟨f, h⟩ | ⟨f, h⟩ | ⟨f, h⟩
  · omega
  · omega
  · omega
  · unfold mans at h
    split at h
    · rename_i h8
      injection h with h
      subst h
      unfold mhd
      rw [e0, e1, e2, e3, (key_long (by omega)).1, f]
      rfl
    · cases h
/-- what effect.Get reads of 13 octets, or of none -/
def reqE (s : Rs) : Eff := ((nx s.1 s.2 (13 : Nat)).1.bind fget13).getD eff0
theorem Lm.req {x : List UInt8} (hk : va hdW x 0 = 3) : Lm x (mhd x 0 0 0 0 0 [] [] (keyVs (st hdW x 3)) (reqE (keySt (st hdW x 3)))) := by
  intro m0 hm
  obtain ⟨h1, _⟩ := mget_raw hm
  obtain ⟨_, e0, e1, e2, e3⟩ := mraw_hd h1
  rcases mraw_kind h1 with ⟨f, h⟩ | ⟨f, h⟩ | ⟨f, h⟩ | ⟨f, h⟩
  · omega
  · omega
  · unfold mreq at h
    split at h
    · rename_i h8
      have hlen : (x.drop 8).length = 13 := by simp; omega
      have hnx : nx false (x.drop 8) (13 : Nat) = (some (x.drop 8), false, []) := by
        have h13 := nx_ok (l := x.drop 8) (k := 13) (by omega)
        generalize x.drop 8 = y at *
        rw [List.take_of_length_le (by omega), List.drop_of_length_le (l := y) (by omega)] at h13
        exact h13
      cases hg : fget13 (x.drop 8) with
      | none => rw [hg] at h; cases h
      | some e =>
        rw [hg] at h
        injection h with h
        subst h
        unfold mhd
        rw [e0, e1, e2, e3, (key_long (by omega)).1, (key_long (by omega)).2, f]
        unfold reqE
        dsimp only
        rw [hnx]
        show (Mg.mk _ _ _ _ _ _ _ _ _ _ _ ((fget13 (x.drop 8)).getD eff0)) = _
        rw [hg]
        rfl
    · cases h
  · omega
/-- the changes that a push ends with, as they are read -/
def lch : List UInt8 → List Chg
  | [] => []
  | h :: t => if h.toNat ≤ 48 ∧ t.length = 22 * h.toNat then (pieces h.toNat t).getD [] else []
/-- how many Ids are read -/
def idN (s : Rs) : Nat := min (vl s 1) 16
/-- what is left of a reader -/
def lft (s : Rs) : List UInt8 := if s.1 then [] else s.2
theorem nx_lft (s : Rs) : (nx s.1 s.2 ((if s.1 then 0 else s.2.length : Nat) : Int)).1.getD [] = lft s := by
  obtain ⟨b, l⟩ := s
  unfold lft
  cases b
  · dsimp only
    rw [if_neg Bool.false_ne_true, if_neg Bool.false_ne_true, nx_ok (Nat.le_refl _), List.take_length]
    rfl
  · rfl
theorem Lm.push {x : List UInt8} (hk : va hdW x 0 = 2) : Lm x (mhd x 0 0 0 0 (vl (st hdW x 3) 1 : Nat) (idsVs (stp (stp (st hdW x 3) 1) 1) (idN (stp (st hdW x 3) 1))) (lch (lft (idsSt (stp (stp (st hdW x 3) 1) 1) (idN (stp (st hdW x 3) 1))))) key0 eff0) := by
  intro m0 hm
  obtain ⟨h1, hc⟩ := mget_raw hm
  obtain ⟨_, e0, e1, e2, e3⟩ := mraw_hd h1
  rcases mraw_kind h1 with ⟨f, h⟩ | ⟨f, h⟩ | ⟨f, h⟩ | ⟨f, h⟩
  · omega
  · unfold mpush at h
    split at h
    · rename_i h8
      cases hg : clist8 (x.drop (5 + 3 * fld x 4 1)) with
      | none => rw [hg] at h; cases h
      | some cs =>
        rw [hg] at h
        injection h with h
        have h2 : m0.kind = 2 := by rw [← h]
        obtain ⟨_, _, hf, _⟩ := Mg.check_zero hc
        unfold Mg.fine at hf
        rw [if_neg (by omega), if_pos h2] at hf
        simp only [Bool.and_eq_true, decide_eq_true_eq, bs] at hf
        have h16 : fld x 4 1 ≤ 16 := by
          have := hf.1.1.1
          rw [← h] at this
          dsimp only at this
          rwa [idsOf_length] at this
        have h88 : cs.length ≤ 8 := by
          have := hf.1.2.1
          rw [← h] at this
          exact this
        obtain ⟨s1, s2, _⟩ := stp_ok (l := x) (i := 3) (w := 1) (by omega)
        obtain ⟨s3, s4, _⟩ := stp_ok (l := x) (i := 4) (w := 1) (by omega)
        unfold mhd
        rw [e0, e1, e2, e3, s1, s2]
        unfold idN
        rw [s3, s4, Nat.min_eq_left h16, (ids_long (by omega)).1, (ids_long (by omega)).2, f, ← h]
        unfold lft
        dsimp only
        rw [if_neg Bool.false_ne_true]
        have hl : lch (x.drop (5 + 3 * fld x 4 1)) = cs := by
          unfold clist8 at hg
          cases hd : x.drop (5 + 3 * fld x 4 1) with
          | nil => rw [hd] at hg; cases hg
          | cons y t =>
            rw [hd] at hg
            dsimp only at hg
            split at hg
            · rename_i ht
              have hpl := (pieces_some hg ht).1
              unfold lch
              dsimp only
              rw [if_pos ⟨by omega, ht⟩, hg]
              rfl
            · cases hg
        rw [hl]
        rfl
    · cases h
  · omega
  · omega
theorem Lm.none {x : List UInt8} {m : Mg} (hk : ¬ (1 ≤ va hdW x 0 ∧ va hdW x 0 ≤ 4)) : Lm x m := by
  intro m0 hm
  obtain ⟨h1, _⟩ := mget_raw hm
  obtain ⟨_, e0, e1, e2, e3⟩ := mraw_hd h1
  rcases mraw_kind h1 with ⟨f, h⟩ | ⟨f, h⟩ | ⟨f, h⟩ | ⟨f, h⟩
  · omega
  · omega
  · omega
  · omega
end Go.Proofs.Ytihblcljkndpgaa.Sep
/- A message's octets and back, plainly: no function in sight. -/
namespace Go.Proofs.Ytihblcljkndpgaa.Sep
open Go.RowKit Go.Proofs.Ytihblcljkndpgaa.Oct
set_option maxRecDepth 100000
theorem I64.zero : I64 0 := by unfold I64; decide
theorem ser_flds (x : List UInt8) (h : 3 ≤ x.length) : ser [1, 1, 1] [fld x 0 1, fld x 1 1, fld x 2 1] = x.take 3 := by
  have := ser_nums [1, 1, 1] x (by simpa using h)
  rw [← show ([1, 1, 1] : List Nat).sum = 3 from rfl, ← this]
  simp only [nums, fld, List.drop_drop, List.drop_zero]
theorem keyAt_octets {x : List UInt8} (h : 8 ≤ x.length) (h1 : fld x 7 1 ≤ 1) : ser kW (keyS (keyAt x 3)) = (x.drop 3).take 5 := by
  have e := ser_nums kW (x.drop 3) (by simp; omega)
  rw [show kW.sum = 5 from rfl] at e
  rw [← e]
  congr 1
  have hu : undoN (decide (((fld x 7 1 : Nat) : Int) = 1)) = fld x 7 1 := by
    unfold undoN
    by_cases hq : fld x 7 1 = 1
    · rw [hq]; rfl
    · rw [decide_eq_false (by omega), if_neg Bool.false_ne_true]; omega
  unfold keyS keyAt
  dsimp only
  rw [hu]
  simp only [Int.toNat_natCast, nums, fld, List.drop_drop, Nat.reduceAdd]
theorem keyAt_put {k : Keyv} (h : k.may = true) {a t : List UInt8} (ha : a.length = 3) : keyAt (a ++ (ser kW (keyS k) ++ t)) 3 = k ∧ fld (a ++ (ser kW (keyS k) ++ t)) 7 1 ≤ 1 := by
  obtain ⟨⟨a0, a1, b0, b1⟩, c0, c1⟩ := (Keyv.may_iff k).1 h
  have hu : undoN k.undo < 256 := by unfold undoN; split <;> omega
  have hb : undoN k.undo ≤ 1 := by unfold undoN; split <;> omega
  have e : ser kW (keyS k) ++ t = be k.id.rep.toNat 1 ++ (be k.id.seq.toNat 2 ++ (be k.ord.toNat 1 ++ (be (undoN k.undo) 1 ++ t))) := by simp [ser, keyS, List.append_assoc]
  rw [e]
  have f0 : fld (a ++ (be k.id.rep.toNat 1 ++ (be k.id.seq.toNat 2 ++ (be k.ord.toNat 1 ++ (be (undoN k.undo) 1 ++ t))))) 3 1 = k.id.rep.toNat := fld_at ha (by omega)
  have f1 : fld (a ++ (be k.id.rep.toNat 1 ++ (be k.id.seq.toNat 2 ++ (be k.ord.toNat 1 ++ (be (undoN k.undo) 1 ++ t))))) 4 2 = k.id.seq.toNat := by
    rw [← List.append_assoc]
    exact fld_at (by simp [be_length, ha]) (by omega)
  have f2 : fld (a ++ (be k.id.rep.toNat 1 ++ (be k.id.seq.toNat 2 ++ (be k.ord.toNat 1 ++ (be (undoN k.undo) 1 ++ t))))) 6 1 = k.ord.toNat := by
    rw [← List.append_assoc, ← List.append_assoc]
    exact fld_at (by simp [be_length, ha]) (by omega)
  have f3 : fld (a ++ (be k.id.rep.toNat 1 ++ (be k.id.seq.toNat 2 ++ (be k.ord.toNat 1 ++ (be (undoN k.undo) 1 ++ t))))) 7 1 = undoN k.undo := by
    rw [← List.append_assoc, ← List.append_assoc, ← List.append_assoc]
    exact fld_at (by simp [be_length, ha]) (by omega)
  refine ⟨?_, by rw [f3]; exact hb⟩
  unfold keyAt
  simp only [Nat.reduceAdd]
  rw [f0, f1, f2, f3, Int.toNat_of_nonneg a0, Int.toNat_of_nonneg (by omega), Int.toNat_of_nonneg (by omega)]
  have hun : decide (((undoN k.undo : Nat) : Int) = 1) = k.undo := by cases k.undo <;> rfl
  rw [hun]
theorem clist8_some {y : List UInt8} {cs : List Chg} (h : clist8 y = some cs) : enlist cs = y ∧ ∀ c ∈ cs, c.ok := by
  unfold clist8 at h
  cases y with
  | nil => cases h
  | cons a t =>
    dsimp only at h
    split at h
    · rename_i ht
      obtain ⟨h1, h2, _, h4⟩ := pieces_some h ht
      refine ⟨?_, h4⟩
      unfold enlist
      rw [h1, h2, UInt8.ofNat_toNat]
    · cases h
theorem clist8_put {l : List Chg} (h48 : l.length ≤ 48) (hm : l.all Chg.may = true) (hn : ∀ c ∈ l, I64 c.n) : clist8 (enlist l) = some l := by
  have e : (UInt8.ofNat l.length).toNat = l.length := by simp; omega
  unfold clist8 enlist
  dsimp only
  rw [e, if_pos (putall_length l), pieces_putall hm hn]
theorem Mg.fine_1 {m : Mg} (h : m.check = 0) (h1 : m.kind = 1) : m.fine = true ∧ ((0 ≤ m.k0 ∧ m.k0 ≤ 65535) ∧ (0 ≤ m.k1 ∧ m.k1 ≤ 65535) ∧ (0 ≤ m.k2 ∧ m.k2 ≤ 65535) ∧ 0 ≤ m.k3 ∧ m.k3 ≤ 65535) ∧ 0 ≤ m.base ∧ m.base ≤ 48 := by
  obtain ⟨_, _, hf, _⟩ := Mg.check_zero h
  have hq := hf
  unfold Mg.fine at hf
  rw [if_pos h1] at hf
  simp only [Bool.and_eq_true, decide_eq_true_eq, sq, bs] at hf
  exact ⟨hq, ⟨hf.1.1.1.1, hf.1.1.1.2, hf.1.1.2, hf.1.2⟩, hf.2⟩
theorem Mg.fine_2 {m : Mg} (h : m.check = 0) (h1 : m.kind = 2) : m.ids.length ≤ 16 ∧ m.ids.all Idn.may = true ∧ m.chs.length ≤ 8 ∧ m.chs.all Chg.may = true ∧ 0 ≤ m.base ∧ m.base ≤ 48 := by
  obtain ⟨_, _, hf, _⟩ := Mg.check_zero h
  unfold Mg.fine at hf
  rw [if_neg (by omega), if_pos h1] at hf
  simp only [Bool.and_eq_true, decide_eq_true_eq, bs] at hf
  exact ⟨hf.1.1.1, hf.1.1.2, hf.1.2.1, hf.1.2.2, hf.2⟩
theorem Mg.fine_3 {m : Mg} (h : m.check = 0) (h1 : m.kind = 3) : m.key.may = true ∧ m.what.check = 0 := by
  obtain ⟨_, _, hf, _⟩ := Mg.check_zero h
  unfold Mg.fine at hf
  rw [if_neg (by omega), if_neg (by omega), if_pos h1] at hf
  simpa using hf
theorem Mg.fine_4 {m : Mg} (h : m.check = 0) (h1 : m.kind = 4) : m.key.may = true := by
  obtain ⟨_, _, hf, _⟩ := Mg.check_zero h
  unfold Mg.fine at hf
  rwa [if_neg (by omega), if_neg (by omega), if_neg (by omega)] at hf
theorem Mg.rims {m : Mg} (h : m.check = 0) : 0 ≤ m.fr ∧ m.fr ≤ 9 ∧ 0 ≤ m.to ∧ m.to ≤ 9 := by
  obtain ⟨_, hp, _, _⟩ := Mg.check_zero h
  unfold Mg.parties at hp
  split at hp
  · simp [rep4] at hp; omega
  · split at hp
    · simp [rep4] at hp; omega
    · simp [rep4] at hp; omega
/-- what is read is put again -/
theorem mget_sound {x : List UInt8} {m : Mg} (h : mget x = some m) : m.check = 0 ∧ m.body = x ∧ m.ok := by
  obtain ⟨h1, hc⟩ := mget_raw h
  refine ⟨hc, ?_⟩
  obtain ⟨h3, _⟩ := mraw_hd h1
  have hhd := ser_flds x h3
  have hl0 := fld_lt x 0 1
  rcases mraw_kind h1 with ⟨f, h⟩ | ⟨f, h⟩ | ⟨f, h⟩ | ⟨f, h⟩
  · unfold mask at h
    split at h
    · rename_i h12
      injection h with h
      subst h
      refine ⟨?_, ⟨fun c hc => (List.not_mem_nil hc).elim, I64.zero⟩⟩
      unfold Mg.body
      dsimp only
      rw [if_pos rfl, Int.toNat_natCast, Int.toNat_natCast, show (1 : Int).toNat = fld x 0 1 by rw [f]; rfl, hhd]
      have e := ser_nums [2, 2, 2, 2, 1] (x.drop 3) (by simp; omega)
      rw [show ([2, 2, 2, 2, 1] : List Nat).sum = 9 from rfl, List.take_of_length_le (by simp; omega)] at e
      simp only [nums, List.drop_drop, Nat.reduceAdd] at e
      simp only [fld, Int.toNat_natCast]
      rw [e, List.take_append_drop]
    · cases h
  · unfold mpush at h
    split at h
    · rename_i h8
      cases hg : clist8 (x.drop (5 + 3 * fld x 4 1)) with
      | none => rw [hg] at h; cases h
      | some cs =>
        rw [hg] at h
        injection h with h
        obtain ⟨e1, e2⟩ := clist8_some hg
        subst h
        refine ⟨?_, ⟨fun c hc => (e2 c hc).2.2.2.2.2.1, I64.zero⟩⟩
        unfold Mg.body
        dsimp only
        rw [if_neg (by decide), if_pos rfl, Int.toNat_natCast, Int.toNat_natCast, Int.toNat_natCast, show (2 : Int).toNat = fld x 0 1 by rw [f]; rfl, hhd, idsB_idsOf _ _ _ (by omega), e1, idsOf_length]
        have e := ser_nums [1, 1] (x.drop 3) (by simp; omega)
        simp only [nums, List.drop_drop, Nat.reduceAdd] at e
        simp only [fld]
        rw [e, ← fld]
        have t1 : ([1, 1] : List Nat).sum = 2 := rfl
        rw [t1, ← List.append_assoc, ← List.append_assoc]
        have t2 : x.take 3 ++ (x.drop 3).take 2 = x.take 5 := (List.take_add (i := 3) (j := 2)).symm
        have t3 : x.take 5 ++ (x.drop 5).take (3 * fld x 4 1) = x.take (5 + 3 * fld x 4 1) := List.take_add.symm
        rw [t2, t3, List.take_append_drop]
    · cases h
  · unfold mreq at h
    split at h
    · rename_i h8
      cases hg : fget13 (x.drop 8) with
      | none => rw [hg] at h; cases h
      | some e =>
        rw [hg] at h
        injection h with h
        obtain ⟨e1, _⟩ := fget13_some hg
        have ho := effOf_ok (x.drop 8)
        rw [← e1] at ho
        subst h
        refine ⟨?_, ⟨fun c hc => (List.not_mem_nil hc).elim, ho.2.2.1⟩⟩
        unfold Mg.body
        dsimp only
        rw [if_neg (by decide), if_neg (by decide), if_pos rfl, Int.toNat_natCast, Int.toNat_natCast, show (3 : Int).toNat = fld x 0 1 by rw [f]; rfl, hhd, keyAt_octets (by omega) h8.2, e1, put_effOf (by simp; omega)]
        rw [← List.append_assoc, ← List.take_add (i := 3) (j := 5), List.take_append_drop]
    · cases h
  · unfold mans at h
    split at h
    · rename_i h8
      injection h with h
      subst h
      refine ⟨?_, ⟨fun c hc => (List.not_mem_nil hc).elim, I64.zero⟩⟩
      unfold Mg.body
      dsimp only
      rw [if_neg (by decide), if_neg (by decide), if_neg (by decide), Int.toNat_natCast, Int.toNat_natCast, show (4 : Int).toNat = fld x 0 1 by rw [f]; rfl, hhd, keyAt_octets (by omega) h8.2]
      rw [← List.take_add (i := 3) (j := 5), List.take_of_length_le (by omega)]
    · cases h
/-- what may be is read again -/
theorem mget_full {m : Mg} (hc : m.check = 0) (hn : m.ok) : mget m.body = some m := by
  obtain ⟨hk, _, _, hb⟩ := Mg.check_zero hc
  obtain ⟨f0, f1, t0, t1⟩ := Mg.rims hc
  have hraw : mraw m.body = some m := by
    have hl3 : (ser [1, 1, 1] [m.kind.toNat, m.fr.toNat, m.to.toNat]).length = 3 := by simp [ser, be_length]
    have hfit : fit [1, 1, 1] [m.kind.toNat, m.fr.toNat, m.to.toNat] := ⟨by omega, by omega, by omega, trivial⟩
    have hd : ∀ t, fld (ser [1, 1, 1] [m.kind.toNat, m.fr.toNat, m.to.toNat] ++ t) 0 1 = m.kind.toNat ∧ fld (ser [1, 1, 1] [m.kind.toNat, m.fr.toNat, m.to.toNat] ++ t) 1 1 = m.fr.toNat ∧ fld (ser [1, 1, 1] [m.kind.toNat, m.fr.toNat, m.to.toNat] ++ t) 2 1 = m.to.toNat := by
      intro t
      have e := nums_ser _ _ t hfit
      simp only [nums, List.drop_drop, Nat.reduceAdd] at e
      injection e with e1 e
      injection e with e2 e
      injection e with e3 e
      exact ⟨e1, e2, e3⟩
    rcases (show m.kind = 1 ∨ m.kind = 2 ∨ m.kind = 3 ∨ m.kind = 4 by omega) with h1 | h1 | h1 | h1
    · obtain ⟨_, ⟨⟨a0, a1⟩, ⟨b0, b1⟩, ⟨c0, c1⟩, d0, d1⟩, q0, q1⟩ := Mg.fine_1 hc h1
      have hbody : m.body = ser [1, 1, 1] [m.kind.toNat, m.fr.toNat, m.to.toNat] ++ ser [2, 2, 2, 2, 1] [m.k0.toNat, m.k1.toNat, m.k2.toNat, m.k3.toNat, m.base.toNat] := by
        unfold Mg.body
        rw [if_pos h1]
      have hf2 : fit [2, 2, 2, 2, 1] [m.k0.toNat, m.k1.toNat, m.k2.toNat, m.k3.toNat, m.base.toNat] := ⟨by omega, by omega, by omega, by omega, by omega, trivial⟩
      have hl2 := ser_length _ _ hf2
      have e := nums_ser _ _ [] hf2
      rw [List.append_nil] at e
      obtain ⟨g0, g1, g2⟩ := hd (ser [2, 2, 2, 2, 1] [m.k0.toNat, m.k1.toNat, m.k2.toNat, m.k3.toNat, m.base.toNat])
      rw [hbody]
      generalize ser [2, 2, 2, 2, 1] [m.k0.toNat, m.k1.toNat, m.k2.toNat, m.k3.toNat, m.base.toNat] = y at *
      generalize ser [1, 1, 1] [m.kind.toNat, m.fr.toNat, m.to.toNat] = h at *
      simp only [nums, List.drop_drop, Nat.reduceAdd] at e
      injection e with e1 e
      injection e with e2 e
      injection e with e3 e
      injection e with e4 e
      injection e with e5 e
      have hlen : (h ++ y).length = 12 := by rw [List.length_append, hl3, hl2]; rfl
      have k1 : fld (h ++ y) 3 2 = m.k0.toNat := (fld_right (i := 0) hl3).trans (by unfold fld; rw [List.drop_zero]; exact e1)
      have k2 : fld (h ++ y) 5 2 = m.k1.toNat := (fld_right (i := 2) hl3).trans e2
      have k3 : fld (h ++ y) 7 2 = m.k2.toNat := (fld_right (i := 4) hl3).trans e3
      have k4 : fld (h ++ y) 9 2 = m.k3.toNat := (fld_right (i := 6) hl3).trans e4
      have k5 : fld (h ++ y) 11 1 = m.base.toNat := (fld_right (i := 8) hl3).trans e5
      unfold mraw
      rw [if_neg (by omega), if_pos (by rw [g0]; omega)]
      unfold mask
      rw [if_pos hlen, g1, g2, k1, k2, k3, k4, k5]
      unfold Mg.bare at hb
      rw [if_pos h1] at hb
      have hb2 := Mg.eq_iff.1 hb
      congr 1
      rw [Mg.eq_iff]
      dsimp only at hb2 ⊢
      refine ⟨by omega, by omega, by omega, by omega, by omega, by omega, by omega, by omega, hb2.2.2.2.2.2.2.2.2.1, hb2.2.2.2.2.2.2.2.2.2.1, hb2.2.2.2.2.2.2.2.2.2.2.1, hb2.2.2.2.2.2.2.2.2.2.2.2⟩
    · obtain ⟨i0, i1, c0, c1, q0, q1⟩ := Mg.fine_2 hc h1
      have hbody : m.body = ser [1, 1, 1] [m.kind.toNat, m.fr.toNat, m.to.toNat] ++ (ser [1, 1] [m.base.toNat, m.ids.length] ++ (idsB m.ids ++ enlist m.chs)) := by
        unfold Mg.body
        rw [if_neg (by omega), if_pos h1]
      have hf2 : fit [1, 1] [m.base.toNat, m.ids.length] := ⟨by omega, by omega, trivial⟩
      have hl2 : (ser [1, 1] [m.base.toNat, m.ids.length]).length = 2 := ser_length _ _ hf2
      have e := nums_ser _ _ (idsB m.ids ++ enlist m.chs) hf2
      obtain ⟨g0, g1, g2⟩ := hd (ser [1, 1] [m.base.toNat, m.ids.length] ++ (idsB m.ids ++ enlist m.chs))
      rw [hbody]
      have hpre : (ser [1, 1, 1] [m.kind.toNat, m.fr.toNat, m.to.toNat] ++ ser [1, 1] [m.base.toNat, m.ids.length]).length = 5 := by rw [List.length_append, hl3, hl2]
      have hio := idsOf_idsB m.ids (ser [1, 1, 1] [m.kind.toNat, m.fr.toNat, m.to.toNat] ++ ser [1, 1] [m.base.toNat, m.ids.length]) (enlist m.chs) i1
      rw [hpre, List.append_assoc] at hio
      have hdr : (ser [1, 1, 1] [m.kind.toNat, m.fr.toNat, m.to.toNat] ++ (ser [1, 1] [m.base.toNat, m.ids.length] ++ (idsB m.ids ++ enlist m.chs))).drop (5 + 3 * m.ids.length) = enlist m.chs := by
        rw [← List.append_assoc, ← List.append_assoc]
        exact List.drop_left' (by rw [List.length_append, hpre, idsB_length])
      have hlen : (ser [1, 1, 1] [m.kind.toNat, m.fr.toNat, m.to.toNat] ++ (ser [1, 1] [m.base.toNat, m.ids.length] ++ (idsB m.ids ++ enlist m.chs))).length = 5 + 3 * m.ids.length + (1 + 22 * m.chs.length) := by
        rw [← List.append_assoc, List.length_append, hpre, List.length_append, idsB_length, enlist_length]; omega
      generalize ser [1, 1] [m.base.toNat, m.ids.length] ++ (idsB m.ids ++ enlist m.chs) = y at *
      generalize ser [1, 1, 1] [m.kind.toNat, m.fr.toNat, m.to.toNat] = h at *
      simp only [nums] at e
      injection e with e1 e
      injection e with e2 e
      have k1 : fld (h ++ y) 3 1 = m.base.toNat := (fld_right (i := 0) hl3).trans (by unfold fld; rw [List.drop_zero]; exact e1)
      have k2 : fld (h ++ y) 4 1 = m.ids.length := (fld_right (i := 1) hl3).trans e2
      unfold mraw
      rw [if_neg (by omega), if_neg (by omega), if_pos (by rw [g0]; omega)]
      unfold mpush
      rw [k1, k2, if_pos (by omega), hdr, clist8_put (by omega) c1 hn.1, g1, g2, hio]
      unfold Mg.bare at hb
      rw [if_neg (by omega), if_pos h1] at hb
      have hb2 := Mg.eq_iff.1 hb
      show some _ = some _
      congr 1
      rw [Mg.eq_iff]
      dsimp only at hb2 ⊢
      refine ⟨by omega, by omega, by omega, by omega, by omega, by omega, by omega, by omega, rfl, rfl, hb2.2.2.2.2.2.2.2.2.2.2.1, hb2.2.2.2.2.2.2.2.2.2.2.2⟩
    · obtain ⟨i0, i1⟩ := Mg.fine_3 hc h1
      have hbody : m.body = ser [1, 1, 1] [m.kind.toNat, m.fr.toNat, m.to.toNat] ++ (ser kW (keyS m.key) ++ m.what.put) := by
        unfold Mg.body
        rw [if_neg (by omega), if_neg (by omega), if_pos h1]
      obtain ⟨g0, g1, g2⟩ := hd (ser kW (keyS m.key) ++ m.what.put)
      obtain ⟨k0, k1⟩ := keyAt_put i0 (t := m.what.put) hl3
      have hlk : (ser [1, 1, 1] [m.kind.toNat, m.fr.toNat, m.to.toNat] ++ ser kW (keyS m.key)).length = 8 := by rw [List.length_append, hl3]; simp [ser, keyS, be_length]
      have hdr : (ser [1, 1, 1] [m.kind.toNat, m.fr.toNat, m.to.toNat] ++ (ser kW (keyS m.key) ++ m.what.put)).drop 8 = m.what.put := by
        rw [← List.append_assoc]
        exact List.drop_left' hlk
      have hlen : (ser [1, 1, 1] [m.kind.toNat, m.fr.toNat, m.to.toNat] ++ (ser kW (keyS m.key) ++ m.what.put)).length = 21 := by
        rw [← List.append_assoc, List.length_append, hlk, Eff.put_length]
      rw [hbody]
      generalize ser kW (keyS m.key) ++ m.what.put = y at *
      generalize ser [1, 1, 1] [m.kind.toNat, m.fr.toNat, m.to.toNat] = h at *
      unfold mraw
      rw [if_neg (by omega), if_neg (by omega), if_neg (by omega), if_pos (by rw [g0]; omega)]
      unfold mreq
      rw [if_pos ⟨hlen, k1⟩, hdr, fget13_put i1 hn.2, g1, g2, k0]
      unfold Mg.bare at hb
      rw [if_neg (by omega), if_neg (by omega), if_pos h1] at hb
      have hb2 := Mg.eq_iff.1 hb
      show some _ = some _
      congr 1
      rw [Mg.eq_iff]
      dsimp only at hb2 ⊢
      refine ⟨by omega, by omega, by omega, by omega, by omega, by omega, by omega, by omega, hb2.2.2.2.2.2.2.2.2.1, hb2.2.2.2.2.2.2.2.2.2.1, rfl, rfl⟩
    · have i0 := Mg.fine_4 hc h1
      have hbody : m.body = ser [1, 1, 1] [m.kind.toNat, m.fr.toNat, m.to.toNat] ++ (ser kW (keyS m.key) ++ []) := by
        unfold Mg.body
        rw [if_neg (by omega), if_neg (by omega), if_neg (by omega), List.append_nil]
      obtain ⟨g0, g1, g2⟩ := hd (ser kW (keyS m.key) ++ [])
      obtain ⟨k0, k1⟩ := keyAt_put i0 (t := []) hl3
      have hlen : (ser [1, 1, 1] [m.kind.toNat, m.fr.toNat, m.to.toNat] ++ (ser kW (keyS m.key) ++ [])).length = 8 := by rw [List.length_append, hl3]; simp [ser, keyS, be_length]
      rw [hbody]
      generalize ser kW (keyS m.key) ++ [] = y at *
      generalize ser [1, 1, 1] [m.kind.toNat, m.fr.toNat, m.to.toNat] = h at *
      unfold mraw
      rw [if_neg (by omega), if_neg (by omega), if_neg (by omega), if_neg (by omega), if_pos (by rw [g0]; omega)]
      unfold mans
      rw [if_pos ⟨hlen, k1⟩, g1, g2, k0]
      unfold Mg.bare at hb
      rw [if_neg (by omega), if_neg (by omega), if_neg (by omega), if_pos h1] at hb
      have hb2 := Mg.eq_iff.1 hb
      congr 1
      rw [Mg.eq_iff]
      dsimp only at hb2 ⊢
      refine ⟨by omega, by omega, by omega, by omega, by omega, by omega, by omega, by omega, hb2.2.2.2.2.2.2.2.2.1, hb2.2.2.2.2.2.2.2.2.2.1, rfl, hb2.2.2.2.2.2.2.2.2.2.2.2⟩
  unfold mget
  rw [hraw]
  exact if_pos hc
/-! ### the frame around -/
open Frm in
def mfull (b : List UInt8) : Option Mg := match fget b with
  | some (x, k) => if k = b.length then mget x else none
  | none => none
theorem fget_whole {b x : List UInt8} (h : Frm.fget b = some (x, b.length)) : Frm.fr x = b := by
  unfold Frm.fget at h
  split at h
  · rename_i ho
    injection h with h
    injection h with h1 h2
    obtain ⟨q1, q2, q3, q4, q5, q6⟩ := ho
    have e := (Frm.ok_iff q1 q2 q4).1 ⟨q5, q6⟩
    rw [h1, List.take_of_length_le (by omega)] at e
    exact e
  · cases h
theorem Mg.size {m : Mg} (h : m.check = 0) : 1 ≤ m.body.length ∧ m.body.length ≤ 300 := by
  obtain ⟨hk, _, _, _⟩ := Mg.check_zero h
  have h3 : (ser [1, 1, 1] [m.kind.toNat, m.fr.toNat, m.to.toNat]).length = 3 := by simp [ser, be_length]
  have h5 : (ser kW (keyS m.key)).length = 5 := by simp [ser, keyS, be_length]
  unfold Mg.body
  rw [List.length_append, h3]
  split
  · simp [ser, be_length]
  · split
    · rename_i h2
      obtain ⟨i0, _, c0, _⟩ := Mg.fine_2 h h2
      simp only [List.length_append, idsB_length, enlist_length, ser, be_length, List.length_nil]
      omega
    · split
      · rw [List.length_append, h5, Eff.put_length]; omega
      · rw [h5]; omega
theorem mfull_sound {b : List UInt8} {m : Mg} (h : mfull b = some m) : m.check = 0 ∧ m.enc = b ∧ m.ok := by
  unfold mfull at h
  split at h
  · rename_i x k hf
    split at h
    · rename_i hk
      subst hk
      obtain ⟨h1, h2, h3⟩ := mget_sound h
      refine ⟨h1, ?_, h3⟩
      unfold Mg.enc
      rw [h2, fget_whole hf]
    · cases h
  · cases h
theorem mfull_enc {m : Mg} (hc : m.check = 0) (hn : m.ok) : mfull m.enc = some m := by
  obtain ⟨h1, h2⟩ := Mg.size hc
  have h := Frm.fget_fr (t := []) h1 (by omega)
  rw [List.append_nil] at h
  unfold mfull Mg.enc
  rw [h]
  dsimp only
  rw [if_pos (Frm.fr_length _).symm, mget_full hc hn]
/-- what is read leniently, put again and compared, is what is read -/
theorem mfull_len {b x : List UInt8} {m : Mg} (hx : ((Frm.fget b).map Prod.fst).getD [] = x) (hm : Lm x m) (hn : m.ok) : mfull b = if m.check = 0 ∧ m.enc = b then some m else none := by
  by_cases h : m.check = 0 ∧ m.enc = b
  · rw [if_pos h, ← h.2, mfull_enc h.1 hn]
  · rw [if_neg h]
    cases hf : mfull b with
    | none => rfl
    | some m0 =>
      exfalso
      obtain ⟨h1, h2, h3⟩ := mfull_sound hf
      unfold mfull at hf
      split at hf
      · rename_i y k hg
        rw [hg] at hx
        change y = x at hx
        subst hx
        split at hf
        · have := hm _ hf
          subst this
          exact h ⟨h1, h2⟩
        · cases hf
      · cases hf
theorem set_id {l : List UInt8} {i : Nat} {y : UInt8} (hi : i < l.length) (h : l.set i y = l) : l[i]? = some y := by
  rw [← h, List.getElem?_set_self hi]
/-- a frame turned in one octet is no frame of as many octets -/
theorem fr_turn {a c : List UInt8} {i : Nat} {y : UInt8} (hl : a.length = c.length) (hi : i < c.length + 7) (hy : (Frm.fr c)[i]? ≠ some y) (h : Frm.fr a = (Frm.fr c).set i y) : False := by
  have hii : i < (Frm.fr c).length := by rw [Frm.fr_length]; exact hi
  have e : ∀ z, Frm.fr z = be z.length 2 ++ (z ++ (be (Crc.sum z) 4 ++ [90])) := fun z => by unfold Frm.fr; simp only [List.append_assoc]
  have hp := be_length c.length 2
  have hback : (Frm.fr c).set i y ≠ Frm.fr c := fun hq => hy (set_id hii hq)
  rw [e a, e c, hl] at h
  rw [e c] at hback
  rw [List.set_append] at h hback
  split at h
  · rename_i h1
    rw [if_pos h1] at hback
    have h2 := List.append_inj h (by rw [List.length_set])
    rw [← h2.1] at hback
    exact hback rfl
  · rename_i h1
    rw [if_neg h1] at hback
    have h2 := List.append_cancel_left h
    have hback2 := fun hq => hback (congrArg (be c.length 2 ++ ·) hq)
    rw [hp] at h2 hback2
    rw [List.set_append] at h2 hback2
    split at h2
    · rename_i h3
      have h4 := List.append_inj h2 (by rw [List.length_set, hl])
      have h5 := (List.append_inj h4.2 (by rw [be_length, be_length])).1
      have h6 := be_inj 4 _ _ (Crc.sum_lt a) (Crc.sum_lt c) h5
      have hs := List.set_eq_take_append_cons_drop (l := c) (i := i - 2) (a := y)
      rw [if_pos h3] at hs
      have hcc : c.take (i - 2) ++ c[i - 2] :: c.drop (i - 2 + 1) = c := by rw [← List.drop_eq_getElem_cons h3, List.take_append_drop]
      rw [h4.1, hs] at h6
      have hne : y ≠ c[i - 2] := by
        intro hq
        apply hback2
        rw [if_pos h3, hs, hq, hcc]
      refine Crc.sum_ne (c.take (i - 2)) (c.drop (i - 2 + 1)) y c[i - 2] hne ?_
      rw [h6, hcc]
    · rename_i h3
      rw [if_neg h3] at hback2
      have h4 := List.append_inj h2 hl
      apply hback2
      rw [← h4.2, h4.1]
/-- no message's octets are a message's once one octet is another -/
theorem mfull_turn {m : Mg} {i : Nat} {y : UInt8} (hi : i < m.body.length + 7) (hy : m.enc[i]? ≠ some y) : mfull (m.enc.set i y) = none := by
  cases hf : mfull (m.enc.set i y) with
  | none => rfl
  | some m0 =>
    exfalso
    obtain ⟨h1, h2, _⟩ := mfull_sound hf
    have hl : m0.body.length = m.body.length := by
      have := congrArg List.length h2
      unfold Mg.enc at this
      rw [List.length_set, Frm.fr_length, Frm.fr_length] at this
      omega
    exact fr_turn hl hi hy h2
end Go.Proofs.Ytihblcljkndpgaa.Sep
