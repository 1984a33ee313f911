/- msg's writer. -/
import Derived.Test.YtihblcljkndpgaaMsg3
import Derived.Test.YtihblcljkndpgaaPutw
import Derived.Test.YtihblcljkndpgaaFrame2
import Derived.Test.YtihblcljkndpgaaChange3
namespace Go.Proofs.Ytihblcljkndpgaa.Sep
open Go.RowKit Go.Proofs.Ytihblcljkndpgaa.Reg Go.Proofs.Ytihblcljkndpgaa.Oct
open Go.Proofs.Ytihblcljkndpgaa.Mem hiding Rd Own
-- types: octT idnT chgT intT
-- recs: rec_Reader idnT_rec effT_rec chgT_rec keyT_rec mgT_rec rgT_rec wrT_rec rdT_rec
-- eqs: idnT_eqa effT_eqa chgT_eqa keyT_eqa
-- eqrs: k4_eqr
-- zeros: z_octs z_rdr
-- funcs
-- flds
-- arrp
set_option maxRecDepth 100000
set_option maxHeartbeats 6000000
/-- numbers, each in w octets -/
def wn (w : Nat) (l : List Int) : List UInt8 := (l.map fun n => be n.toNat w).flatten
theorem wn_snoc (w : Nat) (l : List Int) (x : Int) : wn w (l ++ [x]) = wn w l ++ be x.toNat w := by simp [wn]
theorem wn_length (w : Nat) (l : List Int) : (wn w l).length = w * l.length := by
  induction l with
  | nil => simp [wn]
  | cons a l ih =>
    have : wn w (a :: l) = be a.toNat w ++ wn w l := rfl
    rw [this, List.length_append, be_length, ih, List.length_cons, Nat.mul_add]; omega
abbrev wst (g : Nat) (A : Option Addr) (n c : Nat) (l : List UInt8) : List Asn := [blk g 71 [.slice A n c], own octT A n c l]
def WP (g n' : Nat) (l : List UInt8) (e : Ending) (H' : List Asn) : Prop := e = .returned (.tuple #[]) ∧ ∃ A' c', H' = [blk g 71 [.slice A' n' c'], own octT A' n' c' l]
section
variable (E : Env) (g : Nat) (A : Option Addr) (n c : Nat) (l : List UInt8)
theorem wput (w n' : Nat) (W : Int) (hW : W = w) (hw : 1 ≤ w ∧ w ≤ 8) (B : Option Addr) (k d : Nat) (ns : List Int) (hr : Rd E intT B k d ns) (hns : ∀ x ∈ ns, 0 ≤ x ∧ x ≤ 65535) (hk : k ≤ 100) (hnl : n = l.length) (hn : n ≤ 100000) (hn' : n + w * k = n') :
    Tri Try.prog E 27 #[.pointer (some ⟨g, 0, none⟩), .int .i64 W, .slice B k d] (wst g A n c l) (WP g n' (l ++ wn w ns)) := by
  subst hn'
  have hcap := hr.cap
  have hlen := hr.len
  have hmax : maxLen = 9223372036854775807 := rfl
  unfold wst
  refine tri Try.func27 rfl Try.ntmps27 (by simp) ?_
  repeat (first | refine wMh ?_ | (refine kMh ?_; (first | rintro _ _ ⟨rfl, rfl⟩ | rintro _ _ ⟨_, rfl, rfl⟩ | rintro _ _ ⟨_, _, ⟨_, _⟩, rfl, rfl⟩); try refine ⟨sConv, ?_⟩) | refine Dr.two ?_ ?_)
  refine C.loop (X := Nat × Option Addr × Nat) (fun x => [(0, .pointer (some ⟨g, 0, none⟩)), (1, .int .i64 W), (8, .slice B k d), (9, .int .i64 k), (10, .int .i64 x.1)]) (fun x => [blk g 71 [.slice x.2.1 (n + w * x.1) x.2.2], own octT x.2.1 (n + w * x.1) x.2.2 (l ++ wn w (ns.take x.1))]) (fun x => x.1 ≤ k) (fun x => k - x.1) (0, A, c) sHolds (by simp [wn]; exact Conv.refl) (Nat.zero_le _) ?_
  rintro ⟨i, A', c'⟩ G hi
  dsimp only at hi ⊢
  by_cases hlt : i < k
  · have hli : i < ns.length := by omega
    have hx : ns[i]? = some ns[i] := List.getElem?_eq_getElem hli
    have hst : ns.take (i + 1) = ns.take i ++ [ns[i]] := List.take_succ_eq_append_getElem hli
    have hb := hns _ (List.getElem_mem hli)
    generalize ns[i] = x at hx hst hb
    have hz : (l ++ wn w (ns.take i)) ++ be x.toNat w = l ++ wn w (ns.take (i + 1)) := by rw [hst, wn_snoc, List.append_assoc]
    have hl2 : n + w * i = (l ++ wn w (ns.take i)).length := by rw [List.length_append, wn_length, List.length_take]; congr 2; omega
    have hwi : w * i ≤ 800 := Nat.le_trans (Nat.mul_le_mul hw.2 (show i ≤ 100 by omega)) (by decide)
    have hnn : n + w * i + w = n + w * (i + 1) := by rw [Nat.mul_add, Nat.mul_one]; omega
    have hwr := wrap_nat hb.1 (by omega)
    have hxl : x.toNat < 18446744073709551616 := by omega
    have hle : n + w * i ≤ 140737488355300 := by omega
    generalize n + w * i = q at *
    repeat (first | refine wMh ?_ | (refine kMh ?_; (first | rintro _ _ ⟨rfl, rfl⟩ | rintro _ _ ⟨_, rfl, rfl⟩ | rintro _ _ ⟨_, _, ⟨_, _⟩, rfl, rfl⟩); try refine ⟨sConv, ?_⟩) | refine Dr.two ?_ ?_)
    refine L.step (by decide) (S.call rfl rfl Try.func56 (by kernel_rfl) rfl sPicks (fun E' hE => putw_any E' A' q c' (n + w * (i + 1)) w (l ++ wn w (ns.take i)) x.toNat W hW hnn hw sRd hxl hle) ?_)
    rintro e H' ⟨A1, c1, rfl, hc1, rfl⟩
    refine ⟨_, rfl, _, sCat, ?_⟩
    rw [hz]
    repeat (first | refine wMh ?_ | (refine kMh ?_; (first | rintro _ _ ⟨rfl, rfl⟩ | rintro _ _ ⟨_, rfl, rfl⟩ | rintro _ _ ⟨_, _, ⟨_, _⟩, rfl, rfl⟩); try refine ⟨sConv, ?_⟩) | refine Dr.two ?_ ?_)
    exact ⟨(i + 1, A1, c1), sHolds, sConv, by dsimp only; omega, by dsimp only; omega⟩
  · obtain rfl : i = k := by omega
    have hall : ns.take i = ns := List.take_of_length_le (by omega)
    rw [hall]
    repeat (first | refine wMh ?_ | (refine kMh ?_; (first | rintro _ _ ⟨rfl, rfl⟩ | rintro _ _ ⟨_, rfl, rfl⟩ | rintro _ _ ⟨_, _, ⟨_, _⟩, rfl, rfl⟩); try refine ⟨sConv, ?_⟩) | refine Dr.two ?_ ?_)
    exact end0 rfl sConv (⟨rfl, _, _, rfl⟩)
theorem wid26 (n' : Nat) (a : Idn) (ha : a.may = true) (hnl : n = l.length) (hn : n ≤ 90000) (hn' : n + 3 = n') : Tri Try.prog E 28 #[.pointer (some ⟨g, 0, none⟩), .agg a.cs.toArray] (wst g A n c l) (WP g n' (l ++ idnB a)) := by
  subst hn'
  obtain ⟨r0, r1, s0, s1⟩ := (Idn.may_iff a).1 ha
  have o1 : 1 ≤ 1 ∧ 1 ≤ 8 := by omega
  have o2 : 1 ≤ 2 ∧ 2 ≤ 8 := by omega
  have b1 : ∀ x ∈ [a.rep], 0 ≤ x ∧ x ≤ 65535 := fun x hx => by simp at hx; omega
  have b2 : ∀ x ∈ [a.seq], 0 ≤ x ∧ x ≤ 65535 := fun x hx => by simp at hx; omega
  have hl1 : n + 1 = (l ++ wn 1 [a.rep]).length := by rw [List.length_append, wn_length, hnl]; rfl
  have hfin : (l ++ wn 1 [a.rep]) ++ wn 2 [a.seq] = l ++ idnB a := by simp [wn, idnB, ser]
  have l1 : 1 ≤ 100 := by omega
  have l2 : n ≤ 100000 := by omega
  have l3 : n + 1 ≤ 100000 := by omega
  have l4 : n + 1 * 1 = n + 1 := by omega
  have l5 : n + 1 + 2 * 1 = n + 3 := by omega
  unfold wst
  refine tri Try.func28 rfl Try.ntmps28 (by simp) ?_
  repeat (first | refine wMh ?_ | (refine kMh ?_; (first | rintro _ _ ⟨rfl, rfl⟩ | rintro _ _ ⟨_, rfl, rfl⟩ | rintro _ _ ⟨_, _, ⟨_, _⟩, rfl, rfl⟩); try refine ⟨sConv, ?_⟩) | refine Dr.two ?_ ?_)
  refine L.step (by decide) (S.call rfl rfl Try.func27 (by kernel_rfl) rfl sPicks (fun E' hE => wput E' g A n c l 1 (n + 1) 1 rfl o1 _ 1 1 [a.rep] sRd b1 l1 hnl l2 l4) ?_)
  rintro e H' ⟨rfl, A1, c1, rfl⟩
  refine ⟨_, rfl, _, sCat, ?_⟩
  repeat (first | refine wMh ?_ | (refine kMh ?_; (first | rintro _ _ ⟨rfl, rfl⟩ | rintro _ _ ⟨_, rfl, rfl⟩ | rintro _ _ ⟨_, _, ⟨_, _⟩, rfl, rfl⟩); try refine ⟨sConv, ?_⟩) | refine Dr.two ?_ ?_)
  refine L.step (by decide) (S.call rfl rfl Try.func27 (by kernel_rfl) rfl sPicks (fun E' hE => wput E' g A1 (n + 1) c1 (l ++ wn 1 [a.rep]) 2 (n + 3) 2 rfl o2 _ 1 1 [a.seq] sRd b2 l1 hl1 l3 l5) ?_)
  rintro e H' ⟨rfl, A2, c2, rfl⟩
  refine ⟨_, rfl, _, sCat, ?_⟩
  rw [hfin]
  repeat (first | refine wMh ?_ | (refine kMh ?_; (first | rintro _ _ ⟨rfl, rfl⟩ | rintro _ _ ⟨_, rfl, rfl⟩ | rintro _ _ ⟨_, _, ⟨_, _⟩, rfl, rfl⟩); try refine ⟨sConv, ?_⟩) | refine Dr.two ?_ ?_)
  exact end0 rfl sConv (⟨rfl, _, _, rfl⟩)
theorem wkey26 (n' : Nat) (k : Keyv) (hk : k.may = true) (hnl : n = l.length) (hn : n ≤ 80000) (hn' : n + 5 = n') : Tri Try.prog E 30 #[.pointer (some ⟨g, 0, none⟩), .agg k.cs.toArray] (wst g A n c l) (WP g n' (l ++ ser kW (keyS k))) := by
  subst hn'
  obtain ⟨hi, o0, o1⟩ := (Keyv.may_iff k).1 hk
  have hid : k.id.may = true := (Idn.may_iff _).2 hi
  have w1 : 1 ≤ 1 ∧ 1 ≤ 8 := by omega
  have b0 : ∀ x ∈ [k.ord, 0], 0 ≤ x ∧ x ≤ 65535 := fun x hx => by simp at hx; omega
  have b1 : ∀ x ∈ [k.ord, 1], 0 ≤ x ∧ x ≤ 65535 := fun x hx => by simp at hx; omega
  have hl1 : n + 3 = (l ++ idnB k.id).length := by rw [List.length_append, idnB_length, hnl]
  have l1 : 2 ≤ 100 := by omega
  have l2 : n ≤ 90000 := by omega
  have l3 : n + 3 ≤ 100000 := by omega
  have l5 : n + 3 + 1 * 2 = n + 5 := by omega
  unfold wst
  refine tri Try.func30 rfl Try.ntmps30 (by simp) ?_
  repeat (first | refine wMh ?_ | (refine kMh ?_; (first | rintro _ _ ⟨rfl, rfl⟩ | rintro _ _ ⟨_, rfl, rfl⟩ | rintro _ _ ⟨_, _, ⟨_, _⟩, rfl, rfl⟩); try refine ⟨sConv, ?_⟩) | refine Dr.two ?_ ?_)
  refine L.step (by decide) (S.call rfl rfl Try.func28 (by kernel_rfl) rfl sPicks (fun E' hE => wid26 E' g A n c l (n + 3) k.id hid hnl l2 rfl) ?_)
  rintro e H' ⟨rfl, A1, c1, rfl⟩
  refine ⟨_, rfl, _, sCat, ?_⟩
  cases hu : k.undo
  · have hfin : (l ++ idnB k.id) ++ wn 1 [k.ord, 0] = l ++ ser kW (keyS k) := by simp [wn, idnB, ser, keyS, undoN, hu]
    repeat (first | refine wMh ?_ | (refine kMh ?_; (first | rintro _ _ ⟨rfl, rfl⟩ | rintro _ _ ⟨_, rfl, rfl⟩ | rintro _ _ ⟨_, _, ⟨_, _⟩, rfl, rfl⟩); try refine ⟨sConv, ?_⟩) | refine Dr.two ?_ ?_)
    refine L.step (by decide) (S.call rfl rfl Try.func27 (by kernel_rfl) rfl sPicks (fun E' hE => wput E' g A1 (n + 3) c1 (l ++ idnB k.id) 1 (n + 5) 1 rfl w1 _ 2 2 [k.ord, 0] sRd b0 l1 hl1 l3 l5) ?_)
    rintro e H' ⟨rfl, A2, c2, rfl⟩
    refine ⟨_, rfl, _, sCat, ?_⟩
    rw [hfin]
    repeat (first | refine wMh ?_ | (refine kMh ?_; (first | rintro _ _ ⟨rfl, rfl⟩ | rintro _ _ ⟨_, rfl, rfl⟩ | rintro _ _ ⟨_, _, ⟨_, _⟩, rfl, rfl⟩); try refine ⟨sConv, ?_⟩) | refine Dr.two ?_ ?_)
    exact end0 rfl sConv (⟨rfl, _, _, rfl⟩)
  · have hfin : (l ++ idnB k.id) ++ wn 1 [k.ord, 1] = l ++ ser kW (keyS k) := by simp [wn, idnB, ser, keyS, undoN, hu]
    repeat (first | refine wMh ?_ | (refine kMh ?_; (first | rintro _ _ ⟨rfl, rfl⟩ | rintro _ _ ⟨_, rfl, rfl⟩ | rintro _ _ ⟨_, _, ⟨_, _⟩, rfl, rfl⟩); try refine ⟨sConv, ?_⟩) | refine Dr.two ?_ ?_)
    refine L.step (by decide) (S.call rfl rfl Try.func27 (by kernel_rfl) rfl sPicks (fun E' hE => wput E' g A1 (n + 3) c1 (l ++ idnB k.id) 1 (n + 5) 1 rfl w1 _ 2 2 [k.ord, 1] sRd b1 l1 hl1 l3 l5) ?_)
    rintro e H' ⟨rfl, A2, c2, rfl⟩
    refine ⟨_, rfl, _, sCat, ?_⟩
    rw [hfin]
    repeat (first | refine wMh ?_ | (refine kMh ?_; (first | rintro _ _ ⟨rfl, rfl⟩ | rintro _ _ ⟨_, rfl, rfl⟩ | rintro _ _ ⟨_, _, ⟨_, _⟩, rfl, rfl⟩); try refine ⟨sConv, ?_⟩) | refine Dr.two ?_ ?_)
    exact end0 rfl sConv (⟨rfl, _, _, rfl⟩)
end
end Go.Proofs.Ytihblcljkndpgaa.Sep
/- msg.Put, by parts of memory. -/
namespace Go.Proofs.Ytihblcljkndpgaa.Sep
open Go.RowKit Go.Proofs.Ytihblcljkndpgaa.Reg Go.Proofs.Ytihblcljkndpgaa.Oct
open Go.Proofs.Ytihblcljkndpgaa.Mem hiding Rd Own
-- types: octT idnT chgT intT
-- recs: rec_Reader idnT_rec effT_rec chgT_rec keyT_rec mgT_rec rgT_rec wrT_rec rdT_rec
-- eqs: idnT_eqa effT_eqa chgT_eqa keyT_eqa
-- eqrs: k4_eqr
-- zeros: z_octs z_rdr
-- funcs
-- flds
-- arrp
set_option maxRecDepth 100000
set_option maxHeartbeats 6000000
theorem Mg.ends {m : Mg} (h : m.check = 0) : 0 ≤ m.fr ∧ m.fr ≤ 9 ∧ 0 ≤ m.to ∧ m.to ≤ 9 := by
  obtain ⟨_, hp, _, _⟩ := Mg.check_zero h
  unfold Mg.parties at hp
  split at hp
  · simp [rep4] at hp; omega
  · split at hp
    · simp [rep4] at hp; omega
    · simp [rep4] at hp; omega
theorem Mg.fine1 {m : Mg} (h : m.check = 0) (h1 : m.kind = 1) : (∀ x ∈ m.ks, 0 ≤ x ∧ x ≤ 65535) ∧ 0 ≤ m.base ∧ m.base ≤ 48 := by
  obtain ⟨_, _, hf, _⟩ := Mg.check_zero h
  unfold Mg.fine at hf
  rw [if_pos h1] at hf
  simp [sq, bs] at hf
  refine ⟨fun x hx => ?_, by omega⟩
  simp at hx
  omega
theorem Mg.fine2 {m : Mg} (h : m.check = 0) (h1 : m.kind = 2) : m.ids.length ≤ 16 ∧ m.ids.all Idn.may = true ∧ m.chs.length ≤ 8 ∧ m.chs.all Chg.may = true ∧ 0 ≤ m.base ∧ m.base ≤ 48 := by
  obtain ⟨_, _, hf, _⟩ := Mg.check_zero h
  unfold Mg.fine at hf
  rw [if_neg (by omega), if_pos h1] at hf
  simp only [Bool.and_eq_true, decide_eq_true_eq, bs] at hf
  exact ⟨hf.1.1.1, hf.1.1.2, hf.1.2.1, hf.1.2.2, hf.2⟩
theorem Mg.fine3 {m : Mg} (h : m.check = 0) (h1 : m.kind = 3) : m.key.may = true ∧ m.what.check = 0 := by
  obtain ⟨_, _, hf, _⟩ := Mg.check_zero h
  unfold Mg.fine at hf
  rw [if_neg (by omega), if_neg (by omega), if_pos h1] at hf
  simpa using hf
theorem Mg.fine4 {m : Mg} (h : m.check = 0) (h1 : m.kind = 4) : m.key.may = true := by
  obtain ⟨_, _, hf, _⟩ := Mg.check_zero h
  unfold Mg.fine at hf
  rwa [if_neg (by omega), if_neg (by omega), if_neg (by omega)] at hf
theorem Mg.body1 {m : Mg} (h1 : m.kind = 1) : (([] ++ wn 1 [m.kind, m.fr, m.to]) ++ wn 2 m.ks) ++ wn 1 [m.base] = m.body := by
  unfold Mg.body
  rw [if_pos h1]
  simp [wn, ser]
theorem Mg.body2 {m : Mg} (h1 : m.kind = 2) : (((([] ++ wn 1 [m.kind, m.fr, m.to]) ++ wn 1 [m.base, (m.ids.length : Int)]) ++ idsB m.ids) ++ enlist m.chs) = m.body := by
  unfold Mg.body
  rw [if_neg (by omega), if_pos h1]
  simp [wn, ser]
theorem Mg.body3 {m : Mg} (h1 : m.kind = 3) : ((([] ++ wn 1 [m.kind, m.fr, m.to]) ++ ser kW (keyS m.key)) ++ m.what.put) = m.body := by
  unfold Mg.body
  rw [if_neg (by omega), if_neg (by omega), if_pos h1]
  simp [wn, ser]
theorem Mg.body4 {m : Mg} (h1 : m.kind = 4) : (([] ++ wn 1 [m.kind, m.fr, m.to]) ++ ser kW (keyS m.key)) = m.body := by
  unfold Mg.body
  rw [if_neg (by omega), if_neg (by omega), if_neg (by omega)]
  simp [wn, ser]
theorem keyS_length (k : Keyv) : (ser kW (keyS k)).length = 5 := by simp [ser, keyS, be_length]
theorem Mg.body_length {m : Mg} (h : m.check = 0) : 1 ≤ m.body.length ∧ m.body.length ≤ 300 := by
  obtain ⟨hk, _, _, _⟩ := Mg.check_zero h
  rcases (show m.kind = 1 ∨ m.kind = 2 ∨ m.kind = 3 ∨ m.kind = 4 by omega) with h1 | h1 | h1 | h1
  · rw [← Mg.body1 h1]; simp [wn_length]
  · obtain ⟨h16, _, h8, _⟩ := Mg.fine2 h h1
    rw [← Mg.body2 h1]; simp [wn_length, idsB_length, enlist_length]; omega
  · rw [← Mg.body3 h1]; simp [wn_length, keyS_length, Eff.put_length]
  · rw [← Mg.body4 h1]; simp [wn_length, keyS_length]
section
variable (E : Env) (m : Mg) (A : Option Addr) (n c : Nat) (B : Option Addr) (k d : Nat)
theorem mput_no (hI : Rd E idnT A n c m.ids) (hC : Rd E chgT B k d m.chs) (h : m.check ≠ 0) : Tri Try.prog E 10 #[.agg (mcs m A n c B k d).toArray] [] fun e H' => e = .returned (.tuple #[.slice none 0 0, .int .i64 m.check]) ∧ H' = [] := by
  refine tri Try.func10 rfl Try.ntmps10 (by simp) ?_
  repeat (first | refine wMh ?_ | (refine kMh ?_; (first | rintro _ _ ⟨rfl, rfl⟩ | rintro _ _ ⟨_, rfl, rfl⟩ | rintro _ _ ⟨_, _, ⟨_, _⟩, rfl, rfl⟩); try refine ⟨sConv, ?_⟩) | refine Dr.two ?_ ?_)
  refine L.step (by decide) (S.call rfl rfl Try.func15 (by kernel_rfl) rfl sPicks (fun E' hE => mcheck E' m A n c B k d sRd sRd) ?_)
  generalize m.check = ck at *
  rintro e H' ⟨rfl, rfl⟩
  refine ⟨_, rfl, _, sCat, ?_⟩
  repeat (first | refine wMh ?_ | (refine kMh ?_; (first | rintro _ _ ⟨rfl, rfl⟩ | rintro _ _ ⟨_, rfl, rfl⟩ | rintro _ _ ⟨_, _, ⟨_, _⟩, rfl, rfl⟩); try refine ⟨sConv, ?_⟩) | refine Dr.two ?_ ?_)
  exact ret2 rfl sRet sRet sConv (⟨rfl, rfl⟩)
def MPut (m : Mg) (e : Ending) (H' : List Asn) : Prop := ∃ A' c', e = .returned (.tuple #[.slice A' (m.body.length + 7) c', .int .i64 0]) ∧ H' = [own octT A' (m.body.length + 7) c' m.enc]
theorem mput_ok (hI : Rd E idnT A n c m.ids) (hC : Rd E chgT B k d m.chs) (h : m.check = 0) : Tri Try.prog E 10 #[.agg (mcs m A n c B k d).toArray] [] (MPut m) := by
  have hn := hI.len
  have hk := hC.len
  have hnc := hI.cap
  have hkc := hC.cap
  have hmax : maxLen = 9223372036854775807 := rfl
  have hk4 := (Mg.check_zero h).1
  have hb0 := Mg.body_length h
  have hef := Mg.ends h
  have h4m : 4 ≤ maxLen := by decide
  have hkn := known_cells m A n c B k d
  have o1 : 1 ≤ 1 ∧ 1 ≤ 8 := by omega
  have o2 : 1 ≤ 2 ∧ 2 ≤ 8 := by omega
  have b3 : ∀ x ∈ [m.kind, m.fr, m.to], 0 ≤ x ∧ x ≤ 65535 := fun x hx => by simp at hx; omega
  have z0 : 0 = ([] : List UInt8).length := rfl
  have z1 : 3 ≤ 100 := by omega
  have z2 : 0 ≤ 100000 := by omega
  have z3 : 0 + 1 * 3 = 3 := by omega
  have hl3 : 3 = ([] ++ wn 1 [m.kind, m.fr, m.to]).length := by rw [List.length_append, wn_length]; rfl
  have z4 : 3 ≤ 100000 := by omega
  have z5 : 3 ≤ 80000 := by omega
  unfold MPut Mg.enc
  refine tri Try.func10 rfl Try.ntmps10 (by simp) ?_
  repeat (first | refine wMh ?_ | (refine kMh ?_; (first | rintro _ _ ⟨rfl, rfl⟩ | rintro _ _ ⟨_, rfl, rfl⟩ | rintro _ _ ⟨_, _, ⟨_, _⟩, rfl, rfl⟩); try refine ⟨sConv, ?_⟩) | refine Dr.two ?_ ?_)
  refine L.step (by decide) (S.call rfl rfl Try.func15 (by kernel_rfl) rfl sPicks (fun E' hE => mcheck E' m A n c B k d sRd sRd) ?_)
  rw [h]
  rintro e H' ⟨rfl, rfl⟩
  refine ⟨_, rfl, _, sCat, ?_⟩
  repeat (first | refine wMh ?_ | (refine kMh ?_; (first | rintro _ _ ⟨rfl, rfl⟩ | rintro _ _ ⟨_, rfl, rfl⟩ | rintro _ _ ⟨_, _, ⟨_, _⟩, rfl, rfl⟩); try refine ⟨sConv, ?_⟩) | refine Dr.two ?_ ?_)
  rename_i gb gw gs
  refine L.conv (Conv.nil0 octT none) ?_
  refine L.step (by decide) (S.call rfl rfl Try.func27 (by kernel_rfl) rfl sPicks (fun E' hE => wput E' gw none 0 0 [] 1 3 1 rfl o1 _ 3 3 [m.kind, m.fr, m.to] sRd b3 z1 z0 z2 z3) ?_)
  rintro e H' ⟨rfl, A1, c1, rfl⟩
  refine ⟨_, rfl, _, sCat, ?_⟩
  generalize hhd : [] ++ wn 1 [m.kind, m.fr, m.to] = hd at *
  rcases (show m.kind = 1 ∨ m.kind = 2 ∨ m.kind = 3 ∨ m.kind = 4 by omega) with h1 | h1 | h1 | h1
  · obtain ⟨f1, f2, f3⟩ := Mg.fine1 h h1
    have hbd := Mg.body1 h1
    rw [hhd] at hbd
    have y0 : 3 = hd.length := hl3
    have y1 : 4 ≤ 100 := by omega
    have y2 : 3 + 2 * 4 = 11 := by omega
    have y3 : 11 = (hd ++ wn 2 m.ks).length := by rw [List.length_append, wn_length, ← hl3]; rfl
    have y4 : 1 ≤ 100 := by omega
    have y5 : 11 ≤ 100000 := by omega
    have y6 : 11 + 1 * 1 = 12 := by omega
    have y7 : ∀ x ∈ [m.base], 0 ≤ x ∧ x ≤ 65535 := fun x hx => by simp at hx; omega
    have y8 : 12 = ((hd ++ wn 2 m.ks) ++ wn 1 [m.base]).length := by rw [List.length_append, wn_length, ← y3]; rfl
    have y9 : 1 ≤ 12 := by omega
    have y10 : 12 ≤ 4096 := by omega
    repeat (first | refine wMh ?_ | (refine kMh ?_; (first | rintro _ _ ⟨rfl, rfl⟩ | rintro _ _ ⟨_, rfl, rfl⟩ | rintro _ _ ⟨_, _, ⟨_, _⟩, rfl, rfl⟩); try refine ⟨sConv, ?_⟩) | refine Dr.two ?_ ?_)
    refine L.step (by decide) (S.call rfl rfl Try.func27 (by kernel_rfl) rfl sPicks (fun E' hE => wput E' gw A1 3 c1 hd 2 11 2 rfl o2 (some ⟨gb, 3, none⟩) 4 4 m.ks (hE.arr sHas rfl h4m hkn) f1 y1 y0 z4 y2) ?_)
    rintro e H' ⟨rfl, A2, c2, rfl⟩
    refine ⟨_, rfl, _, sCat, ?_⟩
    repeat (first | refine wMh ?_ | (refine kMh ?_; (first | rintro _ _ ⟨rfl, rfl⟩ | rintro _ _ ⟨_, rfl, rfl⟩ | rintro _ _ ⟨_, _, ⟨_, _⟩, rfl, rfl⟩); try refine ⟨sConv, ?_⟩) | refine Dr.two ?_ ?_)
    refine L.step (by decide) (S.call rfl rfl Try.func27 (by kernel_rfl) rfl sPicks (fun E' hE => wput E' gw A2 11 c2 (hd ++ wn 2 m.ks) 1 12 1 rfl o1 _ 1 1 [m.base] sRd y7 y4 y3 y5 y6) ?_)
    rintro e H' ⟨rfl, A3, c3, rfl⟩
    refine ⟨_, rfl, _, sCat, ?_⟩
    rw [hbd] at y8 ⊢
    rw [← y8]
    repeat (first | refine wMh ?_ | (refine kMh ?_; (first | rintro _ _ ⟨rfl, rfl⟩ | rintro _ _ ⟨_, rfl, rfl⟩ | rintro _ _ ⟨_, _, ⟨_, _⟩, rfl, rfl⟩); try refine ⟨sConv, ?_⟩) | refine Dr.two ?_ ?_)
    refine L.step (by decide) (S.call rfl rfl Try.func32 (by kernel_rfl) rfl sPicks (fun E' hE => putf_ok E' A3 12 c3 m.body sRd y9 y10) ?_)
    rintro e H' ⟨A4, c4, rfl, rfl⟩
    refine ⟨_, rfl, _, sCat, ?_⟩
    repeat (first | refine wMh ?_ | (refine kMh ?_; (first | rintro _ _ ⟨rfl, rfl⟩ | rintro _ _ ⟨_, rfl, rfl⟩ | rintro _ _ ⟨_, _, ⟨_, _⟩, rfl, rfl⟩); try refine ⟨sConv, ?_⟩) | refine Dr.two ?_ ?_)
    exact ret2 rfl sRet sRet sConv (⟨_, _, rfl, rfl⟩)
  · obtain ⟨f1, f2, f3, f4, f5, f6⟩ := Mg.fine2 h h1
    have hbd := Mg.body2 h1
    rw [hhd, ← hn] at hbd
    have x0 : 3 = hd.length := hl3
    have x1 : 2 ≤ 100 := by omega
    have x2 : 3 + 1 * 2 = 5 := by omega
    have x3 : ∀ x ∈ [m.base, (n : Int)], 0 ≤ x ∧ x ≤ 65535 := fun x hx => by simp at hx; omega
    have x4 : 5 = (hd ++ wn 1 [m.base, (n : Int)]).length := by rw [List.length_append, wn_length, ← hl3]; rfl
    have x5 : k ≤ 48 := by omega
    have x6 : m.body.length = 5 + 3 * n + (1 + 22 * k) := by rw [← hbd]; simp only [List.length_append, ← x4, idsB_length, enlist_length]; omega
    repeat (first | refine wMh ?_ | (refine kMh ?_; (first | rintro _ _ ⟨rfl, rfl⟩ | rintro _ _ ⟨_, rfl, rfl⟩ | rintro _ _ ⟨_, _, ⟨_, _⟩, rfl, rfl⟩); try refine ⟨sConv, ?_⟩) | refine Dr.two ?_ ?_)
    refine L.step (by decide) (S.call rfl rfl Try.func27 (by kernel_rfl) rfl sPicks (fun E' hE => wput E' gw A1 3 c1 hd 1 5 1 rfl o1 _ 2 2 [m.base, (n : Int)] sRd x3 x1 x0 z4 x2) ?_)
    rintro e H' ⟨rfl, A2, c2, rfl⟩
    refine ⟨_, rfl, _, sCat, ?_⟩
    generalize hd ++ wn 1 [m.base, (n : Int)] = h2 at *
    repeat (first | refine wMh ?_ | (refine kMh ?_; (first | rintro _ _ ⟨rfl, rfl⟩ | rintro _ _ ⟨_, rfl, rfl⟩ | rintro _ _ ⟨_, _, ⟨_, _⟩, rfl, rfl⟩); try refine ⟨sConv, ?_⟩) | refine Dr.two ?_ ?_)
    refine C.loop (X := Nat × Option Addr × Nat) (fun x => [(1, .pointer (some ⟨gb, 0, none⟩)), (5, .pointer (some ⟨gw, 0, none⟩)), (29, .int .i64 m.kind), (52, .slice A n c), (53, .int .i64 n), (54, .int .i64 x.1)]) (fun x => [blk gw 71 [.slice x.2.1 (5 + 3 * x.1) x.2.2], own octT x.2.1 (5 + 3 * x.1) x.2.2 (h2 ++ idsB (m.ids.take x.1)), blk gb 34 (mcs m A n c B k d)]) (fun x => x.1 ≤ n) (fun x => n - x.1) (0, A2, c2) sHolds (by simp [idsB]; exact sConv) (Nat.zero_le _) ?_
    rintro ⟨i, A3, c3⟩ G hi
    dsimp only at hi ⊢
    by_cases hlt : i < n
    · have hli : i < m.ids.length := by omega
      have hx : m.ids[i]? = some m.ids[i] := List.getElem?_eq_getElem hli
      have hst : m.ids.take (i + 1) = m.ids.take i ++ [m.ids[i]] := List.take_succ_eq_append_getElem hli
      have hmy : m.ids[i].may = true := by rw [List.all_eq_true] at f2; exact f2 _ (List.getElem_mem hli)
      generalize m.ids[i] = x at hx hst hmy
      have hz : (h2 ++ idsB (m.ids.take i)) ++ idnB x = h2 ++ idsB (m.ids.take (i + 1)) := by rw [hst, idsB_snoc, List.append_assoc]
      have hl2 : 5 + 3 * i = (h2 ++ idsB (m.ids.take i)).length := by rw [List.length_append, idsB_length, List.length_take, ← x4]; omega
      have hle : 5 + 3 * i ≤ 90000 := by omega
      have hnn : 5 + 3 * i + 3 = 5 + 3 * (i + 1) := by omega
      repeat (first | refine wMh ?_ | (refine kMh ?_; (first | rintro _ _ ⟨rfl, rfl⟩ | rintro _ _ ⟨_, rfl, rfl⟩ | rintro _ _ ⟨_, _, ⟨_, _⟩, rfl, rfl⟩); try refine ⟨sConv, ?_⟩) | refine Dr.two ?_ ?_)
      refine L.step (by decide) (S.call rfl rfl Try.func28 (by kernel_rfl) rfl sPicks (fun E' hE => wid26 E' gw A3 (5 + 3 * i) c3 (h2 ++ idsB (m.ids.take i)) (5 + 3 * (i + 1)) x hmy hl2 hle hnn) ?_)
      rintro e H' ⟨rfl, A4, c4, rfl⟩
      refine ⟨_, rfl, _, sCat, ?_⟩
      rw [hz]
      repeat (first | refine wMh ?_ | (refine kMh ?_; (first | rintro _ _ ⟨rfl, rfl⟩ | rintro _ _ ⟨_, rfl, rfl⟩ | rintro _ _ ⟨_, _, ⟨_, _⟩, rfl, rfl⟩); try refine ⟨sConv, ?_⟩) | refine Dr.two ?_ ?_)
      exact ⟨(i + 1, A4, c4), sHolds, sConv, by dsimp only; omega, by dsimp only; omega⟩
    obtain rfl : i = n := by omega
    have hall : m.ids.take i = m.ids := List.take_of_length_le (by omega)
    rw [hall]
    repeat (first | refine wMh ?_ | (refine kMh ?_; (first | rintro _ _ ⟨rfl, rfl⟩ | rintro _ _ ⟨_, rfl, rfl⟩ | rintro _ _ ⟨_, _, ⟨_, _⟩, rfl, rfl⟩); try refine ⟨sConv, ?_⟩) | refine Dr.two ?_ ?_)
    refine L.step (by decide) (S.call rfl rfl Try.func29 (by kernel_rfl) rfl sPicks (fun E' hE => call_any E' B k d m.chs sRd x5) ?_)
    unfold AllPost
    rw [f4]
    rintro e H' ⟨A4, c4, rfl, rfl⟩
    refine ⟨_, rfl, _, sCat, ?_⟩
    rw [← hk]
    repeat (first | refine wMh ?_ | (refine kMh ?_; (first | rintro _ _ ⟨rfl, rfl⟩ | rintro _ _ ⟨_, rfl, rfl⟩ | rintro _ _ ⟨_, _, ⟨_, _⟩, rfl, rfl⟩); try refine ⟨sConv, ?_⟩) | refine Dr.two ?_ ?_)
    rw [hbd]
    have x7 : 1 ≤ 5 + 3 * i + (1 + 22 * k) := by omega
    have x8 : 5 + 3 * i + (1 + 22 * k) ≤ 4096 := by omega
    rw [x6]
    rename_i A5 c5 _ _
    refine L.step (by decide) (S.call rfl rfl Try.func32 (by kernel_rfl) rfl sPicks (fun E' hE => putf_ok E' A5 (5 + 3 * i + (1 + 22 * k)) c5 m.body sRd x7 x8) ?_)
    rintro e H' ⟨A6, c6, rfl, rfl⟩
    refine ⟨_, rfl, _, sCat, ?_⟩
    repeat (first | refine wMh ?_ | (refine kMh ?_; (first | rintro _ _ ⟨rfl, rfl⟩ | rintro _ _ ⟨_, rfl, rfl⟩ | rintro _ _ ⟨_, _, ⟨_, _⟩, rfl, rfl⟩); try refine ⟨sConv, ?_⟩) | refine Dr.two ?_ ?_)
    exact ret2 rfl sRet sRet sConv (⟨_, _, rfl, rfl⟩)
  · obtain ⟨f1, f2⟩ := Mg.fine3 h h1
    have hbd := Mg.body3 h1
    rw [hhd] at hbd
    have x0 : 3 = hd.length := hl3
    have x6 : m.body.length = 8 + 13 := by rw [← hbd]; simp only [List.length_append, ← x0, keyS_length, Eff.put_length]
    repeat (first | refine wMh ?_ | (refine kMh ?_; (first | rintro _ _ ⟨rfl, rfl⟩ | rintro _ _ ⟨_, rfl, rfl⟩ | rintro _ _ ⟨_, _, ⟨_, _⟩, rfl, rfl⟩); try refine ⟨sConv, ?_⟩) | refine Dr.two ?_ ?_)
    refine L.step (by decide) (S.call rfl rfl Try.func30 (by kernel_rfl) rfl sPicks (fun E' hE => wkey26 E' gw A1 3 c1 hd 8 m.key f1 x0 z5 rfl) ?_)
    rintro e H' ⟨rfl, A2, c2, rfl⟩
    refine ⟨_, rfl, _, sCat, ?_⟩
    repeat (first | refine wMh ?_ | (refine kMh ?_; (first | rintro _ _ ⟨rfl, rfl⟩ | rintro _ _ ⟨_, rfl, rfl⟩ | rintro _ _ ⟨_, _, ⟨_, _⟩, rfl, rfl⟩); try refine ⟨sConv, ?_⟩) | refine Dr.two ?_ ?_)
    refine L.step (by decide) (S.call rfl rfl Try.func31 (by kernel_rfl) rfl sPicks (fun E' hE => fput E' m.what f2) ?_)
    rintro e H' ⟨A4, c4, rfl, rfl⟩
    refine ⟨_, rfl, _, sCat, ?_⟩
    repeat (first | refine wMh ?_ | (refine kMh ?_; (first | rintro _ _ ⟨rfl, rfl⟩ | rintro _ _ ⟨_, rfl, rfl⟩ | rintro _ _ ⟨_, _, ⟨_, _⟩, rfl, rfl⟩); try refine ⟨sConv, ?_⟩) | refine Dr.two ?_ ?_)
    rw [hbd]
    have x7 : 1 ≤ 8 + 13 := by omega
    have x8 : 8 + 13 ≤ 4096 := by omega
    rw [x6]
    rename_i A5 c5 _ _
    refine L.step (by decide) (S.call rfl rfl Try.func32 (by kernel_rfl) rfl sPicks (fun E' hE => putf_ok E' A5 (8 + 13) c5 m.body sRd x7 x8) ?_)
    rintro e H' ⟨A6, c6, rfl, rfl⟩
    refine ⟨_, rfl, _, sCat, ?_⟩
    repeat (first | refine wMh ?_ | (refine kMh ?_; (first | rintro _ _ ⟨rfl, rfl⟩ | rintro _ _ ⟨_, rfl, rfl⟩ | rintro _ _ ⟨_, _, ⟨_, _⟩, rfl, rfl⟩); try refine ⟨sConv, ?_⟩) | refine Dr.two ?_ ?_)
    exact ret2 rfl sRet sRet sConv (⟨_, _, rfl, rfl⟩)
  · have f1 := Mg.fine4 h h1
    have hbd := Mg.body4 h1
    rw [hhd] at hbd
    have x0 : 3 = hd.length := hl3
    have x6 : m.body.length = 8 := by rw [← hbd]; simp only [List.length_append, ← x0, keyS_length]
    repeat (first | refine wMh ?_ | (refine kMh ?_; (first | rintro _ _ ⟨rfl, rfl⟩ | rintro _ _ ⟨_, rfl, rfl⟩ | rintro _ _ ⟨_, _, ⟨_, _⟩, rfl, rfl⟩); try refine ⟨sConv, ?_⟩) | refine Dr.two ?_ ?_)
    refine L.step (by decide) (S.call rfl rfl Try.func30 (by kernel_rfl) rfl sPicks (fun E' hE => wkey26 E' gw A1 3 c1 hd 8 m.key f1 x0 z5 rfl) ?_)
    rintro e H' ⟨rfl, A2, c2, rfl⟩
    refine ⟨_, rfl, _, sCat, ?_⟩
    rw [hbd]
    repeat (first | refine wMh ?_ | (refine kMh ?_; (first | rintro _ _ ⟨rfl, rfl⟩ | rintro _ _ ⟨_, rfl, rfl⟩ | rintro _ _ ⟨_, _, ⟨_, _⟩, rfl, rfl⟩); try refine ⟨sConv, ?_⟩) | refine Dr.two ?_ ?_)
    have x7 : 1 ≤ 8 := by omega
    have x8 : 8 ≤ 4096 := by omega
    rw [x6]
    refine L.step (by decide) (S.call rfl rfl Try.func32 (by kernel_rfl) rfl sPicks (fun E' hE => putf_ok E' A2 8 c2 m.body sRd x7 x8) ?_)
    rintro e H' ⟨A6, c6, rfl, rfl⟩
    refine ⟨_, rfl, _, sCat, ?_⟩
    repeat (first | refine wMh ?_ | (refine kMh ?_; (first | rintro _ _ ⟨rfl, rfl⟩ | rintro _ _ ⟨_, rfl, rfl⟩ | rintro _ _ ⟨_, _, ⟨_, _⟩, rfl, rfl⟩); try refine ⟨sConv, ?_⟩) | refine Dr.two ?_ ?_)
    exact ret2 rfl sRet sRet sConv (⟨_, _, rfl, rfl⟩)
end
end Go.Proofs.Ytihblcljkndpgaa.Sep
