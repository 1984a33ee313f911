/- Entries as octets: what the page says. No function in sight. -/
import Derived.Test.YtncfkkmdhdofpaaEnt8
namespace Go.Proofs.Ytncfkkmdhdofpaa.Sep
open Go.RowKit Go.Proofs.Ytncfkkmdhdofpaa.Oct Go.Proofs.Ytncfkkmdhdofpaa.Dly
set_option maxRecDepth 100000
theorem effOf_ok (l : List UInt8) : (effOf l).ok := by
  have a0 := fld_lt l 0 1
  have a1 := fld_lt l 1 1
  have a2 := sgn_ok (k := fld l 2 8) (fld_lt l 2 8)
  have a3 := fld_lt l 10 1
  have a4 := fld_lt l 11 2
  refine ⟨?_, ?_, a2, ?_, ?_⟩
  all_goals (simp only [effOf]; unfold I64; omega)
theorem put_effOf {l : List UInt8} (h : l.length = 13) : (effOf l).put = l := by
  have u8 : uns (sgn (fld l 2 8)) = fld l 2 8 := uns_sgn (fld_lt l 2 8)
  have e1 : l = (l.drop 0).take 1 ++ ((l.drop 1).take 1 ++ ((l.drop 2).take 8 ++ ((l.drop 10).take 1 ++ l.drop 11))) := by
    have step : ∀ i w, l.drop i = (l.drop i).take w ++ l.drop (i + w) := fun i w => by rw [← List.drop_drop, List.take_append_drop]
    have h0 := step 0 1; have h1 := step 1 1; have h2 := step 2 8; have h3 := step 10 1
    rw [← h3, ← h2, ← h1, ← h0, List.drop_zero]
  have e2 : l.drop 11 = (l.drop 11).take 2 := (List.take_of_length_le (by simp; omega)).symm
  rw [e2] at e1
  unfold Eff.put effOf
  dsimp only
  rw [u8]
  simp only [Int.toNat_natCast]
  rw [be_fld (by omega), be_fld (by omega), be_fld (by omega), be_fld (by omega), be_fld (by omega)]
  exact e1.symm
theorem effOf_put {f : Eff} (hc : f.check = 0) (hn : I64 f.n) : effOf f.put = f := by
  obtain ⟨⟨k0, k1⟩, ⟨a0, a1⟩, ⟨p0, p1⟩, s0, s1⟩ := Eff.check_zero hc
  have hu := uns_lt f.n
  have f0 : fld f.put 0 1 = f.kind.toNat := fld_at (a := []) rfl (by omega)
  have f1 : fld f.put 1 1 = f.a.toNat := by
    unfold Eff.put
    exact fld_at (by simp [be_length]) (by omega)
  have f2 : fld f.put 2 8 = uns f.n := by
    unfold Eff.put
    rw [← List.append_assoc]
    exact fld_at (by simp [be_length]) (by omega)
  have f3 : fld f.put 10 1 = f.ref.rep.toNat := by
    unfold Eff.put
    rw [← List.append_assoc, ← List.append_assoc]
    exact fld_at (by simp [be_length]) (by omega)
  have f4 : fld f.put 11 2 = f.ref.seq.toNat := by
    unfold Eff.put
    rw [← List.append_assoc, ← List.append_assoc, ← List.append_assoc]
    rw [← List.append_nil (be f.ref.seq.toNat 2)]
    exact fld_at (by simp [be_length]) (by omega)
  unfold effOf
  rw [f0, f1, f2, f3, f4, sgn_uns hn]
  rw [Int.toNat_of_nonneg (by omega), Int.toNat_of_nonneg a0, Int.toNat_of_nonneg p0, Int.toNat_of_nonneg s0]
theorem fget13_put {f : Eff} (hc : f.check = 0) (hn : I64 f.n) : fget13 f.put = some f := by
  unfold fget13
  rw [effOf_put hc hn, if_pos hc]
theorem fget13_some {l : List UInt8} {f : Eff} (h : fget13 l = some f) : f = effOf l ∧ f.check = 0 := by
  unfold fget13 at h
  split at h
  · injection h with h; subst h; exact ⟨rfl, by assumption⟩
  · cases h
/-- the flags, as the program and as the page read them -/
theorem flag_low : ∀ k : Nat, k ≤ 3 → (decide (Go.bits .and .i64 (k : Nat) 1 ≠ 0) = decide (((k : Nat) : Int) % 2 = 1) ∧ decide (Go.bits .and .i64 (k : Nat) 2 ≠ 0) = decide ((1 : Int) < (k : Nat))) := by
  intro k hk
  match k, hk with
  | 0, _ => decide
  | 1, _ => decide
  | 2, _ => decide
  | 3, _ => decide
def entM (b : List UInt8) : Ent := ⟨fld b 0 1, (fget13 ((b.drop 1).take 13)).getD effT_z, fld b 14 1, fld b 15 4, decide (((fld b 24 1 : Nat) : Int) % 2 = 1), decide ((1 : Int) < (fld b 24 1 : Nat)), fld b 19 1, fld b 20 4⟩
theorem entRM {b : List UInt8} (h : fld b 24 1 ≤ 3) : entR b = entM b := by
  unfold entR entM
  rw [(flag_low _ h).1, (flag_low _ h).2]
theorem entM_flag {b : List UInt8} (h : fld b 24 1 ≤ 3) : (entM b).flagN.toNat = fld b 24 1 := by
  unfold Ent.flagN entM
  dsimp only
  generalize fld b 24 1 = k at *
  match k, h with
  | 0, _ => rfl
  | 1, _ => rfl
  | 2, _ => rfl
  | 3, _ => rfl
theorem cut27 {b : List UInt8} : b = (b.drop 0).take 1 ++ ((b.drop 1).take 13 ++ ((b.drop 14).take 1 ++ ((b.drop 15).take 4 ++ ((b.drop 19).take 1 ++ ((b.drop 20).take 4 ++ ((b.drop 24).take 1 ++ b.drop 25)))))) := by
  have step : ∀ i w, b.drop i = (b.drop i).take w ++ b.drop (i + w) := fun i w => by rw [← List.drop_drop, List.take_append_drop]
  have h0 := step 0 1; have h1 := step 1 13; have h2 := step 14 1; have h3 := step 15 4; have h4 := step 19 1; have h5 := step 20 4; have h6 := step 24 1
  rw [← h6, ← h5, ← h4, ← h3, ← h2, ← h1, ← h0, List.drop_zero]
theorem ent_put_read {b : List UInt8} (h : b.length = 27) (h24 : fld b 24 1 ≤ 3) (h25 : b[25]? = some 69) (h26 : b[26]? = some 69) {f : Eff} (hf : fget13 ((b.drop 1).take 13) = some f) : (entM b).put = b := by
  obtain ⟨hfe, _⟩ := fget13_some hf
  have e1 : f.put = (b.drop 1).take 13 := by rw [hfe]; exact put_effOf (by simp; omega)
  have e2 : [UInt8.ofNat (fld b 24 1)] = (b.drop 24).take 1 := by rw [← be_one]; exact be_fld (by omega)
  have e3 : b.drop 25 = [69, 69] := by
    obtain ⟨k1, k2⟩ := List.getElem?_eq_some_iff.1 h25
    obtain ⟨k3, k4⟩ := List.getElem?_eq_some_iff.1 h26
    rw [List.drop_eq_getElem_cons k1, k2, List.drop_eq_getElem_cons k3, k4, List.drop_of_length_le (by omega)]
  have e4 := cut27 (b := b)
  rw [e3] at e4
  have e5 : ([UInt8.ofNat (fld b 24 1), 69, 69] : List UInt8) = (b.drop 24).take 1 ++ [69, 69] := by rw [← e2]; rfl
  have hfl := entM_flag h24
  unfold Ent.put
  rw [hfl, e5]
  unfold entM
  dsimp only
  rw [hf, Option.getD_some, e1]
  simp only [Int.toNat_natCast]
  rw [be_fld (by omega), be_fld (by omega), be_fld (by omega), be_fld (by omega), be_fld (by omega)]
  exact e4.symm
abbrev Ent.front (e : Ent) : List UInt8 := be e.ord.toNat 1 ++ (e.what.put ++ (be e.sent.toNat 1 ++ (be e.last.toNat 4 ++ (be e.back.toNat 1 ++ be e.backLast.toNat 4))))
theorem Ent.front_length (e : Ent) : e.front.length = 24 := by simp [be_length, Eff.put_length]
theorem Ent.put_front (e : Ent) : e.put = e.front ++ (be e.flagN.toNat 1 ++ [69, 69]) := by simp [Ent.put, be_one]
theorem Ent.flag_lt (e : Ent) : e.flagN.toNat ≤ 3 := by unfold Ent.flagN; split <;> split <;> decide
theorem flag_back (e : Ent) : decide (((e.flagN.toNat : Nat) : Int) % 2 = 1) = e.acked ∧ decide ((1 : Int) < (e.flagN.toNat : Nat)) = e.gone := by
  unfold Ent.flagN
  cases e.acked <;> cases e.gone <;> exact ⟨rfl, rfl⟩
theorem put_tail (e : Ent) : e.put[25]? = some 69 ∧ e.put[26]? = some 69 ∧ fld e.put 24 1 = e.flagN.toNat := by
  have hl := e.front_length
  have hf := e.flag_lt
  rw [e.put_front]
  generalize e.front = x at *
  refine ⟨?_, ?_, fld_at hl (by omega)⟩
  · rw [List.getElem?_append_right (by omega), hl, be_one]; rfl
  · rw [List.getElem?_append_right (by omega), hl, be_one]; rfl
def mget (b : List UInt8) : Option Ent := if b.length = 27 ∧ fld b 24 1 ≤ 3 ∧ b[25]? = some 69 ∧ b[26]? = some 69 ∧ (fget13 ((b.drop 1).take 13)).isSome = true ∧ (entM b).may = true then some (entM b) else none
theorem eget_mget (b : List UInt8) : eget b = mget b := by
  unfold mget
  by_cases hc : b.length = 27 ∧ fld b 24 1 ≤ 3 ∧ b[25]? = some 69 ∧ b[26]? = some 69 ∧ (fget13 ((b.drop 1).take 13)).isSome = true ∧ (entM b).may = true
  · rw [if_pos hc]
    obtain ⟨h1, h2, h3, h4, h5, h6⟩ := hc
    obtain ⟨f, hf⟩ := Option.isSome_iff_exists.1 h5
    unfold eget
    rw [entRM h2, if_pos ⟨h1, h6, ent_put_read h1 h2 h3 h4 hf⟩]
  · rw [if_neg hc]
    unfold eget
    refine if_neg fun ⟨h1, h2, h3⟩ => hc ?_
    have ht := put_tail (entR b)
    have hf := (entR b).flag_lt
    rw [h3] at ht
    have h24 : fld b 24 1 ≤ 3 := by rw [ht.2.2]; exact hf
    refine ⟨h1, h24, ht.1, ht.2.1, ?_, by rw [← entRM h24]; exact h2⟩
    cases hx : fget13 ((b.drop 1).take 13) with
    | some f => rfl
    | none =>
      have hk := ((Ent.may_iff _).1 h2).2.1
      have : (entR b).what = effT_z := by unfold entR; dsimp only; rw [hx]; rfl
      rw [this] at hk
      exact absurd hk (by decide)
theorem mget_put {e : Ent} (hm : e.may = true) (hn : I64 e.what.n) : mget e.put = some e := by
  obtain ⟨⟨o0, o1⟩, hw, ⟨s0, s1⟩, ⟨⟨b0, b1⟩, _⟩, ⟨l0, l1⟩, ⟨k0, k1⟩, _⟩ := (Ent.may_iff e).1 hm
  have ht := put_tail e
  have hfl := e.flag_lt
  have f0 : fld e.put 0 1 = e.ord.toNat := fld_at (a := []) rfl (by omega)
  have f1 : (e.put.drop 1).take 13 = e.what.put := by
    unfold Ent.put
    rw [List.drop_left' (be_length _ _), List.take_left' (Eff.put_length _)]
  have f2 : fld e.put 14 1 = e.sent.toNat := by
    unfold Ent.put
    rw [← List.append_assoc]
    exact fld_at (by simp [be_length, Eff.put_length]) (by omega)
  have f3 : fld e.put 15 4 = e.last.toNat := by
    unfold Ent.put
    rw [← List.append_assoc, ← List.append_assoc]
    exact fld_at (by simp [be_length, Eff.put_length]) (by omega)
  have f4 : fld e.put 19 1 = e.back.toNat := by
    unfold Ent.put
    rw [← List.append_assoc, ← List.append_assoc, ← List.append_assoc]
    exact fld_at (by simp [be_length, Eff.put_length]) (by omega)
  have f5 : fld e.put 20 4 = e.backLast.toNat := by
    unfold Ent.put
    rw [← List.append_assoc, ← List.append_assoc, ← List.append_assoc, ← List.append_assoc]
    exact fld_at (by simp [be_length, Eff.put_length]) (by omega)
  have hg := fget13_put hw hn
  have hM : entM e.put = e := by
    unfold entM
    rw [f0, f1, f2, f3, f4, f5, ht.2.2, hg, Option.getD_some, (flag_back e).1, (flag_back e).2]
    rw [Int.toNat_of_nonneg (by omega), Int.toNat_of_nonneg (by omega), Int.toNat_of_nonneg l0, Int.toNat_of_nonneg b0, Int.toNat_of_nonneg k0]
  unfold mget
  rw [hM, f1, hg]
  exact if_pos ⟨e.put_length, by rw [ht.2.2]; exact hfl, ht.1, ht.2.1, rfl, hm⟩
theorem eget_put {e : Ent} (hm : e.may = true) (hn : I64 e.what.n) : eget e.put = some e := by rw [eget_mget, mget_put hm hn]
/-- the wait behind a try is at least one -/
theorem wait_pos (base most n : Int) (h : 1 ≤ n) : 1 ≤ wait base most n := by
  unfold wait
  rw [if_neg (by omega)]
  have hm1 := clamp_lo most 1 64 (by omega)
  have hb1 := clamp_lo base 1 64 (by omega)
  exact (dbl_bd (clamp most 1 64) (min (clamp base 1 64) (clamp most 1 64)) (by omega) (by omega) ((min n 64 - 1).toNat)).1
/-- what may be tried; and tried once more -/
theorem once_facts {e : Ent} {c : Cfg} {now : Int} (hok : e.ok) (hr : e.ready c now = true) (hc : c.most ≤ 8) (h0 : 0 ≤ now) (h1 : now ≤ 1073741824) :
    e.opn = true ∧ e.dead c now = false ∧ (e.try_ now).und = e.und ∧ (∃ d s : Int, IntKind.i64.wrap ((e.try_ now).sent - e.sent) = d ∧ IntKind.i64.wrap (d + (e.try_ now).back) = s ∧ IntKind.i64.wrap (s - e.back) = 1) ∧
    (1 ≤ (e.try_ now).nt → (e.try_ now).ready c now = false ∧ (e.try_ now).dead c now = false) := by
  unfold Ent.ready at hr
  rw [Bool.and_eq_true, Bool.and_eq_true] at hr
  obtain ⟨ho, hn, _⟩ := hr
  have hn := of_decide_eq_true hn
  have hd : e.dead c now = false := by
    unfold Ent.dead
    rw [show decide (c.most ≤ e.nt) = false from decide_eq_false (by omega), Bool.false_and, Bool.and_false]
  have ht : e.try_ now = if e.und then { e with back := e.back + 1, backLast := now } else { e with sent := e.sent + 1, last := now } := by
    unfold Ent.try_
    rw [if_pos ⟨ho, by omega⟩]
  have hu : (e.try_ now).und = e.und := by
    rw [ht]; split <;> rfl
  obtain ⟨_, _, q1, q2, q3, q4⟩ := hok
  unfold I64 at q1 q2 q3 q4
  have hb : e.nt = if e.und then e.back else e.sent := rfl
  have hlast : (e.try_ now).lt = now := by
    unfold Ent.lt
    rw [hu, ht]
    cases e.und <;> rfl
  refine ⟨ho, hd, hu, ?_, fun h => ?_⟩
  · rw [ht]
    cases hu : e.und
    · rw [if_neg Bool.false_ne_true]
      dsimp only
      refine ⟨1, _, ?_, rfl, ?_⟩
      · rw [show e.sent + 1 - e.sent = 1 by omega]; rfl
      · simp only [IntKind.wrap, IntKind.bits, IntKind.signed, Bool.true_and, decide_eq_true_eq]
        split <;> split <;> omega
    · rw [hu, if_pos rfl] at hb
      rw [if_pos rfl]
      dsimp only
      refine ⟨0, e.back + 1, ?_, ?_, ?_⟩
      · rw [show e.sent - e.sent = 0 by omega]; rfl
      · rw [Int.zero_add]; exact IntWalk.i64_in _ (by omega)
      · rw [show e.back + 1 - e.back = 1 by omega]; rfl
  · have hw := wait_pos c.base c.cap (e.try_ now).nt h
    have hdue : now < (e.try_ now).due c := by
      unfold Ent.due Dly.due
      rw [hlast]
      unfold clamp
      rw [if_neg (by omega), if_neg (by omega)]
      omega
    constructor
    · unfold Ent.ready
      rw [show decide ((e.try_ now).nt < 1) = false from decide_eq_false (by omega), show decide ((e.try_ now).due c ≤ now) = false from decide_eq_false (by omega)]
      simp
    · unfold Ent.dead
      rw [show decide ((e.try_ now).due c ≤ now) = false from decide_eq_false (by omega)]
      simp
end Go.Proofs.Ytncfkkmdhdofpaa.Sep
