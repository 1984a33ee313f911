/- the law of the wire: no message is ever broken by more than one bit. By parts of memory. -/
import Derived.Test.YtbnfpmdieiknmaaWire9
namespace Go.Proofs.Ytbnfpmdieiknmaa.Sep
open Go.RowKit Go.Proofs.Ytbnfpmdieiknmaa.Reg
open Go.Proofs.Ytbnfpmdieiknmaa.Mem hiding Rd Own
/-! ### bits, plainly -/
def pop : Nat → Nat → Nat
  | 0, _ => 0
  | f + 1, d => d % 2 + pop f (d / 2)
theorem pop_zero (f : Nat) : pop f 0 = 0 := by
  induction f with
  | zero => rfl
  | succ f ih => simp [pop, ih]
theorem pop_le (f d : Nat) : pop f d ≤ f := by
  induction f generalizing d with
  | zero => exact Nat.le_refl _
  | succ f ih => have := ih (d / 2); simp only [pop]; omega
theorem pop_one {k : Nat} (hk : k < 8) : pop 8 (2 ^ k) = 1 := by
  have : ∀ k, k < 8 → pop 8 (2 ^ k) = 1 := by decide
  exact this k hk
/-- how two octets are unlike -/
def xo (x b : List UInt8) (j : Nat) : Nat := (x.getD j 0).toNat ^^^ (b.getD j 0).toNat
def bitsTo (x b : List UInt8) : Nat → Nat
  | 0 => 0
  | k + 1 => bitsTo x b k + pop 8 (xo x b k)
theorem bitsTo_same (b : List UInt8) (k : Nat) : bitsTo b b k = 0 := by
  induction k with
  | zero => rfl
  | succ k ih => simp [bitsTo, ih, xo, pop_zero]
theorem turn8_nat (b : UInt8) {k : Nat} (hk : k < 8) : (turn8 b k).toNat = b.toNat ^^^ 2 ^ k := by
  have hx := UInt8.toNat_lt b
  have hp2 : 2 ^ k < 256 := Nat.pow_lt_pow_right (n := 8) (by decide) hk
  have hlt : b.toNat ^^^ 2 ^ k < 256 := Nat.xor_lt_two_pow (n := 8) hx hp2
  rw [turn8, UInt8.toNat_ofNat', Nat.mod_eq_of_lt hlt]
theorem xo_flip (b : List UInt8) (p j : Nat) (hp : p / 8 < b.length) : xo (flipB b p) b j = if j = p / 8 then 2 ^ (p % 8) else 0 := by
  unfold xo flipB
  rw [List.getD_eq_getElem?_getD, List.getElem?_set]
  split
  · rename_i h
    subst h
    show (turn8 _ _).toNat ^^^ _ = _
    rw [turn8_nat _ (Nat.mod_lt _ (by decide)), Nat.xor_comm, ← Nat.xor_assoc, Nat.xor_self, Nat.zero_xor, if_pos rfl]
  · rename_i h
    rw [if_neg (fun e => h e.symm), List.getD_eq_getElem?_getD, Nat.xor_self]
theorem bitsTo_flip (b : List UInt8) (p k : Nat) (hp : p / 8 < b.length) : bitsTo (flipB b p) b k = if p / 8 < k then 1 else 0 := by
  induction k with
  | zero => simp [bitsTo]
  | succ k ih =>
    rw [bitsTo, ih, xo_flip b p k hp]
    by_cases h : k = p / 8
    · rw [if_pos h, if_neg (by omega), if_pos (by omega), pop_one (Nat.mod_lt _ (by decide))]
    · rw [if_neg h, pop_zero]
      by_cases h2 : p / 8 < k
      · rw [if_pos h2, if_pos (by omega)]
      · rw [if_neg h2, if_neg (by omega)]
/-- unlike b in one bit at most; broken, just if so -/
def Once1 (b : List UInt8) (e : Letv) : Prop := e.n = e.b.length ∧ e.n = b.length ∧ ((e.broken = false ∧ e.b = b) ∨ (e.broken = true ∧ ∃ p, p / 8 < b.length ∧ e.b = flipB b p))
theorem Once1.bits {b : List UInt8} {e : Letv} (h : Once1 b e) : (bitsTo e.b b b.length = 0 ∧ e.broken = false) ∨ (bitsTo e.b b b.length = 1 ∧ e.broken = true) := by
  obtain ⟨_, _, ⟨h1, h2⟩ | ⟨h1, p, hp, h2⟩⟩ := h
  · exact .inl ⟨by rw [h2, bitsTo_same], h1⟩
  · exact .inr ⟨by rw [h2, bitsTo_flip _ _ _ hp, if_pos hp], h1⟩
def OnceL (b : List UInt8) (ls : List Letv) : Prop := ∀ e ∈ ls, Once1 b e
theorem OnceL.push {b : List UInt8} {ls : List Letv} (h : OnceL b ls) {e : Letv} (he : Once1 b e) : OnceL b (ls ++ [e]) := by
  intro x hx
  rcases List.mem_append.1 hx with hx | hx
  · exact h x hx
  · rw [List.mem_singleton] at hx; subst hx; exact he
theorem OnceL.flip {b : List UInt8} {ls : List Letv} (h : OnceL b ls) {i k : Nat} {e : Letv} (he : ls[i]? = some e) (hb : e.broken = false) (hk : k / 8 < e.n) : OnceL b (ls.set i (e.mark (flipB e.b k))) := by
  intro x hx
  rcases List.mem_or_eq_of_mem_set hx with hx | rfl
  · exact h x hx
  · obtain ⟨h1, h2, ⟨_, h4⟩ | ⟨h3, _⟩⟩ := h e (List.mem_of_getElem? he)
    · exact ⟨by show e.n = (flipB e.b k).length; rw [flipB_length]; exact h1, h2, .inr ⟨rfl, k, by rw [← h2]; exact hk, by show flipB e.b k = flipB b k; rw [h4]⟩⟩
    · rw [h3] at hb; cases hb
-- types: octT letT pltT op29T
-- recs: letT_rec wire_rec pltT_rec op29T_rec
-- funcs
-- flds
set_option maxRecDepth 100000
set_option maxHeartbeats 8000000
theorem once29 (E : Env) (X : Option Addr) (nx cx : Nat) (b : List UInt8) (hrb : Rd E octT X nx cx b) (A : Option Addr) (n c : Nat) (l : List Op29) (hr : Rd E op29T A n c l) (hb : Bs E l) (hok : ∀ x ∈ l, x.ok) :
    Tri Try.prog E 4 #[.slice X nx cx, .slice A n c] [] fun r _ => r = .returned (.bool true) := by
  have hmax : maxLen = 9223372036854775807 := rfl
  have hbl := hrb.len
  have hbc := hrb.cap
  obtain ⟨m, hm⟩ : ∃ m, m = min nx 60 := ⟨_, rfl⟩
  have hrd : Rd E octT X m cx (b.take m) := hrb.upto (by omega) (by omega) (by omega)
  have hml : m = (b.take m).length := hrd.len
  revert hrd hml
  generalize b.take m = z
  intro hrz hml
  have hm1 : m ≤ 140737488355300 := by omega
  have hm0 : (0 : Nat) < 128 := by decide
  refine tri Try.func4 rfl Try.ntmps4 (by simp) ?_
  repeat (first | refine wW29 ?_ | (refine kW29 ?_; (first | rintro _ _ ⟨rfl, rfl⟩ | rintro _ _ ⟨_, rfl, rfl⟩ | rintro _ _ ⟨_, _, ⟨_, _⟩, rfl, rfl⟩); try refine ⟨sConv, ?_⟩) | refine Dr.two ?_ ?_)
  refine L.step (by decide) (S.call rfl rfl Try.func22 (by kernel_rfl) rfl sPicks (fun E' hE => alive29 E') ?_)
  rintro r H' ⟨rfl, rfl⟩
  refine ⟨_, rfl, _, sCat, ?_⟩
  repeat ((fail_if_success (refine C.seq (x := Code.region 3 _ _) ?_)); first | refine vW29 ?_ | (refine kW29 ?_; (first | rintro _ _ ⟨rfl, rfl⟩ | rintro _ _ ⟨_, rfl, rfl⟩ | rintro _ _ ⟨_, _, ⟨_, _⟩, rfl, rfl⟩); try refine ⟨sConv, ?_⟩) | refine Dr.two ?_ ?_)
  refine C.mid (X := Unit) (fun _ => [(0, .slice X m cx), (1, .slice A n c)]) (fun _ => []) (fun _ => True) ?_ ?_
  · by_cases h60 : 60 < nx
    · obtain rfl : m = 60 := by omega
      repeat (first | refine wW29 ?_ | (refine kW29 ?_; (first | rintro _ _ ⟨rfl, rfl⟩ | rintro _ _ ⟨_, rfl, rfl⟩ | rintro _ _ ⟨_, _, ⟨_, _⟩, rfl, rfl⟩); try refine ⟨sConv, ?_⟩) | refine Dr.two ?_ ?_)
      exact ⟨(), sHolds, sConv, trivial⟩
    · obtain rfl : m = nx := by omega
      repeat (first | refine wW29 ?_ | (refine kW29 ?_; (first | rintro _ _ ⟨rfl, rfl⟩ | rintro _ _ ⟨_, rfl, rfl⟩ | rintro _ _ ⟨_, _, ⟨_, _⟩, rfl, rfl⟩); try refine ⟨sConv, ?_⟩) | refine Dr.two ?_ ?_)
      exact ⟨(), sHolds, sConv, trivial⟩
  rintro ⟨⟩ F -
  have hxl : ∀ x ∈ few29 l, x.ok := few29_ok hok
  repeat (first | refine wW29 ?_ | (refine kW29 ?_; (first | rintro _ _ ⟨rfl, rfl⟩ | rintro _ _ ⟨_, rfl, rfl⟩ | rintro _ _ ⟨_, _, ⟨_, _⟩, rfl, rfl⟩); try refine ⟨sConv, ?_⟩) | refine Dr.two ?_ ?_)
  rename_i g1
  refine L.conv ((Conv.nil0 letT none).trans (Conv.each0 lOc)) ?_
  refine L.step (by decide) (S.call rfl rfl Try.func23 (by kernel_rfl) rfl sPicks (fun E' hE => wput E' g1 none 0 0 [] 1 X m cx z hm0 rfl (hrz.sub hE) hm1) ?_)
  unfold Post29
  rintro r H' ⟨A0, c0, O0, d0, rfl, ⟨h01, h02⟩, rfl⟩
  refine ⟨_, rfl, _, sCat, ?_⟩
  repeat (first | refine wW29 ?_ | (refine kW29 ?_; (first | rintro _ _ ⟨rfl, rfl⟩ | rintro _ _ ⟨_, rfl, rfl⟩ | rintro _ _ ⟨_, _, ⟨_, _⟩, rfl, rfl⟩); try refine ⟨sConv, ?_⟩) | refine Dr.two ?_ ?_)
  refine L.step (by decide) (S.call rfl rfl Try.func24 (by kernel_rfl) rfl sPicks (fun E' hE => few29_any E' A n c l (hr.sub hE) (hb.sub hE)) ?_)
  rintro r H' ⟨A1, n1, c1, rfl, hn1, hn160, h1, rfl⟩
  refine ⟨_, rfl, _, sCat, ?_⟩
  repeat (first | refine wW29 ?_ | (refine kW29 ?_; (first | rintro _ _ ⟨rfl, rfl⟩ | rintro _ _ ⟨_, rfl, rfl⟩ | rintro _ _ ⟨_, _, ⟨_, _⟩, rfl, rfl⟩); try refine ⟨sConv, ?_⟩) | refine Dr.two ?_ ?_)
  have hfirst : OnceL z ([] ++ [(⟨1, O0, m, d0, z, false⟩ : Letv)]) := by
    intro e he
    obtain rfl : e = ⟨1, O0, m, d0, z, false⟩ := by simpa using he
    exact ⟨hml, hml, .inl ⟨rfl, rfl⟩⟩
  refine C.loop (X := Nat × Option Addr × Nat × Nat × List Letv) (fun x => [(0, .slice X m cx), (1, .slice A1 n1 c1), (5, .pointer (some ⟨g1, 0, none⟩)), (6, .int .i64 x.1)])
    (fun x => [wr g1 x.2.1 x.2.2.1 x.2.2.2.1, own letT x.2.1 x.2.2.1 x.2.2.2.1 x.2.2.2.2, each lOc x.2.2.2.2, own op29T A1 n1 c1 (few29 l)])
    (fun x => x.1 ≤ n1 ∧ x.2.2.1 = x.2.2.2.2.length ∧ x.2.2.1 ≤ 128 ∧ (x.2.2.1 ≤ x.2.2.2.1 ∧ x.2.2.2.1 ≤ maxLen) ∧ OnceL z x.2.2.2.2) (fun x => n1 - x.1) (0, A0, 0 + 1, c0, [] ++ [⟨1, O0, m, d0, z, false⟩]) sHolds sConv
    ⟨Nat.zero_le _, rfl, (show 0 + 1 ≤ 128 by decide), ⟨h01, h02⟩, hfirst⟩ ?_
  rintro ⟨i, A2, n2, c2, ls⟩ F ⟨hi, hnl, h128, ⟨hc1, hc2⟩, hL⟩
  dsimp only at hi hnl h128 hc1 hc2 hL ⊢
  by_cases hlt : i < n1
  · obtain ⟨⟨k, xi, xn, XA, xm, xc, xb⟩, hx⟩ : ∃ x, (few29 l)[i]? = some x := ⟨_, List.getElem?_eq_getElem (by omega)⟩
    have hxok := hxl _ (List.mem_of_getElem? hx)
    unfold Op29.ok at hxok
    dsimp only at hxok
    by_cases h3 : k = 3
    · subst h3
      by_cases hin : 0 ≤ xi ∧ xi < n2
      · obtain ⟨q, rfl⟩ : ∃ q : Nat, xi = q := ⟨xi.toNat, by omega⟩
        have hq : q < n2 := by omega
        obtain ⟨e, he⟩ : ∃ e, ls[q]? = some e := ⟨_, List.getElem?_eq_getElem (by omega)⟩
        have hoe := hL e (List.mem_of_getElem? he)
        have hen : e.n ≤ 140737488355300 := by rw [hoe.2.1, ← hml]; exact hm1
        by_cases hf : n2 < 128
        · repeat (first | refine wW29 ?_ | (refine kW29 ?_; (first | rintro _ _ ⟨rfl, rfl⟩ | rintro _ _ ⟨_, rfl, rfl⟩ | rintro _ _ ⟨_, _, ⟨_, _⟩, rfl, rfl⟩); try refine ⟨sConv, ?_⟩) | refine Dr.two ?_ ?_)
          refine L.step (by decide) (S.call rfl rfl Try.func25 (by kernel_rfl) rfl sPicks (fun E' hE => wcopy E' g1 A2 n2 c2 ls q hf hq he hnl hen) ?_)
          unfold Post29
          rintro r H' ⟨A3, c3, O3, d3, rfl, h4, rfl⟩
          refine ⟨_, rfl, _, sCat, ?_⟩
          repeat (first | refine wW29 ?_ | (refine kW29 ?_; (first | rintro _ _ ⟨rfl, rfl⟩ | rintro _ _ ⟨_, rfl, rfl⟩ | rintro _ _ ⟨_, _, ⟨_, _⟩, rfl, rfl⟩); try refine ⟨sConv, ?_⟩) | refine Dr.two ?_ ?_)
          exact ⟨(i + 1, A3, n2 + 1, c3, ls ++ [⟨e.to, O3, e.n, d3, e.b, e.broken⟩]), sHolds, sConv, ⟨by dsimp only; omega, by dsimp only; rw [List.length_append, ← hnl]; rfl, by dsimp only; omega, h4, hL.push (show Once1 z ⟨e.to, O3, e.n, d3, e.b, e.broken⟩ from hoe)⟩, by dsimp only; omega⟩
        · have hf2 : n2 = 128 := by omega
          repeat (first | refine wW29 ?_ | (refine kW29 ?_; (first | rintro _ _ ⟨rfl, rfl⟩ | rintro _ _ ⟨_, rfl, rfl⟩ | rintro _ _ ⟨_, _, ⟨_, _⟩, rfl, rfl⟩); try refine ⟨sConv, ?_⟩) | refine Dr.two ?_ ?_)
          refine L.step (by decide) (S.call rfl rfl Try.func25 (by kernel_rfl) rfl sPicks (fun E' hE => wcopy_full E' g1 A2 n2 c2 ls q hf2 hq he hnl) ?_)
          rintro r H' ⟨rfl, rfl⟩
          refine ⟨_, rfl, _, sCat, ?_⟩
          repeat (first | refine wW29 ?_ | (refine kW29 ?_; (first | rintro _ _ ⟨rfl, rfl⟩ | rintro _ _ ⟨_, rfl, rfl⟩ | rintro _ _ ⟨_, _, ⟨_, _⟩, rfl, rfl⟩); try refine ⟨sConv, ?_⟩) | refine Dr.two ?_ ?_)
          exact ⟨(i + 1, A2, n2, c2, ls), sHolds, sConv, ⟨by dsimp only; omega, hnl, h128, ⟨hc1, hc2⟩, hL⟩, by dsimp only; omega⟩
      · have hno : xi < 0 ∨ (n2 : Int) ≤ xi := by omega
        repeat (first | refine wW29 ?_ | (refine kW29 ?_; (first | rintro _ _ ⟨rfl, rfl⟩ | rintro _ _ ⟨_, rfl, rfl⟩ | rintro _ _ ⟨_, _, ⟨_, _⟩, rfl, rfl⟩); try refine ⟨sConv, ?_⟩) | refine Dr.two ?_ ?_)
        refine L.step (by decide) (S.call rfl rfl Try.func25 (by kernel_rfl) rfl sPicks (fun E' hE => wcopy_no E' g1 A2 n2 c2 xi h128 hno) ?_)
        rintro r H' ⟨rfl, rfl⟩
        refine ⟨_, rfl, _, sCat, ?_⟩
        repeat (first | refine wW29 ?_ | (refine kW29 ?_; (first | rintro _ _ ⟨rfl, rfl⟩ | rintro _ _ ⟨_, rfl, rfl⟩ | rintro _ _ ⟨_, _, ⟨_, _⟩, rfl, rfl⟩); try refine ⟨sConv, ?_⟩) | refine Dr.two ?_ ?_)
        exact ⟨(i + 1, A2, n2, c2, ls), sHolds, sConv, ⟨by dsimp only; omega, hnl, h128, ⟨hc1, hc2⟩, hL⟩, by dsimp only; omega⟩
    by_cases h4 : k = 4
    · subst h4
      by_cases hin : 0 ≤ xi ∧ xi < n2
      · obtain ⟨q, rfl⟩ : ∃ q : Nat, xi = q := ⟨xi.toNat, by omega⟩
        have hq : q < n2 := by omega
        obtain ⟨e, he⟩ : ∃ e, ls[q]? = some e := ⟨_, List.getElem?_eq_getElem (by omega)⟩
        have hoe := hL e (List.mem_of_getElem? he)
        have hen : e.n ≤ 140737488355300 := by rw [hoe.2.1, ← hml]; exact hm1
        have hen2 : e.n ≤ maxLen := by omega
        by_cases hno : e.broken = true ∨ xn < 0 ∨ (e.n : Int) ≤ xn / 8
        · repeat (first | refine wW29 ?_ | (refine kW29 ?_; (first | rintro _ _ ⟨rfl, rfl⟩ | rintro _ _ ⟨_, rfl, rfl⟩ | rintro _ _ ⟨_, _, ⟨_, _⟩, rfl, rfl⟩); try refine ⟨sConv, ?_⟩) | refine Dr.two ?_ ?_)
          refine C.regionA 100000 (.one 0 false (.one 1 false (.one 2 false (.one 3 false (.one 4 false (.one 5 false (.one 6 false (.one 7 false (.one 8 false (.one 9 false (.one 10 false (.one 11 true .nil)))))))))))) _ (by kernel_rfl) (by kernel_rfl) Conv.refl ?_
          repeat (first | refine wW29 ?_ | (refine kW29 ?_; (first | rintro _ _ ⟨rfl, rfl⟩ | rintro _ _ ⟨_, rfl, rfl⟩ | rintro _ _ ⟨_, _, ⟨_, _⟩, rfl, rfl⟩); try refine ⟨sConv, ?_⟩) | refine Dr.two ?_ ?_)
          refine Dr.go rfl (by rintro k ⟨⟩ <;> decide) sGon (S.call rfl rfl Try.func26 (by kernel_rfl) rfl sPicks (fun E' hE => wflip_not E' g1 A2 n2 c2 ls q xn h128 hnl he hen2 hno hxok) ?_)
          rintro r H' ⟨rfl, rfl⟩
          refine ⟨_, rfl, _, sCat, sConv, ?_⟩
          repeat (first | refine wW29 ?_ | (refine kW29 ?_; (first | rintro _ _ ⟨rfl, rfl⟩ | rintro _ _ ⟨_, rfl, rfl⟩ | rintro _ _ ⟨_, _, ⟨_, _⟩, rfl, rfl⟩); try refine ⟨sConv, ?_⟩) | refine Dr.two ?_ ?_)
          exact ⟨(i + 1, A2, n2, c2, ls), sHolds, sConv, ⟨by dsimp only; omega, hnl, h128, ⟨hc1, hc2⟩, hL⟩, by dsimp only; omega⟩
        · have hb' : e.broken = false := by
            cases hb : e.broken
            · rfl
            · exact absurd (.inl hb) hno
          have hx0 : ¬ xn < 0 := fun h => hno (.inr (.inl h))
          have hxq : ¬ (e.n : Int) ≤ xn / 8 := fun h => hno (.inr (.inr h))
          obtain ⟨w, rfl⟩ : ∃ w : Nat, xn = w := ⟨xn.toNat, by omega⟩
          have hwq : w / 8 < e.n := by omega
          repeat (first | refine wW29 ?_ | (refine kW29 ?_; (first | rintro _ _ ⟨rfl, rfl⟩ | rintro _ _ ⟨_, rfl, rfl⟩ | rintro _ _ ⟨_, _, ⟨_, _⟩, rfl, rfl⟩); try refine ⟨sConv, ?_⟩) | refine Dr.two ?_ ?_)
          refine C.regionA 100000 (.one 0 false (.one 1 false (.one 2 false (.one 3 false (.one 4 false (.one 5 false (.one 6 false (.one 7 false (.one 8 false (.one 9 false (.one 10 false (.one 11 true .nil)))))))))))) ([own op29T A1 n1 c1 (few29 l)]) (by kernel_rfl) (by kernel_rfl) sConv ?_
          repeat (first | refine wW29 ?_ | (refine kW29 ?_; (first | rintro _ _ ⟨rfl, rfl⟩ | rintro _ _ ⟨_, rfl, rfl⟩ | rintro _ _ ⟨_, _, ⟨_, _⟩, rfl, rfl⟩); try refine ⟨sConv, ?_⟩) | refine Dr.two ?_ ?_)
          refine Dr.go rfl (by rintro k ⟨⟩ <;> decide) sGon (S.call rfl rfl Try.func26 (by kernel_rfl) rfl sPicks (fun E' hE => wflip E' g1 A2 n2 c2 ls q w h128 hnl he hoe.1 hen hb' hwq) ?_)
          rintro r H' ⟨rfl, rfl⟩
          refine ⟨_, rfl, _, sCat, sConv, ?_⟩
          repeat (first | refine wW29 ?_ | (refine kW29 ?_; (first | rintro _ _ ⟨rfl, rfl⟩ | rintro _ _ ⟨_, rfl, rfl⟩ | rintro _ _ ⟨_, _, ⟨_, _⟩, rfl, rfl⟩); try refine ⟨sConv, ?_⟩) | refine Dr.two ?_ ?_)
          exact ⟨(i + 1, A2, n2, c2, ls.set q (e.mark (flipB e.b w))), sHolds, sConv, ⟨by dsimp only; omega, by dsimp only; rw [List.length_set]; exact hnl, h128, ⟨hc1, hc2⟩, hL.flip he hb' hwq⟩, by dsimp only; omega⟩
      · have hno : xi < 0 ∨ (n2 : Int) ≤ xi := by omega
        repeat (first | refine wW29 ?_ | (refine kW29 ?_; (first | rintro _ _ ⟨rfl, rfl⟩ | rintro _ _ ⟨_, rfl, rfl⟩ | rintro _ _ ⟨_, _, ⟨_, _⟩, rfl, rfl⟩); try refine ⟨sConv, ?_⟩) | refine Dr.two ?_ ?_)
        refine C.regionA 100000 (.one 0 false (.one 1 false (.one 2 false (.one 3 false (.one 4 false (.one 5 false (.one 6 false (.one 7 false (.one 8 false (.one 9 false (.one 10 false (.one 11 true .nil)))))))))))) _ (by kernel_rfl) (by kernel_rfl) Conv.refl ?_
        repeat (first | refine wW29 ?_ | (refine kW29 ?_; (first | rintro _ _ ⟨rfl, rfl⟩ | rintro _ _ ⟨_, rfl, rfl⟩ | rintro _ _ ⟨_, _, ⟨_, _⟩, rfl, rfl⟩); try refine ⟨sConv, ?_⟩) | refine Dr.two ?_ ?_)
        refine Dr.go rfl (by rintro k ⟨⟩ <;> decide) sGon (S.call rfl rfl Try.func26 (by kernel_rfl) rfl sPicks (fun E' hE => wflip_no E' g1 A2 n2 c2 xi xn h128 hno) ?_)
        rintro r H' ⟨rfl, rfl⟩
        refine ⟨_, rfl, _, sCat, sConv, ?_⟩
        repeat (first | refine wW29 ?_ | (refine kW29 ?_; (first | rintro _ _ ⟨rfl, rfl⟩ | rintro _ _ ⟨_, rfl, rfl⟩ | rintro _ _ ⟨_, _, ⟨_, _⟩, rfl, rfl⟩); try refine ⟨sConv, ?_⟩) | refine Dr.two ?_ ?_)
        exact ⟨(i + 1, A2, n2, c2, ls), sHolds, sConv, ⟨by dsimp only; omega, hnl, h128, ⟨hc1, hc2⟩, hL⟩, by dsimp only; omega⟩
    repeat (first | refine wW29 ?_ | (refine kW29 ?_; (first | rintro _ _ ⟨rfl, rfl⟩ | rintro _ _ ⟨_, rfl, rfl⟩ | rintro _ _ ⟨_, _, ⟨_, _⟩, rfl, rfl⟩); try refine ⟨sConv, ?_⟩) | refine Dr.two ?_ ?_)
    exact ⟨(i + 1, A2, n2, c2, ls), sHolds, sConv, ⟨by dsimp only; omega, hnl, h128, ⟨hc1, hc2⟩, hL⟩, by dsimp only; omega⟩
  obtain rfl : i = n1 := by omega
  repeat (first | refine wW29 ?_ | (refine kW29 ?_; (first | rintro _ _ ⟨rfl, rfl⟩ | rintro _ _ ⟨_, rfl, rfl⟩ | rintro _ _ ⟨_, _, ⟨_, _⟩, rfl, rfl⟩); try refine ⟨sConv, ?_⟩) | refine Dr.two ?_ ?_)
  refine C.loop (X := Nat × List Letv) (fun x => [(0, .slice X m cx), (5, .pointer (some ⟨g1, 0, none⟩))])
    (fun x => [wr g1 A2 x.1 c2, own letT A2 x.1 c2 x.2, each lOc x.2]) (fun x => x.1 = x.2.length ∧ x.1 ≤ 128 ∧ x.1 ≤ c2 ∧ OnceL z x.2) (fun x => x.1) (n2, ls) sHolds sConv ⟨hnl, h128, hc1, hL⟩ ?_
  clear hL hnl h128 hc1
  rintro ⟨n2, ls⟩ F ⟨hnl, h128, hc1, hL⟩
  dsimp only at hnl h128 hc1 hL ⊢
  by_cases h0 : 0 < n2
  · obtain ⟨e, he⟩ : ∃ e, ls[0]? = some e := ⟨_, List.getElem?_eq_getElem (by omega)⟩
    have hoe := hL e (List.mem_of_getElem? he)
    have hem : e.n = m := by rw [hoe.2.1, ← hml]
    have heb : m = e.b.length := by rw [← hoe.1]; exact hem.symm
    repeat (first | refine wW29 ?_ | (refine kW29 ?_; (first | rintro _ _ ⟨rfl, rfl⟩ | rintro _ _ ⟨_, rfl, rfl⟩ | rintro _ _ ⟨_, _, ⟨_, _⟩, rfl, rfl⟩); try refine ⟨sConv, ?_⟩) | refine Dr.two ?_ ?_)
    refine L.step (by decide) (S.call rfl rfl Try.func27 (by kernel_rfl) rfl sPicks (fun E' hE => wlen E' g1 A2 n2 c2 h128) ?_)
    rintro r H' ⟨rfl, rfl⟩
    refine ⟨_, rfl, _, sCat, ?_⟩
    repeat (first | refine wW29 ?_ | (refine kW29 ?_; (first | rintro _ _ ⟨rfl, rfl⟩ | rintro _ _ ⟨_, rfl, rfl⟩ | rintro _ _ ⟨_, _, ⟨_, _⟩, rfl, rfl⟩); try refine ⟨sConv, ?_⟩) | refine Dr.two ?_ ?_)
    refine L.step (by decide) (S.call rfl rfl Try.func28 (by kernel_rfl) rfl sPicks (fun E' hE => wbroken_yes E' g1 A2 n2 c2 ls 0 h128 h0 he hnl) ?_)
    rintro r H' ⟨rfl, rfl⟩
    refine ⟨_, rfl, _, sCat, ?_⟩
    repeat (first | refine wW29 ?_ | (refine kW29 ?_; (first | rintro _ _ ⟨rfl, rfl⟩ | rintro _ _ ⟨_, rfl, rfl⟩ | rintro _ _ ⟨_, _, ⟨_, _⟩, rfl, rfl⟩); try refine ⟨sConv, ?_⟩) | refine Dr.two ?_ ?_)
    refine L.step (by decide) (S.call rfl rfl Try.func29 (by kernel_rfl) rfl sPicks (fun E' hE => wtake E' g1 A2 n2 c2 ls 0 h128 hnl hc1 hc2 he) ?_)
    rw [hem]
    rintro r H' ⟨rfl, rfl⟩
    refine ⟨_, rfl, _, sCat, ?_⟩
    repeat (first | refine wW29 ?_ | (refine kW29 ?_; (first | rintro _ _ ⟨rfl, rfl⟩ | rintro _ _ ⟨_, rfl, rfl⟩ | rintro _ _ ⟨_, _, ⟨_, _⟩, rfl, rfl⟩); try refine ⟨sConv, ?_⟩) | refine Dr.two ?_ ?_)
    refine C.loop (X := Nat × Nat) (fun x => [(0, .slice X m cx), (5, .pointer (some ⟨g1, 0, none⟩)), (7, .bool e.broken), (8, .slice e.A m e.c), (10, .int .i64 x.2), (11, .int .i64 x.1)])
      (fun _ => [own octT e.A m e.c e.b, wr g1 A2 (n2 - 1) c2, own letT A2 (n2 - 1) c2 (ls.eraseIdx 0), each lOc (ls.eraseIdx 0)]) (fun x => x.1 ≤ m ∧ x.2 = bitsTo e.b z x.1 ∧ x.2 ≤ 8 * x.1) (fun x => m - x.1) (0, 0) sHolds sConv ⟨Nat.zero_le _, rfl, Nat.le_refl _⟩ ?_
    rintro ⟨k, bits⟩ F ⟨hk, hbits, hb8⟩
    dsimp only at hk hbits hb8 ⊢
    by_cases hkm : k < m
    · obtain ⟨u, hu⟩ : ∃ u, e.b[k]? = some u := ⟨_, List.getElem?_eq_getElem (by omega)⟩
      obtain ⟨v, hv⟩ : ∃ v, z[k]? = some v := ⟨_, List.getElem?_eq_getElem (by omega)⟩
      have hu8 := UInt8.toNat_lt u
      have hv8 := UInt8.toNat_lt v
      have hxor : Go.bits .xor .u8 (u.toNat : Int) (v.toNat : Int) = ((u.toNat ^^^ v.toNat : Nat) : Int) := u8_xor_nat _ _ hu8 hv8
      have hxo : xo e.b z k = u.toNat ^^^ v.toNat := by unfold xo; rw [List.getD_eq_getElem?_getD, List.getD_eq_getElem?_getD, hu, hv]; rfl
      have hxlt : u.toNat ^^^ v.toNat < 2 ^ 8 := Nat.xor_lt_two_pow (n := 8) hu8 hv8
      have hnext : bitsTo e.b z (k + 1) = bits + pop 8 (u.toNat ^^^ v.toNat) := by rw [bitsTo, hxo, ← hbits]
      have hpop8 := pop_le 8 (u.toNat ^^^ v.toNat)
      revert hxor hxlt hnext hpop8
      generalize u.toNat ^^^ v.toNat = d0
      intro hxor hxlt hnext hpop8
      repeat (first | refine wW29 ?_ | (refine kW29 ?_; (first | rintro _ _ ⟨rfl, rfl⟩ | rintro _ _ ⟨_, rfl, rfl⟩ | rintro _ _ ⟨_, _, ⟨_, _⟩, rfl, rfl⟩); try refine ⟨sConv, ?_⟩) | refine Dr.two ?_ ?_)
      refine C.regionA 100000 (.one 0 false (.one 1 false (.one 2 false (.one 3 false (.one 4 false (.one 5 false (.one 6 false (.one 7 false (.one 8 false (.one 9 false .nil)))))))))) _ (by kernel_rfl) (by kernel_rfl) Conv.refl ?_
      repeat (first | refine wW29 ?_ | (refine kW29 ?_; (first | rintro _ _ ⟨rfl, rfl⟩ | rintro _ _ ⟨_, rfl, rfl⟩ | rintro _ _ ⟨_, _, ⟨_, _⟩, rfl, rfl⟩); try refine ⟨sConv, ?_⟩) | refine Dr.two ?_ ?_)
      refine C.loop (X := Nat × Nat × Nat) (fun x => [(0, .slice X m cx), (5, .pointer (some ⟨g1, 0, none⟩)), (7, .bool e.broken), (8, .slice e.A m e.c), (10, .int .i64 x.2.2), (11, .int .i64 k), (12, .int .u8 x.2.1)])
        (fun _ => [own octT e.A m e.c e.b, wr g1 A2 (n2 - 1) c2, own letT A2 (n2 - 1) c2 (ls.eraseIdx 0), each lOc (ls.eraseIdx 0)]) (fun x => x.2.1 < 2 ^ x.1 ∧ x.1 ≤ 8 ∧ x.2.2 + pop x.1 x.2.1 = bits + pop 8 d0) (fun x => x.1) (8, d0, bits) sHolds sConv ⟨hxlt, Nat.le_refl _, rfl⟩ ?_
      rintro ⟨f, q, s⟩ F ⟨hq, hf8, hsum⟩
      dsimp only at hq hf8 hsum ⊢
      have hq256 : q < 256 := Nat.lt_of_lt_of_le hq (Nat.pow_le_pow_right (by decide) hf8)
      by_cases h0q : 0 < q
      · obtain ⟨f, rfl⟩ : ∃ f', f = f' + 1 := by
          cases f with
          | zero => simp at hq; omega
          | succ f => exact ⟨f, rfl⟩
        have hq2 : q / 2 < 2 ^ f := by rw [Nat.pow_succ] at hq; omega
        have hs2 : s + q % 2 + pop f (q / 2) = bits + pop 8 d0 := by rw [← hsum]; show _ = s + (q % 2 + pop f (q / 2)); omega
        have hsm : s ≤ 1000 := by omega
        repeat (first | refine wW29 ?_ | (refine kW29 ?_; (first | rintro _ _ ⟨rfl, rfl⟩ | rintro _ _ ⟨_, rfl, rfl⟩ | rintro _ _ ⟨_, _, ⟨_, _⟩, rfl, rfl⟩); try refine ⟨sConv, ?_⟩) | refine Dr.two ?_ ?_)
        exact ⟨(f, q / 2, s + q % 2), sHolds, sConv, ⟨hq2, by dsimp only; omega, hs2⟩, by dsimp only; omega⟩
      · obtain rfl : q = 0 := by omega
        rw [pop_zero] at hsum
        repeat (first | refine wW29 ?_ | (refine kW29 ?_; (first | rintro _ _ ⟨rfl, rfl⟩ | rintro _ _ ⟨_, rfl, rfl⟩ | rintro _ _ ⟨_, _, ⟨_, _⟩, rfl, rfl⟩); try refine ⟨sConv, ?_⟩) | refine Dr.two ?_ ?_)
        exact ⟨(k + 1, s), sHolds, sConv, ⟨by dsimp only; omega, by dsimp only; rw [hnext]; omega, by dsimp only; omega⟩, by dsimp only; omega⟩
    · obtain rfl : k = m := by omega
      have hone := hoe.bits
      rw [← hml, ← hbits] at hone
      have hne : (!(e.broken == decide ((bits : Int) = 1))) = false := by
        rcases hone with ⟨h1, h2⟩ | ⟨h1, h2⟩ <;> rw [h1, h2] <;> rfl
      have hb1 : bits ≤ 1 := by rcases hone with ⟨h1, h2⟩ | ⟨h1, h2⟩ <;> omega
      have hle2 : (ls.eraseIdx 0).length = n2 - 1 := by rw [List.length_eraseIdx_of_lt (by omega)]; omega
      repeat (first | refine wW29 ?_ | (refine kW29 ?_; (first | rintro _ _ ⟨rfl, rfl⟩ | rintro _ _ ⟨_, rfl, rfl⟩ | rintro _ _ ⟨_, _, ⟨_, _⟩, rfl, rfl⟩); try refine ⟨sConv, ?_⟩) | refine Dr.two ?_ ?_)
      exact ⟨(n2 - 1, ls.eraseIdx 0), sHolds, sConv, ⟨hle2.symm, by dsimp only; omega, by dsimp only; omega, fun x hx => hL x (List.mem_of_mem_eraseIdx hx)⟩, by dsimp only; omega⟩
  · obtain rfl : n2 = 0 := by omega
    repeat (first | refine wW29 ?_ | (refine kW29 ?_; (first | rintro _ _ ⟨rfl, rfl⟩ | rintro _ _ ⟨_, rfl, rfl⟩ | rintro _ _ ⟨_, _, ⟨_, _⟩, rfl, rfl⟩); try refine ⟨sConv, ?_⟩) | refine Dr.two ?_ ?_)
    refine L.step (by decide) (S.call rfl rfl Try.func27 (by kernel_rfl) rfl sPicks (fun E' hE => wlen E' g1 A2 0 c2 h128) ?_)
    rintro r H' ⟨rfl, rfl⟩
    refine ⟨_, rfl, _, sCat, ?_⟩
    repeat (first | refine wW29 ?_ | (refine kW29 ?_; (first | rintro _ _ ⟨rfl, rfl⟩ | rintro _ _ ⟨_, rfl, rfl⟩ | rintro _ _ ⟨_, _, ⟨_, _⟩, rfl, rfl⟩); try refine ⟨sConv, ?_⟩) | refine Dr.two ?_ ?_)
    exact ret1 rfl sRet sConv (rfl)
end Go.Proofs.Ytbnfpmdieiknmaa.Sep
