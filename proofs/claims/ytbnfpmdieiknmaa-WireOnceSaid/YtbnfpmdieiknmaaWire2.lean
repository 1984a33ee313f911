/- wire: letters taken, turned, cloned; by parts of memory. -/
import Derived.Test.YtbnfpmdieiknmaaWire1
namespace Go.Proofs.Ytbnfpmdieiknmaa.Sep
open Go.RowKit Go.Proofs.Ytbnfpmdieiknmaa.Reg
open Go.Proofs.Ytbnfpmdieiknmaa.Mem hiding Rd Own
-- types: octT letT pltT op29T
-- recs: letT_rec wire_rec pltT_rec op29T_rec
-- funcs
-- flds
set_option maxRecDepth 100000
set_option maxHeartbeats 8000000
section
variable (E : Env) (g : Nat) (A : Option Addr) (n c : Nat) (ls : List Letv)
theorem wdelete (i : Nat) (hn : n ≤ 128) (hl : n = ls.length) (hi : i < n) (hc : n ≤ c) (hcm : c ≤ maxLen) :
    Tri Try.prog E 65 #[.slice A n c, .int .i64 i, .int .i64 ((i + 1 : Nat) : Int)] [own letT A n c ls] fun r H' => r = .returned (.slice A (n - 1) c) ∧ H' = [own letT A (n - 1) c (ls.eraseIdx i)] := by
  have hmax : maxLen = 9223372036854775807 := rfl
  have hm1 : n ≤ maxLen := by omega
  have hm2 : n - 1 ≤ maxLen := by omega
  have herase : ls.take i ++ ls.drop (i + 1) = ls.eraseIdx i := (List.eraseIdx_eq_take_drop_succ ..).symm
  refine tri Try.func65 rfl Try.ntmps65 (by simp) ?_
  repeat (first | refine wW29 ?_ | (refine kW29 ?_; (first | rintro _ _ ⟨rfl, rfl⟩ | rintro _ _ ⟨_, rfl, rfl⟩ | rintro _ _ ⟨_, _, ⟨_, _⟩, rfl, rfl⟩); try refine ⟨sConv, ?_⟩) | refine Dr.two ?_ ?_)
  refine L.val (by decide) (Y.slice3 (q := n) rfl rfl rfl rfl rfl rfl rfl rfl rfl rfl (by omega) (by omega) hc) ?_
  repeat (first | refine wW29 ?_ | (refine kW29 ?_; (first | rintro _ _ ⟨rfl, rfl⟩ | rintro _ _ ⟨_, rfl, rfl⟩ | rintro _ _ ⟨_, _, ⟨_, _⟩, rfl, rfl⟩); try refine ⟨sConv, ?_⟩) | refine Dr.two ?_ ?_)
  refine C.regionA 100000 (.one 0 false (.one 1 false (.one 2 false (.one 3 false (.one 4 false (.one 5 false (.one 6 true (.one 7 false .nil)))))))) ([]) (by kernel_rfl) (by kernel_rfl) sConv ?_
  repeat (first | refine wW29 ?_ | (refine kW29 ?_; (first | rintro _ _ ⟨rfl, rfl⟩ | rintro _ _ ⟨_, rfl, rfl⟩ | rintro _ _ ⟨_, _, ⟨_, _⟩, rfl, rfl⟩); try refine ⟨sConv, ?_⟩) | refine Dr.two ?_ ?_)
  refine Dr.take rfl (by decide) sGon (fun _ _ => V.slice rfl rfl rfl (S.upto (j := i) rfl rfl rfl (by omega))) ?_
  repeat (first | refine wW29 ?_ | (refine kW29 ?_; (first | rintro _ _ ⟨rfl, rfl⟩ | rintro _ _ ⟨_, rfl, rfl⟩ | rintro _ _ ⟨_, _, ⟨_, _⟩, rfl, rfl⟩); try refine ⟨sConv, ?_⟩) | refine Dr.two ?_ ?_)
  refine Dr.take rfl (by decide) sGon (fun _ _ => V.slice rfl rfl rfl (S.from_ (j := i + 1) rfl rfl rfl (by omega) hc)) ?_
  repeat (first | refine wW29 ?_ | (refine kW29 ?_; (first | rintro _ _ ⟨rfl, rfl⟩ | rintro _ _ ⟨_, rfl, rfl⟩ | rintro _ _ ⟨_, _, ⟨_, _⟩, rfl, rfl⟩); try refine ⟨sConv, ?_⟩) | refine Dr.two ?_ ?_)
  refine Dr.goK rfl (by rintro k ⟨⟩ <;> decide) sGon (S.appendTK (T := letT) (m := n) (n' := n - 1) (l := ls) (l2 := ls.drop (i + 1)) (l' := ls.eraseIdx i) (by_ := 40) rfl rfl rfl (by omega) (by omega) sRepl (RdH.from_ (RdH.own sHas) (by omega)) herase rfl rfl (by omega) (by omega) (by omega) (by omega)) ?_
  rintro _ _ ⟨rfl, rfl⟩
  refine ⟨sConv, ?_⟩
  repeat (first | refine wW29 ?_ | (refine kW29 ?_; (first | rintro _ _ ⟨rfl, rfl⟩ | rintro _ _ ⟨_, rfl, rfl⟩ | rintro _ _ ⟨_, _, ⟨_, _⟩, rfl, rfl⟩); try refine ⟨sConv, ?_⟩) | refine Dr.two ?_ ?_)
  refine L.val (by decide) (fun _ _ => V.slice rfl rfl rfl (S.both (j := n - 1) (m := n) rfl rfl rfl rfl (by omega) hc)) ?_
  refine L.step0K (S.clearK (T := letT) (z := letT_z) (j := n - 1) (k := n - (n - 1)) rfl rfl rfl rfl (Nat.le_refl _) (by omega) (by omega) sRepl) ?_
  rintro _ _ ⟨rfl, rfl⟩
  repeat (first | refine wW29 ?_ | (refine kW29 ?_; (first | rintro _ _ ⟨rfl, rfl⟩ | rintro _ _ ⟨_, rfl, rfl⟩ | rintro _ _ ⟨_, _, ⟨_, _⟩, rfl, rfl⟩); try refine ⟨sConv, ?_⟩) | refine Dr.two ?_ ?_)
  exact ret1 rfl sRet sConv (⟨rfl, rfl⟩)
theorem wtake_nil (i : Int) : Tri Try.prog E 29 #[.pointer none, .int .i64 i] [] fun r H' => r = .returned (.tuple #[.slice none 0 0, .bool false]) ∧ H' = [] := by
  refine tri Try.func29 rfl Try.ntmps29 (by simp) ?_
  repeat (first | refine wW29 ?_ | (refine kW29 ?_; (first | rintro _ _ ⟨rfl, rfl⟩ | rintro _ _ ⟨_, rfl, rfl⟩ | rintro _ _ ⟨_, _, ⟨_, _⟩, rfl, rfl⟩); try refine ⟨sConv, ?_⟩) | refine Dr.two ?_ ?_)
  refine L.step (by decide) (S.call rfl rfl Try.func64 (by kernel_rfl) rfl sPicks (fun E' hE => wat_nil E' i) ?_)
  rintro r H' ⟨rfl, rfl⟩
  refine ⟨_, rfl, _, sCat, ?_⟩
  repeat (first | refine wW29 ?_ | (refine kW29 ?_; (first | rintro _ _ ⟨rfl, rfl⟩ | rintro _ _ ⟨_, rfl, rfl⟩ | rintro _ _ ⟨_, _, ⟨_, _⟩, rfl, rfl⟩); try refine ⟨sConv, ?_⟩) | refine Dr.two ?_ ?_)
  exact ret2 rfl sRet sRet sConv (⟨rfl, rfl⟩)
theorem wtake_no (i : Int) (hn : n ≤ 128) (h : i < 0 ∨ n ≤ i) : Tri Try.prog E 29 #[.pointer (some ⟨g, 0, none⟩), .int .i64 i] [wr g A n c] fun r H' => r = .returned (.tuple #[.slice none 0 0, .bool false]) ∧ H' = [wr g A n c] := by
  refine tri Try.func29 rfl Try.ntmps29 (by simp) ?_
  repeat (first | refine wW29 ?_ | (refine kW29 ?_; (first | rintro _ _ ⟨rfl, rfl⟩ | rintro _ _ ⟨_, rfl, rfl⟩ | rintro _ _ ⟨_, _, ⟨_, _⟩, rfl, rfl⟩); try refine ⟨sConv, ?_⟩) | refine Dr.two ?_ ?_)
  refine L.step (by decide) (S.call rfl rfl Try.func64 (by kernel_rfl) rfl sPicks (fun E' hE => wat_no E' g A n c i hn h) ?_)
  rintro r H' ⟨rfl, rfl⟩
  refine ⟨_, rfl, _, sCat, ?_⟩
  repeat (first | refine wW29 ?_ | (refine kW29 ?_; (first | rintro _ _ ⟨rfl, rfl⟩ | rintro _ _ ⟨_, rfl, rfl⟩ | rintro _ _ ⟨_, _, ⟨_, _⟩, rfl, rfl⟩); try refine ⟨sConv, ?_⟩) | refine Dr.two ?_ ?_)
  exact ret2 rfl sRet sRet sConv (⟨rfl, rfl⟩)
theorem wtake (i : Nat) (hn : n ≤ 128) (hl : n = ls.length) (hc : n ≤ c) (hcm : c ≤ maxLen) {e : Letv} (he : ls[i]? = some e) :
    Tri Try.prog E 29 #[.pointer (some ⟨g, 0, none⟩), .int .i64 i] [wr g A n c, own letT A n c ls, each lOc ls] fun r H' => r = .returned (.tuple #[.slice e.A e.n e.c, .bool true]) ∧ H' = [own octT e.A e.n e.c e.b, wr g A (n - 1) c, own letT A (n - 1) c (ls.eraseIdx i), each lOc (ls.eraseIdx i)] := by
  have hi : i < n := by have := (List.getElem?_eq_some_iff.1 he).1; omega
  have hmax : maxLen = 9223372036854775807 := rfl
  have hs : IntKind.i64.wrap ((i : Int) + 1) = ((i + 1 : Nat) : Int) := by rw [IntWalk.i64_in _ (by omega)]; omega
  refine tri Try.func29 rfl Try.ntmps29 (by simp) ?_
  repeat (first | refine wW29 ?_ | (refine kW29 ?_; (first | rintro _ _ ⟨rfl, rfl⟩ | rintro _ _ ⟨_, rfl, rfl⟩ | rintro _ _ ⟨_, _, ⟨_, _⟩, rfl, rfl⟩); try refine ⟨sConv, ?_⟩) | refine Dr.two ?_ ?_)
  refine L.step (by decide) (S.call rfl rfl Try.func64 (by kernel_rfl) rfl sPicks (fun E' hE => wat_yes E' g A n c ls i hn hi he hl) ?_)
  rintro r H' ⟨rfl, rfl⟩
  refine ⟨_, rfl, _, sCat, ?_⟩
  repeat (first | refine wW29 ?_ | (refine kW29 ?_; (first | rintro _ _ ⟨rfl, rfl⟩ | rintro _ _ ⟨_, rfl, rfl⟩ | rintro _ _ ⟨_, _, ⟨_, _⟩, rfl, rfl⟩); try refine ⟨sConv, ?_⟩) | refine Dr.two ?_ ?_)
  refine L.step (by decide) (S.call rfl rfl Try.func65 (by kernel_rfl) rfl sPicks (fun E' hE => wdelete E' A n c ls i hn hl hi hc hcm) ?_)
  rintro r H' ⟨rfl, rfl⟩
  refine ⟨_, rfl, _, sCat, ?_⟩
  repeat (first | refine wW29 ?_ | (refine kW29 ?_; (first | rintro _ _ ⟨rfl, rfl⟩ | rintro _ _ ⟨_, rfl, rfl⟩ | rintro _ _ ⟨_, _, ⟨_, _⟩, rfl, rfl⟩); try refine ⟨sConv, ?_⟩) | refine Dr.two ?_ ?_)
  refine postF_conv (Conv.out (f := lOc) (l := ls) sHas he) ?_
  exact ret2 rfl sRet sRet sConv (⟨rfl, rfl⟩)
theorem wflip_nil (i k : Int) : Tri Try.prog E 26 #[.pointer none, .int .i64 i, .int .i64 k] [] fun r H' => r = .returned (.bool false) ∧ H' = [] := by
  refine tri Try.func26 rfl Try.ntmps26 (by simp) ?_
  repeat (first | refine wW29 ?_ | (refine kW29 ?_; (first | rintro _ _ ⟨rfl, rfl⟩ | rintro _ _ ⟨_, rfl, rfl⟩ | rintro _ _ ⟨_, _, ⟨_, _⟩, rfl, rfl⟩); try refine ⟨sConv, ?_⟩) | refine Dr.two ?_ ?_)
  refine L.step (by decide) (S.call rfl rfl Try.func64 (by kernel_rfl) rfl sPicks (fun E' hE => wat_nil E' i) ?_)
  rintro r H' ⟨rfl, rfl⟩
  refine ⟨_, rfl, _, sCat, ?_⟩
  repeat (first | refine wW29 ?_ | (refine kW29 ?_; (first | rintro _ _ ⟨rfl, rfl⟩ | rintro _ _ ⟨_, rfl, rfl⟩ | rintro _ _ ⟨_, _, ⟨_, _⟩, rfl, rfl⟩); try refine ⟨sConv, ?_⟩) | refine Dr.two ?_ ?_)
  exact ret1 rfl sRet sConv (⟨rfl, rfl⟩)
theorem wflip_no (i k : Int) (hn : n ≤ 128) (h : i < 0 ∨ n ≤ i) : Tri Try.prog E 26 #[.pointer (some ⟨g, 0, none⟩), .int .i64 i, .int .i64 k] [wr g A n c] fun r H' => r = .returned (.bool false) ∧ H' = [wr g A n c] := by
  refine tri Try.func26 rfl Try.ntmps26 (by simp) ?_
  repeat (first | refine wW29 ?_ | (refine kW29 ?_; (first | rintro _ _ ⟨rfl, rfl⟩ | rintro _ _ ⟨_, rfl, rfl⟩ | rintro _ _ ⟨_, _, ⟨_, _⟩, rfl, rfl⟩); try refine ⟨sConv, ?_⟩) | refine Dr.two ?_ ?_)
  refine L.step (by decide) (S.call rfl rfl Try.func64 (by kernel_rfl) rfl sPicks (fun E' hE => wat_no E' g A n c i hn h) ?_)
  rintro r H' ⟨rfl, rfl⟩
  refine ⟨_, rfl, _, sCat, ?_⟩
  repeat (first | refine wW29 ?_ | (refine kW29 ?_; (first | rintro _ _ ⟨rfl, rfl⟩ | rintro _ _ ⟨_, rfl, rfl⟩ | rintro _ _ ⟨_, _, ⟨_, _⟩, rfl, rfl⟩); try refine ⟨sConv, ?_⟩) | refine Dr.two ?_ ?_)
  exact ret1 rfl sRet sConv (⟨rfl, rfl⟩)
theorem wflip_not (i : Nat) (k : Int) (hn : n ≤ 128) (hl : n = ls.length) {e : Letv} (he : ls[i]? = some e) (hen : e.n ≤ maxLen) (h : e.broken = true ∨ k < 0 ∨ (e.n : Int) ≤ k / 8) (hk : -9223372036854775808 ≤ k ∧ k ≤ 9223372036854775807) : Tri Try.prog E 26 #[.pointer (some ⟨g, 0, none⟩), .int .i64 i, .int .i64 k] [wr g A n c, own letT A n c ls] fun r H' => r = .returned (.bool false) ∧ H' = [wr g A n c, own letT A n c ls] := by
  have hi : i < n := by have := (List.getElem?_eq_some_iff.1 he).1; omega
  have hmax : maxLen = 9223372036854775807 := rfl
  refine tri Try.func26 rfl Try.ntmps26 (by simp) ?_
  repeat (first | refine wW29 ?_ | (refine kW29 ?_; (first | rintro _ _ ⟨rfl, rfl⟩ | rintro _ _ ⟨_, rfl, rfl⟩ | rintro _ _ ⟨_, _, ⟨_, _⟩, rfl, rfl⟩); try refine ⟨sConv, ?_⟩) | refine Dr.two ?_ ?_)
  refine L.step (by decide) (S.call rfl rfl Try.func64 (by kernel_rfl) rfl sPicks (fun E' hE => wat_yes E' g A n c ls i hn hi he hl) ?_)
  rintro r H' ⟨rfl, rfl⟩
  refine ⟨_, rfl, _, sCat, ?_⟩
  rcases Bool.eq_false_or_eq_true e.broken with hb | hb
  · repeat (first | refine wW29 ?_ | (refine kW29 ?_; (first | rintro _ _ ⟨rfl, rfl⟩ | rintro _ _ ⟨_, rfl, rfl⟩ | rintro _ _ ⟨_, _, ⟨_, _⟩, rfl, rfl⟩); try refine ⟨sConv, ?_⟩) | refine Dr.two ?_ ?_)
    exact ret1 rfl sRet sConv (⟨rfl, rfl⟩)
  by_cases hk0 : k < 0
  · repeat (first | refine wW29 ?_ | (refine kW29 ?_; (first | rintro _ _ ⟨rfl, rfl⟩ | rintro _ _ ⟨_, rfl, rfl⟩ | rintro _ _ ⟨_, _, ⟨_, _⟩, rfl, rfl⟩); try refine ⟨sConv, ?_⟩) | refine Dr.two ?_ ?_)
    exact ret1 rfl sRet sConv (⟨rfl, rfl⟩)
  have hq : (e.n : Int) ≤ k / 8 := by
    rcases h with h | h | h
    · rw [hb] at h; cases h
    · exact absurd h hk0
    · exact h
  have hw : IntKind.i64.wrap (k.tdiv 8) = k / 8 := by rw [Int.tdiv_eq_ediv_of_nonneg (by omega)]; exact IntWalk.i64_in _ (by omega)
  repeat (first | refine wW29 ?_ | (refine kW29 ?_; (first | rintro _ _ ⟨rfl, rfl⟩ | rintro _ _ ⟨_, rfl, rfl⟩ | rintro _ _ ⟨_, _, ⟨_, _⟩, rfl, rfl⟩); try refine ⟨sConv, ?_⟩) | refine Dr.two ?_ ?_)
  exact ret1 rfl sRet sConv (⟨rfl, rfl⟩)
/-- an octet, one bit of which is turned -/
def turn8 (b : UInt8) (k : Nat) : UInt8 := UInt8.ofNat (b.toNat ^^^ 2 ^ k)
def flipB (b : List UInt8) (k : Nat) : List UInt8 := b.set (k / 8) (turn8 (b.getD (k / 8) 0) (k % 8))
theorem xor8 (b : UInt8) {k : Nat} (hk : k < 8) {z : Int} (hz : z = 2 ^ k % 256) : Go.bits .xor .u8 (b.toNat : Int) z = ((turn8 b k).toNat : Int) := by
  subst hz
  have hx := UInt8.toNat_lt b
  have hp2 : 2 ^ k < 256 := Nat.pow_lt_pow_right (n := 8) (by decide) hk
  have e : ((2 : Int) ^ k % 256) = ((2 ^ k : Nat) : Int) := by
    have h1 : ((2 ^ k : Nat) : Int) = (2 : Int) ^ k := by simp
    have h2 : ((2 ^ k : Nat) : Int) < 256 := by omega
    rw [← h1]
    exact Int.emod_eq_of_lt (Int.natCast_nonneg _) h2
  have hlt : b.toNat ^^^ 2 ^ k < 256 := Nat.xor_lt_two_pow (n := 8) hx hp2
  rw [e, u8_xor_nat _ _ hx hp2, turn8, UInt8.toNat_ofNat', Nat.mod_eq_of_lt hlt]
theorem wflip (i k : Nat) (hn : n ≤ 128) (hl : n = ls.length) {e : Letv} (he : ls[i]? = some e) (hen : e.n = e.b.length) (hem : e.n ≤ 140737488355300) (hb : e.broken = false) (hk : k / 8 < e.n) :
    Tri Try.prog E 26 #[.pointer (some ⟨g, 0, none⟩), .int .i64 i, .int .i64 k] [wr g A n c, own letT A n c ls, each lOc ls] fun r H' => r = .returned (.bool true) ∧ H' = [each lOc (ls.set i (e.mark (flipB e.b k))), wr g A n c, own letT A n c (ls.set i (e.mark (flipB e.b k)))] := by
  have hil := (List.getElem?_eq_some_iff.1 he).1
  have hi : i < n := by omega
  have hmax : maxLen = 9223372036854775807 := rfl
  have hem2 : e.n ≤ maxLen := by omega
  have hq : IntKind.i64.wrap ((k : Int).tdiv 8) = ((k / 8 : Nat) : Int) := by rw [IntWalk.i64_quo _ _ (by omega)]; omega
  have hr : (k : Int).tmod 8 = ((k % 8 : Nat) : Int) := by rw [Int.tmod_eq_emod_of_nonneg (by omega)]; omega
  obtain ⟨x, hx⟩ : ∃ x, e.b[k / 8]? = some x := ⟨_, List.getElem?_eq_getElem (by omega)⟩
  have hfl : flipB e.b k = e.b.set (k / 8) (turn8 x (k % 8)) := by unfold flipB; rw [List.getD_eq_getElem?_getD, hx]; rfl
  have hz : IntKind.u8.wrap (1 * 2 ^ min ((k % 8 : Nat) : Int).toNat IntKind.u8.bits) = 2 ^ (k % 8) % 256 := by
    rw [Int.toNat_natCast, show min (k % 8) IntKind.u8.bits = k % 8 from Nat.min_eq_left (show k % 8 ≤ 8 by omega), Int.one_mul]
    exact IntKind.wrap_u8 _
  have hxor := xor8 x (k := k % 8) (by omega) rfl
  rw [hfl]
  have hset : Fset letT e 2 (.bool true) (e.mark (e.b.set (k / 8) (turn8 x (k % 8)))) := Fset.mk1 rfl (by decide) rfl
  refine tri Try.func26 rfl Try.ntmps26 (by simp) ?_
  repeat (first | refine wW29 ?_ | (refine kW29 ?_; (first | rintro _ _ ⟨rfl, rfl⟩ | rintro _ _ ⟨_, rfl, rfl⟩ | rintro _ _ ⟨_, _, ⟨_, _⟩, rfl, rfl⟩); try refine ⟨sConv, ?_⟩) | refine Dr.two ?_ ?_)
  refine L.step (by decide) (S.call rfl rfl Try.func64 (by kernel_rfl) rfl sPicks (fun E' hE => wat_yes E' g A n c ls i hn hi he hl) ?_)
  rintro r H' ⟨rfl, rfl⟩
  refine ⟨_, rfl, _, sCat, ?_⟩
  repeat ((fail_if_success (refine C.seq (x := Code.region 4 _ _) ?_)); first | refine vW29 ?_ | (refine kW29 ?_; (first | rintro _ _ ⟨rfl, rfl⟩ | rintro _ _ ⟨_, rfl, rfl⟩ | rintro _ _ ⟨_, _, ⟨_, _⟩, rfl, rfl⟩); try refine ⟨sConv, ?_⟩) | refine Dr.two ?_ ?_)
  refine C.conv (Conv.out (f := lOc) (l := ls) sHas he) ?_
  repeat (first | refine wW29 ?_ | (refine kW29 ?_; (first | rintro _ _ ⟨rfl, rfl⟩ | rintro _ _ ⟨_, rfl, rfl⟩ | rintro _ _ ⟨_, _, ⟨_, _⟩, rfl, rfl⟩); try refine ⟨sConv, ?_⟩) | refine Dr.two ?_ ?_)
  refine C.regionA 13 (.one 0 false (.one 1 false (.one 2 false (.one 3 false (.one 4 false (.one 5 false (.one 6 false (.one 7 false (.one 8 false (.one 9 false (.one 10 false (.one 11 false (.one 12 false (.one 13 true .nil)))))))))))))) _ (by kernel_rfl) (by kernel_rfl) Conv.refl ?_
  repeat (first | refine wW29 ?_ | (refine kW29 ?_; (first | rintro _ _ ⟨rfl, rfl⟩ | rintro _ _ ⟨_, rfl, rfl⟩ | rintro _ _ ⟨_, _, ⟨_, _⟩, rfl, rfl⟩); try refine ⟨sConv, ?_⟩) | refine Dr.two ?_ ?_)
  refine postF_conv (Conv.in_ (f := lOc) (l := ls.eraseIdx i) (i := i) (x := e.mark (e.b.set (k / 8) (turn8 x (k % 8)))) sPicks (erase_set hil)) ?_
  exact ret1 rfl sRet sConv (⟨rfl, rfl⟩)
end
end Go.Proofs.Ytbnfpmdieiknmaa.Sep
