/- the law of the wire: alive; all calls of a script; a clone goes on by itself. By parts of memory. -/
import Derived.Test.YtbnfpmdieiknmaaWire8
namespace Go.Proofs.Ytbnfpmdieiknmaa.Sep
open Go.RowKit Go.Proofs.Ytbnfpmdieiknmaa.Reg
open Go.Proofs.Ytbnfpmdieiknmaa.Mem hiding Rd Own
-- types: octT letT pltT op29T
-- recs: letT_rec wire_rec pltT_rec op29T_rec
-- funcs
-- flds
set_option maxRecDepth 100000
set_option maxHeartbeats 8000000
theorem Tri.monoC {P : Program} {E : Env} {f : FuncId} {args : Array Value} {H : List Asn} {Q Q' : Ending → List Asn → Prop} (h : Tri P E f args H Q) (hq : ∀ e H', Q e H' → ∃ H'', Conv E H' H'' ∧ Q' e H'') : Tri P E f args H Q' :=
  fun w hw => (h w hw).mono fun e w' ⟨H', h1, h2⟩ => by
    obtain ⟨H'', h3, h4⟩ := hq e H' h2
    exact ⟨H'', h3 w' h1, h4⟩
theorem alive29 (E : Env) : Tri Try.prog E 22 #[] [] fun r H' => r = .returned (.bool true) ∧ H' = [] := by
  have hmax : maxLen = 9223372036854775807 := rfl
  have hx3 : (flipB [1] 1)[0]? = some 3 := by decide
  have n1 : (1 : Nat) ≤ 140737488355300 := by decide
  have l0 : (0 : Nat) < 128 := by decide
  have l1 : (1 : Nat) < 128 := by decide
  have l2 : (2 : Nat) ≤ 128 := by decide
  have l3 : (1 : Nat) ≤ 128 := by decide
  refine tri Try.func22 rfl Try.ntmps22 (by simp) ?_
  repeat ((fail_if_success (refine C.seq (x := Code.region 2 _ _) ?_)); first | refine vW29 ?_ | (refine kW29 ?_; (first | rintro _ _ ⟨rfl, rfl⟩ | rintro _ _ ⟨_, rfl, rfl⟩ | rintro _ _ ⟨_, _, ⟨_, _⟩, rfl, rfl⟩); try refine ⟨sConv, ?_⟩) | refine Dr.two ?_ ?_)
  rename_i g1
  refine C.conv ((Conv.nil0 letT none).trans (Conv.each0 lOc)) ?_
  repeat (first | refine wW29 ?_ | (refine kW29 ?_; (first | rintro _ _ ⟨rfl, rfl⟩ | rintro _ _ ⟨_, rfl, rfl⟩ | rintro _ _ ⟨_, _, ⟨_, _⟩, rfl, rfl⟩); try refine ⟨sConv, ?_⟩) | refine Dr.two ?_ ?_)
  rename_i g2
  refine L.step (by decide) (S.call rfl rfl Try.func23 (by kernel_rfl) rfl sPicks (fun E' hE => (show Tri _ _ _ _ _ (fun r H' => ∃ A' c' O co, r = .returned (.bool true) ∧ (1 ≤ c' ∧ c' ≤ maxLen) ∧ H' = [wr g1 A' 1 c', own letT A' 1 c' [⟨2, O, 1, co, [1], false⟩], each lOc [⟨2, O, 1, co, [1], false⟩]]) from wput E' g1 none 0 0 [] 2 (some ⟨g2, 0, none⟩) 1 1 [1] l0 rfl (show Rd E' octT (some ⟨g2, 0, none⟩) 1 1 [UInt8.ofNat (Int.toNat 1)] from sRd) n1)) ?_)
  rintro r H' ⟨A1, c1, O1, d1, rfl, ⟨h1, h2⟩, rfl⟩
  refine ⟨_, rfl, _, sCat, ?_⟩
  repeat (first | refine wW29 ?_ | (refine kW29 ?_; (first | rintro _ _ ⟨rfl, rfl⟩ | rintro _ _ ⟨_, rfl, rfl⟩ | rintro _ _ ⟨_, _, ⟨_, _⟩, rfl, rfl⟩); try refine ⟨sConv, ?_⟩) | refine Dr.two ?_ ?_)
  refine L.step (by decide) (S.call rfl rfl Try.func25 (by kernel_rfl) rfl sPicks (fun E' hE => (show Tri _ _ _ _ _ (fun r H' => ∃ A' c' O co, r = .returned (.bool true) ∧ (2 ≤ c' ∧ c' ≤ maxLen) ∧ H' = [wr g1 A' 2 c', own letT A' 2 c' [⟨2, O1, 1, d1, [1], false⟩, ⟨2, O, 1, co, [1], false⟩], each lOc [⟨2, O1, 1, d1, [1], false⟩, ⟨2, O, 1, co, [1], false⟩]]) from wcopy E' g1 A1 1 c1 [⟨2, O1, 1, d1, [1], false⟩] 0 l1 Nat.one_pos rfl rfl n1)) ?_)
  rintro r H' ⟨A2, c2, O2, d2, rfl, ⟨h3, h4⟩, rfl⟩
  refine ⟨_, rfl, _, sCat, ?_⟩
  repeat (first | refine wW29 ?_ | (refine kW29 ?_; (first | rintro _ _ ⟨rfl, rfl⟩ | rintro _ _ ⟨_, rfl, rfl⟩ | rintro _ _ ⟨_, _, ⟨_, _⟩, rfl, rfl⟩); try refine ⟨sConv, ?_⟩) | refine Dr.two ?_ ?_)
  refine L.step (by decide) (S.call rfl rfl Try.func26 (by kernel_rfl) rfl sPicks (fun E' hE => (show Tri _ _ _ _ _ (fun r H' => r = .returned (.bool true) ∧ H' = [each lOc [⟨2, O1, 1, d1, flipB [1] 1, true⟩, ⟨2, O2, 1, d2, [1], false⟩], wr g1 A2 2 c2, own letT A2 2 c2 [⟨2, O1, 1, d1, flipB [1] 1, true⟩, ⟨2, O2, 1, d2, [1], false⟩]]) from wflip E' g1 A2 2 c2 [⟨2, O1, 1, d1, [1], false⟩, ⟨2, O2, 1, d2, [1], false⟩] 0 1 l2 rfl rfl rfl n1 rfl Nat.one_pos)) ?_)
  rintro r H' ⟨rfl, rfl⟩
  refine ⟨_, rfl, _, sCat, ?_⟩
  repeat (first | refine wW29 ?_ | (refine kW29 ?_; (first | rintro _ _ ⟨rfl, rfl⟩ | rintro _ _ ⟨_, rfl, rfl⟩ | rintro _ _ ⟨_, _, ⟨_, _⟩, rfl, rfl⟩); try refine ⟨sConv, ?_⟩) | refine Dr.two ?_ ?_)
  refine L.step (by decide) (S.call rfl rfl Try.func29 (by kernel_rfl) rfl sPicks (fun E' hE => (show Tri _ _ _ _ _ (fun r H' => r = .returned (.tuple #[.slice O1 1 d1, .bool true]) ∧ H' = [own octT O1 1 d1 (flipB [1] 1), wr g1 A2 1 c2, own letT A2 1 c2 [⟨2, O2, 1, d2, [1], false⟩], each lOc [⟨2, O2, 1, d2, [1], false⟩]]) from wtake E' g1 A2 2 c2 [⟨2, O1, 1, d1, flipB [1] 1, true⟩, ⟨2, O2, 1, d2, [1], false⟩] 0 l2 rfl h3 h4 rfl)) ?_)
  rintro r H' ⟨rfl, rfl⟩
  refine ⟨_, rfl, _, sCat, ?_⟩
  repeat (first | refine wW29 ?_ | (refine kW29 ?_; (first | rintro _ _ ⟨rfl, rfl⟩ | rintro _ _ ⟨_, rfl, rfl⟩ | rintro _ _ ⟨_, _, ⟨_, _⟩, rfl, rfl⟩); try refine ⟨sConv, ?_⟩) | refine Dr.two ?_ ?_)
  refine L.step (by decide) (S.call rfl rfl Try.func26 (by kernel_rfl) rfl sPicks (fun E' hE => wflip_no E' g1 A2 1 c2 5 0 l3 (by decide)) ?_)
  rintro r H' ⟨rfl, rfl⟩
  refine ⟨_, rfl, _, sCat, ?_⟩
  repeat (first | refine wW29 ?_ | (refine kW29 ?_; (first | rintro _ _ ⟨rfl, rfl⟩ | rintro _ _ ⟨_, rfl, rfl⟩ | rintro _ _ ⟨_, _, ⟨_, _⟩, rfl, rfl⟩); try refine ⟨sConv, ?_⟩) | refine Dr.two ?_ ?_)
  refine L.step (by decide) (S.call rfl rfl Try.func27 (by kernel_rfl) rfl sPicks (fun E' hE => wlen E' g1 A2 1 c2 l3) ?_)
  rintro r H' ⟨rfl, rfl⟩
  refine ⟨_, rfl, _, sCat, ?_⟩
  repeat (first | refine wW29 ?_ | (refine kW29 ?_; (first | rintro _ _ ⟨rfl, rfl⟩ | rintro _ _ ⟨_, rfl, rfl⟩ | rintro _ _ ⟨_, _, ⟨_, _⟩, rfl, rfl⟩); try refine ⟨sConv, ?_⟩) | refine Dr.two ?_ ?_)
  refine L.step (by decide) (S.call rfl rfl Try.func47 (by kernel_rfl) rfl sPicks (fun E' hE => wto_yes E' g1 A2 1 c2 [⟨2, O2, 1, d2, [1], false⟩] 0 l3 Nat.one_pos rfl rfl) ?_)
  rintro r H' ⟨rfl, rfl⟩
  refine ⟨_, rfl, _, sCat, ?_⟩
  repeat (first | refine wW29 ?_ | (refine kW29 ?_; (first | rintro _ _ ⟨rfl, rfl⟩ | rintro _ _ ⟨_, rfl, rfl⟩ | rintro _ _ ⟨_, _, ⟨_, _⟩, rfl, rfl⟩); try refine ⟨sConv, ?_⟩) | refine Dr.two ?_ ?_)
  exact ret1 rfl sRet sConv (⟨rfl, rfl⟩)
theorem St29.zero : St29 0 0 [] 0 0 [] := ⟨rfl, by decide, ⟨Nat.le_refl _, Nat.zero_le _⟩, fun _ h => (List.not_mem_nil h).elim, rfl, rfl, ⟨Nat.le_refl _, Nat.zero_le _⟩⟩
/-- behind all calls: the old list -/
theorem run29_keep (E : Env) (g : Nat) (A : Option Addr) (n c : Nat) (ls : List Letv) (B : Option Addr) (m d : Nat) (ps : List Plt) (hs : St29 n c ls m d ps) (O : Option Addr) (q co : Nat) (xs : List Op29) (hr : Rd E op29T O q co xs) (hb : Bs E xs) (hok : ∀ x ∈ xs, x.ok) (h40 : ∀ x ∈ xs, x.m ≤ 40) :
    Tri Try.prog E 45 #[.pointer (some ⟨g, 0, none⟩), .slice B m d, .slice O q co] [wr g A n c, own letT A n c ls, each lOc ls, own pltT B m d ps] fun r H' => ∃ B' m' d', r = .returned (.tuple #[.slice B' m' d', .bool true]) ∧ H' = [own pltT B m d ps] := by
  refine (run29 E g A n c ls B m d ps hs O q co xs hr hb hok h40).monoC ?_
  unfold Step29
  rintro r H' ⟨A2, n2, c2, l2, B2, m2, d2, p2, rfl, hs2, ⟨rfl, rfl, rfl, rfl, rfl⟩ | rfl⟩
  · exact ⟨_, sConv, B2, m2, d2, rfl, rfl⟩
  · exact ⟨_, sConv, B2, m2, d2, rfl, rfl⟩
/-- behind all calls, out of nothing -/
theorem run29_new (E : Env) (g : Nat) (O : Option Addr) (q co : Nat) (xs : List Op29) (hr : Rd E op29T O q co xs) (hb : Bs E xs) (hok : ∀ x ∈ xs, x.ok) (h40 : ∀ x ∈ xs, x.m ≤ 40) :
    Tri Try.prog E 45 #[.pointer (some ⟨g, 0, none⟩), .slice none 0 0, .slice O q co] [wr g none 0 0] fun r H' => ∃ A' n' c' ls' B' m' d' ps', r = .returned (.tuple #[.slice B' m' d', .bool true]) ∧ St29 n' c' ls' m' d' ps' ∧ H' = [wr g A' n' c', own letT A' n' c' ls', each lOc ls', own pltT B' m' d' ps'] := by
  refine Tri.conv (((Conv.nil0 letT none).trans (Conv.each0 lOc)).trans (Conv.nil0 pltT none)) ?_
  refine Tri.conv (H' := [wr g none 0 0, own letT none 0 0 [], each lOc [], own pltT none 0 0 []]) sConv ?_
  refine (run29 E g none 0 0 [] none 0 0 [] St29.zero O q co xs hr hb hok h40).monoC ?_
  unfold Step29
  rintro r H' ⟨A2, n2, c2, l2, B2, m2, d2, p2, rfl, hs2, ⟨rfl, rfl, rfl, rfl, rfl⟩ | rfl⟩
  · exact ⟨_, sConv, A2, n2, c2, l2, none, 0, 0, [], rfl, hs2, rfl⟩
  · exact ⟨_, sConv, A2, n2, c2, l2, B2, m2, d2, p2, rfl, hs2, rfl⟩
theorem runs29 (E : Env) (A : Option Addr) (n c : Nat) (l : List Op29) (hr : Rd E op29T A n c l) (hb : Bs E l) (hok : ∀ x ∈ l, x.ok) :
    Tri Try.prog E 9 #[.slice A n c] [] fun r _ => r = .returned (.bool true) := by
  refine tri Try.func9 rfl Try.ntmps9 (by simp) ?_
  repeat (first | refine wW29 ?_ | (refine kW29 ?_; (first | rintro _ _ ⟨rfl, rfl⟩ | rintro _ _ ⟨_, rfl, rfl⟩ | rintro _ _ ⟨_, _, ⟨_, _⟩, rfl, rfl⟩); try refine ⟨sConv, ?_⟩) | refine Dr.two ?_ ?_)
  refine L.step (by decide) (S.call rfl rfl Try.func22 (by kernel_rfl) rfl sPicks (fun E' hE => alive29 E') ?_)
  rintro r H' ⟨rfl, rfl⟩
  refine ⟨_, rfl, _, sCat, ?_⟩
  repeat (first | refine wW29 ?_ | (refine kW29 ?_; (first | rintro _ _ ⟨rfl, rfl⟩ | rintro _ _ ⟨_, rfl, rfl⟩ | rintro _ _ ⟨_, _, ⟨_, _⟩, rfl, rfl⟩); try refine ⟨sConv, ?_⟩) | refine Dr.two ?_ ?_)
  rename_i g1
  refine L.step (by decide) (S.call rfl rfl Try.func24 (by kernel_rfl) rfl sPicks (fun E' hE => few29_any E' A n c l (hr.sub hE) (hb.sub hE)) ?_)
  rintro r H' ⟨A1, n1, c1, rfl, h1, -, h2, rfl⟩
  refine ⟨_, rfl, _, sCat, ?_⟩
  repeat (first | refine wW29 ?_ | (refine kW29 ?_; (first | rintro _ _ ⟨rfl, rfl⟩ | rintro _ _ ⟨_, rfl, rfl⟩ | rintro _ _ ⟨_, _, ⟨_, _⟩, rfl, rfl⟩); try refine ⟨sConv, ?_⟩) | refine Dr.two ?_ ?_)
  refine L.step (by decide) (S.call rfl rfl Try.func45 (by kernel_rfl) rfl sPicks (fun E' hE => run29_new E' g1 A1 n1 c1 (few29 l) sRd (hb.few.sub hE) (few29_ok hok) few29_m) ?_)
  rintro r H' ⟨A2, n2, c2, l2, B2, m2, d2, p2, rfl, hs2, rfl⟩
  refine ⟨_, rfl, _, sCat, ?_⟩
  repeat (first | refine wW29 ?_ | (refine kW29 ?_; (first | rintro _ _ ⟨rfl, rfl⟩ | rintro _ _ ⟨_, rfl, rfl⟩ | rintro _ _ ⟨_, _, ⟨_, _⟩, rfl, rfl⟩); try refine ⟨sConv, ?_⟩) | refine Dr.two ?_ ?_)
  exact ret1 rfl sRet sConv (rfl)
end Go.Proofs.Ytbnfpmdieiknmaa.Sep
