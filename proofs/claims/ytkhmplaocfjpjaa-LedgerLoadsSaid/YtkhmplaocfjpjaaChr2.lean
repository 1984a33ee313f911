/- the document's chains: what is tried, and answered; what is asked; by parts of memory. -/
import Derived.Test.YtkhmplaocfjpjaaChr1
namespace Go.Proofs.Ytkhmplaocfjpjaa.Sep
open Go.RowKit Go.Proofs.Ytkhmplaocfjpjaa.Reg
open Go.Proofs.Ytkhmplaocfjpjaa.Mem hiding Rd Own
-- types: entT enrT effT
-- recs: idnT_rec effT_rec cfgT_rec entT_rec enrT_rec keyT_rec reqT_rec chain_rec chref_rec
-- eqs: idnT_eqa effT_eqa entT_eqa enrT_eqa keyT_eqa reqT_eqa
-- funcs
-- flds
set_option maxRecDepth 100000
set_option maxHeartbeats 8000000
theorem rack_set (e : Ent) : Fset enrT e 8 (.bool true) e.ack := Fset.mk1 rfl (by decide) rfl
section
variable (E : Env) (g : Nat) (id : Idn) (made : Int) (A : Option Addr) (n c : Nat) (l : List Ent) (want : List Eff) (X : Option Addr) (nx cx : Nat)
/-- what 'Try' leaves -/
def RTry (g : Nat) (id : Idn) (t : Option (Int × List Ent)) (d : Int × List Ent) (X : Option Addr) (nx cx : Nat) : Ending → List Asn → Prop := fun r H' =>
  ∃ A' n' c', r = .returned (.bool t.isSome) ∧ n' = (t.getD d).2.length ∧ (n' ≤ c' ∧ c' ≤ maxLen) ∧ H' = [mch g id (t.getD d).1 A' n' c' X nx cx, own enrT A' n' c' (t.getD d).2]
theorem rtry (now : Int) (hw : Rd E effT X nx cx want) (hn : n = l.length) (hcap : n ≤ c ∧ c ≤ maxLen) (hl : n ≤ 1000000) (hok : ∀ e ∈ l, e.ok) (hm : I64 made) :
    Tri Try.prog E 130 #[.pointer (some ⟨g, 0, none⟩), .int .i64 now] [mch g id made A n c X nx cx, own enrT A n c l] (RTry g id (tried id made l want now) (made, l) X nx cx) := by
  have hmax : maxLen = 9223372036854775807 := rfl
  have hm2 := hm
  unfold I64 at hm2
  unfold RTry
  refine tri Try.func130 rfl Try.ntmps130 (by simp) ?_
  repeat (first | refine wCh1 ?_ | (refine kCh1 ?_; (first | rintro _ _ ⟨rfl, rfl⟩ | rintro _ _ ⟨_, rfl, rfl⟩ | rintro _ _ ⟨_, _, ⟨_, _⟩, rfl, rfl⟩); try refine ⟨sConv, ?_⟩) | refine Dr.two ?_ ?_)
  refine L.step (by decide) (S.call rfl rfl Try.func17 (by kernel_rfl) rfl sPicks (fun E' hE => rnext E' g id made A n c l want X nx cx sRd sRd hm) ?_)
  rintro r H' ⟨rfl, rfl⟩
  refine ⟨_, rfl, _, sCat, ?_⟩
  unfold tried
  cases hq : next id made l want with
  | none =>
    dsimp only [Option.getD, Option.isSome]
    repeat (first | refine wCh1 ?_ | (refine kCh1 ?_; (first | rintro _ _ ⟨rfl, rfl⟩ | rintro _ _ ⟨_, rfl, rfl⟩ | rintro _ _ ⟨_, _, ⟨_, _⟩, rfl, rfl⟩); try refine ⟨sConv, ?_⟩) | refine Dr.two ?_ ?_)
    exact ret1 rfl sRet sConv (⟨_, _, _, rfl, hn, hcap, rfl⟩)
  | some q =>
    dsimp only [Option.getD, Option.isSome]
    cases htip : tip l with
    | some e =>
      obtain ⟨he, ho⟩ := tip_some htip
      have heok : e.ok := hok e (List.mem_of_getElem? he)
      have hlt := (List.getElem?_eq_some_iff.1 he).1
      have hs : IntKind.i64.wrap ((n : Int) - 1) = ((n - 1 : Nat) : Int) := by rw [IntWalk.i64_in _ (by omega)]; omega
      rw [← hn] at he
      rw [← hn]
      dsimp only [Option.getD, Option.isSome]
      repeat (first | refine wCh1 ?_ | (refine kCh1 ?_; (first | rintro _ _ ⟨rfl, rfl⟩ | rintro _ _ ⟨_, rfl, rfl⟩ | rintro _ _ ⟨_, _, ⟨_, _⟩, rfl, rfl⟩); try refine ⟨sConv, ?_⟩) | refine Dr.two ?_ ?_)
      refine L.step (by decide) (S.call rfl rfl Try.func61 (by kernel_rfl) rfl sPicks (fun E' hE => mopn E' e) ?_)
      rw [ho]
      rintro r H' ⟨rfl, rfl⟩
      refine ⟨_, rfl, _, sCat, ?_⟩
      repeat (first | refine wCh1 ?_ | (refine kCh1 ?_; (first | rintro _ _ ⟨rfl, rfl⟩ | rintro _ _ ⟨_, rfl, rfl⟩ | rintro _ _ ⟨_, _, ⟨_, _⟩, rfl, rfl⟩); try refine ⟨sConv, ?_⟩) | refine Dr.two ?_ ?_)
      refine L.step (by decide) (S.call rfl rfl Try.func144 (by kernel_rfl) rfl sPicks (fun E' hE => mtry E' e now heok) ?_)
      generalize e.try_ now = x
      rintro r H' ⟨rfl, rfl⟩
      refine ⟨_, rfl, _, sCat, ?_⟩
      repeat (first | refine wCh1 ?_ | (refine kCh1 ?_; (first | rintro _ _ ⟨rfl, rfl⟩ | rintro _ _ ⟨_, rfl, rfl⟩ | rintro _ _ ⟨_, _, ⟨_, _⟩, rfl, rfl⟩); try refine ⟨sConv, ?_⟩) | refine Dr.two ?_ ?_)
      rename_i h1 h2
      exact ret1 rfl sRet sConv (⟨_, _, _, rfl, by simp [hn], ⟨h1, h2⟩, rfl⟩)
    | none =>
      unfold next at hq
      rw [htip] at hq
      obtain ⟨hlt, _⟩ := fresh_some hq
      dsimp only [Option.getD, Option.isSome]
      by_cases h0 : n = 0
      · repeat (first | refine wCh1 ?_ | (refine kCh1 ?_; (first | rintro _ _ ⟨rfl, rfl⟩ | rintro _ _ ⟨_, rfl, rfl⟩ | rintro _ _ ⟨_, _, ⟨_, _⟩, rfl, rfl⟩); try refine ⟨sConv, ?_⟩) | refine Dr.two ?_ ?_)
        refine L.stepK (by decide) (S.buildSlice1K (T := enrT) (e := (newEnt q now)) rfl rfl rfl rfl (by decide)) ?_; rintro _ _ ⟨_, rfl, rfl⟩
        repeat (first | refine wCh1 ?_ | (refine kCh1 ?_; (first | rintro _ _ ⟨rfl, rfl⟩ | rintro _ _ ⟨_, rfl, rfl⟩ | rintro _ _ ⟨_, _, ⟨_, _⟩, rfl, rfl⟩); try refine ⟨sConv, ?_⟩) | refine Dr.two ?_ ?_)
        rename_i h1 h2
        exact ret1 rfl sRet sConv (⟨_, _, _, rfl, by simp [hn], ⟨h1, h2⟩, rfl⟩)
      · have hs : IntKind.i64.wrap ((n : Int) - 1) = ((n - 1 : Nat) : Int) := by rw [IntWalk.i64_in _ (by omega)]; omega
        have hx : l[n - 1]? = some l[n - 1] := List.getElem?_eq_getElem (by omega)
        generalize l[n - 1] = e at hx
        have ho : e.opn = false := by
          cases ho : e.opn
          · rfl
          · rw [hn] at hx
            rw [tip_opn hx ho] at htip
            cases htip
        repeat (first | refine wCh1 ?_ | (refine kCh1 ?_; (first | rintro _ _ ⟨rfl, rfl⟩ | rintro _ _ ⟨_, rfl, rfl⟩ | rintro _ _ ⟨_, _, ⟨_, _⟩, rfl, rfl⟩); try refine ⟨sConv, ?_⟩) | refine Dr.two ?_ ?_)
        refine L.step (by decide) (S.call rfl rfl Try.func61 (by kernel_rfl) rfl sPicks (fun E' hE => mopn E' e) ?_)
        rw [ho]
        rintro r H' ⟨rfl, rfl⟩
        refine ⟨_, rfl, _, sCat, ?_⟩
        repeat (first | refine wCh1 ?_ | (refine kCh1 ?_; (first | rintro _ _ ⟨rfl, rfl⟩ | rintro _ _ ⟨_, rfl, rfl⟩ | rintro _ _ ⟨_, _, ⟨_, _⟩, rfl, rfl⟩); try refine ⟨sConv, ?_⟩) | refine Dr.two ?_ ?_)
        refine L.stepK (by decide) (S.buildSlice1K (T := enrT) (e := (newEnt q now)) rfl rfl rfl rfl (by decide)) ?_; rintro _ _ ⟨_, rfl, rfl⟩
        repeat (first | refine wCh1 ?_ | (refine kCh1 ?_; (first | rintro _ _ ⟨rfl, rfl⟩ | rintro _ _ ⟨_, rfl, rfl⟩ | rintro _ _ ⟨_, _, ⟨_, _⟩, rfl, rfl⟩); try refine ⟨sConv, ?_⟩) | refine Dr.two ?_ ?_)
        rename_i h1 h2
        exact ret1 rfl sRet sConv (⟨_, _, _, rfl, by simp [hn], ⟨h1, h2⟩, rfl⟩)
/-- what 'Ack' leaves -/
def RAck (g : Nat) (id : Idn) (made : Int) (a : Option (List Ent)) (l : List Ent) (X : Option Addr) (nx cx : Nat) : Ending → List Asn → Prop := fun r H' =>
  ∃ A' n' c', r = .returned (.bool a.isSome) ∧ n' = (a.getD l).length ∧ (n' ≤ c' ∧ c' ≤ maxLen) ∧ H' = [mch g id made A' n' c' X nx cx, own enrT A' n' c' (a.getD l)]
theorem rack (k : Keyv) (hn : n = l.length) (hcap : n ≤ c ∧ c ≤ maxLen) (hl : n ≤ 1000000) :
    Tri Try.prog E 131 #[.pointer (some ⟨g, 0, none⟩), .agg k.cs.toArray] [mch g id made A n c X nx cx, own enrT A n c l] (RAck g id made (acked id l k) l X nx cx) := by
  have hmax : maxLen = 9223372036854775807 := rfl
  unfold RAck
  refine tri Try.func131 rfl Try.ntmps131 (by simp) ?_
  have hdn : ∀ m : Nat, m ≤ 1000000 → IntKind.i64.wrap ((m : Int) - 1) = dn m := by
    intro m hm
    rw [IntWalk.i64_in _ (by omega)]
    cases m with
    | zero => rfl
    | succ m => show (((m + 1 : Nat) : Int) - 1) = (m : Int); omega
  have hd0 := hdn n hl
  repeat (first | refine wCh1 ?_ | (refine kCh1 ?_; (first | rintro _ _ ⟨rfl, rfl⟩ | rintro _ _ ⟨_, rfl, rfl⟩ | rintro _ _ ⟨_, _, ⟨_, _⟩, rfl, rfl⟩); try refine ⟨sConv, ?_⟩) | refine Dr.two ?_ ?_)
  rename_i g3
  refine C.loop (X := Nat) (fun j => [(0, .pointer (some ⟨g, 0, none⟩)), (3, .pointer (some ⟨g3, 0, none⟩)), (5, .int .i64 (idxFrom (fun e => decide (e.ord = k.ord)) l j)), (6, .int .i64 (dn j))])
    (fun _ => [blk g3 45 k.cs, mch g id made A n c X nx cx, own enrT A n c l]) (fun j => j ≤ n) (fun j => j) n (by rw [idxFrom_end (by omega)]; exact sHolds) Conv.refl (Nat.le_refl _) ?_
  rintro j G hj
  cases j with
  | succ m =>
    have hx : l[m]? = some l[m] := List.getElem?_eq_getElem (by omega)
    have hst := idxFrom_step (p := fun e => decide (e.ord = k.ord)) hx
    have hd1 := hdn m (by omega)
    generalize l[m] = e at hx hst
    dsimp only [dn]
    by_cases hk : e.ord = k.ord
    · rw [if_pos (decide_eq_true hk)] at hst
      repeat (first | refine wCh1 ?_ | (refine kCh1 ?_; (first | rintro _ _ ⟨rfl, rfl⟩ | rintro _ _ ⟨_, rfl, rfl⟩ | rintro _ _ ⟨_, _, ⟨_, _⟩, rfl, rfl⟩); try refine ⟨sConv, ?_⟩) | refine Dr.two ?_ ?_)
      refine C.regionA 100000 (.one 0 false (.one 1 false (.one 2 false (.one 3 false (.one 4 false (.one 5 false (.one 6 false (.one 7 false (.one 8 false (.one 9 false (.one 10 false .nil))))))))))) _ (by kernel_rfl) (by kernel_rfl) Conv.refl ?_
      repeat (first | refine wCh1 ?_ | (refine kCh1 ?_; (first | rintro _ _ ⟨rfl, rfl⟩ | rintro _ _ ⟨_, rfl, rfl⟩ | rintro _ _ ⟨_, _, ⟨_, _⟩, rfl, rfl⟩); try refine ⟨sConv, ?_⟩) | refine Dr.two ?_ ?_)
      exact ⟨m, by rw [hst]; exact sHolds, sConv, by omega, by omega⟩
    · rw [if_neg (by simp [hk])] at hst
      repeat (first | refine wCh1 ?_ | (refine kCh1 ?_; (first | rintro _ _ ⟨rfl, rfl⟩ | rintro _ _ ⟨_, rfl, rfl⟩ | rintro _ _ ⟨_, _, ⟨_, _⟩, rfl, rfl⟩); try refine ⟨sConv, ?_⟩) | refine Dr.two ?_ ?_)
      refine C.regionA 100000 (.one 0 false (.one 1 false (.one 2 false (.one 3 false (.one 4 false (.one 5 false (.one 6 false (.one 7 false (.one 8 false (.one 9 false (.one 10 false .nil))))))))))) _ (by kernel_rfl) (by kernel_rfl) Conv.refl ?_
      repeat (first | refine wCh1 ?_ | (refine kCh1 ?_; (first | rintro _ _ ⟨rfl, rfl⟩ | rintro _ _ ⟨_, rfl, rfl⟩ | rintro _ _ ⟨_, _, ⟨_, _⟩, rfl, rfl⟩); try refine ⟨sConv, ?_⟩) | refine Dr.two ?_ ?_)
      exact ⟨m, by rw [hst]; exact sHolds, sConv, by omega, by omega⟩
  | zero =>
    rw [idxFrom_zero]
    dsimp only [dn]
    unfold idx
    by_cases hid : k.id = id
    case neg =>
      rw [acked_none (.inl hid)]
      have hd : (!decide ((⟨k.id.rep, k.id.seq⟩ : Idn) = ⟨id.rep, id.seq⟩)) = true := by rw [idn_eta, decide_eq_false hid]; rfl
      dsimp only [Option.getD, Option.isSome]
      repeat (first | refine wCh1 ?_ | (refine kCh1 ?_; (first | rintro _ _ ⟨rfl, rfl⟩ | rintro _ _ ⟨_, rfl, rfl⟩ | rintro _ _ ⟨_, _, ⟨_, _⟩, rfl, rfl⟩); try refine ⟨sConv, ?_⟩) | refine Dr.two ?_ ?_)
      refine C.regionA 100000 (.one 0 false (.one 1 false (.one 2 false (.one 3 false (.one 4 false (.one 5 false (.one 6 false (.one 7 false (.one 8 false (.one 9 false (.one 10 false .nil))))))))))) _ (by kernel_rfl) (by kernel_rfl) Conv.refl ?_
      repeat (first | refine wCh1 ?_ | (refine kCh1 ?_; (first | rintro _ _ ⟨rfl, rfl⟩ | rintro _ _ ⟨_, rfl, rfl⟩ | rintro _ _ ⟨_, _, ⟨_, _⟩, rfl, rfl⟩); try refine ⟨sConv, ?_⟩) | refine Dr.two ?_ ?_)
      exact ret1 rfl sRet sConv (⟨_, _, _, rfl, hn, hcap, rfl⟩)
    have hd : (!decide ((⟨k.id.rep, k.id.seq⟩ : Idn) = ⟨id.rep, id.seq⟩)) = false := by rw [idn_eta, decide_eq_true hid]; rfl
    cases hf : l.findIdx? (fun e => decide (e.ord = k.ord)) with
    | none =>
      rw [acked_none (.inr hf)]
      dsimp only [Option.getD, Option.isSome]
      repeat (first | refine wCh1 ?_ | (refine kCh1 ?_; (first | rintro _ _ ⟨rfl, rfl⟩ | rintro _ _ ⟨_, rfl, rfl⟩ | rintro _ _ ⟨_, _, ⟨_, _⟩, rfl, rfl⟩); try refine ⟨sConv, ?_⟩) | refine Dr.two ?_ ?_)
      refine C.regionA 100000 (.one 0 false (.one 1 false (.one 2 false (.one 3 false (.one 4 false (.one 5 false (.one 6 false (.one 7 false (.one 8 false (.one 9 false (.one 10 false .nil))))))))))) _ (by kernel_rfl) (by kernel_rfl) Conv.refl ?_
      repeat (first | refine wCh1 ?_ | (refine kCh1 ?_; (first | rintro _ _ ⟨rfl, rfl⟩ | rintro _ _ ⟨_, rfl, rfl⟩ | rintro _ _ ⟨_, _, ⟨_, _⟩, rfl, rfl⟩); try refine ⟨sConv, ?_⟩) | refine Dr.two ?_ ?_)
      exact ret1 rfl sRet sConv (⟨_, _, _, rfl, hn, hcap, rfl⟩)
    | some i =>
      obtain ⟨e, he, _⟩ := find_at hf
      have hi := (List.getElem?_eq_some_iff.1 he).1
      have hak := acked_at hid hf he
      have hset := rack_set e
      have hs : IntKind.i64.wrap ((n : Int) - 1) = ((n - 1 : Nat) : Int) := by rw [IntWalk.i64_in _ (by omega)]; omega
      dsimp only
      repeat (first | refine wCh1 ?_ | (refine kCh1 ?_; (first | rintro _ _ ⟨rfl, rfl⟩ | rintro _ _ ⟨_, rfl, rfl⟩ | rintro _ _ ⟨_, _, ⟨_, _⟩, rfl, rfl⟩); try refine ⟨sConv, ?_⟩) | refine Dr.two ?_ ?_)
      refine C.regionA 100000 (.one 0 false (.one 1 false (.one 2 false (.one 3 false (.one 4 false (.one 5 false (.one 6 false (.one 7 false (.one 8 false (.one 9 false (.one 10 false .nil))))))))))) _ (by kernel_rfl) (by kernel_rfl) Conv.refl ?_
      cases hu : k.undo
      · have h2 : (!k.undo) = true := by rw [hu]; rfl
        cases ha : e.acked
        · have h3 : (!e.acked) = true := by rw [ha]; rfl
          rw [hak.trans (show _ = some (l.set i e.ack) by rw [hu, ha]; rfl)]
          dsimp only [Option.getD, Option.isSome]
          repeat (first | refine wCh1 ?_ | (refine kCh1 ?_; (first | rintro _ _ ⟨rfl, rfl⟩ | rintro _ _ ⟨_, rfl, rfl⟩ | rintro _ _ ⟨_, _, ⟨_, _⟩, rfl, rfl⟩); try refine ⟨sConv, ?_⟩) | refine Dr.two ?_ ?_)
          rename_i h8 h9
          exact ret1 rfl sRet sConv (⟨_, _, _, rfl, by simp [hn], ⟨h8, h9⟩, rfl⟩)
        · have h3 : (!e.acked) = false := by rw [ha]; rfl
          rw [hak.trans (show _ = none by rw [hu, ha]; rfl)]
          dsimp only [Option.getD, Option.isSome]
          repeat (first | refine wCh1 ?_ | (refine kCh1 ?_; (first | rintro _ _ ⟨rfl, rfl⟩ | rintro _ _ ⟨_, rfl, rfl⟩ | rintro _ _ ⟨_, _, ⟨_, _⟩, rfl, rfl⟩); try refine ⟨sConv, ?_⟩) | refine Dr.two ?_ ?_)
          exact ret1 rfl sRet sConv (⟨_, _, _, rfl, hn, hcap, rfl⟩)
      · have h2 : (!k.undo) = false := by rw [hu]; rfl
        rw [hu] at hak
        repeat (first | refine wCh1 ?_ | (refine kCh1 ?_; (first | rintro _ _ ⟨rfl, rfl⟩ | rintro _ _ ⟨_, rfl, rfl⟩ | rintro _ _ ⟨_, _, ⟨_, _⟩, rfl, rfl⟩); try refine ⟨sConv, ?_⟩) | refine Dr.two ?_ ?_)
        rename_i O co hc1 hc2
        refine L.step (by decide) (S.call rfl rfl Try.func19 (by kernel_rfl) rfl sPicks (fun E' hE => mund E' e) ?_)
        cases hun : e.und
        · rw [hak.trans (show _ = none by rw [hun]; rfl)]
          dsimp only [Option.getD, Option.isSome]
          rintro r H' ⟨rfl, rfl⟩
          refine ⟨_, rfl, _, sCat, ?_⟩
          repeat (first | refine wCh1 ?_ | (refine kCh1 ?_; (first | rintro _ _ ⟨rfl, rfl⟩ | rintro _ _ ⟨_, rfl, rfl⟩ | rintro _ _ ⟨_, _, ⟨_, _⟩, rfl, rfl⟩); try refine ⟨sConv, ?_⟩) | refine Dr.two ?_ ?_)
          exact ret1 rfl sRet sConv (⟨_, _, _, rfl, hn, hcap, rfl⟩)
        by_cases hb : 1 ≤ e.back
        case neg =>
          rw [hak.trans (show _ = none by rw [hun, decide_eq_false hb]; rfl)]
          dsimp only [Option.getD, Option.isSome]
          rintro r H' ⟨rfl, rfl⟩
          refine ⟨_, rfl, _, sCat, ?_⟩
          repeat (first | refine wCh1 ?_ | (refine kCh1 ?_; (first | rintro _ _ ⟨rfl, rfl⟩ | rintro _ _ ⟨_, rfl, rfl⟩ | rintro _ _ ⟨_, _, ⟨_, _⟩, rfl, rfl⟩); try refine ⟨sConv, ?_⟩) | refine Dr.two ?_ ?_)
          exact ret1 rfl sRet sConv (⟨_, _, _, rfl, hn, hcap, rfl⟩)
        by_cases hlast : i + 1 = l.length
        · rw [hak.trans (show _ = some (l.take i) by rw [hun, decide_eq_true hb, decide_eq_true hlast]; rfl)]
          dsimp only [Option.getD, Option.isSome]
          rintro r H' ⟨rfl, rfl⟩
          refine ⟨_, rfl, _, sCat, ?_⟩
          repeat ((fail_if_success (refine C.seq (x := Code.region 18 _ _) ?_)); first | refine vCh1 ?_ | (refine kCh1 ?_; (first | rintro _ _ ⟨rfl, rfl⟩ | rintro _ _ ⟨_, rfl, rfl⟩ | rintro _ _ ⟨_, _, ⟨_, _⟩, rfl, rfl⟩); try refine ⟨sConv, ?_⟩) | refine Dr.two ?_ ?_)
          refine C.conv (Conv.ownTake (T := enrT) (A := O) (n := n) (c := co) (l := l) (k := i) (by omega) sRepl) ?_
          repeat (first | refine wCh1 ?_ | (refine kCh1 ?_; (first | rintro _ _ ⟨rfl, rfl⟩ | rintro _ _ ⟨_, rfl, rfl⟩ | rintro _ _ ⟨_, _, ⟨_, _⟩, rfl, rfl⟩); try refine ⟨sConv, ?_⟩) | refine Dr.two ?_ ?_)
          exact ret1 rfl sRet sConv (⟨_, _, _, rfl, by rw [List.length_take]; omega, ⟨by omega, hc2⟩, rfl⟩)
        · rw [hak.trans (show _ = none by rw [hun, decide_eq_true hb, decide_eq_false hlast]; rfl)]
          dsimp only [Option.getD, Option.isSome]
          rintro r H' ⟨rfl, rfl⟩
          refine ⟨_, rfl, _, sCat, ?_⟩
          repeat (first | refine wCh1 ?_ | (refine kCh1 ?_; (first | rintro _ _ ⟨rfl, rfl⟩ | rintro _ _ ⟨_, rfl, rfl⟩ | rintro _ _ ⟨_, _, ⟨_, _⟩, rfl, rfl⟩); try refine ⟨sConv, ?_⟩) | refine Dr.two ?_ ?_)
          exact ret1 rfl sRet sConv (⟨_, _, _, rfl, hn, hcap, rfl⟩)
theorem rquiet (hr : Rd E enrT A n c l) (hw : Rd E effT X nx cx want) : Tri Try.prog E 77 #[.pointer (some ⟨g, 0, none⟩)] [mch g id made A n c X nx cx] fun r H' => r = .returned (.bool (quiet l want)) ∧ H' = [mch g id made A n c X nx cx] := by
  have hn := hr.len
  have hcap := hr.cap
  have hnw := hw.len
  have hcw := hw.cap
  have hmax : maxLen = 9223372036854775807 := rfl
  unfold quiet
  refine tri Try.func77 rfl Try.ntmps77 (by simp) ?_
  repeat (first | refine wCh1 ?_ | (refine kCh1 ?_; (first | rintro _ _ ⟨rfl, rfl⟩ | rintro _ _ ⟨_, rfl, rfl⟩ | rintro _ _ ⟨_, _, ⟨_, _⟩, rfl, rfl⟩); try refine ⟨sConv, ?_⟩) | refine Dr.two ?_ ?_)
  refine C.loop (X := Nat) (fun i => [(0, .pointer (some ⟨g, 0, none⟩)), (3, .int .i64 i)]) (fun _ => [mch g id made A n c X nx cx]) (fun i => i ≤ n ∧ (l.take i).all (fun e => !e.opn) = true) (fun i => n - i) 0 sHolds Conv.refl ⟨Nat.zero_le _, rfl⟩ ?_
  rintro i G ⟨hi, hall⟩
  by_cases hlt : i < n
  · have hx : l[i]? = some l[i] := List.getElem?_eq_getElem (by omega)
    have hst : l.take (i + 1) = l.take i ++ [l[i]] := List.take_succ_eq_append_getElem (by omega)
    have hmem : l[i] ∈ l := List.getElem_mem (by omega)
    generalize l[i] = e at hx hst hmem
    repeat (first | refine wCh1 ?_ | (refine kCh1 ?_; (first | rintro _ _ ⟨rfl, rfl⟩ | rintro _ _ ⟨_, rfl, rfl⟩ | rintro _ _ ⟨_, _, ⟨_, _⟩, rfl, rfl⟩); try refine ⟨sConv, ?_⟩) | refine Dr.two ?_ ?_)
    refine L.step (by decide) (S.call rfl rfl Try.func61 (by kernel_rfl) rfl sPicks (fun E' hE => mopn E' e) ?_)
    rintro r H' ⟨rfl, rfl⟩
    refine ⟨_, rfl, _, sCat, ?_⟩
    cases ho : e.opn
    · repeat (first | refine wCh1 ?_ | (refine kCh1 ?_; (first | rintro _ _ ⟨rfl, rfl⟩ | rintro _ _ ⟨_, rfl, rfl⟩ | rintro _ _ ⟨_, _, ⟨_, _⟩, rfl, rfl⟩); try refine ⟨sConv, ?_⟩) | refine Dr.two ?_ ?_)
      exact ⟨i + 1, sHolds, sConv, ⟨by omega, by rw [hst, List.all_append, hall]; simp [ho]⟩, by omega⟩
    · have hf : (l.all fun e => !e.opn) = false := by
        rw [List.all_eq_false]
        exact ⟨e, hmem, by rw [ho]; exact Bool.false_ne_true⟩
      rw [hf, Bool.and_false]
      repeat (first | refine wCh1 ?_ | (refine kCh1 ?_; (first | rintro _ _ ⟨rfl, rfl⟩ | rintro _ _ ⟨_, rfl, rfl⟩ | rintro _ _ ⟨_, _, ⟨_, _⟩, rfl, rfl⟩); try refine ⟨sConv, ?_⟩) | refine Dr.two ?_ ?_)
      exact ret1 rfl sRet sConv (⟨rfl, rfl⟩)
  · obtain rfl : i = n := by omega
    rw [List.take_of_length_le (by omega)] at hall
    rw [hall, Bool.and_true, ← hn, ← hnw]
    repeat (first | refine wCh1 ?_ | (refine kCh1 ?_; (first | rintro _ _ ⟨rfl, rfl⟩ | rintro _ _ ⟨_, rfl, rfl⟩ | rintro _ _ ⟨_, _, ⟨_, _⟩, rfl, rfl⟩); try refine ⟨sConv, ?_⟩) | refine Dr.two ?_ ?_)
    refine C.regionA 100000 (.one 0 false (.one 1 false (.one 2 false (.one 3 false (.one 4 false (.one 5 false (.one 6 false (.one 7 false (.one 8 false (.one 9 false (.one 10 false (.one 11 false .nil)))))))))))) _ (by kernel_rfl) (by kernel_rfl) Conv.refl ?_
    repeat (first | refine wCh1 ?_ | (refine kCh1 ?_; (first | rintro _ _ ⟨rfl, rfl⟩ | rintro _ _ ⟨_, rfl, rfl⟩ | rintro _ _ ⟨_, _, ⟨_, _⟩, rfl, rfl⟩); try refine ⟨sConv, ?_⟩) | refine Dr.two ?_ ?_)
    exact ret1 rfl sRet sConv (⟨by congr 2; simp; omega, rfl⟩)
theorem rdead (cf : Cfg) (now : Int) (hr : Rd E enrT A n c l) : Tri Try.prog E 18 #[.pointer (some ⟨g, 0, none⟩), .agg cf.cs.toArray, .int .i64 now] [mch g id made A n c X nx cx] fun r H' => r = .returned (.bool (deadC l cf now)) ∧ H' = [mch g id made A n c X nx cx] := by
  have hn := hr.len
  have hcap := hr.cap
  have hmax : maxLen = 9223372036854775807 := rfl
  unfold deadC
  refine tri Try.func18 rfl Try.ntmps18 (by simp) ?_
  by_cases h0 : n = 0
  · rw [List.getElem?_eq_none (by omega)]
    repeat (first | refine wCh1 ?_ | (refine kCh1 ?_; (first | rintro _ _ ⟨rfl, rfl⟩ | rintro _ _ ⟨_, rfl, rfl⟩ | rintro _ _ ⟨_, _, ⟨_, _⟩, rfl, rfl⟩); try refine ⟨sConv, ?_⟩) | refine Dr.two ?_ ?_)
    refine C.regionA 100000 (.one 0 false (.one 1 false (.one 2 false (.one 3 false (.one 4 false (.one 5 false (.one 6 false (.one 7 false (.one 8 false (.one 9 false (.one 10 false (.one 11 false (.one 12 false (.one 13 true (.one 14 false (.one 15 false .nil)))))))))))))))) _ (by kernel_rfl) (by kernel_rfl) Conv.refl ?_
    repeat (first | refine wCh1 ?_ | (refine kCh1 ?_; (first | rintro _ _ ⟨rfl, rfl⟩ | rintro _ _ ⟨_, rfl, rfl⟩ | rintro _ _ ⟨_, _, ⟨_, _⟩, rfl, rfl⟩); try refine ⟨sConv, ?_⟩) | refine Dr.two ?_ ?_)
    exact ret1 rfl sRet sConv (⟨rfl, rfl⟩)
  · have hs : IntKind.i64.wrap ((n : Int) - 1) = ((n - 1 : Nat) : Int) := by rw [IntWalk.i64_in _ (by omega)]; omega
    have hx : l[n - 1]? = some l[n - 1] := List.getElem?_eq_getElem (by omega)
    rw [← hn, hx]
    dsimp only
    generalize l[n - 1] = e at hx
    repeat (first | refine wCh1 ?_ | (refine kCh1 ?_; (first | rintro _ _ ⟨rfl, rfl⟩ | rintro _ _ ⟨_, rfl, rfl⟩ | rintro _ _ ⟨_, _, ⟨_, _⟩, rfl, rfl⟩); try refine ⟨sConv, ?_⟩) | refine Dr.two ?_ ?_)
    refine C.regionA 100000 (.one 0 false (.one 1 false (.one 2 false (.one 3 false (.one 4 false (.one 5 false (.one 6 false (.one 7 false (.one 8 false (.one 9 false (.one 10 false (.one 11 false (.one 12 false (.one 13 true (.one 14 false (.one 15 false .nil)))))))))))))))) _ (by kernel_rfl) (by kernel_rfl) Conv.refl ?_
    repeat (first | refine wCh1 ?_ | (refine kCh1 ?_; (first | rintro _ _ ⟨rfl, rfl⟩ | rintro _ _ ⟨_, rfl, rfl⟩ | rintro _ _ ⟨_, _, ⟨_, _⟩, rfl, rfl⟩); try refine ⟨sConv, ?_⟩) | refine Dr.two ?_ ?_)
    refine Dr.go rfl (by rintro k ⟨⟩ <;> decide) sGon (S.call rfl rfl Try.func64 (by kernel_rfl) rfl sPicks (fun E' hE => mdead E' e cf now) ?_)
    rintro r H' ⟨rfl, rfl⟩
    refine ⟨_, rfl, _, sCat, sConv, ?_⟩
    repeat (first | refine wCh1 ?_ | (refine kCh1 ?_; (first | rintro _ _ ⟨rfl, rfl⟩ | rintro _ _ ⟨_, rfl, rfl⟩ | rintro _ _ ⟨_, _, ⟨_, _⟩, rfl, rfl⟩); try refine ⟨sConv, ?_⟩) | refine Dr.two ?_ ?_)
    exact ret1 rfl sRet sConv (⟨rfl, rfl⟩)
theorem rready (cf : Cfg) (now : Int) (hr : Rd E enrT A n c l) (hw : Rd E effT X nx cx want) (hm : I64 made) :
    Tri Try.prog E 16 #[.pointer (some ⟨g, 0, none⟩), .agg cf.cs.toArray, .int .i64 now] [mch g id made A n c X nx cx] fun r H' => r = .returned (.bool (readyC id made l want cf now)) ∧ H' = [mch g id made A n c X nx cx] := by
  have hn := hr.len
  have hcap := hr.cap
  have hmax : maxLen = 9223372036854775807 := rfl
  have hde : decide (1 ≤ cf.most) = decide (0 < cf.most) := by rw [Bool.eq_iff_iff]; simp; omega
  unfold readyC
  refine tri Try.func16 rfl Try.ntmps16 (by simp) ?_
  repeat (first | refine wCh1 ?_ | (refine kCh1 ?_; (first | rintro _ _ ⟨rfl, rfl⟩ | rintro _ _ ⟨_, rfl, rfl⟩ | rintro _ _ ⟨_, _, ⟨_, _⟩, rfl, rfl⟩); try refine ⟨sConv, ?_⟩) | refine Dr.two ?_ ?_)
  refine L.step (by decide) (S.call rfl rfl Try.func17 (by kernel_rfl) rfl sPicks (fun E' hE => rnext E' g id made A n c l want X nx cx sRd sRd hm) ?_)
  generalize next id made l want = q
  rintro r H' ⟨rfl, rfl⟩
  refine ⟨_, rfl, _, sCat, ?_⟩
  generalize q.isSome = b
  by_cases h0 : n = 0
  · have ht : tip l = none := by unfold tip; rw [List.getElem?_eq_none (by omega)]
    rw [ht]
    dsimp only
    rw [hde]
    cases b
    all_goals
      repeat (first | refine wCh1 ?_ | (refine kCh1 ?_; (first | rintro _ _ ⟨rfl, rfl⟩ | rintro _ _ ⟨_, rfl, rfl⟩ | rintro _ _ ⟨_, _, ⟨_, _⟩, rfl, rfl⟩); try refine ⟨sConv, ?_⟩) | refine Dr.two ?_ ?_)
      exact ret1 rfl sRet sConv (⟨rfl, rfl⟩)
  · have hs : IntKind.i64.wrap ((n : Int) - 1) = ((n - 1 : Nat) : Int) := by rw [IntWalk.i64_in _ (by omega)]; omega
    have hx : l[n - 1]? = some l[n - 1] := List.getElem?_eq_getElem (by omega)
    generalize l[n - 1] = e at hx
    have hx2 := hx
    rw [hn] at hx2
    repeat (first | refine wCh1 ?_ | (refine kCh1 ?_; (first | rintro _ _ ⟨rfl, rfl⟩ | rintro _ _ ⟨_, rfl, rfl⟩ | rintro _ _ ⟨_, _, ⟨_, _⟩, rfl, rfl⟩); try refine ⟨sConv, ?_⟩) | refine Dr.two ?_ ?_)
    refine L.step (by decide) (S.call rfl rfl Try.func61 (by kernel_rfl) rfl sPicks (fun E' hE => mopn E' e) ?_)
    rintro r H' ⟨rfl, rfl⟩
    refine ⟨_, rfl, _, sCat, ?_⟩
    cases ho : e.opn
    · rw [tip_shut hx2 ho]
      dsimp only
      rw [hde]
      cases b
      all_goals
        repeat (first | refine wCh1 ?_ | (refine kCh1 ?_; (first | rintro _ _ ⟨rfl, rfl⟩ | rintro _ _ ⟨_, rfl, rfl⟩ | rintro _ _ ⟨_, _, ⟨_, _⟩, rfl, rfl⟩); try refine ⟨sConv, ?_⟩) | refine Dr.two ?_ ?_)
        exact ret1 rfl sRet sConv (⟨rfl, rfl⟩)
    · rw [tip_opn hx2 ho]
      dsimp only
      cases b
      · repeat (first | refine wCh1 ?_ | (refine kCh1 ?_; (first | rintro _ _ ⟨rfl, rfl⟩ | rintro _ _ ⟨_, rfl, rfl⟩ | rintro _ _ ⟨_, _, ⟨_, _⟩, rfl, rfl⟩); try refine ⟨sConv, ?_⟩) | refine Dr.two ?_ ?_)
        refine C.regionA 100000 (.one 0 false (.one 1 false (.one 2 false (.one 3 false (.one 4 false (.one 5 false (.one 6 false (.one 7 false (.one 8 false (.one 9 false (.one 10 false (.one 11 false (.one 12 true (.one 13 false (.one 14 false .nil))))))))))))))) _ (by kernel_rfl) (by kernel_rfl) Conv.refl ?_
        repeat (first | refine wCh1 ?_ | (refine kCh1 ?_; (first | rintro _ _ ⟨rfl, rfl⟩ | rintro _ _ ⟨_, rfl, rfl⟩ | rintro _ _ ⟨_, _, ⟨_, _⟩, rfl, rfl⟩); try refine ⟨sConv, ?_⟩) | refine Dr.two ?_ ?_)
        exact ret1 rfl sRet sConv (⟨rfl, rfl⟩)
      · repeat (first | refine wCh1 ?_ | (refine kCh1 ?_; (first | rintro _ _ ⟨rfl, rfl⟩ | rintro _ _ ⟨_, rfl, rfl⟩ | rintro _ _ ⟨_, _, ⟨_, _⟩, rfl, rfl⟩); try refine ⟨sConv, ?_⟩) | refine Dr.two ?_ ?_)
        refine C.regionA 100000 (.one 0 false (.one 1 false (.one 2 false (.one 3 false (.one 4 false (.one 5 false (.one 6 false (.one 7 false (.one 8 false (.one 9 false (.one 10 false (.one 11 false (.one 12 true (.one 13 false (.one 14 false .nil))))))))))))))) _ (by kernel_rfl) (by kernel_rfl) Conv.refl ?_
        repeat (first | refine wCh1 ?_ | (refine kCh1 ?_; (first | rintro _ _ ⟨rfl, rfl⟩ | rintro _ _ ⟨_, rfl, rfl⟩ | rintro _ _ ⟨_, _, ⟨_, _⟩, rfl, rfl⟩); try refine ⟨sConv, ?_⟩) | refine Dr.two ?_ ?_)
        refine Dr.go rfl (by rintro k ⟨⟩ <;> decide) sGon (S.call rfl rfl Try.func62 (by kernel_rfl) rfl sPicks (fun E' hE => mready E' e cf now) ?_)
        rintro r H' ⟨rfl, rfl⟩
        refine ⟨_, rfl, _, sCat, sConv, ?_⟩
        repeat (first | refine wCh1 ?_ | (refine kCh1 ?_; (first | rintro _ _ ⟨rfl, rfl⟩ | rintro _ _ ⟨_, rfl, rfl⟩ | rintro _ _ ⟨_, _, ⟨_, _⟩, rfl, rfl⟩); try refine ⟨sConv, ?_⟩) | refine Dr.two ?_ ?_)
        exact ret1 rfl sRet sConv (⟨rfl, rfl⟩)
theorem rclone (hr : Rd E enrT A n c l) (hw : Rd E effT X nx cx want) (hl : n ≤ 1000000) (hlw : nx ≤ 1000000) : Tri Try.prog E 45 #[.agg #[.int .i64 id.rep, .int .i64 id.seq, .int .i64 made, .slice A n c, .slice X nx cx]] [] fun r H' => ∃ A' c' Y cy, r = .returned (.agg #[.int .i64 id.rep, .int .i64 id.seq, .int .i64 made, .slice A' n c', .slice Y nx cy]) ∧ H' = [own effT Y nx cy want, own enrT A' n c' l] := by
  refine tri Try.func45 rfl Try.ntmps45 (by simp) ?_
  repeat (first | refine wCh1 ?_ | (refine kCh1 ?_; (first | rintro _ _ ⟨rfl, rfl⟩ | rintro _ _ ⟨_, rfl, rfl⟩ | rintro _ _ ⟨_, _, ⟨_, _⟩, rfl, rfl⟩); try refine ⟨sConv, ?_⟩) | refine Dr.two ?_ ?_)
  apply retC1; (· exact rfl); (· exact sRet); (· exact rfl); (· exact rfl); (· exact rfl); (· exact sHas); (· exact rfl); rotate_left; (· exact (⟨_, _, _, _, rfl, rfl⟩)); (· exact sConv)
end
end Go.Proofs.Ytkhmplaocfjpjaa.Sep
