/- chain: what is tried, and answered; what is asked; by parts of memory. -/
import Derived.Test.YtkhmplaocfjpjaaChn2
namespace Go.Proofs.Ytkhmplaocfjpjaa.Sep
open Go.RowKit Go.Proofs.Ytkhmplaocfjpjaa.Reg
open Go.Proofs.Ytkhmplaocfjpjaa.Mem hiding Rd Own
-- types: entT enrT effT
-- recs: idnT_rec effT_rec cfgT_rec entT_rec enrT_rec keyT_rec reqT_rec chain_rec chref_rec
-- eqs: idnT_eqa effT_eqa entT_eqa enrT_eqa keyT_eqa reqT_eqa
-- funcs
-- flds
set_option maxRecDepth 100000
set_option maxHeartbeats 8000000
theorem idn_eta (x y : Idn) : decide ((⟨x.rep, x.seq⟩ : Idn) = ⟨y.rep, y.seq⟩) = decide (x = y) := rfl
theorem ack_set (e : Ent) : Fset entT e 8 (.bool true) e.ack := Fset.mk1 rfl (by decide) rfl
/-- what 'Try' answers -/
def TryPost (id : Idn) (t : Option (Int × List Ent)) (d : Int × List Ent) : Ending → List Asn → Prop := fun r H' =>
  ∃ A' n' c', r = .returned (.tuple #[chn id (t.getD d).1 A' n' c', .bool t.isSome]) ∧ n' = (t.getD d).2.length ∧ (n' ≤ c' ∧ c' ≤ maxLen) ∧ H' = [own entT A' n' c' (t.getD d).2]
/-- what 'Ack' answers -/
def AckPost (id : Idn) (made : Int) (a : Option (List Ent)) (l : List Ent) : Ending → List Asn → Prop := fun r H' =>
  ∃ A' n' c', r = .returned (.tuple #[chn id made A' n' c', .bool a.isSome]) ∧ n' = (a.getD l).length ∧ (n' ≤ c' ∧ c' ≤ maxLen) ∧ H' = [own entT A' n' c' (a.getD l)]
theorem cack1 (E : Env) (x : Ent) (g : Nat) (o : Int) (hk : KCell E ⟨g, 2, none⟩ (.int .i64 o)) : Tri Try.prog E 121 #[.agg x.cs.toArray, .pointer (some ⟨g, 0, none⟩)] [] fun r H' => r = .returned (.bool (decide (x.ord = o))) ∧ H' = [] := by
  refine tri Try.func121 rfl Try.ntmps121 (by simp) ?_
  repeat (first | refine wCh1 ?_ | (refine kCh1 ?_; (first | rintro _ _ ⟨rfl, rfl⟩ | rintro _ _ ⟨_, rfl, rfl⟩ | rintro _ _ ⟨_, _, ⟨_, _⟩, rfl, rfl⟩); try refine ⟨sConv, ?_⟩) | refine Dr.two ?_ ?_)
  exact ret1 rfl sRet sConv (⟨rfl, rfl⟩)
section
variable (E : Env) (id : Idn) (made : Int) (A : Option Addr) (n c : Nat) (l : List Ent) (want : List Eff) (X : Option Addr) (nx cx : Nat)
theorem ctry (now : Int) (hr : Rd E entT A n c l) (hw : Rd E effT X nx cx want) (hl : n ≤ 1000000) (hok : ∀ e ∈ l, e.ok) (hm : I64 made) :
    Tri Try.prog E 90 #[chn id made A n c, .slice X nx cx, .int .i64 now] [] (TryPost id (tried id made l want now) (made, l)) := by
  have hn := hr.len
  have hmax : maxLen = 9223372036854775807 := rfl
  have hm2 := hm
  unfold I64 at hm2
  unfold TryPost
  refine tri Try.func90 rfl Try.ntmps90 (by simp) ?_
  repeat (first | refine wCh1 ?_ | (refine kCh1 ?_; (first | rintro _ _ ⟨rfl, rfl⟩ | rintro _ _ ⟨_, rfl, rfl⟩ | rintro _ _ ⟨_, _, ⟨_, _⟩, rfl, rfl⟩); try refine ⟨sConv, ?_⟩) | refine Dr.two ?_ ?_)
  refine L.step (by decide) (S.call rfl rfl Try.func67 (by kernel_rfl) rfl sPicks (fun E' hE => cnext E' id made A n c l want X nx cx sRd sRd hok hm) ?_)
  rintro r H' ⟨rfl, rfl⟩
  refine ⟨_, rfl, _, sCat, ?_⟩
  repeat (first | refine wCh1 ?_ | (refine kCh1 ?_; (first | rintro _ _ ⟨rfl, rfl⟩ | rintro _ _ ⟨_, rfl, rfl⟩ | rintro _ _ ⟨_, _, ⟨_, _⟩, rfl, rfl⟩); try refine ⟨sConv, ?_⟩) | refine Dr.two ?_ ?_)
  refine L.step (by decide) (S.call rfl rfl Try.func70 (by kernel_rfl) rfl sPicks (fun E' hE => cclone E' id made A n c l sRd hl) ?_)
  rintro r H' ⟨A', c', rfl, ⟨hc1, hc2⟩, rfl⟩
  refine ⟨_, rfl, _, sCat, ?_⟩
  unfold tried
  cases hq : next id made l want with
  | none =>
    dsimp only [Option.getD, Option.isSome]
    repeat (first | refine wCh1 ?_ | (refine kCh1 ?_; (first | rintro _ _ ⟨rfl, rfl⟩ | rintro _ _ ⟨_, rfl, rfl⟩ | rintro _ _ ⟨_, _, ⟨_, _⟩, rfl, rfl⟩); try refine ⟨sConv, ?_⟩) | refine Dr.two ?_ ?_)
    apply retC2; (· exact rfl); (· exact sRet); (· exact rfl); (· exact rfl); (· exact rfl); (· exact sHas); (· exact rfl); (· exact sRet); rotate_left; (· exact (⟨_, _, _, rfl, hn, ⟨hc1, hc2⟩, rfl⟩)); (· exact sConv)
  | some q =>
    dsimp only [Option.getD, Option.isSome]
    repeat (first | refine wCh1 ?_ | (refine kCh1 ?_; (first | rintro _ _ ⟨rfl, rfl⟩ | rintro _ _ ⟨_, rfl, rfl⟩ | rintro _ _ ⟨_, _, ⟨_, _⟩, rfl, rfl⟩); try refine ⟨sConv, ?_⟩) | refine Dr.two ?_ ?_)
    refine L.step (by decide) (S.call rfl rfl Try.func107 (by kernel_rfl) rfl sPicks (fun E' hE => ctop E' id made A' n c' l sRd) ?_)
    rintro r H' ⟨rfl, rfl⟩
    refine ⟨_, rfl, _, sCat, ?_⟩
    repeat ((fail_if_success (refine C.seq (x := Code.region 6 _ _) ?_)); first | refine vCh1 ?_ | (refine kCh1 ?_; (first | rintro _ _ ⟨rfl, rfl⟩ | rintro _ _ ⟨_, rfl, rfl⟩ | rintro _ _ ⟨_, _, ⟨_, _⟩, rfl, rfl⟩); try refine ⟨sConv, ?_⟩) | refine Dr.two ?_ ?_)
    rename_i g3 g6 g8 g10
    have hz : ∃ z, l[l.length - 1]? = z := ⟨_, rfl⟩
    obtain ⟨z, hz⟩ := hz
    rw [hz]
    refine C.cut (X := Unit) (fun _ => [(2, .int .i64 now), (3, .pointer (some ⟨g3, 0, none⟩)), (6, .pointer (some ⟨g6, 0, none⟩)), (8, .pointer (some ⟨g8, 0, none⟩)), (10, .pointer (some ⟨g10, 0, none⟩)), (32, .bool (tip l).isSome)]) (fun _ => [blk g10 73 (z.getD entT_z).cs, blk g8 49 q.cs, blk g6 61 [.int .i64 0, .int .i64 0, .int .i64 0, .slice none 0 0], blk g3 61 [.int .i64 id.rep, .int .i64 id.seq, .int .i64 made, .slice A' n c'], own entT A' n c' l]) (fun _ => True) ?_ ?_
    · cases z with
      | none =>
        have ht : tip l = none := by unfold tip; rw [hz]
        rw [ht]
        dsimp only [Option.getD, Option.isSome]
        repeat (first | refine wCh1 ?_ | (refine kCh1 ?_; (first | rintro _ _ ⟨rfl, rfl⟩ | rintro _ _ ⟨_, rfl, rfl⟩ | rintro _ _ ⟨_, _, ⟨_, _⟩, rfl, rfl⟩); try refine ⟨sConv, ?_⟩) | refine Dr.two ?_ ?_)
        exact ⟨(), sHolds, sConv, trivial⟩
      | some e =>
        dsimp only [Option.getD, Option.isSome]
        repeat (first | refine wCh1 ?_ | (refine kCh1 ?_; (first | rintro _ _ ⟨rfl, rfl⟩ | rintro _ _ ⟨_, rfl, rfl⟩ | rintro _ _ ⟨_, _, ⟨_, _⟩, rfl, rfl⟩); try refine ⟨sConv, ?_⟩) | refine Dr.two ?_ ?_)
        refine L.step (by decide) (S.call rfl rfl Try.func108 (by kernel_rfl) rfl sPicks (fun E' hE => eopn E' e) ?_)
        rintro r H' ⟨rfl, rfl⟩
        refine ⟨_, rfl, _, sCat, ?_⟩
        cases ho : e.opn
        · rw [tip_shut hz ho]
          dsimp only [Option.isSome]
          repeat (first | refine wCh1 ?_ | (refine kCh1 ?_; (first | rintro _ _ ⟨rfl, rfl⟩ | rintro _ _ ⟨_, rfl, rfl⟩ | rintro _ _ ⟨_, _, ⟨_, _⟩, rfl, rfl⟩); try refine ⟨sConv, ?_⟩) | refine Dr.two ?_ ?_)
          exact ⟨(), sHolds, sConv, trivial⟩
        · rw [tip_opn hz ho]
          dsimp only [Option.isSome]
          repeat (first | refine wCh1 ?_ | (refine kCh1 ?_; (first | rintro _ _ ⟨rfl, rfl⟩ | rintro _ _ ⟨_, rfl, rfl⟩ | rintro _ _ ⟨_, _, ⟨_, _⟩, rfl, rfl⟩); try refine ⟨sConv, ?_⟩) | refine Dr.two ?_ ?_)
          exact ⟨(), sHolds, sConv, trivial⟩
    rintro - G -
    cases htip : tip l with
    | some e =>
      obtain ⟨he, ho⟩ := tip_some htip
      rw [hz] at he
      subst he
      have heok : e.ok := hok e (List.mem_of_getElem? hz)
      have hlt := (List.getElem?_eq_some_iff.1 hz).1
      have hs : IntKind.i64.wrap ((n : Int) - 1) = ((n - 1 : Nat) : Int) := by rw [IntWalk.i64_in _ (by omega)]; omega
      rw [← hn] at hz
      rw [← hn]
      dsimp only [Option.getD, Option.isSome]
      repeat (first | refine wCh1 ?_ | (refine kCh1 ?_; (first | rintro _ _ ⟨rfl, rfl⟩ | rintro _ _ ⟨_, rfl, rfl⟩ | rintro _ _ ⟨_, _, ⟨_, _⟩, rfl, rfl⟩); try refine ⟨sConv, ?_⟩) | refine Dr.two ?_ ?_)
      refine C.regionA 10 (.one 0 false (.one 1 false (.one 2 false (.one 3 false (.one 4 false (.one 5 false (.one 6 false (.one 7 false (.one 8 true (.one 9 false (.one 10 true .nil))))))))))) _ (by kernel_rfl) (by kernel_rfl) Conv.refl ?_
      repeat (first | refine wCh1 ?_ | (refine kCh1 ?_; (first | rintro _ _ ⟨rfl, rfl⟩ | rintro _ _ ⟨_, rfl, rfl⟩ | rintro _ _ ⟨_, _, ⟨_, _⟩, rfl, rfl⟩); try refine ⟨sConv, ?_⟩) | refine Dr.two ?_ ?_)
      refine Dr.go rfl (by rintro k ⟨⟩ <;> decide) sGon (S.call rfl rfl Try.func110 (by kernel_rfl) rfl sPicks (fun E' hE => etry E' e now heok) ?_)
      generalize e.try_ now = x
      rintro r H' ⟨rfl, rfl⟩
      refine ⟨_, rfl, _, sCat, sConv, ?_⟩
      repeat (first | refine wCh1 ?_ | (refine kCh1 ?_; (first | rintro _ _ ⟨rfl, rfl⟩ | rintro _ _ ⟨_, rfl, rfl⟩ | rintro _ _ ⟨_, _, ⟨_, _⟩, rfl, rfl⟩); try refine ⟨sConv, ?_⟩) | refine Dr.two ?_ ?_)
      apply retC2; (· exact rfl); (· exact sRet); (· exact rfl); (· exact rfl); (· exact rfl); (· exact sHas); (· exact rfl); (· exact sRet); rotate_left; (· exact (⟨_, _, _, rfl, by simp [hn], ⟨hc1, hc2⟩, rfl⟩)); (· exact sConv)
    | none =>
      unfold next at hq
      rw [htip] at hq
      obtain ⟨hlt, _⟩ := fresh_some hq
      dsimp only [Option.getD, Option.isSome]
      repeat (first | refine wCh1 ?_ | (refine kCh1 ?_; (first | rintro _ _ ⟨rfl, rfl⟩ | rintro _ _ ⟨_, rfl, rfl⟩ | rintro _ _ ⟨_, _, ⟨_, _⟩, rfl, rfl⟩); try refine ⟨sConv, ?_⟩) | refine Dr.two ?_ ?_)
      refine L.stepK (by decide) (S.buildSlice1K (T := entT) (e := (newEnt q now)) rfl rfl rfl rfl (by decide)) ?_; rintro _ _ ⟨_, rfl, rfl⟩
      repeat (first | refine wCh1 ?_ | (refine kCh1 ?_; (first | rintro _ _ ⟨rfl, rfl⟩ | rintro _ _ ⟨_, rfl, rfl⟩ | rintro _ _ ⟨_, _, ⟨_, _⟩, rfl, rfl⟩); try refine ⟨sConv, ?_⟩) | refine Dr.two ?_ ?_)
      rename_i h1 h2
      apply retC2; (· exact rfl); (· exact sRet); (· exact rfl); (· exact rfl); (· exact rfl); (· exact sHas); (· exact rfl); (· exact sRet); rotate_left; (· exact (⟨_, _, _, rfl, by simp [hn], ⟨h1, h2⟩, rfl⟩)); (· exact sConv)
theorem cack (k : Keyv) (hr : Rd E entT A n c l) (hl : n ≤ 1000000) : Tri Try.prog E 91 #[chn id made A n c, .agg k.cs.toArray] [] (AckPost id made (acked id l k) l) := by
  have hn := hr.len
  have hmax : maxLen = 9223372036854775807 := rfl
  unfold AckPost
  refine tri Try.func91 rfl Try.ntmps91 (by simp) ?_
  repeat (first | refine wCh1 ?_ | (refine kCh1 ?_; (first | rintro _ _ ⟨rfl, rfl⟩ | rintro _ _ ⟨_, rfl, rfl⟩ | rintro _ _ ⟨_, _, ⟨_, _⟩, rfl, rfl⟩); try refine ⟨sConv, ?_⟩) | refine Dr.two ?_ ?_)
  refine L.step (by decide) (S.call rfl rfl Try.func70 (by kernel_rfl) rfl sPicks (fun E' hE => cclone E' id made A n c l sRd hl) ?_)
  rintro r H' ⟨A', c', rfl, ⟨hc1, hc2⟩, rfl⟩
  refine ⟨_, rfl, _, sCat, ?_⟩
  repeat (first | refine wCh1 ?_ | (refine kCh1 ?_; (first | rintro _ _ ⟨rfl, rfl⟩ | rintro _ _ ⟨_, rfl, rfl⟩ | rintro _ _ ⟨_, _, ⟨_, _⟩, rfl, rfl⟩); try refine ⟨sConv, ?_⟩) | refine Dr.two ?_ ?_)
  refine L.step (by decide) (S.call rfl rfl Try.func120 (by kernel_rfl) rfl sPicks (fun E' hE => sidx E' A' n c' l sRd _ _ Try.func121 (by kernel_rfl) rfl [_] (fun e => decide (e.ord = k.ord)) (fun E2 R2 hE2 x => cack1 E2 x _ k.ord ((KCell.blk hE sHas rfl).sub hE2))) ?_)
  rintro r H' ⟨rfl, rfl⟩
  refine ⟨_, rfl, _, sCat, ?_⟩
  unfold idx
  by_cases hid : k.id = id
  case neg =>
    rw [acked_none (.inl hid)]
    have hd : (!decide ((⟨k.id.rep, k.id.seq⟩ : Idn) = ⟨id.rep, id.seq⟩)) = true := by rw [idn_eta, decide_eq_false hid]; rfl
    dsimp only [Option.getD, Option.isSome]
    repeat (first | refine wCh1 ?_ | (refine kCh1 ?_; (first | rintro _ _ ⟨rfl, rfl⟩ | rintro _ _ ⟨_, rfl, rfl⟩ | rintro _ _ ⟨_, _, ⟨_, _⟩, rfl, rfl⟩); try refine ⟨sConv, ?_⟩) | refine Dr.two ?_ ?_)
    apply retC2; (· exact rfl); (· exact sRet); (· exact rfl); (· exact rfl); (· exact rfl); (· exact sHas); (· exact rfl); (· exact sRet); rotate_left; (· exact (⟨_, _, _, rfl, hn, ⟨hc1, hc2⟩, rfl⟩)); (· exact sConv)
  have hd : (!decide ((⟨k.id.rep, k.id.seq⟩ : Idn) = ⟨id.rep, id.seq⟩)) = false := by rw [idn_eta, decide_eq_true hid]; rfl
  cases hf : l.findIdx? (fun e => decide (e.ord = k.ord)) with
  | none =>
    rw [acked_none (.inr hf)]
    dsimp only [Option.getD, Option.isSome]
    repeat (first | refine wCh1 ?_ | (refine kCh1 ?_; (first | rintro _ _ ⟨rfl, rfl⟩ | rintro _ _ ⟨_, rfl, rfl⟩ | rintro _ _ ⟨_, _, ⟨_, _⟩, rfl, rfl⟩); try refine ⟨sConv, ?_⟩) | refine Dr.two ?_ ?_)
    apply retC2; (· exact rfl); (· exact sRet); (· exact rfl); (· exact rfl); (· exact rfl); (· exact sHas); (· exact rfl); (· exact sRet); rotate_left; (· exact (⟨_, _, _, rfl, hn, ⟨hc1, hc2⟩, rfl⟩)); (· exact sConv)
  | some i =>
    obtain ⟨e, he, _⟩ := find_at hf
    have hi := (List.getElem?_eq_some_iff.1 he).1
    have hak := acked_at hid hf he
    have hset := ack_set e
    have hs : IntKind.i64.wrap ((n : Int) - 1) = ((n - 1 : Nat) : Int) := by rw [IntWalk.i64_in _ (by omega)]; omega
    cases hu : k.undo
    · have h2 : (!k.undo) = true := by rw [hu]; rfl
      cases ha : e.acked
      · have h3 : (!e.acked) = true := by rw [ha]; rfl
        rw [hak.trans (show _ = some (l.set i e.ack) by rw [hu, ha]; rfl)]
        dsimp only [Option.getD, Option.isSome]
        repeat (first | refine wCh1 ?_ | (refine kCh1 ?_; (first | rintro _ _ ⟨rfl, rfl⟩ | rintro _ _ ⟨_, rfl, rfl⟩ | rintro _ _ ⟨_, _, ⟨_, _⟩, rfl, rfl⟩); try refine ⟨sConv, ?_⟩) | refine Dr.two ?_ ?_)
        apply retC2; (· exact rfl); (· exact sRet); (· exact rfl); (· exact rfl); (· exact rfl); (· exact sHas); (· exact rfl); (· exact sRet); rotate_left; (· exact (⟨_, _, _, rfl, by simp [hn], ⟨hc1, hc2⟩, rfl⟩)); (· exact sConv)
      · have h3 : (!e.acked) = false := by rw [ha]; rfl
        rw [hak.trans (show _ = none by rw [hu, ha]; rfl)]
        dsimp only [Option.getD, Option.isSome]
        repeat (first | refine wCh1 ?_ | (refine kCh1 ?_; (first | rintro _ _ ⟨rfl, rfl⟩ | rintro _ _ ⟨_, rfl, rfl⟩ | rintro _ _ ⟨_, _, ⟨_, _⟩, rfl, rfl⟩); try refine ⟨sConv, ?_⟩) | refine Dr.two ?_ ?_)
        apply retC2; (· exact rfl); (· exact sRet); (· exact rfl); (· exact rfl); (· exact rfl); (· exact sHas); (· exact rfl); (· exact sRet); rotate_left; (· exact (⟨_, _, _, rfl, hn, ⟨hc1, hc2⟩, rfl⟩)); (· exact sConv)
    · have h2 : (!k.undo) = false := by rw [hu]; rfl
      rw [hu] at hak
      dsimp only
      repeat (first | refine wCh1 ?_ | (refine kCh1 ?_; (first | rintro _ _ ⟨rfl, rfl⟩ | rintro _ _ ⟨_, rfl, rfl⟩ | rintro _ _ ⟨_, _, ⟨_, _⟩, rfl, rfl⟩); try refine ⟨sConv, ?_⟩) | refine Dr.two ?_ ?_)
      cases hun : e.und
      · rw [hak.trans (show _ = none by rw [hun]; rfl)]
        dsimp only [Option.getD, Option.isSome]
        refine L.step (by decide) (S.call rfl rfl Try.func69 (by kernel_rfl) rfl sPicks (fun E' hE => eund E' e) ?_)
        rw [hun]
        rintro r H' ⟨rfl, rfl⟩
        refine ⟨_, rfl, _, sCat, ?_⟩
        repeat (first | refine wCh1 ?_ | (refine kCh1 ?_; (first | rintro _ _ ⟨rfl, rfl⟩ | rintro _ _ ⟨_, rfl, rfl⟩ | rintro _ _ ⟨_, _, ⟨_, _⟩, rfl, rfl⟩); try refine ⟨sConv, ?_⟩) | refine Dr.two ?_ ?_)
        apply retC2; (· exact rfl); (· exact sRet); (· exact rfl); (· exact rfl); (· exact rfl); (· exact sHas); (· exact rfl); (· exact sRet); rotate_left; (· exact (⟨_, _, _, rfl, hn, ⟨hc1, hc2⟩, rfl⟩)); (· exact sConv)
      by_cases hb : 1 ≤ e.back
      case neg =>
        rw [hak.trans (show _ = none by rw [hun, decide_eq_false hb]; rfl)]
        dsimp only [Option.getD, Option.isSome]
        refine L.step (by decide) (S.call rfl rfl Try.func69 (by kernel_rfl) rfl sPicks (fun E' hE => eund E' e) ?_)
        rw [hun]
        rintro r H' ⟨rfl, rfl⟩
        refine ⟨_, rfl, _, sCat, ?_⟩
        repeat (first | refine wCh1 ?_ | (refine kCh1 ?_; (first | rintro _ _ ⟨rfl, rfl⟩ | rintro _ _ ⟨_, rfl, rfl⟩ | rintro _ _ ⟨_, _, ⟨_, _⟩, rfl, rfl⟩); try refine ⟨sConv, ?_⟩) | refine Dr.two ?_ ?_)
        apply retC2; (· exact rfl); (· exact sRet); (· exact rfl); (· exact rfl); (· exact rfl); (· exact sHas); (· exact rfl); (· exact sRet); rotate_left; (· exact (⟨_, _, _, rfl, hn, ⟨hc1, hc2⟩, rfl⟩)); (· exact sConv)
      by_cases hlast : i + 1 = l.length
      · rw [hak.trans (show _ = some (l.take i) by rw [hun, decide_eq_true hb, decide_eq_true hlast]; rfl)]
        dsimp only [Option.getD, Option.isSome]
        refine L.step (by decide) (S.call rfl rfl Try.func69 (by kernel_rfl) rfl sPicks (fun E' hE => eund E' e) ?_)
        rw [hun]
        rintro r H' ⟨rfl, rfl⟩
        refine ⟨_, rfl, _, sCat, ?_⟩
        repeat ((fail_if_success (refine C.seq (x := Code.region 11 _ _) ?_)); first | refine vCh1 ?_ | (refine kCh1 ?_; (first | rintro _ _ ⟨rfl, rfl⟩ | rintro _ _ ⟨_, rfl, rfl⟩ | rintro _ _ ⟨_, _, ⟨_, _⟩, rfl, rfl⟩); try refine ⟨sConv, ?_⟩) | refine Dr.two ?_ ?_)
        refine C.conv (Conv.ownTake (T := entT) (A := A') (n := n) (c := c') (l := l) (k := i) (by omega) sRepl) ?_
        repeat (first | refine wCh1 ?_ | (refine kCh1 ?_; (first | rintro _ _ ⟨rfl, rfl⟩ | rintro _ _ ⟨_, rfl, rfl⟩ | rintro _ _ ⟨_, _, ⟨_, _⟩, rfl, rfl⟩); try refine ⟨sConv, ?_⟩) | refine Dr.two ?_ ?_)
        apply retC2; (· exact rfl); (· exact sRet); (· exact rfl); (· exact rfl); (· exact rfl); (· exact sHas); (· exact rfl); (· exact sRet); rotate_left; (· exact (⟨_, _, _, rfl, by rw [List.length_take]; omega, ⟨by omega, hc2⟩, rfl⟩)); (· exact sConv)
      · rw [hak.trans (show _ = none by rw [hun, decide_eq_true hb, decide_eq_false hlast]; rfl)]
        dsimp only [Option.getD, Option.isSome]
        refine L.step (by decide) (S.call rfl rfl Try.func69 (by kernel_rfl) rfl sPicks (fun E' hE => eund E' e) ?_)
        rw [hun]
        rintro r H' ⟨rfl, rfl⟩
        refine ⟨_, rfl, _, sCat, ?_⟩
        repeat (first | refine wCh1 ?_ | (refine kCh1 ?_; (first | rintro _ _ ⟨rfl, rfl⟩ | rintro _ _ ⟨_, rfl, rfl⟩ | rintro _ _ ⟨_, _, ⟨_, _⟩, rfl, rfl⟩); try refine ⟨sConv, ?_⟩) | refine Dr.two ?_ ?_)
        apply retC2; (· exact rfl); (· exact sRet); (· exact rfl); (· exact rfl); (· exact rfl); (· exact sHas); (· exact rfl); (· exact sRet); rotate_left; (· exact (⟨_, _, _, rfl, hn, ⟨hc1, hc2⟩, rfl⟩)); (· exact sConv)
theorem cquiet (hr : Rd E entT A n c l) (hw : Rd E effT X nx cx want) : Tri Try.prog E 94 #[chn id made A n c, .slice X nx cx] [] fun r H' => r = .returned (.bool (quiet l want)) ∧ H' = [] := by
  have hn := hr.len
  have hnw := hw.len
  have hcap := hr.cap
  have hcw := hw.cap
  have hmax : maxLen = 9223372036854775807 := rfl
  unfold quiet
  refine tri Try.func94 rfl Try.ntmps94 (by simp) ?_
  rw [← hn, ← hnw]
  by_cases h : n = nx
  · rw [decide_eq_true h]
    have hall : (l.all fun e => !e.opn) = !(l.any (·.opn)) := by simp [List.not_any_eq_all_not]
    rw [hall]
    repeat (first | refine wCh1 ?_ | (refine kCh1 ?_; (first | rintro _ _ ⟨rfl, rfl⟩ | rintro _ _ ⟨_, rfl, rfl⟩ | rintro _ _ ⟨_, _, ⟨_, _⟩, rfl, rfl⟩); try refine ⟨sConv, ?_⟩) | refine Dr.two ?_ ?_)
    refine L.step (by decide) (S.call rfl rfl Try.func123 (by kernel_rfl) rfl sPicks (fun E' hE => scont E' A n c l sRd) ?_)
    rintro r H' ⟨rfl, rfl⟩
    refine ⟨_, rfl, _, sCat, ?_⟩
    repeat (first | refine wCh1 ?_ | (refine kCh1 ?_; (first | rintro _ _ ⟨rfl, rfl⟩ | rintro _ _ ⟨_, rfl, rfl⟩ | rintro _ _ ⟨_, _, ⟨_, _⟩, rfl, rfl⟩); try refine ⟨sConv, ?_⟩) | refine Dr.two ?_ ?_)
    exact ret1 rfl sRet sConv (⟨rfl, rfl⟩)
  · rw [decide_eq_false h]
    repeat (first | refine wCh1 ?_ | (refine kCh1 ?_; (first | rintro _ _ ⟨rfl, rfl⟩ | rintro _ _ ⟨_, rfl, rfl⟩ | rintro _ _ ⟨_, _, ⟨_, _⟩, rfl, rfl⟩); try refine ⟨sConv, ?_⟩) | refine Dr.two ?_ ?_)
    exact ret1 rfl sRet sConv (⟨rfl, rfl⟩)
theorem cdead (g : Cfg) (now : Int) (hr : Rd E entT A n c l) : Tri Try.prog E 68 #[chn id made A n c, .agg g.cs.toArray, .int .i64 now] [] fun r H' => r = .returned (.bool (deadC l g now)) ∧ H' = [] := by
  unfold deadC
  refine tri Try.func68 rfl Try.ntmps68 (by simp) ?_
  repeat (first | refine wCh1 ?_ | (refine kCh1 ?_; (first | rintro _ _ ⟨rfl, rfl⟩ | rintro _ _ ⟨_, rfl, rfl⟩ | rintro _ _ ⟨_, _, ⟨_, _⟩, rfl, rfl⟩); try refine ⟨sConv, ?_⟩) | refine Dr.two ?_ ?_)
  refine L.step (by decide) (S.call rfl rfl Try.func107 (by kernel_rfl) rfl sPicks (fun E' hE => ctop E' id made A n c l sRd) ?_)
  rintro r H' ⟨rfl, rfl⟩
  refine ⟨_, rfl, _, sCat, ?_⟩
  cases l[l.length - 1]? with
  | none =>
    dsimp only [Option.getD, Option.isSome]
    repeat (first | refine wCh1 ?_ | (refine kCh1 ?_; (first | rintro _ _ ⟨rfl, rfl⟩ | rintro _ _ ⟨_, rfl, rfl⟩ | rintro _ _ ⟨_, _, ⟨_, _⟩, rfl, rfl⟩); try refine ⟨sConv, ?_⟩) | refine Dr.two ?_ ?_)
    exact ret1 rfl sRet sConv (⟨rfl, rfl⟩)
  | some e =>
    dsimp only [Option.getD, Option.isSome]
    repeat (first | refine wCh1 ?_ | (refine kCh1 ?_; (first | rintro _ _ ⟨rfl, rfl⟩ | rintro _ _ ⟨_, rfl, rfl⟩ | rintro _ _ ⟨_, _, ⟨_, _⟩, rfl, rfl⟩); try refine ⟨sConv, ?_⟩) | refine Dr.two ?_ ?_)
    refine L.step (by decide) (S.call rfl rfl Try.func112 (by kernel_rfl) rfl sPicks (fun E' hE => edead E' e g now) ?_)
    rintro r H' ⟨rfl, rfl⟩
    refine ⟨_, rfl, _, sCat, ?_⟩
    repeat (first | refine wCh1 ?_ | (refine kCh1 ?_; (first | rintro _ _ ⟨rfl, rfl⟩ | rintro _ _ ⟨_, rfl, rfl⟩ | rintro _ _ ⟨_, _, ⟨_, _⟩, rfl, rfl⟩); try refine ⟨sConv, ?_⟩) | refine Dr.two ?_ ?_)
    exact ret1 rfl sRet sConv (⟨rfl, rfl⟩)
theorem cready (g : Cfg) (now : Int) (hr : Rd E entT A n c l) (hw : Rd E effT X nx cx want) (hok : ∀ e ∈ l, e.ok) (hm : I64 made) :
    Tri Try.prog E 66 #[chn id made A n c, .slice X nx cx, .agg g.cs.toArray, .int .i64 now] [] fun r H' => r = .returned (.bool (readyC id made l want g now)) ∧ H' = [] := by
  unfold readyC
  refine tri Try.func66 rfl Try.ntmps66 (by simp) ?_
  repeat (first | refine wCh1 ?_ | (refine kCh1 ?_; (first | rintro _ _ ⟨rfl, rfl⟩ | rintro _ _ ⟨_, rfl, rfl⟩ | rintro _ _ ⟨_, _, ⟨_, _⟩, rfl, rfl⟩); try refine ⟨sConv, ?_⟩) | refine Dr.two ?_ ?_)
  refine L.step (by decide) (S.call rfl rfl Try.func67 (by kernel_rfl) rfl sPicks (fun E' hE => cnext E' id made A n c l want X nx cx sRd sRd hok hm) ?_)
  generalize next id made l want = q
  rintro r H' ⟨rfl, rfl⟩
  refine ⟨_, rfl, _, sCat, ?_⟩
  repeat (first | refine wCh1 ?_ | (refine kCh1 ?_; (first | rintro _ _ ⟨rfl, rfl⟩ | rintro _ _ ⟨_, rfl, rfl⟩ | rintro _ _ ⟨_, _, ⟨_, _⟩, rfl, rfl⟩); try refine ⟨sConv, ?_⟩) | refine Dr.two ?_ ?_)
  refine L.step (by decide) (S.call rfl rfl Try.func107 (by kernel_rfl) rfl sPicks (fun E' hE => ctop E' id made A n c l sRd) ?_)
  rintro r H' ⟨rfl, rfl⟩
  refine ⟨_, rfl, _, sCat, ?_⟩
  have hz : ∃ z, l[l.length - 1]? = z := ⟨_, rfl⟩
  obtain ⟨z, hz⟩ := hz
  rw [hz]
  generalize q.isSome = b
  cases z with
  | none =>
    have ht : tip l = none := by unfold tip; rw [hz]
    rw [ht]
    dsimp only [Option.getD, Option.isSome]
    cases b
    all_goals
      repeat (first | refine wCh1 ?_ | (refine kCh1 ?_; (first | rintro _ _ ⟨rfl, rfl⟩ | rintro _ _ ⟨_, rfl, rfl⟩ | rintro _ _ ⟨_, _, ⟨_, _⟩, rfl, rfl⟩); try refine ⟨sConv, ?_⟩) | refine Dr.two ?_ ?_)
      exact ret1 rfl sRet sConv (⟨rfl, rfl⟩)
  | some e =>
    dsimp only [Option.getD, Option.isSome]
    repeat (first | refine wCh1 ?_ | (refine kCh1 ?_; (first | rintro _ _ ⟨rfl, rfl⟩ | rintro _ _ ⟨_, rfl, rfl⟩ | rintro _ _ ⟨_, _, ⟨_, _⟩, rfl, rfl⟩); try refine ⟨sConv, ?_⟩) | refine Dr.two ?_ ?_)
    refine L.step (by decide) (S.call rfl rfl Try.func108 (by kernel_rfl) rfl sPicks (fun E' hE => eopn E' e) ?_)
    rintro r H' ⟨rfl, rfl⟩
    refine ⟨_, rfl, _, sCat, ?_⟩
    cases ho : e.opn
    · rw [tip_shut hz ho]
      dsimp only
      cases b
      all_goals
        repeat (first | refine wCh1 ?_ | (refine kCh1 ?_; (first | rintro _ _ ⟨rfl, rfl⟩ | rintro _ _ ⟨_, rfl, rfl⟩ | rintro _ _ ⟨_, _, ⟨_, _⟩, rfl, rfl⟩); try refine ⟨sConv, ?_⟩) | refine Dr.two ?_ ?_)
        exact ret1 rfl sRet sConv (⟨rfl, rfl⟩)
    · rw [tip_opn hz ho]
      dsimp only
      cases b
      · repeat (first | refine wCh1 ?_ | (refine kCh1 ?_; (first | rintro _ _ ⟨rfl, rfl⟩ | rintro _ _ ⟨_, rfl, rfl⟩ | rintro _ _ ⟨_, _, ⟨_, _⟩, rfl, rfl⟩); try refine ⟨sConv, ?_⟩) | refine Dr.two ?_ ?_)
        exact ret1 rfl sRet sConv (⟨rfl, rfl⟩)
      · repeat (first | refine wCh1 ?_ | (refine kCh1 ?_; (first | rintro _ _ ⟨rfl, rfl⟩ | rintro _ _ ⟨_, rfl, rfl⟩ | rintro _ _ ⟨_, _, ⟨_, _⟩, rfl, rfl⟩); try refine ⟨sConv, ?_⟩) | refine Dr.two ?_ ?_)
        refine L.step (by decide) (S.call rfl rfl Try.func109 (by kernel_rfl) rfl sPicks (fun E' hE => eready E' e g now) ?_)
        rintro r H' ⟨rfl, rfl⟩
        refine ⟨_, rfl, _, sCat, ?_⟩
        repeat (first | refine wCh1 ?_ | (refine kCh1 ?_; (first | rintro _ _ ⟨rfl, rfl⟩ | rintro _ _ ⟨_, rfl, rfl⟩ | rintro _ _ ⟨_, _, ⟨_, _⟩, rfl, rfl⟩); try refine ⟨sConv, ?_⟩) | refine Dr.two ?_ ?_)
        exact ret1 rfl sRet sConv (⟨rfl, rfl⟩)
end
end Go.Proofs.Ytkhmplaocfjpjaa.Sep
