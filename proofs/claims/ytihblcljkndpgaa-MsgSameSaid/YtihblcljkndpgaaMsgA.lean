/- msg.Get, by parts of memory. -/
import Derived.Test.YtihblcljkndpgaaMsg9
import Derived.Test.YtihblcljkndpgaaMsg6
import Derived.Test.YtihblcljkndpgaaMsgLaw
namespace Go.Proofs.Ytihblcljkndpgaa.Sep
open Go.RowKit Go.Proofs.Ytihblcljkndpgaa.Reg Go.Proofs.Ytihblcljkndpgaa.Oct
open Go.Proofs.Ytihblcljkndpgaa.Mem hiding Rd Own
-- types: octT idnT chgT intT
-- recs: rec_Reader idnT_rec effT_rec chgT_rec keyT_rec mgT_rec rgT_rec wrT_rec rdT_rec
-- eqs: idnT_eqa effT_eqa chgT_eqa keyT_eqa
-- eqrs: k4_eqr
-- zeros: z_octs z_rdr
-- funcs
-- flds
-- arrp
set_option maxRecDepth 100000
set_option maxHeartbeats 6000000
theorem lch_ok (l : List UInt8) : ∀ c ∈ lch l, I64 c.n := by
  intro c hc
  unfold lch at hc
  split at hc
  · exact absurd hc List.not_mem_nil
  · rename_i h t
    split at hc
    · rename_i hq
      cases hp : pieces h.toNat t with
      | none => rw [hp] at hc; exact absurd hc List.not_mem_nil
      | some xs =>
        rw [hp] at hc
        exact ((pieces_some hp hq.2).2.2.2 c hc).2.2.2.2.2.1
    · exact absurd hc List.not_mem_nil
theorem reqE_ok (s : Rs) : I64 (reqE s).n := by
  unfold reqE
  cases (nx s.1 s.2 (13 : Nat)).1 with
  | none => exact I64.zero
  | some y =>
    show I64 ((fget13 y).getD eff0).n
    cases h : fget13 y with
    | none => exact I64.zero
    | some f =>
      have := effOf_ok y
      rw [← (fget13_some h).1] at this
      exact this.2.2.1
section
variable (E : Env) (g gm : Nat) (A : Option Addr) (n c : Nat)
theorem mbody (x : List UInt8) (hr : Rd E octT A n c (st hdW x 3).2) (hl : (st hdW x 3).2.length ≤ 140737488355300) : Tri Try.prog E 19 #[rv g, .pointer (some ⟨gm, 0, none⟩)] [blk gm 34 (mcs (mst (va hdW x 0 : Nat) (va hdW x 1 : Nat) (va hdW x 2 : Nat)) none 0 0 none 0 0), rdr g true (st hdW x 3).1 A n c] fun e H' => ∃ m, Lm x m ∧ m.ok ∧ MB g gm m e H' := by
  by_cases h1 : va hdW x 0 = 1
  · have hL := Lm.ask h1
    unfold mhd at hL
    rw [h1] at hL ⊢
    exact Tri.mono (mb1 E g gm A n c _ _ _ hr) fun e H' h => ⟨_, hL, ⟨fun c hc => absurd hc List.not_mem_nil, I64.zero⟩, h⟩
  by_cases h2 : va hdW x 0 = 2
  · have hL := Lm.push h2
    unfold mhd at hL
    rw [h2] at hL ⊢
    exact Tri.mono (mb2 E g gm A n c _ _ _ hr hl) fun e H' h => ⟨_, hL, ⟨lch_ok _, I64.zero⟩, h⟩
  by_cases h3 : va hdW x 0 = 3
  · have hL := Lm.req h3
    unfold mhd at hL
    rw [h3] at hL ⊢
    exact Tri.mono (mb3 E g gm A n c _ _ _ hr hl) fun e H' h => ⟨_, hL, ⟨fun c hc => absurd hc List.not_mem_nil, reqE_ok _⟩, h⟩
  by_cases h4 : va hdW x 0 = 4
  · have hL := Lm.ans h4
    unfold mhd at hL
    rw [h4] at hL ⊢
    exact Tri.mono (mb4 E g gm A n c _ _ _ hr) fun e H' h => ⟨_, hL, ⟨fun c hc => absurd hc List.not_mem_nil, I64.zero⟩, h⟩
  · exact Tri.mono (mb0 E g gm A n c _ _ _ _ (by omega)) fun e H' h => ⟨_, Lm.none (by omega), ⟨fun c hc => absurd hc List.not_mem_nil, I64.zero⟩, h⟩
theorem mframe (l : List UInt8) (hr : Rd E octT A n c l) (hl : n ≤ 140737488355200) (x : List UInt8) (hx : ((Frm.fget l).map Prod.fst).getD [] = x) : Tri Try.prog E 16 #[.slice A n c] [] fun e H' => ∃ B d k f, e = .returned (.tuple #[.slice B x.length d, .int .i64 k, .bool f]) ∧ H' = [own octT B x.length d x] := by
  cases hf : Frm.fget l with
  | none =>
    rw [hf] at hx
    subst hx
    refine Tri.monoC (getf_no E A n c l hr hl hf) ?_
    rintro e H' ⟨rfl, rfl⟩
    exact ⟨_, ⟨none, 0, 0, false, rfl, rfl⟩, Conv.nil octT⟩
  | some p =>
    obtain ⟨y, k⟩ := p
    rw [hf] at hx
    change y = x at hx
    subst hx
    refine Tri.mono (getf_yes E A n c l hr hl y k hf) ?_
    rintro e H' ⟨B, d, rfl, rfl⟩
    exact ⟨B, d, k, true, rfl, rfl⟩
def GP (o : Option Mg) (e : Ending) (H' : List Asn) : Prop :=
  match o with
  | some m => ∃ O p q B k d, e = .returned (.tuple #[.agg (mcs m O p q B k d).toArray, .int .i64 0]) ∧ H' = [own idnT O p q m.ids, own chgT B k d m.chs]
  | none => e = .returned (.tuple #[.agg (mcs (mst 0 0 0) none 0 0 none 0 0).toArray, .int .i64 16]) ∧ H' = []
theorem mgetm (b : List UInt8) (hr : Rd E octT A n c b) (hl : n ≤ 140737488355200) : Tri Try.prog E 7 #[.slice A n c] [] (GP (mfull b)) := by
  have hn := hr.len
  obtain ⟨x, hx⟩ : ∃ x, ((Frm.fget b).map Prod.fst).getD [] = x := ⟨_, rfl⟩
  have hxl : x.length ≤ 140737488355200 := by
    cases hf : Frm.fget b with
    | none => rw [hf] at hx; subst hx; exact Nat.zero_le _
    | some p =>
      obtain ⟨y, k⟩ := p
      rw [hf] at hx
      change y = x at hx
      subst hx
      have := Frm.fget_bound hf
      omega
  have hxl2 : x.length ≤ 140737488355300 := by omega
  have hs0 : st hdW x 0 = (false, x) := rfl
  have hsl : (st hdW x 3).2.length ≤ 140737488355300 := Nat.le_trans (Nat.le_trans (stp_len _ _) (Nat.le_trans (stp_len _ _) (stp_len (false, x) 1))) hxl2
  refine tri Try.func7 rfl Try.ntmps7 (by simp) ?_
  repeat (first | refine wMh ?_ | (refine kMh ?_; (first | rintro _ _ ⟨rfl, rfl⟩ | rintro _ _ ⟨_, rfl, rfl⟩ | rintro _ _ ⟨_, _, ⟨_, _⟩, rfl, rfl⟩); try refine ⟨sConv, ?_⟩) | refine Dr.two ?_ ?_)
  refine L.step (by decide) (S.call rfl rfl Try.func16 (by kernel_rfl) rfl sPicks (fun E' hE => mframe E' A n c b sRd hl x hx) ?_)
  rintro e H' ⟨B, d, k, f, rfl, rfl⟩
  refine ⟨_, rfl, _, sCat, ?_⟩
  repeat (first | refine wMh ?_ | (refine kMh ?_; (first | rintro _ _ ⟨rfl, rfl⟩ | rintro _ _ ⟨_, rfl, rfl⟩ | rintro _ _ ⟨_, _, ⟨_, _⟩, rfl, rfl⟩); try refine ⟨sConv, ?_⟩) | refine Dr.two ?_ ?_)
  refine L.step (by decide) (S.call rfl rfl Try.func17 (by kernel_rfl) rfl sPicks (fun E' hE => new_any E' B x.length d x sRd hxl2) ?_)
  rintro e H' ⟨g, A0, c0, rfl, h5, h6, rfl⟩
  refine ⟨_, rfl, _, sCat, ?_⟩
  unfold adr
  repeat ((fail_if_success (refine C.seq (x := Code.region 3 _ _) ?_)); first | refine vMh ?_ | (refine kMh ?_; (first | rintro _ _ ⟨rfl, rfl⟩ | rintro _ _ ⟨_, rfl, rfl⟩ | rintro _ _ ⟨_, _, ⟨_, _⟩, rfl, rfl⟩); try refine ⟨sConv, ?_⟩) | refine Dr.two ?_ ?_)
  rename_i g2 g7
  refine C.cut (X := Nat × Option Addr × Nat × Nat) (fun y => [(0, .slice A n c), (2, .pointer (some ⟨g2, 0, none⟩)), (7, .pointer (some ⟨g7, 0, none⟩)), (8, .pointer (some ⟨y.1, 0, none⟩))]) (fun y => [blk g7 57 [.pointer (some ⟨g, 0, none⟩)], blk y.1 34 (mcs (mst (va hdW x 0 : Nat) (va hdW x 1 : Nat) (va hdW x 2 : Nat)) none 0 0 none 0 0), rdr g true (st hdW x 3).1 y.2.1 y.2.2.1 y.2.2.2, blk g2 34 (mcs (mst 0 0 0) none 0 0 none 0 0), own octT A0 x.length c0 x]) (fun y => Also A0 x.length c0 x y.2.1 y.2.2.1 y.2.2.2 (st hdW x 3).2) ?_ ?_
  · refine C.regionA 100000 (.one 0 false (.one 2 false (.one 4 false (.two 1 (.two 3 (.two 5 (.one 6 false (.one 7 true (.one 8 true .nil))) 7 (.one 5 true (.one 6 false (.one 8 true .nil)))) 7 (.one 3 true (.one 5 true (.one 6 false (.one 8 true .nil))))) 7 (.one 1 true (.one 3 true (.one 5 true (.one 6 false (.one 8 true .nil))))))))) ([blk g7 57 [.pointer (some ⟨g, 0, none⟩)]]) (by kernel_rfl) (by kernel_rfl) sConv ?_
    repeat (first | refine vMh ?_ | (refine kMh ?_; (first | rintro _ _ ⟨rfl, rfl⟩ | rintro _ _ ⟨_, rfl, rfl⟩ | rintro _ _ ⟨_, _, ⟨_, _⟩, rfl, rfl⟩); try refine ⟨sConv, ?_⟩))
    refine Dr.two ?_ ?_
    · refine Go1.go rfl (by rintro k ⟨⟩ <;> decide) sGon (S.call rfl rfl Try.func18 (by kernel_rfl) rfl sPicks (fun E' hE => mtake E' g A0 x.length c0 (false, x) (st hdW x 1) 1 (va hdW x 0 : Nat) rfl rfl 1 rfl (.inl rfl) sRd) ?_)
      rintro e H' ⟨A1, n1, c1, rfl, hal1, rfl⟩
      refine ⟨_, rfl, _, sCat, sConv, ?_⟩
      repeat (first | refine vMh ?_ | (refine kMh ?_; (first | rintro _ _ ⟨rfl, rfl⟩ | rintro _ _ ⟨_, rfl, rfl⟩ | rintro _ _ ⟨_, _, ⟨_, _⟩, rfl, rfl⟩); try refine ⟨sConv, ?_⟩))
      refine Dr.two ?_ ?_
      · refine Go1.go rfl (by rintro k ⟨⟩ <;> decide) sGon (S.call rfl rfl Try.func18 (by kernel_rfl) rfl sPicks (fun E' hE => mtake E' g A1 n1 c1 (st hdW x 1) (st hdW x 2) 1 (va hdW x 1 : Nat) rfl rfl 1 rfl (.inl rfl) (hal1 _ sRd)) ?_)
        rintro e H' ⟨A2, n2, c2, rfl, hal2, rfl⟩
        refine ⟨_, rfl, _, sCat, sConv, ?_⟩
        repeat (first | refine vMh ?_ | (refine kMh ?_; (first | rintro _ _ ⟨rfl, rfl⟩ | rintro _ _ ⟨_, rfl, rfl⟩ | rintro _ _ ⟨_, _, ⟨_, _⟩, rfl, rfl⟩); try refine ⟨sConv, ?_⟩))
        refine Dr.two ?_ ?_
        · refine Go1.go rfl (by rintro k ⟨⟩ <;> decide) sGon (S.call rfl rfl Try.func18 (by kernel_rfl) rfl sPicks (fun E' hE => mtake E' g A2 n2 c2 (st hdW x 2) (st hdW x 3) 1 (va hdW x 2 : Nat) rfl rfl 1 rfl (.inl rfl) (hal2 _ (hal1 _ sRd))) ?_)
          rintro e H' ⟨A3, n3, c3, rfl, hal3, rfl⟩
          refine ⟨_, rfl, _, sCat, sConv, ?_⟩
          repeat (first | refine wMh ?_ | (refine kMh ?_; (first | rintro _ _ ⟨rfl, rfl⟩ | rintro _ _ ⟨_, rfl, rfl⟩ | rintro _ _ ⟨_, _, ⟨_, _⟩, rfl, rfl⟩); try refine ⟨sConv, ?_⟩) | refine Dr.two ?_ ?_)
          exact ⟨(_, _, _, _), sHolds, sConv, (hal1.trans hal2).trans hal3⟩
        · repeat (first | refine vMh ?_ | (refine kMh ?_; (first | rintro _ _ ⟨rfl, rfl⟩ | rintro _ _ ⟨_, rfl, rfl⟩ | rintro _ _ ⟨_, _, ⟨_, _⟩, rfl, rfl⟩); try refine ⟨sConv, ?_⟩))
          refine Dr.go rfl (by rintro k ⟨⟩ <;> decide) sGon (S.call rfl rfl Try.func18 (by kernel_rfl) rfl sPicks (fun E' hE => mtake E' g A2 n2 c2 (st hdW x 2) (st hdW x 3) 1 (va hdW x 2 : Nat) rfl rfl 1 rfl (.inl rfl) (hal2 _ (hal1 _ sRd))) ?_)
          rintro e H' ⟨A3, n3, c3, rfl, hal3, rfl⟩
          refine ⟨_, rfl, _, sCat, sConv, ?_⟩
          repeat (first | refine wMh ?_ | (refine kMh ?_; (first | rintro _ _ ⟨rfl, rfl⟩ | rintro _ _ ⟨_, rfl, rfl⟩ | rintro _ _ ⟨_, _, ⟨_, _⟩, rfl, rfl⟩); try refine ⟨sConv, ?_⟩) | refine Dr.two ?_ ?_)
          exact ⟨(_, _, _, _), sHolds, sConv, (hal1.trans hal2).trans hal3⟩
      · repeat (first | refine vMh ?_ | (refine kMh ?_; (first | rintro _ _ ⟨rfl, rfl⟩ | rintro _ _ ⟨_, rfl, rfl⟩ | rintro _ _ ⟨_, _, ⟨_, _⟩, rfl, rfl⟩); try refine ⟨sConv, ?_⟩))
        refine Dr.go rfl (by rintro k ⟨⟩ <;> decide) sGon (S.call rfl rfl Try.func18 (by kernel_rfl) rfl sPicks (fun E' hE => mtake E' g A1 n1 c1 (st hdW x 1) (st hdW x 2) 1 (va hdW x 1 : Nat) rfl rfl 1 rfl (.inl rfl) (hal1 _ sRd)) ?_)
        rintro e H' ⟨A2, n2, c2, rfl, hal2, rfl⟩
        refine ⟨_, rfl, _, sCat, sConv, ?_⟩
        repeat (first | refine vMh ?_ | (refine kMh ?_; (first | rintro _ _ ⟨rfl, rfl⟩ | rintro _ _ ⟨_, rfl, rfl⟩ | rintro _ _ ⟨_, _, ⟨_, _⟩, rfl, rfl⟩); try refine ⟨sConv, ?_⟩))
        refine Dr.go rfl (by rintro k ⟨⟩ <;> decide) sGon (S.call rfl rfl Try.func18 (by kernel_rfl) rfl sPicks (fun E' hE => mtake E' g A2 n2 c2 (st hdW x 2) (st hdW x 3) 1 (va hdW x 2 : Nat) rfl rfl 1 rfl (.inl rfl) (hal2 _ (hal1 _ sRd))) ?_)
        rintro e H' ⟨A3, n3, c3, rfl, hal3, rfl⟩
        refine ⟨_, rfl, _, sCat, sConv, ?_⟩
        repeat (first | refine wMh ?_ | (refine kMh ?_; (first | rintro _ _ ⟨rfl, rfl⟩ | rintro _ _ ⟨_, rfl, rfl⟩ | rintro _ _ ⟨_, _, ⟨_, _⟩, rfl, rfl⟩); try refine ⟨sConv, ?_⟩) | refine Dr.two ?_ ?_)
        exact ⟨(_, _, _, _), sHolds, sConv, (hal1.trans hal2).trans hal3⟩
    · repeat (first | refine vMh ?_ | (refine kMh ?_; (first | rintro _ _ ⟨rfl, rfl⟩ | rintro _ _ ⟨_, rfl, rfl⟩ | rintro _ _ ⟨_, _, ⟨_, _⟩, rfl, rfl⟩); try refine ⟨sConv, ?_⟩))
      refine Dr.go rfl (by rintro k ⟨⟩ <;> decide) sGon (S.call rfl rfl Try.func18 (by kernel_rfl) rfl sPicks (fun E' hE => mtake E' g A0 x.length c0 (false, x) (st hdW x 1) 1 (va hdW x 0 : Nat) rfl rfl 1 rfl (.inl rfl) sRd) ?_)
      rintro e H' ⟨A1, n1, c1, rfl, hal1, rfl⟩
      refine ⟨_, rfl, _, sCat, sConv, ?_⟩
      repeat (first | refine vMh ?_ | (refine kMh ?_; (first | rintro _ _ ⟨rfl, rfl⟩ | rintro _ _ ⟨_, rfl, rfl⟩ | rintro _ _ ⟨_, _, ⟨_, _⟩, rfl, rfl⟩); try refine ⟨sConv, ?_⟩))
      refine Dr.go rfl (by rintro k ⟨⟩ <;> decide) sGon (S.call rfl rfl Try.func18 (by kernel_rfl) rfl sPicks (fun E' hE => mtake E' g A1 n1 c1 (st hdW x 1) (st hdW x 2) 1 (va hdW x 1 : Nat) rfl rfl 1 rfl (.inl rfl) (hal1 _ sRd)) ?_)
      rintro e H' ⟨A2, n2, c2, rfl, hal2, rfl⟩
      refine ⟨_, rfl, _, sCat, sConv, ?_⟩
      repeat (first | refine vMh ?_ | (refine kMh ?_; (first | rintro _ _ ⟨rfl, rfl⟩ | rintro _ _ ⟨_, rfl, rfl⟩ | rintro _ _ ⟨_, _, ⟨_, _⟩, rfl, rfl⟩); try refine ⟨sConv, ?_⟩))
      refine Dr.go rfl (by rintro k ⟨⟩ <;> decide) sGon (S.call rfl rfl Try.func18 (by kernel_rfl) rfl sPicks (fun E' hE => mtake E' g A2 n2 c2 (st hdW x 2) (st hdW x 3) 1 (va hdW x 2 : Nat) rfl rfl 1 rfl (.inl rfl) (hal2 _ (hal1 _ sRd))) ?_)
      rintro e H' ⟨A3, n3, c3, rfl, hal3, rfl⟩
      refine ⟨_, rfl, _, sCat, sConv, ?_⟩
      repeat (first | refine wMh ?_ | (refine kMh ?_; (first | rintro _ _ ⟨rfl, rfl⟩ | rintro _ _ ⟨_, rfl, rfl⟩ | rintro _ _ ⟨_, _, ⟨_, _⟩, rfl, rfl⟩); try refine ⟨sConv, ?_⟩) | refine Dr.two ?_ ?_)
      exact ⟨(_, _, _, _), sHolds, sConv, (hal1.trans hal2).trans hal3⟩
  rintro ⟨g8, A3, n3, c3⟩ G hal
  dsimp only at hal ⊢
  repeat (first | refine wMh ?_ | (refine kMh ?_; (first | rintro _ _ ⟨rfl, rfl⟩ | rintro _ _ ⟨_, rfl, rfl⟩ | rintro _ _ ⟨_, _, ⟨_, _⟩, rfl, rfl⟩); try refine ⟨sConv, ?_⟩) | refine Dr.two ?_ ?_)
  refine L.step (by decide) (S.call rfl rfl Try.func19 (by kernel_rfl) rfl sPicks (fun E' hE => mbody E' g g8 A3 n3 c3 x (hal _ sRd) hsl) ?_)
  rintro e H' ⟨m, hL, hok, O, p, q, Q, k2, d2, s', A4, n4, c4, rfl, rfl⟩
  refine ⟨_, rfl, _, sCat, ?_⟩
  rw [mfull_len hx hL hok]
  by_cases hc : m.check = 0
  · repeat (first | refine wMh ?_ | (refine kMh ?_; (first | rintro _ _ ⟨rfl, rfl⟩ | rintro _ _ ⟨_, rfl, rfl⟩ | rintro _ _ ⟨_, _, ⟨_, _⟩, rfl, rfl⟩); try refine ⟨sConv, ?_⟩) | refine Dr.two ?_ ?_)
    refine L.step (by decide) (S.call rfl rfl Try.func10 (by kernel_rfl) rfl sPicks (fun E' hE => mput_ok E' m O p q Q k2 d2 sRd sRd hc) ?_)
    rintro e H' ⟨A5, c5, rfl, rfl⟩
    refine ⟨_, rfl, _, sCat, ?_⟩
    by_cases he : m.enc = b
    · rw [if_pos ⟨hc, he⟩]
      rw [he]
      have hd : decide (b ≠ b) = false := decide_eq_false fun h => h rfl
      repeat (first | refine wMh ?_ | (refine kMh ?_; (first | rintro _ _ ⟨rfl, rfl⟩ | rintro _ _ ⟨_, rfl, rfl⟩ | rintro _ _ ⟨_, _, ⟨_, _⟩, rfl, rfl⟩); try refine ⟨sConv, ?_⟩) | refine Dr.two ?_ ?_)
      apply retC2; (· exact rfl); (· exact sRet); (· exact rfl); (· exact rfl); (· exact rfl); (· exact sHas); (· exact rfl); (· exact sRet); rotate_left; (· exact (⟨_, _, _, _, _, _, rfl, rfl⟩)); (· exact sConv)
    · rw [if_neg fun h => he h.2]
      have hd : decide (m.enc ≠ b) = true := decide_eq_true he
      repeat (first | refine wMh ?_ | (refine kMh ?_; (first | rintro _ _ ⟨rfl, rfl⟩ | rintro _ _ ⟨_, rfl, rfl⟩ | rintro _ _ ⟨_, _, ⟨_, _⟩, rfl, rfl⟩); try refine ⟨sConv, ?_⟩) | refine Dr.two ?_ ?_)
      apply retC2; (· exact rfl); (· exact sRet); (· exact rfl); (· exact rfl); (· exact rfl); (· exact sHas); (· exact rfl); (· exact sRet); rotate_left; (· exact (⟨rfl, rfl⟩)); (· exact sConv)
  · rw [if_neg fun h => hc h.1]
    repeat (first | refine wMh ?_ | (refine kMh ?_; (first | rintro _ _ ⟨rfl, rfl⟩ | rintro _ _ ⟨_, rfl, rfl⟩ | rintro _ _ ⟨_, _, ⟨_, _⟩, rfl, rfl⟩); try refine ⟨sConv, ?_⟩) | refine Dr.two ?_ ?_)
    refine L.step (by decide) (S.call rfl rfl Try.func10 (by kernel_rfl) rfl sPicks (fun E' hE => mput_no E' m O p q Q k2 d2 sRd sRd hc) ?_)
    generalize m.check = ck at *
    rintro e H' ⟨rfl, rfl⟩
    refine ⟨_, rfl, _, sCat, ?_⟩
    repeat (first | refine wMh ?_ | (refine kMh ?_; (first | rintro _ _ ⟨rfl, rfl⟩ | rintro _ _ ⟨_, rfl, rfl⟩ | rintro _ _ ⟨_, _, ⟨_, _⟩, rfl, rfl⟩); try refine ⟨sConv, ?_⟩) | refine Dr.two ?_ ?_)
    apply retC2; (· exact rfl); (· exact sRet); (· exact rfl); (· exact rfl); (· exact rfl); (· exact sHas); (· exact rfl); (· exact sRet); rotate_left; (· exact (⟨rfl, rfl⟩)); (· exact sConv)
end
end Go.Proofs.Ytihblcljkndpgaa.Sep
