/- wal's log: opened; by parts of memory. -/
import Derived.Test.YtkhmplaocfjpjaaWal5
namespace Go.Proofs.Ytkhmplaocfjpjaa.Sep
open Go.RowKit Go.Proofs.Ytkhmplaocfjpjaa.Reg
open Go.Proofs.Ytkhmplaocfjpjaa.Mem hiding Rd Own
set_option maxRecDepth 100000
-- types: octT secT slT
-- recs: rec_Disk plate_rec log_rec
set_option maxRecDepth 100000
set_option maxHeartbeats 3000000
/-- behind the last octet that is not 0, but not ahead of p -/
def tend (X : List UInt8) (p : Nat) : Nat → Nat
  | 0 => 0
  | k + 1 => if p < k + 1 ∧ X[k]? = some 0 then tend X p k else k + 1
theorem tend_le (X : List UInt8) (p k : Nat) : tend X p k ≤ k := by
  induction k with
  | zero => exact Nat.le_refl _
  | succ k ih => unfold tend; split <;> omega
theorem tend_ge {X : List UInt8} {p k : Nat} (h : p ≤ k) : p ≤ tend X p k := by
  induction k with
  | zero => unfold tend; omega
  | succ k ih =>
    unfold tend
    split
    · exact ih (by omega)
    · exact h
theorem tend_zero {X : List UInt8} {p k j : Nat} (h1 : tend X p k ≤ j) (h2 : j < k) : X[j]? = some 0 := by
  induction k with
  | zero => omega
  | succ k ih =>
    unfold tend at h1
    split at h1
    · rename_i h
      by_cases hj : j = k
      · rw [hj]; exact h.2
      · exact ih h1 (by omega)
    · omega
def otail (D : List UInt8) (N : Nat) : Nat := tend (hocts D N (hb D)) (Frm.upto (hocts D N (hb D))) (32 * N) - Frm.upto (hocts D N (hb D))
def LS.open (N : Nat) (D : List UInt8) (F : Int) : LS :=
  ⟨N, sp D (hfrom N (hb D) + Frm.upto (hocts D N (hb D))) (List.replicate (otail D N) 0), Frm.frames (hocts D N (hb D)), (Frm.frames (hocts D N (hb D))).length, Frm.upto (hocts D N (hb D)), [], false, larm F (Frm.upto (hocts D N (hb D))) (otail D N)⟩
theorem repl_same {a : Asn} {H H' : List Asn} (h : Repl a [a] H H') : H' = H := by
  induction h with
  | here => rfl
  | there _ ih => rw [ih]
theorem lay_nil {α : Type} (l : List α) (k : Nat) : Sep.lay l k [] = l := by unfold Sep.lay; simp
/-- 'clear(s[k:..])', of something or of nothing -/
theorem S.clearAnyK {E : Env} {H : List Asn} {α : Type} {T : Ty α} {A : Option Addr} {n c : Nat} {l : List α} {N : Nat} {F : Nat → Value} {o : Oper} {H' : List Asn} {x : Operand} {t : TypeId} {z : α} {k m : Nat} (ho : o.op = .call { callee := .builtin .clear, args := #[x], argTypes := #[t] }) (hx : ev F x = .slice (if c = k then A else A.map (·.add (k * T.size))) m (c - k))
    (ht : Try.prog.underlying t = some (.slice T.tid)) (hz : T.val z = T.zero) (hkm : k + m ≤ n) (hr : Repl (own T A n c l) [own T A n c (Sep.lay l k (List.replicate m z))] H H') : Stp Try.prog N E F H o fun r H1 => r = .tuple #[] ∧ H1 = H' := by
  by_cases h0 : m = 0
  · subst h0
    rw [List.replicate_zero, lay_nil] at hr
    rw [repl_same hr]
    intro a u ha hu Kw Q' hK
    unfold Oper.wp
    rw [ha.eval, V.clear0 ho hx ht]
    exact hK _ _ _ ⟨rfl, rfl⟩ hu
  · exact S.clearCutK ho hx ht hz hkm (by omega) hr
section
variable (E : Env) (gd N : Nat) (armed wr : Int) (A : Option Addr) (n c : Nat) (l : List Sec)
theorem wopen (hnl : n = l.length) (hN : n = 2 * N + 1) (hN0 : 1 ≤ N) (hN1 : N ≤ 64) (ha : -1 ≤ armed) (ha2 : armed ≤ 9223372036854775807) (hw : 0 ≤ wr) (hwr : wr ≤ 900000) (hcut : lcut armed (Frm.upto (hocts (flat l) N (hb (flat l)))) (otail (flat l) N) = false) :
    Tri Try.prog E 40 #[.pointer (some ⟨gd, 0, none⟩)] (dks gd true false armed wr A n c l) fun e H' => ∃ (g : Nat) (w : WL), e = .returned (.tuple #[.pointer (some ⟨g, 0, none⟩), .bool true]) ∧ w.ok ∧ w.s = LS.open N (flat l) armed ∧ w.wr ≤ wr + 2048 ∧ w.m ≤ 4 * N ∧ H' = wst g gd w := by
  have hmax : maxLen = 9223372036854775807 := rfl
  have hn : n ≤ 256 := by omega
  have hl0 : 0 < l.length := by omega
  have hD : (flat l).length = 32 * (2 * N + 1) := by rw [flat_length]; omega
  unfold LS.open
  obtain ⟨h, hh⟩ : ∃ h, hb (flat l) = h := ⟨_, rfl⟩
  have hh1 : h ≤ 1 := by rw [← hh]; exact hb_le _
  have hot : otail (flat l) N = tend (hocts (flat l) N h) (Frm.upto (hocts (flat l) N h)) (32 * N) - Frm.upto (hocts (flat l) N h) := by unfold otail; rw [hh]
  have hXl := hocts_length (D := flat l) hD hh1
  rw [hh] at hcut ⊢
  obtain ⟨X, hX⟩ : ∃ X, hocts (flat l) N h = X := ⟨_, rfl⟩
  rw [hX] at hcut hot hXl ⊢
  have hff := frames_front X
  have hfc := Frm.frames_count X
  obtain ⟨p, hp⟩ : ∃ p, Frm.upto X = p := ⟨_, rfl⟩
  rw [hp] at hcut hot hff ⊢
  obtain ⟨e0, he0⟩ : ∃ e, tend X p (32 * N) = e := ⟨_, rfl⟩
  rw [he0] at hot
  rw [hot] at hcut ⊢
  have hpe : p ≤ e0 := by rw [← he0]; exact tend_ge (by have := hff.2.2; omega)
  have heN : e0 ≤ 32 * N := by rw [← he0]; exact tend_le _ _ _
  have hrem : (n : Int).tmod 2 = 1 := by rw [Int.tmod_eq_emod_of_nonneg (by omega)]; omega
  have hquo : IntKind.i64.wrap ((n : Int).tdiv 2) = (N : Int) := by rw [Int.tdiv_eq_ediv_of_nonneg (by omega), IntWalk.i64_in _ (by omega)]; omega
  refine tri Try.func40 rfl Try.ntmps40 (by simp) ?_
  repeat (first | refine wWl1 ?_ | (refine kWl1 ?_; (first | rintro _ _ ⟨rfl, rfl⟩ | rintro _ _ ⟨_, rfl, rfl⟩ | rintro _ _ ⟨_, _, ⟨_, _⟩, rfl, rfl⟩); try refine ⟨sConv, ?_⟩) | refine Dr.two ?_ ?_)
  refine L.step (by decide) (S.call rfl rfl Try.func87 (by kernel_rfl) rfl sPicks (fun E' hE => len_any E' gd true false armed wr A n c hn) ?_)
  rintro e H' ⟨rfl, rfl⟩
  refine ⟨_, rfl, _, sCat, ?_⟩
  repeat (first | refine wWl1 ?_ | (refine kWl1 ?_; (first | rintro _ _ ⟨rfl, rfl⟩ | rintro _ _ ⟨_, rfl, rfl⟩ | rintro _ _ ⟨_, _, ⟨_, _⟩, rfl, rfl⟩); try refine ⟨sConv, ?_⟩) | refine Dr.two ?_ ?_)
  refine L.step (by decide) (S.call rfl rfl Try.func83 (by kernel_rfl) rfl sPicks (fun E' hE => dead_any E' gd true false armed wr A n c) ?_)
  rintro e H' ⟨rfl, rfl⟩
  refine ⟨_, rfl, _, sCat, ?_⟩
  repeat (first | refine wWl1 ?_ | (refine kWl1 ?_; (first | rintro _ _ ⟨rfl, rfl⟩ | rintro _ _ ⟨_, rfl, rfl⟩ | rintro _ _ ⟨_, _, ⟨_, _⟩, rfl, rfl⟩); try refine ⟨sConv, ?_⟩) | refine Dr.two ?_ ?_)
  rename_i g5
  refine C.regionA 100000 (.one 0 false (.one 1 false (.one 2 false (.one 3 false (.one 4 false (.one 5 false (.one 6 false (.one 7 false (.one 8 true (.one 9 true (.one 10 false .nil))))))))))) ([blk g5 107 [.pointer (some ⟨gd, 0, none⟩), .int .i64 (N : Int), .slice none 0 0, .int .i64 0, .int .i64 0, .slice none 0 0]]) (by kernel_rfl) (by kernel_rfl) sConv ?_
  repeat (first | refine wWl1 ?_ | (refine kWl1 ?_; (first | rintro _ _ ⟨rfl, rfl⟩ | rintro _ _ ⟨_, rfl, rfl⟩ | rintro _ _ ⟨_, _, ⟨_, _⟩, rfl, rfl⟩); try refine ⟨sConv, ?_⟩) | refine Dr.two ?_ ?_)
  refine Dr.go rfl (by rintro k ⟨⟩ <;> decide) sGon (S.call rfl rfl Try.func85 (by kernel_rfl) rfl sPicks (fun E' hE => whalf E' gd N armed wr A n c l hn hl0 hnl) ?_)
  rw [hh]
  rintro e H' ⟨rfl, rfl⟩
  refine ⟨_, rfl, _, sCat, sConv, ?_⟩
  repeat (first | refine wWl1 ?_ | (refine kWl1 ?_; (first | rintro _ _ ⟨rfl, rfl⟩ | rintro _ _ ⟨_, rfl, rfl⟩ | rintro _ _ ⟨_, _, ⟨_, _⟩, rfl, rfl⟩); try refine ⟨sConv, ?_⟩) | refine Dr.two ?_ ?_)
  refine Dr.go rfl (by rintro k ⟨⟩ <;> decide) sGon (S.call rfl rfl Try.func88 (by kernel_rfl) rfl sPicks (fun E' hE => wocts E' gd N armed wr A n c l h hn hnl hh1 hN) ?_)
  rw [hX]
  rintro e H' ⟨O, d, rfl, ⟨hd1, hd2⟩, rfl⟩
  refine ⟨_, rfl, _, sCat, sConv, ?_⟩
  repeat (first | refine wWl1 ?_ | (refine kWl1 ?_; (first | rintro _ _ ⟨rfl, rfl⟩ | rintro _ _ ⟨_, rfl, rfl⟩ | rintro _ _ ⟨_, _, ⟨_, _⟩, rfl, rfl⟩); try refine ⟨sConv, ?_⟩) | refine Dr.two ?_ ?_)
  refine L.step (by decide) (S.call rfl rfl Try.func89 (by kernel_rfl) rfl sPicks (fun E' hE => allf E' O (32 * N) d X sRd (by omega)) ?_)
  rw [hp]
  rintro e H' ⟨O2, co, xs, rfl, rfl, hxs⟩
  refine ⟨_, rfl, _, sCat, ?_⟩
  have hxl : xs.length = (Frm.frames X).length := by rw [← hxs, List.length_map]
  have hxm : xs.length ≤ maxLen := by omega
  refine L.fact (p := ∀ x ∈ xs, x.n = x.b.length) (fun w hw x hx => ?_) fun hwide => ?_
  · obtain ⟨i, hi, rfl⟩ := List.getElem_of_mem hx
    exact ((RdH.each (f := oOc) sHas (List.getElem?_eq_getElem hi) rfl) w hw).1
  repeat ((fail_if_success (refine C.seq (x := Code.region 8 _ _) ?_)); first | refine vWl1 ?_ | (refine kWl1 ?_; (first | rintro _ _ ⟨rfl, rfl⟩ | rintro _ _ ⟨_, rfl, rfl⟩ | rintro _ _ ⟨_, _, ⟨_, _⟩, rfl, rfl⟩); try refine ⟨sConv, ?_⟩) | refine Dr.two ?_ ?_)
  refine C.cut (X := Unit) (fun _ => [(5, .pointer (some ⟨g5, 0, none⟩)), (6, .slice O (32 * N) d), (7, .int .i64 ((32 * N : Nat) : Int))]) (fun _ => [own octT O (32 * N) d X, blk g5 107 [.pointer (some ⟨gd, 0, none⟩), .int .i64 (N : Int), .slice O2 xs.length co, .int .i64 (xs.length : Int), .int .i64 (p : Int), .slice none 0 0], own slT O2 xs.length co xs, each oOc xs, dsk gd true false armed wr A n c, own secT A n c l]) (fun _ => True) ?_ ?_
  · repeat (first | refine wWl1 ?_ | (refine kWl1 ?_; (first | rintro _ _ ⟨rfl, rfl⟩ | rintro _ _ ⟨_, rfl, rfl⟩ | rintro _ _ ⟨_, _, ⟨_, _⟩, rfl, rfl⟩); try refine ⟨sConv, ?_⟩) | refine Dr.two ?_ ?_)
    exact ⟨(), sHolds, sConv, trivial⟩
  rintro - F0 -
  refine C.cut (X := Unit) (fun _ => [(5, .pointer (some ⟨g5, 0, none⟩)), (6, .slice O (32 * N) d), (7, .int .i64 e0)]) (fun _ => [own octT O (32 * N) d X, blk g5 107 [.pointer (some ⟨gd, 0, none⟩), .int .i64 (N : Int), .slice O2 xs.length co, .int .i64 (xs.length : Int), .int .i64 (p : Int), .slice none 0 0], own slT O2 xs.length co xs, each oOc xs, dsk gd true false armed wr A n c, own secT A n c l]) (fun _ => True) ?_ ?_
  · repeat (first | refine wWl1 ?_ | (refine kWl1 ?_; (first | rintro _ _ ⟨rfl, rfl⟩ | rintro _ _ ⟨_, rfl, rfl⟩ | rintro _ _ ⟨_, _, ⟨_, _⟩, rfl, rfl⟩); try refine ⟨sConv, ?_⟩) | refine Dr.two ?_ ?_)
    refine C.loop (X := Nat) (fun k => [(5, .pointer (some ⟨g5, 0, none⟩)), (6, .slice O (32 * N) d), (7, .int .i64 k)])
      (fun _ => [own octT O (32 * N) d X, blk g5 107 [.pointer (some ⟨gd, 0, none⟩), .int .i64 (N : Int), .slice O2 xs.length co, .int .i64 (xs.length : Int), .int .i64 (p : Int), .slice none 0 0], own slT O2 xs.length co xs, each oOc xs, dsk gd true false armed wr A n c, own secT A n c l])
      (fun k => p ≤ k ∧ k ≤ 32 * N ∧ tend X p k = e0) (fun k => k) (32 * N) sHolds sConv ⟨by have := hff.2.2; omega, Nat.le_refl _, he0⟩ ?_
    rintro k F ⟨hk0, hk1, hk2⟩
    by_cases hlt : p < k
    · obtain ⟨k', rfl⟩ : ∃ k', k = k' + 1 := ⟨k - 1, by omega⟩
      obtain ⟨x, hx⟩ : ∃ x, X[k']? = some x := ⟨_, List.getElem?_eq_getElem (by omega)⟩
      have hsub : IntKind.i64.wrap (((k' + 1 : Nat) : Int) - 1) = (k' : Int) := by rw [IntWalk.i64_in _ (by omega)]; omega
      by_cases hz : x = 0
      · have ht : decide ((x.toNat : Int) = 0) = true := by rw [hz]; rfl
        have hte : tend X p k' = e0 := by rw [← hk2]; conv => rhs; unfold tend; rw [if_pos ⟨hlt, by rw [hx, hz]⟩]
        repeat (first | refine wWl1 ?_ | (refine kWl1 ?_; (first | rintro _ _ ⟨rfl, rfl⟩ | rintro _ _ ⟨_, rfl, rfl⟩ | rintro _ _ ⟨_, _, ⟨_, _⟩, rfl, rfl⟩); try refine ⟨sConv, ?_⟩) | refine Dr.two ?_ ?_)
        exact ⟨k', sHolds, sConv, ⟨by omega, by omega, hte⟩, by omega⟩
      · have hx0 : x.toNat ≠ 0 := fun h => hz (by rw [← UInt8.toNat_inj, h]; rfl)
        have ht : decide ((x.toNat : Int) = 0) = false := decide_eq_false (by omega)
        have hte : k' + 1 = e0 := by
          rw [← hk2]
          unfold tend
          rw [if_neg (fun h => hz (by have := h.2; rw [hx] at this; exact Option.some.inj this))]
        subst hte
        repeat (first | refine wWl1 ?_ | (refine kWl1 ?_; (first | rintro _ _ ⟨rfl, rfl⟩ | rintro _ _ ⟨_, rfl, rfl⟩ | rintro _ _ ⟨_, _, ⟨_, _⟩, rfl, rfl⟩); try refine ⟨sConv, ?_⟩) | refine Dr.two ?_ ?_)
        exact ⟨(), sHolds, sConv, trivial⟩
    obtain rfl : k = p := by omega
    have hte : k = e0 := by
      rw [← hk2]
      cases k with
      | zero => rfl
      | succ k => unfold tend; rw [if_neg (fun h => absurd h.1 (Nat.lt_irrefl _))]
    subst hte
    repeat (first | refine wWl1 ?_ | (refine kWl1 ?_; (first | rintro _ _ ⟨rfl, rfl⟩ | rintro _ _ ⟨_, rfl, rfl⟩ | rintro _ _ ⟨_, _, ⟨_, _⟩, rfl, rfl⟩); try refine ⟨sConv, ?_⟩) | refine Dr.two ?_ ?_)
    exact ⟨(), sHolds, sConv, trivial⟩
  rintro - F -
  have hmx : max ((e0 : Nat) : Int) ((p : Nat) : Int) = ((e0 : Nat) : Int) := by omega
  repeat (first | refine wWl1 ?_ | (refine kWl1 ?_; (first | rintro _ _ ⟨rfl, rfl⟩ | rintro _ _ ⟨_, rfl, rfl⟩ | rintro _ _ ⟨_, _, ⟨_, _⟩, rfl, rfl⟩); try refine ⟨sConv, ?_⟩) | refine Dr.two ?_ ?_)
  refine C.regionA 100000 (.one 0 false (.one 1 false (.one 2 false (.one 3 false (.one 4 false (.one 5 false (.one 6 false (.one 7 false (.one 8 false (.one 9 false (.one 10 false (.one 11 false (.one 12 false .nil))))))))))))) _ (by kernel_rfl) (by kernel_rfl) Conv.refl ?_
  repeat ((fail_if_success (refine Dr.all (i := 11) ?_)); first | refine vWl1 ?_ | (refine kWl1 ?_; (first | rintro _ _ ⟨rfl, rfl⟩ | rintro _ _ ⟨_, rfl, rfl⟩ | rintro _ _ ⟨_, _, ⟨_, _⟩, rfl, rfl⟩); try refine ⟨sConv, ?_⟩))
  rw [hmx]
  repeat (first | refine wWl1 ?_ | (refine kWl1 ?_; (first | rintro _ _ ⟨rfl, rfl⟩ | rintro _ _ ⟨_, rfl, rfl⟩ | rintro _ _ ⟨_, _, ⟨_, _⟩, rfl, rfl⟩); try refine ⟨sConv, ?_⟩) | refine Dr.two ?_ ?_)
  have hcont : (((Sep.lay X p (List.replicate (e0 - p) 0)).take e0).drop p) = List.replicate (e0 - p) 0 := by
    unfold Sep.lay
    have h1 : (X.take p).length = p := by rw [List.length_take]; omega
    have h2 : (X.take p ++ List.replicate (e0 - p) (0 : UInt8)).length = e0 := by rw [List.length_append, h1, List.length_replicate]; omega
    rw [List.take_left' h2, List.drop_left' h1]
  refine L.step0K (S.clearAnyK (T := octT) (A := O) (n := 32 * N) (c := d) (l := X) (z := 0) (k := p) (m := e0 - p) rfl rfl rfl rfl (by omega) sRepl) ?_
  rintro _ _ ⟨rfl, rfl⟩
  repeat (first | refine wWl1 ?_ | (refine kWl1 ?_; (first | rintro _ _ ⟨rfl, rfl⟩ | rintro _ _ ⟨_, rfl, rfl⟩ | rintro _ _ ⟨_, _, ⟨_, _⟩, rfl, rfl⟩); try refine ⟨sConv, ?_⟩) | refine Dr.two ?_ ?_)
  refine C.regionA 100000 (.one 0 false (.one 1 false (.one 2 false (.one 3 false (.one 4 false (.one 5 false (.one 6 false (.one 7 false (.one 9 false (.one 10 false (.one 11 false (.one 12 false (.one 13 false (.one 8 true (.one 14 true (.one 15 false .nil)))))))))))))))) ([blk g5 107 [.pointer (some ⟨gd, 0, none⟩), .int .i64 (N : Int), .slice O2 xs.length co, .int .i64 (xs.length : Int), .int .i64 (p : Int), .slice none 0 0]]) (by kernel_rfl) (by kernel_rfl) sConv ?_
  repeat (first | refine wWl1 ?_ | (refine kWl1 ?_; (first | rintro _ _ ⟨rfl, rfl⟩ | rintro _ _ ⟨_, rfl, rfl⟩ | rintro _ _ ⟨_, _, ⟨_, _⟩, rfl, rfl⟩); try refine ⟨sConv, ?_⟩) | refine Dr.two ?_ ?_)
  refine Dr.go rfl (by rintro k ⟨⟩ <;> decide) sGon (S.call rfl rfl Try.func85 (by kernel_rfl) rfl sPicks (fun E' hE => whalf E' gd N armed wr A n c l hn hl0 hnl) ?_)
  rw [hh]
  rintro e H' ⟨rfl, rfl⟩
  refine ⟨_, rfl, _, sCat, sConv, ?_⟩
  repeat (first | refine wWl1 ?_ | (refine kWl1 ?_; (first | rintro _ _ ⟨rfl, rfl⟩ | rintro _ _ ⟨_, rfl, rfl⟩ | rintro _ _ ⟨_, _, ⟨_, _⟩, rfl, rfl⟩); try refine ⟨sConv, ?_⟩) | refine Dr.two ?_ ?_)
  have hpl : p + (((Sep.lay X p (List.replicate (e0 - p) 0)).take e0).drop p).length ≤ 32 * N := by rw [hcont, List.length_replicate]; omega
  refine Dr.go rfl (by rintro k ⟨⟩ <;> decide) sGon (S.call rfl rfl Try.func84 (by kernel_rfl) rfl sPicks (fun E' hE => wlay E' gd N armed wr A n c l h p (if d = p then O else O.map (·.add (p * octT.size))) (e0 - p) (d - p) (((Sep.lay X p (List.replicate (e0 - p) 0)).take e0).drop p) (Rd.cut (Sub.own (n := 32 * N) hE sHas) hpe heN) hn hnl hh1 hN hN1 ha ha2 hw hwr hpl) ?_)
  unfold LayPost
  rw [hcont, List.length_replicate, hcut, lq_all hcut, List.take_of_length_le (by rw [List.length_replicate]; exact Nat.le_refl _)]
  rintro e H' ⟨l', wr', rfl, hl', hfl', hw1, hw2, rfl⟩
  refine ⟨_, rfl, _, sCat, sConv, ?_⟩
  repeat (first | refine wWl1 ?_ | (refine kWl1 ?_; (first | rintro _ _ ⟨rfl, rfl⟩ | rintro _ _ ⟨_, rfl, rfl⟩ | rintro _ _ ⟨_, _, ⟨_, _⟩, rfl, rfl⟩); try refine ⟨sConv, ?_⟩) | refine Dr.two ?_ ?_)
  have hge := larm_ge ha p (e0 - p)
  have hle : larm armed p (e0 - p) ≤ 9223372036854775807 := by unfold larm; split; omega; split <;> omega
  have hWH : wst g5 gd ⟨N, O2, xs.length, co, xs, xs.length, p, none, 0, 0, [], false, larm armed p (e0 - p), wr', A, n, c, l'⟩ = [blk g5 107 [.pointer (some ⟨gd, 0, none⟩), .int .i64 (N : Int), .slice O2 xs.length co, .int .i64 (xs.length : Int), .int .i64 (p : Int), .slice none 0 0], own slT O2 xs.length co xs, each oOc xs, own octT none 0 0 [], dsk gd true false (larm armed p (e0 - p)) wr' A n c, own secT A n c l'] := rfl
  refine postF_conv3 (Conv.nil0 octT none) ?_
  refine postF_conv3 (H1 := wst g5 gd ⟨N, O2, xs.length, co, xs, xs.length, p, none, 0, 0, [], false, larm armed p (e0 - p), wr', A, n, c, l'⟩) (by rw [hWH]; exact sConv) ?_
  have hok : ∀ x ∈ xs, x.n = x.b.length ∧ x.b.length ≤ 4096 := fun x hx => ⟨hwide x hx, (hff.2.1 x.b (by rw [← hxs]; exact List.mem_map_of_mem hx)).2⟩
  exact ret2 rfl sRet sRet sConv (⟨g5, _, rfl, ⟨rfl, rfl, hnl.trans hl'.symm, hN0, hN1, hN, hge, hle, by dsimp only; omega, by dsimp only [List.length_nil]; omega, by dsimp only; omega, Nat.le_refl _, hok⟩, by unfold WL.s; dsimp only; rw [hfl', hxs, hxl], by dsimp only; omega, by dsimp only; omega, rfl⟩)
end
end Go.Proofs.Ytkhmplaocfjpjaa.Sep
