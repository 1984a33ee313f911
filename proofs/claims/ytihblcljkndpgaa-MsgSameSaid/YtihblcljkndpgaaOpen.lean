/- Arguments, opened: a slice that the form reads is a slice that reads as a list. -/
import Derived.Test.YtihblcljkndpgaaMem
import Derived.Deep.Slices
import Derived.Deep.CondSized
import Derived.SizedLaws
import Derived.Carry
namespace Go.Proofs.Ytihblcljkndpgaa.Open
open Go.RowKit Go.Proofs.Ytihblcljkndpgaa.Mem Go.ChangeShapes Go.WideShapes Go.ChangeAt Go.Deep
set_option maxRecDepth 100000

/-- what the datum of a slice says of its elements -/
def Sh {H α : Type} (R : DataW H → α → Prop) (d : DataW H) (l : List α) (c : Nat) : Prop :=
  (d = .nil ∧ l = [] ∧ c = 0) ∨ ∃ elems spare, d = .slice elems spare ∧ elems.length = l.length ∧ elems.length + spare.length = c ∧ ∀ i (h1 : i < elems.length) (h2 : i < l.length), R elems[i] l[i]

/-- each argument's slices are no longer than the form's reach -/
theorem sized_at {H : Type} : ∀ {ts more : List TypeId} {ds gs : List (DataW H)} (i : Nat) {t : TypeId} {d : DataW H}, (DataW.weightsEach Try.prog (ts ++ more) (ds ++ gs)).all (· ≤ reachBytes) = true → ts[i]? = some t → ds[i]? = some d →
    ∀ x ∈ d.weights Try.prog t, x ≤ reachBytes
  | [], _, _, _, i, _, _, _, h, _ => by simp at h
  | _ :: _, _, [], _, i, _, _, _, _, h => by simp at h
  | t :: ts, more, d :: ds, gs, 0, t', d', hk, h1, h2 => by
    simp at h1 h2; subst h1; subst h2
    intro x hx
    have := List.all_eq_true.1 hk x (by simp only [List.cons_append, DataW.weightsEach]; exact List.mem_append_left _ hx)
    simpa using this
  | t :: ts, more, d :: ds, gs, i + 1, t', d', hk, h1, h2 => by
    refine sized_at (ts := ts) (more := more) (ds := ds) (gs := gs) i ?_ (by simpa using h1) (by simpa using h2)
    rw [List.all_eq_true] at hk ⊢
    intro x hx
    exact hk x (by simp only [List.cons_append, DataW.weightsEach]; exact List.mem_append_right _ hx)
/-- each slice is no longer than the form's reach -/
theorem reach_slice {H α : Type} {R : DataW H → α → Prop} {d : DataW H} {l : List α} {c t e : Nat} (h : Sh R d l c) (ht : Try.prog.underlying t = some (.slice e)) (hw : ∀ x ∈ d.weights Try.prog t, x ≤ reachBytes) : c * Try.prog.bytesOf e ≤ 140737488351232 := by
  rcases h with ⟨_, _, rfl⟩ | ⟨elems, spare, rfl, _, rfl, _⟩
  · omega
  · have := hw ((elems.length + spare.length) * Try.prog.bytesOf e) (by simp [DataW.weights, ht])
    exact this

section
variable {H : Type} {enc : TypeId × Value → H} {W : World} {α : Type}

theorem cells?_len {w : World} {base : Nat} {a : Addr} {n : Nat} {cs : List Value} (h : w.cells? base a n = some cs) : cs.length = n ∧ ∀ j u, cs[j]? = some u → w.cell? (a.add j) = some u := by
  unfold World.cells? at h
  split at h
  · have h2 : ∀ (l : List Nat) (cs : List Value), l.mapM (fun i => w.cell? (a.add i)) = some cs → cs.length = l.length ∧ ∀ (j : Nat) (u : Value) (i : Nat), cs[j]? = some u → l[j]? = some i → w.cell? (a.add i) = some u := by
      intro l
      induction l with
      | nil => intro cs h; simp at h; subst h; simp
      | cons x l ih =>
        intro cs h
        rw [List.mapM_cons] at h
        obtain ⟨v, h3, h4⟩ := Option.bind_eq_some_iff.1 h
        obtain ⟨vs, h5, h6⟩ := Option.bind_eq_some_iff.1 h4
        injection h6 with h6
        subst h6
        obtain ⟨h7, h8⟩ := ih vs h5
        refine ⟨by simp [h7], fun j u i hj hi => ?_⟩
        cases j with
        | zero => simp at hj hi; subst hj; subst hi; exact h3
        | succ j => simp at hj hi; exact h8 j u i hj hi
    obtain ⟨h3, h4⟩ := h2 _ _ h
    refine ⟨by simpa using h3, fun j u hj => h4 j u j hj ?_⟩
    have : j < cs.length := (List.getElem?_eq_some_iff.1 hj).1
    rw [List.getElem?_range]
    simpa using (h3 ▸ this : j < (List.range n).length)
  · cases h

theorem choose_list {Q : Nat → α → Prop} : ∀ n, (∀ i, i < n → ∃ b, Q i b) → ∃ l : List α, l.length = n ∧ ∀ i (hi : i < l.length), Q i l[i]
  | 0, _ => ⟨[], rfl, fun i hi => absurd hi (by simp)⟩
  | n + 1, h => by
    obtain ⟨l, hl, hq⟩ := choose_list n (fun i hi => h i (by omega))
    obtain ⟨b, hb⟩ := h n (by omega)
    refine ⟨l ++ [b], by simp [hl], fun i hi => ?_⟩
    by_cases hlt : i < l.length
    · rw [List.getElem_append_left hlt]; exact hq i hlt
    · have : i = n := by simp at hi; omega
      subst this
      rw [List.getElem_append_right (by omega)]
      simpa [hl] using hb

/-- THE SLICE, OPENED -/
theorem open_sl (E : Elem α) (R : DataW H → α → Prop) (hce : Try.prog.cellsOf E.tid = E.size)
    (dec : ∀ n cs y, cs.length = E.size → DataW.trod enc Try.prog W 0 (fun _ => true) true n E.tid cs = some y → ∃ a, cs = E.enc a ∧ R y.1 a)
    {fuel : Nat} {cs : List Value} {x : DataW H × List MemPlace} (h : DataW.trod enc Try.prog W 0 (fun _ => true) true fuel E.sid cs = some x) :
    ∃ A n c l, cs = [.slice A n c] ∧ Rd E W W.heap.size A n c l ∧ Sh R x.1 l c := by
  rcases open_slice E.hunder h with ⟨rfl, rfl⟩ | ⟨a, len, cap, m, k, D, Pl, rfl, _, hl, hm, hmm, rfl, hx⟩
  · exact ⟨none, 0, 0, [], rfl, Rd.nil _ _, .inl ⟨rfl, rfl, rfl⟩⟩
  · simp only [if_true] at hmm
    subst hmm
    have each : ∀ i, i < m → ∃ b, R (D i) b ∧ ∀ j u, (E.enc b)[j]? = some u → W.cell? (a.add (i * E.size + j)) = some u := by
      intro i hi
      obtain ⟨cs', h1, h2⟩ := hx i hi
      rw [hce] at h1
      obtain ⟨h3, h4⟩ := cells?_len h1
      obtain ⟨b, rfl, hR⟩ := dec _ _ _ h3 h2
      refine ⟨b, hR, fun j u hj => ?_⟩
      rw [← add_of_add]
      exact h4 j u hj
    obtain ⟨l, hll, hf⟩ := choose_list len (fun i hi => each i (by omega))
    subst hll
    refine ⟨some a, l.length, m, l, rfl, ⟨rfl, hl, hm, E.encs_length l, ?_⟩, .inr ⟨_, _, rfl, by simp, by simp; omega, ?_⟩⟩
    · intro hn
      have hcell : ∀ j u, (E.encs l)[j]? = some u → W.cell? (a.add j) = some u := by
        intro j u hu
        have hj : j < l.length * E.size := by
          have := (List.getElem?_eq_some_iff.1 hu).1
          rwa [E.encs_length] at this
        have hq : j / E.size < l.length := Nat.div_lt_of_lt_mul (by rw [Nat.mul_comm]; exact hj)
        have hdm := Nat.div_add_mod j E.size
        have hlt : j % E.size < (E.enc l[j / E.size]).length := by rw [E.hlen]; exact Nat.mod_lt _ E.hpos
        have h5 := E.encs_at l (j / E.size) hq (j % E.size) _ (List.getElem?_eq_getElem hlt)
        have e : j / E.size * E.size + j % E.size = j := by rw [Nat.mul_comm]; exact hdm
        rw [e, hu] at h5
        have h6 := (hf (j / E.size) hq).2 (j % E.size) _ (List.getElem?_eq_getElem hlt)
        rw [e] at h6
        rw [h6, ← h5]
      refine ⟨a, rfl, ?_, hcell⟩
      have h0 : 0 < (E.encs l).length := by
        rw [E.encs_length]; exact Nat.mul_pos hn E.hpos
      have := World.block_lt_of_cell? _ _ (hcell 0 _ (List.getElem?_eq_getElem h0))
      rwa [block_of_add] at this
    · intro i h1 h2
      simp at h1 ⊢
      exact (hf i h2).1

/-- .. AND A SLICE OF SLICES -/
theorem open_sls (E : Elem α) (R : DataW H → α → Prop) (hce : Try.prog.cellsOf E.tid = E.size)
    (dec : ∀ n cs y, cs.length = E.size → DataW.trod enc Try.prog W 0 (fun _ => true) true n E.tid cs = some y → ∃ a, cs = E.enc a ∧ R y.1 a)
    {t fuel : Nat} {cs : List Value} {x : DataW H × List MemPlace} (ht : Try.prog.underlying t = some (.slice E.sid)) (hct : Try.prog.cellsOf E.sid = 1)
    (h : DataW.trod enc Try.prog W 0 (fun _ => true) true fuel t cs = some x) :
    ∃ A n c ls, cs = [.slice A n c] ∧ RdS E W W.heap.size A n c ls ∧ Sh (fun d l => ∃ c, Sh R d l c) x.1 ls c := by
  rcases open_slice1 ht hct h with ⟨rfl, rfl⟩ | ⟨a, len, cap, m, k, V, D, Pl, rfl, _, hl, hm, hmm, rfl, hx⟩
  · exact ⟨none, 0, 0, [], rfl, RdS.nil _ _, .inl ⟨rfl, rfl, rfl⟩⟩
  · simp only [if_true] at hmm
    subst hmm
    have each : ∀ i, i < m → ∃ b : List α, (∃ X nx cx, W.cell? (a.add i) = some (.slice X nx cx) ∧ Rd E W W.heap.size X nx cx b) ∧ ∃ c, Sh R (D i) b c := by
      intro i hi
      obtain ⟨h1, h2⟩ := hx i hi
      obtain ⟨A, n, c, l, h3, h4, h5⟩ := open_sl E R hce dec h2
      injection h3 with h3
      exact ⟨l, ⟨A, n, c, by rw [h1, h3], h4⟩, c, h5⟩
    obtain ⟨l, hll, hf⟩ := choose_list len (fun i hi => each i (by omega))
    subst hll
    refine ⟨some a, l.length, m, l, rfl, ⟨rfl, hl, hm, fun hn => ⟨a, rfl, ?_, fun i hi => (hf i hi).1⟩⟩, .inr ⟨_, _, rfl, by simp, by simp; omega, ?_⟩⟩
    · have := World.block_lt_of_cell? _ _ (hx 0 (by omega)).1
      rwa [block_of_add] at this
    · intro i h1 h2
      simp at h1 ⊢
      exact (hf i h2).2

/-! ### octets -/
def isOct (d : DataW H) (b : UInt8) : Prop := d = .lit (.int .u8 (b.toNat : Int))
theorem dec_oct : ∀ n cs y, cs.length = (octE).size → DataW.trod enc Try.prog W 0 (fun _ => true) true n (octE).tid cs = some y → ∃ b, cs = (octE).enc b ∧ isOct y.1 b := by
  intro n cs y _ h
  obtain ⟨k, rfl, rfl, hw⟩ := DataW.trod_int Try.underlying5 h
  have hk := bounds_u8 hw
  have e : ((UInt8.ofNat k.toNat).toNat : Int) = k := by simp; omega
  refine ⟨UInt8.ofNat k.toNat, ?_, by unfold isOct; rw [e]⟩
  show _ = [Value.int .u8 _]
  rw [e]

theorem bytes_oct : Try.prog.bytesOf 5 = 1 := by kernel_rfl
/-- a slice of octets that was read is no longer than the form's reach -/
theorem reach_octs {d : DataW H} {l : List UInt8} {c n : Nat} {A : Option Addr} {B : Nat} (hr : Rd octE W B A n c l) (h : Sh isOct d l c) (hw : ∀ x ∈ d.weights Try.prog 22, x ≤ reachBytes) : n ≤ 140737488351232 := by
  have h1 := reach_slice h Try.underlying22 hw
  rw [bytes_oct] at h1
  have := hr.cap
  omega
theorem open_octs {v : Value} {d : DataW H} {p : List MemPlace} {base : Nat} (hv : Value.okWide Try.prog W .any base 22 v) (h : DataW.Trod enc Try.prog W 0 (fun _ => true) true 22 v d p) :
    ∃ A n c l, v = .slice A n c ∧ Rd octE W W.heap.size A n c l ∧ Sh isOct d l c := by
  obtain ⟨a, len, cap, rfl⟩ := okWide_slice Try.underlying22 hv
  obtain ⟨fuel, hf⟩ := h
  obtain ⟨A, n, c, l, hcs, hr, hs⟩ := open_sl octE isOct (by kernel_rfl) dec_oct hf
  simp [Value.cells] at hcs
  obtain ⟨rfl, rfl, rfl⟩ := hcs
  exact ⟨_, _, _, l, rfl, hr, hs⟩

theorem open_octss {v : Value} {d : DataW H} {p : List MemPlace} {base : Nat} (hv : Value.okWide Try.prog W .any base 117 v) (h : DataW.Trod enc Try.prog W 0 (fun _ => true) true 117 v d p) :
    ∃ A n c ls, v = .slice A n c ∧ RdS octE W W.heap.size A n c ls ∧ Sh (fun d l => ∃ c, Sh isOct d l c) d ls c := by
  obtain ⟨a, len, cap, rfl⟩ := okWide_slice Try.underlying117 hv
  obtain ⟨fuel, hf⟩ := h
  obtain ⟨A, n, c, l, hcs, hr, hs⟩ := open_sls octE isOct (by kernel_rfl) dec_oct Try.underlying117 (by kernel_rfl) hf
  simp [Value.cells] at hcs
  obtain ⟨rfl, rfl, rfl⟩ := hcs
  exact ⟨_, _, _, l, rfl, hr, hs⟩

/-! ### bulk -/
theorem one_le (d : DataW H) : 1 ≤ Rows.uptoBulk d := by
  cases d with
  | lit l => cases l <;> simp [Rows.uptoBulk]
  | nil => simp [Rows.uptoBulk]
  | ptr d => simp [Rows.uptoBulk]
  | slice elems spare => simp [Rows.uptoBulk]
  | agg parts => simp [Rows.uptoBulk]
  | iface t d => simp [Rows.uptoBulk]
  | map entries => simp [Rows.uptoBulk]
  | held h => simp [Rows.uptoBulk]
theorem bulk_length (l : List (DataW H)) : l.length ≤ Rows.uptoBulkAll l := by
  induction l with
  | nil => simp [Rows.uptoBulkAll]
  | cons x r ih => have := one_le x; simp only [Rows.uptoBulkAll, List.length_cons]; omega
theorem bulk_sh {R : DataW H → α → Prop} {d : DataW H} {l : List α} {c : Nat} (h : Sh R d l c) : l.length ≤ Rows.uptoBulk d ∧ c ≤ Rows.uptoBulk d := by
  rcases h with ⟨rfl, rfl, rfl⟩ | ⟨elems, spare, rfl, h1, h2, _⟩
  · simp [Rows.uptoBulk]
  · have h3 := bulk_length elems
    have h4 := bulk_length spare
    simp only [Rows.uptoBulk]
    omega
/-- a measure of each element adds up -/
theorem bulk_sum {R : DataW H → α → Prop} (f : α → Nat) (hf : ∀ d a, R d a → f a ≤ Rows.uptoBulk d) {d : DataW H} {l : List α} {c : Nat} (h : Sh R d l c) : (l.map f).sum ≤ Rows.uptoBulk d := by
  rcases h with ⟨rfl, rfl, _⟩ | ⟨elems, spare, rfl, h1, _, h3⟩
  · simp
  · have key : ∀ (es : List (DataW H)) (l : List α), es.length = l.length → (∀ i (h1 : i < es.length) (h2 : i < l.length), R es[i] l[i]) → (l.map f).sum ≤ Rows.uptoBulkAll es := by
      intro es
      induction es with
      | nil => intro l hl _; have : l = [] := List.eq_nil_of_length_eq_zero hl.symm; subst this; simp
      | cons e es ih =>
        intro l hl hR
        cases l with
        | nil => simp at hl
        | cons a l =>
          have h0 := hf _ _ (hR 0 (by simp) (by simp))
          have h4 := ih l (by simpa using hl) (fun i h1 h2 => hR (i + 1) (by simpa using h1) (by simpa using h2))
          simp only [List.map_cons, List.sum_cons, Rows.uptoBulkAll]
          simp at h0
          omega
    have := key elems l h1 h3
    simp only [Rows.uptoBulk]
    omega
theorem bulk_small {l : List (DataW H)} (hk : Rows.uptoSmall H l = true) : Rows.uptoBulkAll l ≤ 1048576 := of_decide_eq_true hk
end

theorem laidOut : laidOutB Try.prog = true := by kernel_rfl

/-! ### behind the call (the first after the guide's words) -/
section
variable {H : Type} {enc : TypeId × Value → H} {P : Program}
theorem post_of_below {f : Func} {s : ChangeSpec} {apart fresh handsOn again : Bool} {W W' : World} {args : Array Value} {v : Value} {ds gs : List (DataW H)} {before pa pv : List MemPlace}
    (hW : DataW.Whole enc P f.params.toList s.vars apart W args.toList ds gs before)
    (hres : ∀ (b : Nat) (sp : Nat → Bool) (hd : Bool), DataW.TrodAll enc P W' b sp hd f.resultTypes.toList (v.resultList f.resultTypes.size) (s.fn H (ds ++ gs)).results [])
    (hargs : ∀ sp : Nat → Bool, (∀ p ∈ before, sp p.block = true) → DataW.TrodAll enc P W' 0 sp true f.params.toList args.toList (s.fn H (ds ++ gs)).args pa)
    (hvars : ∀ sp : Nat → Bool, (∀ p ∈ before, sp p.block = true) → DataW.TrodVars enc P W' sp s.vars (s.fn H (ds ++ gs)).vars pv)
    (hps : before = pa ++ pv) (hb : Below W.heap.size W W')
    (hok : ∀ (j : Nat) (t : TypeId) (r : Value), f.resultTypes[j]? = some t → (v.resultList f.resultTypes.size)[j]? = some r → Value.okWide P W' .any 0 t r) :
    s.post enc P f apart fresh handsOn again W args v W' := by
  have hlt : ∀ p ∈ before, p.block < W.heap.size := fun p hp => hW.lt p hp
  have hold : ∀ p ∈ before, (fun b => decide (b < W.heap.size)) p.block = true := fun p hp => by simpa using hlt p hp
  refine ⟨ds, gs, before, [], pa, pv, hW, hres _ _ _, hargs _ hold, hvars _ hold, World.keptBut_mono (fun p hp => ⟨hp, ?_⟩) (hb.frame (· ∈ before)), fun _ => ?_⟩
  · rw [hps, List.mem_append] at hp
    exact Or.inr hp
  · obtain ⟨_, _, _, _, _, hz, hn⟩ := hW
    refine ⟨hok, _, _, ([] ++ pa) ++ pv, ⟨[] ++ pa, pv, trodAll_append (hargs _ (fun _ _ => rfl)) (hres _ _ _), hvars _ (fun _ _ => rfl), rfl, ?_, ?_⟩, ?_⟩
    · intro b off hp
      have hin : MemPlace.cell b off ∈ before := by rw [hps]; simpa using hp
      rw [hb.frozen (hlt _ hin)]
      exact hz b off hin
    · intro ha
      have := hn ha
      rw [hps] at this
      simpa using this
    · intro p hp _
      rw [hps]
      simpa using hp
/-- every argument reads as it did -/
theorem all_stays {W W' : World} (hb : Below W.heap.size W W') {sp : Nat → Bool} : ∀ {ts : List TypeId} {vs : List Value} {ds : List (DataW H)} {ps : List MemPlace},
    (∀ t ∈ ts, Try.prog.readableRec t = true ∧ t < Try.prog.types.size) → DataW.TrodAll enc Try.prog W 0 (fun _ => true) true ts vs ds ps → (∀ x ∈ ps, x.block < W.heap.size) → (∀ x ∈ ps, sp x.block = true) →
    DataW.TrodAll enc Try.prog W' 0 sp true ts vs ds ps
  | [], [], [], _, _, h, _, _ => h
  | t :: ts, v :: vs, d :: ds, ps, ht, h, hlt, hsp => by
    obtain ⟨p, q, h1, h2, rfl⟩ := h
    refine ⟨p, q, ?_, all_stays hb (fun t h => ht t (by simp [h])) h2 (fun x hx => hlt x (by simp [hx])) (fun x hx => hsp x (by simp [hx])), rfl⟩
    have := ht t (by simp)
    exact WideElems.Trod_stays laidOut this.1 this.2 h1 (fun x hx => hb.same (hlt x (by simp [hx]))) (fun x hx => hsp x (by simp [hx]))
  | [], _ :: _, _, _, _, h, _, _ => h.elim
  | [], [], _ :: _, _, _, h, _, _ => h.elim
  | _ :: _, [], _, _, _, h, _, _ => h.elim
  | _ :: _, _ :: _, [], _, _, h, _, _ => h.elim
/-- A LAW's END: it returned true, and below the heap's old size nothing has turned -/
theorem law_post {f : Func} {s : ChangeSpec} {apart fresh handsOn again : Bool} {W W' : World} {args : Array Value} {ds : List (DataW H)} {before : List MemPlace}
    (hW : DataW.Whole enc Try.prog f.params.toList s.vars apart W args.toList ds [] before) (hv : s.vars = [])
    (h1 : (s.fn H ds).results = [.lit (.bool true)]) (h2 : (s.fn H ds).args = ds) (h3 : (s.fn H ds).vars = [])
    (hr : f.resultTypes = #[4]) (hp : f.params.toList.all (fun t => Try.prog.readableRec t && decide (t < Try.prog.types.size)) = true) (hb : Below W.heap.size W W') :
    s.post enc Try.prog f apart fresh handsOn again W args (.bool true) W' := by
  have hlt : ∀ p ∈ before, p.block < W.heap.size := fun p hp => hW.lt p hp
  have hW2 := hW
  obtain ⟨p, q, hA, hV, hpq, _, _⟩ := hW2
  rw [hv] at hV
  obtain ⟨_, rfl⟩ := trodVars_none hV
  rw [List.append_nil] at hpq
  subst hpq
  have hp' : ∀ t ∈ f.params.toList, Try.prog.readableRec t = true ∧ t < Try.prog.types.size := fun t ht => by
    have := List.all_eq_true.1 hp t ht
    simpa using this
  refine post_of_below (pa := before) (pv := []) hW (fun _ _ _ => ?_) (fun sp hsp => ?_) (fun sp _ => ?_) (by simp) hb (ok_one hr rfl (okWide_bool_mk Try.underlying4 _))
  · rw [List.append_nil, h1, hr]
    exact trodAll_cons_mk (shut_bool Try.underlying4 _) trodAll_mk0
  · rw [List.append_nil, h2]
    exact all_stays hb hp' hA hlt hsp
  · rw [List.append_nil, h3, hv]
    exact rfl
end
end Go.Proofs.Ytihblcljkndpgaa.Open
