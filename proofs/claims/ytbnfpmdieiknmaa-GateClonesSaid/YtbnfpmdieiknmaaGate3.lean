/- gate: what was not undone, a clone; by parts of memory. -/
import Derived.Test.YtbnfpmdieiknmaaGate2
import Derived.Laws.Externs
import Derived.MapKept
namespace Go.Proofs.Ytbnfpmdieiknmaa.Sep
open Go.RowKit Go.Proofs.Ytbnfpmdieiknmaa.Reg
open Go.Proofs.Ytbnfpmdieiknmaa.Mem hiding Rd Own
-- types: reqT op30T
-- recs: idnT_rec effT_rec keyT_rec reqT_rec op30T_rec gate_rec book_rec
-- eqs: idnT_eqa effT_eqa keyT_eqa reqT_eqa
-- funcs
-- maps
set_option maxRecDepth 100000
set_option maxHeartbeats 8000000
section
variable {E : Env} {H H' R : List Asn} {N : Nat} {F : Nat → Value} {o : Oper} {ρ : Operand → Value} {m : Option Nat} {ks : List Keyv}
theorem V.mkIfaceM {t k e : TypeId} {x : Operand} {v : Value} {u : World} (ho : o.op = .makeInterface t x) (hx : ρ x = v) (ht : Try.prog.underlying t = some (.map k e)) : (execOp ρ o).run Try.prog u = .ok (.value (.iface t v)) u := by
  simp [execOp, ho, hx, Instr.makeInterface, run_underlying ht]
theorem V.assertM {t xT k e : TypeId} {x : Operand} {v : Value} {u : World} (ho : o.op = .typeAssert x xT t false) (hx : ρ x = .iface t v) (ht : Try.prog.underlying t = some (.map k e)) : (execOp ρ o).run Try.prog u = .ok (.value v) u := by
  simp [execOp, ho, hx, Instr.typeAssert, run_underlying ht, Result.andThen]
theorem S.cloneExt {f : FuncId} {fn : Func} {t : TypeId} {x : Operand} {tys : Array TypeId} {g : Nat} (ho : o.op = .call { callee := .value (.func f), args := #[x], argTypes := tys }) (hx : ev F x = .iface t (.map (some g)))
    (hf : Try.prog.funcs[f]? = some fn) (hname : (fn.name == "runtime.NumGoroutine") = false) (hb : fn.body.isNone = true) (hn : Extern.findNext fn = none) (he : Extern.find fn = some Extern.MapsClone.clone) (hm : Has (mpA (some g) ks) H R) :
    Stp Try.prog N E F H o fun r H1 => ∃ g', r = .iface t (.map (some g')) ∧ H1 = mpA (some g') ks :: H := by
  intro a u ha hu Kw Q' hK
  obtain ⟨F0, ⟨_, h1⟩, _⟩ := hu.has hm
  have hcl : (Extern.MapsClone.clone #[.iface t (.map (some g))]).run Try.prog u = .ok (.iface t (.map (some u.heap.size))) (u.alloc (.map (mes ks) ks.length)) := by
    have e : Extern.MapsClone.clone #[.iface t (.map (some g))] = (getObj g >>= fun o => match o with
      | .map entries clock => (newObj (.map entries clock) >>= fun n => pure (.iface t (.map (some n))))
      | _ => stuck "maps.clone: a map expected") := rfl
    rw [e]
    simp [MapKept.run_getObj_map h1, Result.andThen, go_sem]
  have hrun : (execOp (ev F) o).run Try.prog u = .ok (.value (.iface t (.map (some u.heap.size)))) (u.alloc (.map (mes ks) ks.length)) := by
    have hcall := run_callFunc_extern (P := Try.prog) hf hname hb hn he #[.iface t (.map (some g))] u
    rw [hcl] at hcall
    have hx' : ev F (.func f) = .func (.func f) #[] #[] := rfl
    unfold execOp
    simp only [ho, resolve, hx', hx, Deferred.ofValue, invoke, Sem.run_bind, Sem.run_pure, Result.andThen_ok, List.map_toArray, List.map_cons, List.map_nil]
    simpa using hcall
  unfold Oper.wp
  rw [ha.eval, hrun]
  refine hK _ _ _ ⟨_, rfl, rfl⟩ ?_
  exact hu.grow (l := [mpA (some u.heap.size) ks]) rfl rfl rfl (by simp) (fun b hb => Below.heap_alloc _ _ _ hb) (F1 := fun b => b = u.heap.size) ⟨_, fun _ => False, fun b => by simp, fun b _ h => h, ⟨fun b => Iff.rfl, heap_alloc_new _ _⟩, fun b h => h⟩ (fun b hb => by omega)
end
section
variable (E : Env) (g : Nat) (m : Option Nat) (A : Option Addr) (n c : Nat) (r : Int) (l : List Req)
theorem mclone (ks : List Keyv) : Tri Try.prog E 75 #[.map m] [mpA m ks] fun e H' => ∃ m', e = .returned (.map m') ∧ (m' = none → m = none) ∧ H' = [mpA m' ks, mpA m ks] := by
  refine tri Try.func75 rfl Try.ntmps75 (by simp) ?_
  cases m with
  | none =>
    refine C.conv (H' := [mpA none ks, mpA none ks]) (fun w hw => ?_) ?_
    · obtain ⟨F, ⟨rfl, _⟩, _⟩ := hw.has (R := []) Has.here
      exact Conv.mp0 w hw
    repeat (first | refine wG30 ?_ | (refine kG30 ?_; (first | rintro _ _ ⟨rfl, rfl⟩ | rintro _ _ ⟨_, rfl, rfl⟩ | rintro _ _ ⟨_, _, ⟨_, _⟩, rfl, rfl⟩); try refine ⟨sConv, ?_⟩) | refine Dr.two ?_ ?_)
    exact ret1 rfl sRet sConv (⟨none, rfl, fun _ => rfl, rfl⟩)
  | some g2 =>
    repeat (first | refine wG30 ?_ | (refine kG30 ?_; (first | rintro _ _ ⟨rfl, rfl⟩ | rintro _ _ ⟨_, rfl, rfl⟩ | rintro _ _ ⟨_, _, ⟨_, _⟩, rfl, rfl⟩); try refine ⟨sConv, ?_⟩) | refine Dr.two ?_ ?_)
    refine L.val (by decide) (fun _ _ => V.mkIfaceM rfl rfl rfl) ?_
    refine L.stepK (by decide) (S.cloneExt rfl rfl Try.func87 (by kernel_rfl) (by kernel_rfl) (by kernel_rfl) (by kernel_rfl) sHas) ?_
    rintro _ _ ⟨g3, rfl, rfl⟩
    refine L.val (by decide) (fun _ _ => V.assertM rfl rfl rfl) ?_
    repeat (first | refine wG30 ?_ | (refine kG30 ?_; (first | rintro _ _ ⟨rfl, rfl⟩ | rintro _ _ ⟨_, rfl, rfl⟩ | rintro _ _ ⟨_, _, ⟨_, _⟩, rfl, rfl⟩); try refine ⟨sConv, ?_⟩) | refine Dr.two ?_ ?_)
    exact ret1 rfl sRet sConv (⟨some g3, rfl, fun h => (by cases h), rfl⟩)
theorem gclone (hs : G30 m n c r l) (hl : n ≤ 1000) : Tri Try.prog E 48 #[.pointer (some ⟨g, 0, none⟩)] (gst g m A n c r l) fun e H' => ∃ g' m' A' c', e = .returned (.pointer (some ⟨g', 0, none⟩)) ∧ G30 m' n c' r l ∧ H' = [gt g' m' A' n c' r, mpA m' (l.map Req.key), own reqT A' n c' l, gt g m A n c r, mpA m (l.map Req.key), own reqT A n c l] := by
  unfold gst
  refine tri Try.func48 rfl Try.ntmps48 (by simp) ?_
  repeat (first | refine wG30 ?_ | (refine kG30 ?_; (first | rintro _ _ ⟨rfl, rfl⟩ | rintro _ _ ⟨_, rfl, rfl⟩ | rintro _ _ ⟨_, _, ⟨_, _⟩, rfl, rfl⟩); try refine ⟨sConv, ?_⟩) | refine Dr.two ?_ ?_)
  refine C.regionA 100000 (.one 0 false (.one 1 false (.one 2 false (.one 3 false (.one 5 false (.one 7 false (.one 8 false (.one 9 false (.one 10 false (.one 4 true (.one 6 true (.one 11 false (.one 12 true (.one 13 false .nil)))))))))))))) _ (by kernel_rfl) (by kernel_rfl) Conv.refl ?_
  repeat (first | refine wG30 ?_ | (refine kG30 ?_; (first | rintro _ _ ⟨rfl, rfl⟩ | rintro _ _ ⟨_, rfl, rfl⟩ | rintro _ _ ⟨_, _, ⟨_, _⟩, rfl, rfl⟩); try refine ⟨sConv, ?_⟩) | refine Dr.two ?_ ?_)
  refine Dr.go rfl (by rintro k ⟨⟩ <;> decide) sGon (S.call rfl rfl Try.func75 (by kernel_rfl) rfl sPicks (fun E' hE => mclone E' m (l.map Req.key)) ?_)
  rintro e H' ⟨m', rfl, hm', rfl⟩
  refine ⟨_, rfl, _, sCat, sConv, ?_⟩
  repeat (first | refine wG30 ?_ | (refine kG30 ?_; (first | rintro _ _ ⟨rfl, rfl⟩ | rintro _ _ ⟨_, rfl, rfl⟩ | rintro _ _ ⟨_, _, ⟨_, _⟩, rfl, rfl⟩); try refine ⟨sConv, ?_⟩) | refine Dr.two ?_ ?_)
  refine Dr.go rfl (by rintro k ⟨⟩ <;> decide) sGon (S.call rfl rfl Try.func38 (by kernel_rfl) rfl sPicks (fun E' hE => gapplied E' g m A n c r l sRd hl) ?_)
  rintro e H' ⟨A', c', rfl, hc', rfl⟩
  refine ⟨_, rfl, _, sCat, sConv, ?_⟩
  repeat (first | refine wG30 ?_ | (refine kG30 ?_; (first | rintro _ _ ⟨rfl, rfl⟩ | rintro _ _ ⟨_, rfl, rfl⟩ | rintro _ _ ⟨_, _, ⟨_, _⟩, rfl, rfl⟩); try refine ⟨sConv, ?_⟩) | refine Dr.two ?_ ?_)
  rename_i g9
  exact ret1 rfl sRet sConv (⟨g9, m', A', c', rfl, ⟨hs.hn, hc', fun h => hs.hm (hm' h), hs.hr⟩, rfl⟩)
theorem gidx0 (fv : Value) : Tri Try.prog E 88 #[.slice none 0 0, fv] [] fun e H' => e = .returned (.int .i64 (-1)) ∧ H' = [] := by
  refine tri Try.func88 rfl Try.ntmps88 (by simp) ?_
  repeat (first | refine wG30 ?_ | (refine kG30 ?_; (first | rintro _ _ ⟨rfl, rfl⟩ | rintro _ _ ⟨_, rfl, rfl⟩ | rintro _ _ ⟨_, _, ⟨_, _⟩, rfl, rfl⟩); try refine ⟨sConv, ?_⟩) | refine Dr.two ?_ ?_)
  refine C.loop (X := Unit) (fun _ => [(7, .int .i64 0), (8, .int .i64 0)]) (fun _ => []) (fun _ => True) (fun _ => 0) () sHolds Conv.refl trivial ?_
  rintro ⟨⟩ G -
  repeat (first | refine wG30 ?_ | (refine kG30 ?_; (first | rintro _ _ ⟨rfl, rfl⟩ | rintro _ _ ⟨_, rfl, rfl⟩ | rintro _ _ ⟨_, _, ⟨_, _⟩, rfl, rfl⟩); try refine ⟨sConv, ?_⟩) | refine Dr.two ?_ ?_)
  exact ret1 rfl sRet sConv (⟨rfl, rfl⟩)
theorem gnet_nil : Tri Try.prog E 50 #[.pointer none] [] fun e H' => e = .returned (.slice none 0 0) ∧ H' = [] := by
  refine tri Try.func50 rfl Try.ntmps50 (by simp) ?_
  repeat (first | refine wG30 ?_ | (refine kG30 ?_; (first | rintro _ _ ⟨rfl, rfl⟩ | rintro _ _ ⟨_, rfl, rfl⟩ | rintro _ _ ⟨_, _, ⟨_, _⟩, rfl, rfl⟩); try refine ⟨sConv, ?_⟩) | refine Dr.two ?_ ?_)
  refine L.step (by decide) (S.call rfl rfl Try.func38 (by kernel_rfl) rfl sPicks (fun E' hE => gapplied_nil E') ?_)
  rintro e H' ⟨rfl, rfl⟩
  refine ⟨_, rfl, _, sCat, ?_⟩
  repeat (first | refine wG30 ?_ | (refine kG30 ?_; (first | rintro _ _ ⟨rfl, rfl⟩ | rintro _ _ ⟨_, rfl, rfl⟩ | rintro _ _ ⟨_, _, ⟨_, _⟩, rfl, rfl⟩); try refine ⟨sConv, ?_⟩) | refine Dr.two ?_ ?_)
  have hdel : ∀ E' fv, Tri Try.prog E' 76 #[.slice none 0 0, fv] [] fun e H' => e = .returned (.slice none 0 0) ∧ H' = [] := by
    intro E2 fv
    refine tri Try.func76 rfl Try.ntmps76 (by simp) ?_
    repeat (first | refine wG30 ?_ | (refine kG30 ?_; (first | rintro _ _ ⟨rfl, rfl⟩ | rintro _ _ ⟨_, rfl, rfl⟩ | rintro _ _ ⟨_, _, ⟨_, _⟩, rfl, rfl⟩); try refine ⟨sConv, ?_⟩) | refine Dr.two ?_ ?_)
    refine L.step (by decide) (S.call rfl rfl Try.func88 (by kernel_rfl) rfl sPicks (fun E' hE => gidx0 E' fv) ?_)
    rintro e H' ⟨rfl, rfl⟩
    refine ⟨_, rfl, _, sCat, ?_⟩
    repeat (first | refine wG30 ?_ | (refine kG30 ?_; (first | rintro _ _ ⟨rfl, rfl⟩ | rintro _ _ ⟨_, rfl, rfl⟩ | rintro _ _ ⟨_, _, ⟨_, _⟩, rfl, rfl⟩); try refine ⟨sConv, ?_⟩) | refine Dr.two ?_ ?_)
    exact ret1 rfl sRet sConv (⟨rfl, rfl⟩)
  refine L.step (by decide) (S.call rfl rfl Try.func76 (by kernel_rfl) rfl sPicks (fun E' hE => hdel E' _) ?_)
  rintro e H' ⟨rfl, rfl⟩
  refine ⟨_, rfl, _, sCat, ?_⟩
  repeat (first | refine wG30 ?_ | (refine kG30 ?_; (first | rintro _ _ ⟨rfl, rfl⟩ | rintro _ _ ⟨_, rfl, rfl⟩ | rintro _ _ ⟨_, _, ⟨_, _⟩, rfl, rfl⟩); try refine ⟨sConv, ?_⟩) | refine Dr.two ?_ ?_)
  exact ret1 rfl sRet sConv (⟨rfl, rfl⟩)
abbrev netL (l : List Req) : List Req := l.filter fun q => !lostP (l.map Req.key) q
theorem gnet (hs : G30 m n c r l) (hl : n ≤ 1000) : Tri Try.prog E 50 #[.pointer (some ⟨g, 0, none⟩)] (gst g m A n c r l) fun e H' => ∃ A' n' c', e = .returned (.slice A' n' c') ∧ n' = (netL l).length ∧ H' = [own reqT A' n' c' (netL l), gt g m A n c r, mpA m (l.map Req.key), own reqT A n c l] := by
  unfold gst
  refine tri Try.func50 rfl Try.ntmps50 (by simp) ?_
  repeat (first | refine wG30 ?_ | (refine kG30 ?_; (first | rintro _ _ ⟨rfl, rfl⟩ | rintro _ _ ⟨_, rfl, rfl⟩ | rintro _ _ ⟨_, _, ⟨_, _⟩, rfl, rfl⟩); try refine ⟨sConv, ?_⟩) | refine Dr.two ?_ ?_)
  refine L.step (by decide) (S.call rfl rfl Try.func38 (by kernel_rfl) rfl sPicks (fun E' hE => gapplied E' g m A n c r l sRd hl) ?_)
  rintro e H' ⟨A', c', rfl, hc', rfl⟩
  refine ⟨_, rfl, _, sCat, ?_⟩
  repeat (first | refine wG30 ?_ | (refine kG30 ?_; (first | rintro _ _ ⟨rfl, rfl⟩ | rintro _ _ ⟨_, rfl, rfl⟩ | rintro _ _ ⟨_, _, ⟨_, _⟩, rfl, rfl⟩); try refine ⟨sConv, ?_⟩) | refine Dr.two ?_ ?_)
  refine L.step (by decide) (S.call rfl rfl Try.func76 (by kernel_rfl) rfl sPicks (fun E' hE => gdel E' g m A' n c' l hs.hn hc' hl A n c r (l.map Req.key)) ?_)
  rintro e H' ⟨n', rfl, -, hn', rfl⟩
  refine ⟨_, rfl, _, sCat, ?_⟩
  repeat (first | refine wG30 ?_ | (refine kG30 ?_; (first | rintro _ _ ⟨rfl, rfl⟩ | rintro _ _ ⟨_, rfl, rfl⟩ | rintro _ _ ⟨_, _, ⟨_, _⟩, rfl, rfl⟩); try refine ⟨sConv, ?_⟩) | refine Dr.two ?_ ?_)
  exact ret1 rfl sRet sConv (⟨A', n', c', rfl, hn', rfl⟩)
end
end Go.Proofs.Ytbnfpmdieiknmaa.Sep
