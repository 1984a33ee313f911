/- 'TopRefines' of any input returns true: the row's step out of the walk. No condition. -/
import Derived.Test.YtmilalkjbojciaaGreatRAA
import Derived.Test.YtmilalkjbojciaaGreatRBC
import Derived.Test.YtmilalkjbojciaaGreatRBB
import Derived.JoinedCond
set_option maxRecDepth 100000
set_option maxHeartbeats 8000000
open Go.Proofs.Tryz
namespace Go.Proofs.YtmilalkjbojciaaGreat.RO
open Go.ChangeShapes Go.WideShapes Go.ChangeAt Go.RowKit Go.Proofs.YtmilalkjbojciaaGreat.Open Go.Proofs.YtmilalkjbojciaaGreat.Sep
theorem own:ownKnob prog.godebug=none:=q_
theorem QK(H:Type)(enc:TypeId×Value→H)(W:World)(base:Nat)(args:Array Value)(ds gs:List (DataW H))(before:List MemPlace)
  (hval:∀(j:Nat) t v,Tryz.f5.params[j]?=some t→args[j]?=some v→Value.okWide prog W .any base t v)
  (hW:DataW.Whole enc prog Tryz.f5.params.toList Rows.topRefinesSpec.vars false W args.toList ds gs before) :
  Calls prog 5 args W λe W'=>∃v,e=.returned v∧Rows.topRefinesSpec.post enc prog Tryz.f5 false true false false W args v W':=by
 have hW':=hW;obtain⟨p,q,hA0,hV,rfl,hfz,hnd⟩:=hW;have hA:DataW.TrodAll enc prog W 0 (λ_=>true) true Tryz.f5.params.toList args.toList ds p:=hA0;rw[Tryz.params5] at hA hval;obtain⟨v0,vs0,d0,ds0,p0,q0,hargs,rfl,rfl,h0,r0⟩:=trodAll_cons hA;obtain⟨v1,vs1,d1,ds1,p1,q1,rfl,rfl,rfl,h1,r1⟩:=trodAll_cons r0;obtain⟨rfl,rfl,rfl⟩:=trodAll_nil r1;obtain rfl:args=#[v0,v1]:=by cases args;simp_all
 obtain⟨rfl,rfl⟩:=trodVars_none hV;obtain⟨x0,rfl,hs0⟩:=LM (hval 0 23 v0 rfl rfl) h0;obtain⟨A1,n1,c1,l1,rfl,hr1,hs1⟩:=Jm (hval 1 64 v1 rfl rfl) h1;clear hA0;simp only[aAc] at hW';refine(RD (RO (top W) x0 A1 n1 c1 l1 hr1 (Vo hs1))).mono λe W' ⟨he,hb⟩=>?_;subst he;exact⟨_,rfl,Na hW' rfl rfl rfl rfl q_ q_ hb⟩
theorem lifted(os:Os)(started:os.Started)(H:Type)(enc:TypeId×Value→H) :
  ReturnsInHanded {} Tryz.checked os 5 .any (Rows.topRefinesSpec.pre6 enc prog Tryz.f5 Rows.topRefinesRow.domain false) (Rows.topRefinesSpec.post enc prog Tryz.f5 false true false false):=by
 refine returnsInHanded_of_change (C:=Tryz.checked) own started q_ func5
  (ChangeSpec.witness6 (enc:=enc) (C:=Tryz.checked) false ⟨#[],#[.agg #[.int .i64 0,.int .i64 0,.int .i64 0,.int .i64 0,.int .i64 0],.slice none 0 0],[]⟩ 8 q_ q_ q_ q_) ?_
 intro W base args ds gs before hval hW _ _;exact QK H enc W base args ds gs before hval hW
theorem k1:Rows.topRefinesRow.wf (OpenSpec.ofChange Rows.topRefinesSpec)=true:=q_
theorem k2:laidOutB prog=true:=q_
theorem k3:mapsRowed prog=true:=q_
theorem k4:Tryz.f5.params.all (prog.readableRec ·)=true:=q_
theorem k5:namedTie prog Rows.topRefinesRow.named Rows.topRefinesSpec.vars=true:=q_
theorem k6:(Rows.topRefinesRow.stops == [])=true:=q_
theorem k7:(prog.stops == [])=true:=q_
theorem k8:(Rows.topRefinesRow.knobs == [])=true:=q_
theorem k9:(prog.stopKnobs == [])=true:=q_
theorem z8:(Rows.topRefinesRow.inPlace == prog.inPlace 5)=true:=q_
theorem s7:(Rows.topRefinesRow.unfollowed == prog.unfollowed 5)=true:=q_
theorem u0:(Rows.topRefinesRow.recurses == prog.recurses 5)=true:=q_
theorem k13:(Rows.topRefinesRow.named == prog.varsNamed 5)=true:=q_
theorem x5:(Rows.topRefinesRow.maps == (Tryz.f5.params.toList++Rows.topRefinesSpec.plain.varTypes prog).any (prog.mapsRec ·))=true:=q_
theorem o9:(Rows.topRefinesRow.ifaces == (Tryz.f5.params.toList++Rows.topRefinesSpec.plain.varTypes prog).any (prog.ifacesRec ·))=true:=q_
theorem r5:(Rows.topRefinesRow.mapsOut == prog.mapsAmong Tryz.f5.resultTypes.toList)=true:=q_
theorem v9:(Rows.topRefinesRow.loops == (Tryz.f5.params.toList++Rows.topRefinesSpec.plain.varTypes prog).any (prog.loopsFrom ·))=true:=q_
theorem z9:(Rows.topRefinesRow.wideKeys == (Tryz.f5.params.toList++Rows.topRefinesSpec.plain.varTypes prog++Tryz.f5.resultTypes.toList).any (prog.wideKeysFrom ·))=true:=q_
theorem s6:Rows.topRefinesSpec.vars.all (prog.varReadable ·)=true:=q_
theorem Vf:Tryz.f5.resultTypes.all (λt=>prog.readableRec t&&decide (t<prog.types.size))=true:=q_
theorem y7:(Rows.topRefinesRow.ifacesOut == Tryz.f5.resultTypes.toList.any (prog.ifacesRec ·))=true:=q_
theorem r9:(Rows.topRefinesRow.loopsOut == Tryz.f5.resultTypes.toList.any (prog.loopsFrom ·))=true:=q_
theorem x9:(Rows.topRefinesRow.plainKeys == prog.plainKeys)=true:=q_
theorem k24:Rows.topRefinesRow.shortTexts.isNone=true:=q_
theorem k25:prog.stopsHeard=true:=q_
theorem v7:prog.mayEnter=true:=q_
theorem r8:(Rows.topRefinesRow.lifted == prog.liftsFinal)=true:=q_
theorem u3:(prog.make == some Rows.topRefinesRow.make)=true:=q_
theorem y9:(Rows.topRefinesRow.kinds == (if Rows.topRefinesRow.domain.isEmpty then[] else Tryz.f5.params.toList.map λt=>match prog.underlying t with|some (.int k)=>some k|_=>none))=true:=q_
theorem u9:(Rows.topRefinesRow.pinned == Rows.topRefinesRow.pinnedBy)=true:=q_
theorem s9:(Rows.topRefinesRow.veiled == (Tryz.f5.params.toList++Rows.topRefinesSpec.plain.varTypes prog++Tryz.f5.resultTypes.toList).any (prog.veiledRec ·))=true:=q_
theorem v8:Rows.topRefinesRow.veiledFits prog Tryz.f5.params.toList (Tryz.f5.params.toList++Rows.topRefinesSpec.plain.varTypes prog++Tryz.f5.resultTypes.toList)=true:=q_
theorem kI{a b:Bool}(h:a=true)(k:b=true):(a&&b)=true:=by rw[h,k];rfl
theorem closed:joinedFacts prog 5 Tryz.f5 Rows.topRefinesSpec Rows.topRefinesRow=true:=(kI (kI (kI (kI (kI (kI (kI (kI (kI (kI (kI (kI (kI (kI (kI (kI (kI (kI (kI (kI (kI (kI (kI (kI (kI (kI (kI (kI (kI (kI (kI k1 k2) k3) k4) k5) k6) k7) k8) k9) z8) s7) u0) k13) x5) o9) r5) v9) z9) s6) Vf) y7) r9) x9) k24) k25) v7) r8) u3) y9) u9) s9) v8)
theorem called:prog.funcNamed Rows.topRefinesRow.func=some 5:=q_
theorem proved:Rows.TopRefinesSaid :=
 OpenClaim.holds_of_wide 5 Tryz.f5 rfl rfl rfl rfl rfl rfl rfl ⟨rfl,rfl,rfl,rfl,rfl⟩ rfl rfl rfl rfl rfl called func5 closed
  (of_decide_eq_true q_) (by unfold Func.isWrapper;first|(rw[if_pos (by decide +kernel)];kernel_rfl)|(rw[if_neg (by decide +kernel)];exact⟨rfl,rfl⟩))
  (λos started H enc _=>lifted os started H enc)
#print axioms proved
end Go.Proofs.YtmilalkjbojciaaGreat.RO
