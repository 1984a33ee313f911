/- Part BC: what it needs. No condition. -/
import Derived.Test.YtmilalkjbojciaaGreatRAA
import Derived.Deep.Slices
import Derived.Deep.CondSized
import Derived.SizedLaws
import Derived.Carry
import Derived.Test.YtmilalkjbojciaaGreatRAE
import Derived.Deep.Fields
import Derived.Test.YtmilalkjbojciaaGreatRBA
set_option maxRecDepth 100000
set_option maxHeartbeats 8000000
open Go.Proofs.Tryz
namespace Go.Proofs.YtmilalkjbojciaaGreat.Open
open Go.RowKit Mem Go.ChangeShapes Go.WideShapes Go.ChangeAt Go.Deep
def Sh{H α:Type}(R:DataW H→α→Prop)(d:DataW H)(l:List α)(c:Nat):Prop :=
 (d=.nil∧l=[]∧c=0)∨∃elems spare,d=.slice elems spare∧elems.length=l.length∧elems.length+spare.length=c∧∀i (h1:i<elems.length) (h2:i<l.length),R elems[i] l[i]
section
variable {H:Type} {enc:TypeId×Value→H} {W:World} {α:Type}
theorem cells?_len{w:World}{base:Nat}{a:Addr}{n:Nat}{cs:List Value}(h:w.cells? base a n=some cs):cs.length=n∧∀j u,cs[j]?=some u→w.cell? (a.add j)=some u:=by
 unfold World.cells? at h;split at h
 ·have h2:∀(l:List Nat) (cs:List Value),l.mapM (λi=>w.cell? (a.add i))=some cs→cs.length=l.length∧∀(j:Nat) (u:Value) (i:Nat),cs[j]?=some u→l[j]?=some i→w.cell? (a.add i)=some u:=by
   intro l
   induction l with
   |nil=>intro cs h;simp at h;subst h;simp
   |cons x l ih =>
    intro cs h;rw[List.mapM_cons] at h;obtain⟨v,h3,h4⟩:=Option.bind_eq_some_iff.1 h;obtain⟨vs,h5,h6⟩:=Option.bind_eq_some_iff.1 h4;injection h6 with h6
    subst h6;obtain⟨h7,h8⟩:=ih vs h5;refine⟨by simp[h7],λj u i hj hi=>?_⟩;cases j with
    |zero=>simp at hj hi;subst hj;subst hi;exact h3
    |succ j=>simp at hj hi;exact h8 j u i hj hi
  obtain⟨h3,h4⟩:=h2 _ _ h;refine⟨by simpa using h3,λj u hj=>h4 j u j hj ?_⟩;have:j<cs.length:=(aAd.1 hj).1;rw[List.getElem?_range];simpa using(h3▸this:j<(List.range n).length)
 ·cases h
theorem Ag{Q:Nat→α→Prop}:∀n,(∀i,i<n→∃b,Q i b)→∃l:List α,l.length=n∧∀i (hi:i<l.length),Q i l[i]
 |0,_=>⟨[],rfl,λi hi=>absurd hi (by simp)⟩
 |n+1,h=>by
  obtain⟨l,hl,hq⟩:=Ag n (λi hi=>h i o_);obtain⟨b,hb⟩:=h n o_;refine⟨l++[b],by simp[hl],λi hi=>?_⟩;by_cases hlt:i<l.length
  ·rw[List.getElem_append_left hlt];exact hq i hlt
  ·have:i=n:=by simp at hi;omega
   subst this;rw[List.getElem_append_right o_];simpa [hl] using hb
end
theorem laidOut:laidOutB prog=true:=q_
section
variable {H:Type} {enc:TypeId×Value→H} {P:Program}
theorem C8{f:Func}{s:ChangeSpec}{apart fresh handsOn again:Bool}{W W':World}{args:Array Value}{v:Value}{ds gs:List (DataW H)}{before pa pv:List MemPlace}
  (hW:DataW.Whole enc P f.params.toList s.vars apart W args.toList ds gs before)
  (hres:∀(b:Nat) (sp:Nat→Bool) (hd:Bool),DataW.TrodAll enc P W' b sp hd f.resultTypes.toList (v.resultList f.resultTypes.size) (s.fn H (ds++gs)).results [])
  (hargs:∀sp:Nat→Bool,(∀p∈before,sp p.block=true)→DataW.TrodAll enc P W' 0 sp true f.params.toList args.toList (s.fn H (ds++gs)).args pa)
  (hvars:∀sp:Nat→Bool,(∀p∈before,sp p.block=true)→DataW.TrodVars enc P W' sp s.vars (s.fn H (ds++gs)).vars pv)
  (hps:before=pa++pv) (hb:Below W.heap.size W W')
  (hok:∀(j:Nat) (t:TypeId) (r:Value),f.resultTypes[j]?=some t→(v.resultList f.resultTypes.size)[j]?=some r→Value.okWide P W' .any 0 t r) :
  s.post enc P f apart fresh handsOn again W args v W':=by
 have hlt:∀p∈before,p.block<W.heap.size:=λp hp=>hW.lt p hp;have hold:∀p∈before,(λb=>decide (b<W.heap.size)) p.block=true:=λp hp=>by simpa using hlt p hp
 refine⟨ds,gs,before,[],pa,pv,hW,hres _ _ _,hargs _ hold,hvars _ hold,World.keptBut_mono (λp hp=>⟨hp,?_⟩) (hb.frame (· ∈ before)),λ_=>?_⟩
 ·rw[hps,aBg] at hp;exact Or.inr hp
 ·obtain⟨_,_,_,_,_,hz,hn⟩:=hW;refine⟨hok,_,_,([]++pa)++pv,⟨[]++pa,pv,trodAll_append (hargs _ (λ_ _=>rfl)) (hres _ _ _),hvars _ (λ_ _=>rfl),rfl,?_,?_⟩,?_⟩
  ·intro b off hp;have hin:MemPlace.cell b off∈before:=by rw[hps];simpa using hp
   rw[hb.frozen (hlt _ hin)];exact hz b off hin
  ·intro ha;have:=hn ha;rw[hps] at this;simpa using this
  ·intro p hp _;rw[hps];simpa using hp
theorem DQ{W W':World}(hb:Below W.heap.size W W'){sp:Nat→Bool}:∀ {ts:List TypeId} {vs:List Value} {ds:List (DataW H)} {ps:List MemPlace},
  (∀t∈ts,prog.readableRec t=true∧t<prog.types.size)→DataW.TrodAll enc prog W 0 (λ_=>true) true ts vs ds ps→(∀x∈ps,x.block<W.heap.size)→(∀x∈ps,sp x.block=true) →
  DataW.TrodAll enc prog W' 0 sp true ts vs ds ps
 | [],[],[],_,_,h,_,_=>h
 |t::ts,v::vs,d::ds,ps,ht,h,hlt,hsp=>by
  obtain⟨p,q,h1,h2,rfl⟩:=h;refine⟨p,q,?_,DQ hb (λt h=>ht t (by simp[h])) h2 (λx hx=>hlt x (by simp[hx])) (λx hx=>hsp x (by simp[hx])),rfl⟩;have:=ht t (by simp);exact WideElems.Trod_stays laidOut this.1 this.2 h1 (λx hx=>hb.same (hlt x (by simp[hx]))) (λx hx=>hsp x (by simp[hx]))
 | [],_::_,_,_,_,h,_,_=>h.elim
 | [],[],_::_,_,_,h,_,_=>h.elim
 |_::_,[],_,_,_,h,_,_=>h.elim
 |_::_,_::_,[],_,_,h,_,_=>h.elim
theorem Na{f:Func}{s:ChangeSpec}{apart fresh handsOn again:Bool}{W W':World}{args:Array Value}{ds:List (DataW H)}{before:List MemPlace}
  (hW:DataW.Whole enc prog f.params.toList s.vars apart W args.toList ds [] before) (hv:s.vars=[])
  (h1:(s.fn H ds).results=[.lit (.bool true)]) (h2:(s.fn H ds).args=ds) (h3:(s.fn H ds).vars=[])
  (hr:f.resultTypes=#[4]) (hp:f.params.toList.all (λt=>prog.readableRec t&&decide (t<prog.types.size))=true) (hb:Below W.heap.size W W') :
  s.post enc prog f apart fresh handsOn again W args (.bool true) W':=by
 have hlt:∀p∈before,p.block<W.heap.size:=λp hp=>hW.lt p hp;have hW2:=hW;obtain⟨p,q,hA,hV,hpq,_,_⟩:=hW2;rw[hv] at hV;obtain⟨_,rfl⟩:=trodVars_none hV;rw[aAc] at hpq;subst hpq;have hp':∀t∈f.params.toList,prog.readableRec t=true∧t<prog.types.size:=λt ht=>by
  have:=aDm.1 hp t ht;simpa using this
 refine C8 (pa:=before) (pv:=[]) hW (λ_ _ _=>?_) (λsp hsp=>?_) (λsp _=>?_) (by simp) hb (ok_one hr rfl (okWide_bool_mk underlying4 _))
 ·rw[aAc,h1,hr];exact trodAll_cons_mk (shut_bool underlying4 _) trodAll_mk0
 ·rw[aAc,h2];exact DQ hb hp' hA hlt hsp
 ·rw[aAc,h3,hv];exact rfl
end
end Go.Proofs.YtmilalkjbojciaaGreat.Open
namespace Go.Proofs.YtmilalkjbojciaaGreat.Sep
open Go.RowKit Reg Go.ChangeShapes Go.WideShapes Go.ChangeAt Go.Deep Go.Proofs.YtmilalkjbojciaaGreat.Open
open Mem hiding Rd
def top(W:World):Env:={ w:=W,D:=λb=>b<W.heap.size }
theorem RD{P:Program}{f:FuncId}{args:Array Value}{W:World}(h:aK P (top W) f args [] λe _=>e=.returned (.bool true)) :
  Calls P f args W λe W'=>e=.returned (.bool true)∧Below W.heap.size W W' :=
 (h rfl W ⟨rfl,rfl,rfl,aAf _,λ_ h=>h,λ_ _=>rfl,λ_=>False,λ_ h=>h,λ_ _ h=>h⟩).mono λ_ _ ⟨_,hs,he⟩=>⟨he,hs.os,hs.tape,hs.output,hs.size,hs.lB⟩
section
variable {H:Type} {enc:TypeId×Value→H} {W:World} {α:Type}
theorem TK(T:Ty α)(R:DataW H→α→Prop)(hce:prog.cellsOf T.tid=T.size)
  (dec:∀n cs y,cs.length=T.size→DataW.trod enc prog W 0 (λ_=>true) true n T.tid cs=some y→∃a,cs=T.enc a∧R y.1 a)
  {t fuel:Nat} {cs:List Value} {x:DataW H×List MemPlace} (ht:prog.underlying t=some (.slice T.tid)) (h:DataW.trod enc prog W 0 (λ_=>true) true fuel t cs=some x) :
  ∃A n c l,cs=[.slice A n c]∧Rd (top W) T A n c l∧Sh R x.1 l c:=by
 rcases open_slice ht h with⟨rfl,rfl⟩|⟨a,len,cap,m,k,D,Pl,rfl,_,hl,hm,hmm,rfl,hx⟩
 ·exact⟨none,0,0,[],rfl,Rd.nil _ _,.inl ⟨rfl,rfl,rfl⟩⟩
 ·simp only[if_true] at hmm;subst hmm;have aO:∀i,i<m→∃b,R (D i) b∧∀j u,(T.enc b)[j]?=some u→W.cell? (a.add (i*T.size+j))=some u:=by
   intro i hi;obtain⟨cs',h1,h2⟩:=hx i hi;rw[hce] at h1;obtain⟨h3,h4⟩:=cells?_len h1;obtain⟨b,rfl,hR⟩:=dec _ _ _ h3 h2;refine⟨b,hR,λj u hj=>?_⟩;rw[←jI];exact h4 j u hj
  obtain⟨l,hll,hf⟩:=Ag len (λi hi=>aO i o_);subst hll;refine⟨some a,l.length,m,l,rfl,⟨rfl,hl,hm,?_⟩,.inr ⟨_,_,rfl,by simp,by simp;omega,?_⟩⟩
  ·by_cases hn:l.length=0
   ·exact .inl hn
   have hcell:∀j u,(T.bT l)[j]?=some u→W.cell? (a.add j)=some u:=by
    intro j u hu;have hj:j<l.length*T.size:=by
     have:=(aAd.1 hu).1
     rwa [T.bM] at this
    have hq:j / T.size<l.length:=Nat.div_lt_of_lt_mul (by rw[aFy];exact hj);have hdm:=Nat.div_add_mod j T.size;have hlt:j % T.size<(T.enc l[j / T.size]).length:=by rw[T.dR];exact Nat.mod_lt _ T.gL
    have h5:=T.uK (aAa hq) (aAa hlt);have e:j / T.size*T.size+j % T.size=j:=by rw[aFy];exact hdm
    rw[e,hu] at h5;have h6:=(hf (j / T.size) hq).2 (j % T.size) _ (aAa hlt);rw[e] at h6;rw[h6,←h5]
   refine .inr ⟨a,rfl,?_,hcell⟩;have h0:0<(T.bT l).length:=by
    rw[T.bM];exact Nat.mul_pos o_ T.gL
   have:=aEk _ _ (hcell 0 _ (aAa h0))
   rwa [eQ] at this
  ·intro i h1 h2;simp at h1⊢;exact(hf i h2).1
theorem P8(T:Ty α)(R:DataW H→α→Prop)(hce:prog.cellsOf T.tid=T.size)
  (dec:∀n cs y,cs.length=T.size→DataW.trod enc prog W 0 (λ_=>true) true n T.tid cs=some y→∃a,cs=T.enc a∧R y.1 a)
  {t:TypeId} {v:Value} {d:DataW H} {p:List MemPlace} {base:Nat} (ht:prog.underlying t=some (.slice T.tid)) (hv:Value.okWide prog W .any base t v) (h:DataW.Trod enc prog W 0 (λ_=>true) true t v d p) :
  ∃A n c l,v=.slice A n c∧Rd (top W) T A n c l∧Sh R d l c:=by
 obtain⟨a,len,cap,rfl⟩:=okWide_slice ht hv;obtain⟨fuel,hf⟩:=h;obtain⟨A,n,c,l,hcs,hr,hs⟩:=TK T R hce dec ht hf;simp[Value.cells] at hcs;obtain⟨rfl,rfl,rfl⟩:=hcs;exact⟨_,_,_,l,rfl,hr,hs⟩
theorem gA{n:Nat}{t:TypeId}{k:IntKind}{v:Value}{z:DataW H×List MemPlace}(ht:prog.underlying t=some (.int k))(h:DataW.trod enc prog W 0 (λ_=>true) true n t [v]=some z):∃i:Int,v=.int k i∧(Lit.int k i).wf=true:=by
 obtain⟨i,h1,_,h3⟩:=DataW.trod_int ht h;injection h1 with h1 _
 exact⟨i,h1,h3⟩
theorem Vo{α:Type}{q:α→Prop}{d:DataW H}{l:List α}{c:Nat}(h:Sh (λ_ a=>q a) d l c):∀x∈l,q x:=by
 rcases h with⟨_,rfl,_⟩|⟨elems,spare,_,h1,_,h3⟩
 ·intro x hx;cases hx
 ·intro x hx;obtain⟨i,hi,rfl⟩:=aBm hx;exact h3 i o_ hi
end
section
variable {H:Type} {enc:TypeId×Value→H} {W:World} {α:Type}
theorem uT{n:Nat}{t:TypeId}{fs:Array Field}{cs:List Value}{y:DataW H×List MemPlace}(ht:prog.underlying t=some (.struct fs))(h:DataW.trod enc prog W 0 (λ_=>true) true n t cs=some y) :
  ∃n',∀(j:Nat) (f:Field) (M5:List Value) (k:Nat),fs[j]?=some f→prog.cellsOf f.type=k→(cs.drop f.offset).take k=M5→∃z:DataW H×List MemPlace,DataW.trod enc prog W 0 (λ_=>true) true n' f.type M5=some z:=by
 obtain⟨ys,n',hn',hy,hlen,hyl,hf⟩:=DataW.trod_struct ht h;refine⟨n',λj f M5 k hj hk hs=>?_⟩;have hjl:j<fs.size:=(aBv.1 hj).1;have h1:=hf j f hj;rw[hk,hs] at h1;have hys:ys[j]?=some (ys[j]'o_):=aAa o_;exact⟨_,h1.trans hys⟩
theorem Ni(T:Ty α)(R:DataW H→α→Prop)(hce:prog.cellsOf T.tid=T.size)
  (dec:∀n cs y,cs.length=T.size→DataW.trod enc prog W 0 (λ_=>true) true n T.tid cs=some y→∃a,cs=T.enc a∧R y.1 a)
  {fs:Array Field} {v:Value} {d:DataW H} {p:List MemPlace} {base:Nat} (ht:prog.underlying T.tid=some (.struct fs)) (hv:Value.okWide prog W .any base T.tid v) (h:DataW.Trod enc prog W 0 (λ_=>true) true T.tid v d p) :
  ∃a,v=T.val a∧R d a:=by
 unfold Value.okWide at hv;rw[ht] at hv;obtain⟨cs,rfl,hs,_⟩:=hv;obtain⟨fuel,hf⟩:=h;have hc:(Value.agg cs).cells.toList=cs.toList:=rfl;rw[hc] at hf;obtain⟨a,ha,hR⟩:=dec _ _ _ (by rw[aDs,hs,hce]) hf;refine⟨a,?_,hR⟩;rcases T.nR with⟨_,hg⟩|⟨hg,_⟩
 ·obtain⟨cs',e⟩:=hg a;have h2:T.enc a=cs'.toList:=by unfold Ty.enc;rw[e];rfl
  rw[e,show cs=cs' from Array.ext' (ha.trans h2)]
 ·rw[ht] at hg;simp[lT] at hg
end
section
variable {H:Type} {enc:TypeId×Value→H} {W:World}
theorem GK:∀n cs y,cs.length=fN.size→DataW.trod enc prog W 0 (λ_=>true) true n fN.tid cs=some y→∃x,cs=fN.enc x∧(λ_ x=>x.ok:DataW H→bJ→Prop) y.1 x:=by
 intro n cs y hl h
 match cs,hl with
 | [c0,c1],_ =>
  obtain⟨n',hf⟩:=uT underlying32 h;obtain⟨z0,h0⟩:=hf 0 _ [c0] 1 rfl q_ rfl;obtain⟨i0,rfl,w0⟩:=gA (k:=.i64) q_ h0;obtain⟨z1,h1⟩:=hf 1 _ [c1] 1 rfl q_ rfl;obtain⟨i1,rfl,w1⟩:=gA (k:=.i64) q_ h1;exact⟨⟨i0,i1⟩,rfl,bounds_i64 w0,bounds_i64 w1⟩
theorem P5:∀n cs y,cs.length=bE.size→DataW.trod enc prog W 0 (λ_=>true) true n bE.tid cs=some y→∃x,cs=bE.enc x∧(λ_ x=>x.ok:DataW H→aX→Prop) y.1 x:=by
 intro n cs y hl h
 match cs,hl with
 | [c0,c1,c2,c3,c4,c5,c6,c7,c8],_ =>
  obtain⟨n',hf⟩:=uT underlying34 h;obtain⟨z0,h0⟩:=hf 0 _ [c0,c1] 2 rfl q_ rfl;obtain⟨i0,e0,w0⟩:=GK _ _ _ rfl h0;change _=i0.cs at e0;simp only[bJ.cs,aGa,and_true] at e0;obtain⟨rfl,rfl⟩:=e0;obtain⟨z1,h1⟩:=hf 1 _ [c2] 1 rfl q_ rfl;obtain⟨i1,rfl,w1⟩:=gA (k:=.i64) q_ h1;obtain⟨z2,h2⟩:=hf 2 _ [c3] 1 rfl q_ rfl;obtain⟨i2,rfl,w2⟩:=gA (k:=.i64) q_ h2;obtain⟨z3,h3⟩:=hf 3 _ [c4] 1 rfl q_ rfl;obtain⟨i3,rfl,w3⟩:=gA (k:=.i64) q_ h3;obtain⟨z4,h4⟩:=hf 4 _ [c5] 1 rfl q_ rfl;obtain⟨i4,rfl,w4⟩:=gA (k:=.i64) q_ h4;obtain⟨z5,h5⟩:=hf 5 _ [c6] 1 rfl q_ rfl;obtain⟨i5,rfl,w5⟩:=gA (k:=.i64) q_ h5;obtain⟨z6,h6⟩:=hf 6 _ [c7,c8] 2 rfl q_ rfl;obtain⟨i6,e6,w6⟩:=GK _ _ _ rfl h6;change _=i6.cs at e6;simp only[bJ.cs,aGa,and_true] at e6;obtain⟨rfl,rfl⟩:=e6;exact⟨⟨i0,i1,i2,i3,i4,i5,i6⟩,rfl,w0,bounds_i64 w1,bounds_i64 w2,bounds_i64 w3,bounds_i64 w4,bounds_i64 w5,w6⟩
theorem PT:∀n cs y,cs.length=Qh.size→DataW.trod enc prog W 0 (λ_=>true) true n Qh.tid cs=some y→∃x,cs=Qh.enc x∧(λ_ x=>x.ok:DataW H→fU→Prop) y.1 x:=by
 intro n cs y hl h
 match cs,hl with
 | [c0,c1,c2,c3,c4],_ =>
  obtain⟨n',hf⟩:=uT underlying23 h;obtain⟨z0,h0⟩:=hf 0 _ [c0] 1 rfl q_ rfl;obtain⟨i0,rfl,w0⟩:=gA (k:=.i64) q_ h0;obtain⟨z1,h1⟩:=hf 1 _ [c1] 1 rfl q_ rfl;obtain⟨i1,rfl,w1⟩:=gA (k:=.i64) q_ h1;obtain⟨z2,h2⟩:=hf 2 _ [c2] 1 rfl q_ rfl;obtain⟨i2,rfl,w2⟩:=gA (k:=.i64) q_ h2;obtain⟨z3,h3⟩:=hf 3 _ [c3] 1 rfl q_ rfl;obtain⟨i3,rfl,w3⟩:=gA (k:=.i64) q_ h3;obtain⟨z4,h4⟩:=hf 4 _ [c4] 1 rfl q_ rfl;obtain⟨i4,rfl,w4⟩:=gA (k:=.i64) q_ h4;exact⟨⟨i0,i1,i2,i3,i4⟩,rfl,bounds_i64 w0,bounds_i64 w1,bounds_i64 w2,bounds_i64 w3,bounds_i64 w4⟩
theorem LM{v:Value}{d:DataW H}{p:List MemPlace}{base:Nat}(hv:Value.okWide prog W .any base 23 v)(h:DataW.Trod enc prog W 0 (λ_=>true) true 23 v d p):∃x:fU,v=.agg x.cs.toArray∧x.ok:=Ni Qh (λ_ x=>x.ok) q_ PT underlying23 hv h
theorem PU:∀n cs y,cs.length=mX.size→DataW.trod enc prog W 0 (λ_=>true) true n mX.tid cs=some y→∃x,cs=mX.enc x∧(λ_ x=>x.ok:DataW H→cH→Prop) y.1 x:=by
 intro n cs y hl h
 match cs,hl with
 | [c0,c1,c2,c3,c4,c5,c6,c7,c8,c9,c10,c11,c12],_ =>
  obtain⟨n',hf⟩:=uT underlying39 h;obtain⟨z0,h0⟩:=hf 0 _ [c0] 1 rfl q_ rfl;obtain⟨i0,rfl,w0⟩:=gA (k:=.i64) q_ h0;obtain⟨z1,h1⟩:=hf 1 _ [c1] 1 rfl q_ rfl;obtain⟨i1,rfl,w1⟩:=gA (k:=.i64) q_ h1;obtain⟨z2,h2⟩:=hf 2 _ [c2] 1 rfl q_ rfl;obtain⟨i2,rfl,w2⟩:=gA (k:=.i64) q_ h2;obtain⟨z3,h3⟩:=hf 3 _ [c3] 1 rfl q_ rfl;obtain⟨i3,rfl,w3⟩:=gA (k:=.i64) q_ h3;obtain⟨z4,h4⟩:=hf 4 _ [c4,c5,c6,c7,c8,c9,c10,c11,c12] 9 rfl q_ rfl;obtain⟨i4,e4,w4⟩:=P5 _ _ _ rfl h4;change _=i4.cs at e4;simp only[aX.cs,aGa,and_true] at e4;obtain⟨rfl,rfl,rfl,rfl,rfl,rfl,rfl,rfl,rfl⟩:=e4;exact⟨⟨i0,i1,i2,i3,i4⟩,rfl,bounds_i64 w0,bounds_i64 w1,bounds_i64 w2,bounds_i64 w3,w4⟩
theorem Jm{v:Value}{d:DataW H}{p:List MemPlace}{base:Nat}(hv:Value.okWide prog W .any base 64 v)(h:DataW.Trod enc prog W 0 (λ_=>true) true 64 v d p) :
  ∃A n c l,v=.slice A n c∧Rd (top W) mX A n c l∧Sh (λ_ x=>x.ok) d l c:=P8 mX (λ_ x=>x.ok) q_ PU underlying64 hv h
end
end Go.Proofs.YtmilalkjbojciaaGreat.Sep
