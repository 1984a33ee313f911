/- Part BR: what it needs. No condition. -/
import Derived.Test.YtmilalkjbojciaaGreatOAA
import Derived.Test.YtmilalkjbojciaaGreatOBQ
import Derived.Deep.Slices
import Derived.Deep.CondSized
import Derived.SizedLaws
import Derived.Carry
import Derived.Test.YtmilalkjbojciaaGreatOAO
import Derived.Deep.Fields
set_option maxRecDepth 100000
set_option maxHeartbeats 8000000
open Go.Proofs.Tryz
namespace Go.Proofs.YtmilalkjbojciaaGreat.Sep
open Go.RowKit Reg Oct
open Mem hiding Rd
section
variable (E:Env)
theorem XQ(A:Option Addr)(m c:Nat)(l:List cH)(hr:Rd E mX A m c l)(k:Nat):G E 23 [.slice A m c,.int .i64 k] [] (cM (.slice A (min m k) c) []):=by
 have hlen:=hr.len;have hcap:=hr.cap;have hmax:=fX;refine t_ func23 ntmps23 ?_;by_cases h:(k:Int)<m
 ·repeat first|refine v_ ?_|intro
  exact aR rfl aF aA (⟨by rw[aFe o_],rfl⟩)
 ·repeat first|refine v_ ?_|intro
  exact aR rfl aF aA (⟨by rw[aBr o_],rfl⟩)
def Sa(n lo hi:Int):Int:=if n<lo then lo else if hi<n then hi else n
theorem Xs(n lo hi:Int):G E 25 [.int .i64 n,.int .i64 lo,.int .i64 hi] [] (cM (.int .i64 (Sa n lo hi)) []):=by
 unfold Sa;refine t_ func25 ntmps25 ?_;by_cases h:n<lo
 ·rw[if_pos h];repeat first|refine v_ ?_|intro
  exact e1_
 ·rw[if_neg h];by_cases h2:hi<n
  ·rw[if_pos h2];repeat first|refine v_ ?_|intro
   exact e1_
  ·rw[if_neg h2];repeat first|refine v_ ?_|intro
   exact e1_
theorem XW(c:fU):G E 9 [.agg c.cs.toArray] [] (cM (.bool (decide c.cV)) []):=by
 unfold fU.cV;refine t_ func9 ntmps9 ?_;repeat' (first|refine w_ ?_|refine k_ ?_|refine f_ ?_ ?_|intro _)
 all_goals exact aR rfl aF aA ⟨rJ,rfl⟩
variable (A:Option Addr) (n c:Nat) (B:Option Addr) (m d:Nat)
theorem SY(l k:List dK)(hr:Rd E cP A n c l)(hs:Rd E cP B m d k):G E 34 [.slice A n c,.slice B m d] [] (cM (.bool (decide (l=k))) []):=by
 have hn:=hr.len;have hcap:=hr.cap;have hm:=hs.len;have hcap2:=hs.cap;have hmax:=fX;refine t_ func34 ntmps34 ?_;by_cases hnm:n=m
 ·repeat first|refine v_ ?_|intro
  refine C.scan (Y:=Unit) hn (λi _=>[(0,.slice A n c),(1,.slice B m d),(5,.int .i64 i)]) (λ_ _=>[]) (λi _=>l.take i=k.take i) () aD aB.refl rfl ?_ ?_
  ·intro i _ x G hi hx hall;have hy:k[i]?=some k[i]:=aAa o_;generalize k[i]=y at hy;by_cases hxy:x=y
   ·subst hxy;have hd:(!decide (x=x))=false:=by simp
    repeat first|refine v_ ?_|intro
    refine rA (l_ [0,1,2,3,4,5,6,7,8] .nil) ?_;repeat first|refine v_ ?_|intro
    exact⟨(),aD,aB.refl,by rw[take_succ hx,take_succ hy,hall]⟩
   ·have hd:(!decide (x=y))=true:=by simp[hxy]
    repeat first|refine v_ ?_|intro
    refine rA (l_ [0,1,2,3,4,5,6,7,8] .nil) ?_;repeat first|refine v_ ?_|intro
    exact aR rfl aF aA (⟨rJ (by rw[eq_comm,decide_eq_false_iff_not];rintro rfl;rw[hx] at hy;injection hy with hy;exact hxy hy),rfl⟩)
  ·intro _ G hall;repeat first|refine v_ ?_|intro
   exact aR rfl aF aA (⟨rJ (by rw[eq_comm,decide_eq_true_iff];rwa [hn,aAo,←hn,hnm,hm,aAo] at hall),rfl⟩)
 ·repeat first|refine v_ ?_|intro
  exact aR rfl aF aA (⟨rJ (by rw[eq_comm,decide_eq_false_iff_not];rintro rfl;omega),rfl⟩)
theorem Qv(l k:List fM)(hr:Rd E mK A n c l)(hs:Rd E mK B m d k):G E 36 [.slice A n c,.slice B m d] [] (cM (.bool (decide (l=k))) []):=by
 have hn:=hr.len;have hcap:=hr.cap;have hm:=hs.len;have hcap2:=hs.cap;have hmax:=fX;refine t_ func36 ntmps36 ?_;by_cases hnm:n=m
 ·repeat first|refine v_ ?_|intro
  refine C.scan (Y:=Unit) hn (λi _=>[(0,.slice A n c),(1,.slice B m d),(5,.int .i64 i)]) (λ_ _=>[]) (λi _=>l.take i=k.take i) () aD aB.refl rfl ?_ ?_
  ·intro i _ x G hi hx hall;have hy:k[i]?=some k[i]:=aAa o_;generalize k[i]=y at hy;by_cases hxy:x=y
   ·subst hxy;have hd:(!decide (x=x))=false:=by simp
    repeat first|refine v_ ?_|intro
    refine rA (l_ [0,1,2,3,4,5,6,7,8] .nil) ?_;repeat first|refine v_ ?_|intro
    exact⟨(),aD,aB.refl,by rw[take_succ hx,take_succ hy,hall]⟩
   ·have hd:(!decide (x=y))=true:=by simp[hxy]
    repeat first|refine v_ ?_|intro
    refine rA (l_ [0,1,2,3,4,5,6,7,8] .nil) ?_;repeat first|refine v_ ?_|intro
    exact aR rfl aF aA (⟨rJ (by rw[eq_comm,decide_eq_false_iff_not];rintro rfl;rw[hx] at hy;injection hy with hy;exact hxy hy),rfl⟩)
  ·intro _ G hall;repeat first|refine v_ ?_|intro
   exact aR rfl aF aA (⟨rJ (by rw[eq_comm,decide_eq_true_iff];rwa [hn,aAo,←hn,hnm,hm,aAo] at hall),rfl⟩)
 ·repeat first|refine v_ ?_|intro
  exact aR rfl aF aA (⟨rJ (by rw[eq_comm,decide_eq_false_iff_not];rintro rfl;omega),rfl⟩)
end
end Go.Proofs.YtmilalkjbojciaaGreat.Sep
namespace Go.Proofs.YtmilalkjbojciaaGreat.Open
open Go.RowKit Mem Go.ChangeShapes Go.WideShapes Go.ChangeAt Go.Deep
def Sh{H α:Type}(R:DataW H→α→Prop)(d:DataW H)(l:List α)(c:Nat):Prop :=
 (d=.nil∧l=[]∧c=0)∨∃elems spare,d=.slice elems spare∧elems.length=l.length∧elems.length+spare.length=c∧∀i (h1:i<elems.length) (h2:i<l.length),R elems[i] l[i]
section
variable {H:Type} {enc:TypeId×Value→H} {W:World} {α:Type}
theorem cells?_len{w:World}{base:Nat}{a:Addr}{n:Nat}{cs:List Value}(h:w.cells? base a n=some cs):cs.length=n∧∀j u,cs[j]?=some u→w.cell? (a.add j)=some u:=by
 unfold World.cells? at h;split at h
 ·have h2:∀(l:List Nat) (cs:List Value),l.mapM (λi=>w.cell? (a.add i))=some cs→cs.length=l.length∧∀(j:Nat) (u:Value) (i:Nat),cs[j]?=some u→l[j]?=some i→w.cell? (a.add i)=some u:=by
   intro l
   induction l with
   |nil=>intro cs h;simp at h;subst h;simp
   |cons x l ih =>
    intro cs h;rw[List.mapM_cons] at h;obtain⟨v,h3,h4⟩:=Option.bind_eq_some_iff.1 h;obtain⟨vs,h5,h6⟩:=Option.bind_eq_some_iff.1 h4;injection h6 with h6
    subst h6;obtain⟨h7,h8⟩:=ih vs h5;refine⟨by simp[h7],λj u i hj hi=>?_⟩;cases j with
    |zero=>simp at hj hi;subst hj;subst hi;exact h3
    |succ j=>simp at hj hi;exact h8 j u i hj hi
  obtain⟨h3,h4⟩:=h2 _ _ h;refine⟨by simpa using h3,λj u hj=>h4 j u j hj ?_⟩;have:j<cs.length:=(aAd.1 hj).1;rw[List.getElem?_range];simpa using(h3▸this:j<(List.range n).length)
 ·cases h
theorem Ag{Q:Nat→α→Prop}:∀n,(∀i,i<n→∃b,Q i b)→∃l:List α,l.length=n∧∀i (hi:i<l.length),Q i l[i]
 |0,_=>⟨[],rfl,λi hi=>absurd hi (by simp)⟩
 |n+1,h=>by
  obtain⟨l,hl,hq⟩:=Ag n (λi hi=>h i o_);obtain⟨b,hb⟩:=h n o_;refine⟨l++[b],by simp[hl],λi hi=>?_⟩;by_cases hlt:i<l.length
  ·rw[List.getElem_append_left hlt];exact hq i hlt
  ·have:i=n:=by simp at hi;omega
   subst this;rw[List.getElem_append_right o_];simpa [hl] using hb
end
theorem laidOut:laidOutB prog=true:=by kernel_rfl
section
variable {H:Type} {enc:TypeId×Value→H} {P:Program}
theorem C8{f:Func}{s:ChangeSpec}{apart fresh handsOn again:Bool}{W W':World}{args:Array Value}{v:Value}{ds gs:List (DataW H)}{before pa pv:List MemPlace}
  (hW:DataW.Whole enc P f.params.toList s.vars apart W args.toList ds gs before)
  (hres:∀(b:Nat) (sp:Nat→Bool) (hd:Bool),DataW.TrodAll enc P W' b sp hd f.resultTypes.toList (v.resultList f.resultTypes.size) (s.fn H (ds++gs)).results [])
  (hargs:∀sp:Nat→Bool,(∀p∈before,sp p.block=true)→DataW.TrodAll enc P W' 0 sp true f.params.toList args.toList (s.fn H (ds++gs)).args pa)
  (hvars:∀sp:Nat→Bool,(∀p∈before,sp p.block=true)→DataW.TrodVars enc P W' sp s.vars (s.fn H (ds++gs)).vars pv)
  (hps:before=pa++pv) (hb:Below W.heap.size W W')
  (hok:∀(j:Nat) (t:TypeId) (r:Value),f.resultTypes[j]?=some t→(v.resultList f.resultTypes.size)[j]?=some r→Value.okWide P W' .any 0 t r) :
  s.post enc P f apart fresh handsOn again W args v W':=by
 have hlt:∀p∈before,p.block<W.heap.size:=λp hp=>hW.lt p hp;have hold:∀p∈before,(λb=>decide (b<W.heap.size)) p.block=true:=λp hp=>by simpa using hlt p hp
 refine⟨ds,gs,before,[],pa,pv,hW,hres _ _ _,hargs _ hold,hvars _ hold,World.keptBut_mono (λp hp=>⟨hp,?_⟩) (hb.frame (· ∈ before)),λ_=>?_⟩
 ·rw[hps,aBg] at hp;exact Or.inr hp
 ·obtain⟨_,_,_,_,_,hz,hn⟩:=hW;refine⟨hok,_,_,([]++pa)++pv,⟨[]++pa,pv,trodAll_append (hargs _ (λ_ _=>rfl)) (hres _ _ _),hvars _ (λ_ _=>rfl),rfl,?_,?_⟩,?_⟩
  ·intro b off hp;have hin:MemPlace.cell b off∈before:=by rw[hps];simpa using hp
   rw[hb.frozen (hlt _ hin)];exact hz b off hin
  ·intro ha;have:=hn ha;rw[hps] at this;simpa using this
  ·intro p hp _;rw[hps];simpa using hp
theorem DQ{W W':World}(hb:Below W.heap.size W W'){sp:Nat→Bool}:∀ {ts:List TypeId} {vs:List Value} {ds:List (DataW H)} {ps:List MemPlace},
  (∀t∈ts,prog.readableRec t=true∧t<prog.types.size)→DataW.TrodAll enc prog W 0 (λ_=>true) true ts vs ds ps→(∀x∈ps,x.block<W.heap.size)→(∀x∈ps,sp x.block=true) →
  DataW.TrodAll enc prog W' 0 sp true ts vs ds ps
 | [],[],[],_,_,h,_,_=>h
 |t::ts,v::vs,d::ds,ps,ht,h,hlt,hsp=>by
  obtain⟨p,q,h1,h2,rfl⟩:=h;refine⟨p,q,?_,DQ hb (λt h=>ht t (by simp[h])) h2 (λx hx=>hlt x (by simp[hx])) (λx hx=>hsp x (by simp[hx])),rfl⟩;have:=ht t (by simp);exact WideElems.Trod_stays laidOut this.1 this.2 h1 (λx hx=>hb.same (hlt x (by simp[hx]))) (λx hx=>hsp x (by simp[hx]))
 | [],_::_,_,_,_,h,_,_=>h.elim
 | [],[],_::_,_,_,h,_,_=>h.elim
 |_::_,[],_,_,_,h,_,_=>h.elim
 |_::_,_::_,[],_,_,h,_,_=>h.elim
theorem Na{f:Func}{s:ChangeSpec}{apart fresh handsOn again:Bool}{W W':World}{args:Array Value}{ds:List (DataW H)}{before:List MemPlace}
  (hW:DataW.Whole enc prog f.params.toList s.vars apart W args.toList ds [] before) (hv:s.vars=[])
  (h1:(s.fn H ds).results=[.lit (.bool true)]) (h2:(s.fn H ds).args=ds) (h3:(s.fn H ds).vars=[])
  (hr:f.resultTypes=#[4]) (hp:f.params.toList.all (λt=>prog.readableRec t&&decide (t<prog.types.size))=true) (hb:Below W.heap.size W W') :
  s.post enc prog f apart fresh handsOn again W args (.bool true) W':=by
 have hlt:∀p∈before,p.block<W.heap.size:=λp hp=>hW.lt p hp;have hW2:=hW;obtain⟨p,q,hA,hV,hpq,_,_⟩:=hW2;rw[hv] at hV;obtain⟨_,rfl⟩:=trodVars_none hV;rw[aAc] at hpq;subst hpq;have hp':∀t∈f.params.toList,prog.readableRec t=true∧t<prog.types.size:=λt ht=>by
  have:=aDm.1 hp t ht;simpa using this
 refine C8 (pa:=before) (pv:=[]) hW (λ_ _ _=>?_) (λsp hsp=>?_) (λsp _=>?_) (by simp) hb (ok_one hr rfl (okWide_bool_mk underlying4 _))
 ·rw[aAc,h1,hr];exact trodAll_cons_mk (shut_bool underlying4 _) trodAll_mk0
 ·rw[aAc,h2];exact DQ hb hp' hA hlt hsp
 ·rw[aAc,h3,hv];exact rfl
end
end Go.Proofs.YtmilalkjbojciaaGreat.Open
namespace Go.Proofs.YtmilalkjbojciaaGreat.Sep
open Go.RowKit Reg Go.ChangeShapes Go.WideShapes Go.ChangeAt Go.Deep Go.Proofs.YtmilalkjbojciaaGreat.Open
open Mem hiding Rd
def top(W:World):Env:={ w:=W,D:=λb=>b<W.heap.size }
theorem RD{P:Program}{f:FuncId}{args:Array Value}{W:World}(h:aK P (top W) f args [] λe _=>e=.returned (.bool true)) :
  Calls P f args W λe W'=>e=.returned (.bool true)∧Below W.heap.size W W' :=
 (h rfl W ⟨rfl,rfl,rfl,aAf _,λ_ h=>h,λ_ _=>rfl,λ_=>False,λ_ h=>h,λ_ _ h=>h⟩).mono λ_ _ ⟨_,hs,he⟩=>⟨he,hs.os,hs.tape,hs.output,hs.size,hs.lB⟩
section
variable {H:Type} {enc:TypeId×Value→H} {W:World} {α:Type}
theorem TK(T:Ty α)(R:DataW H→α→Prop)(hce:prog.cellsOf T.tid=T.size)
  (dec:∀n cs y,cs.length=T.size→DataW.trod enc prog W 0 (λ_=>true) true n T.tid cs=some y→∃a,cs=T.enc a∧R y.1 a)
  {t fuel:Nat} {cs:List Value} {x:DataW H×List MemPlace} (ht:prog.underlying t=some (.slice T.tid)) (h:DataW.trod enc prog W 0 (λ_=>true) true fuel t cs=some x) :
  ∃A n c l,cs=[.slice A n c]∧Rd (top W) T A n c l∧Sh R x.1 l c:=by
 rcases open_slice ht h with⟨rfl,rfl⟩|⟨a,len,cap,m,k,D,Pl,rfl,_,hl,hm,hmm,rfl,hx⟩
 ·exact⟨none,0,0,[],rfl,Rd.nil _ _,.inl ⟨rfl,rfl,rfl⟩⟩
 ·simp only[if_true] at hmm;subst hmm;have aO:∀i,i<m→∃b,R (D i) b∧∀j u,(T.enc b)[j]?=some u→W.cell? (a.add (i*T.size+j))=some u:=by
   intro i hi;obtain⟨cs',h1,h2⟩:=hx i hi;rw[hce] at h1;obtain⟨h3,h4⟩:=cells?_len h1;obtain⟨b,rfl,hR⟩:=dec _ _ _ h3 h2;refine⟨b,hR,λj u hj=>?_⟩;rw[←jI];exact h4 j u hj
  obtain⟨l,hll,hf⟩:=Ag len (λi hi=>aO i o_);subst hll;refine⟨some a,l.length,m,l,rfl,⟨rfl,hl,hm,?_⟩,.inr ⟨_,_,rfl,by simp,by simp;omega,?_⟩⟩
  ·by_cases hn:l.length=0
   ·exact .inl hn
   have hcell:∀j u,(T.bT l)[j]?=some u→W.cell? (a.add j)=some u:=by
    intro j u hu;have hj:j<l.length*T.size:=by
     have:=(aAd.1 hu).1
     rwa [T.bM] at this
    have hq:j / T.size<l.length:=Nat.div_lt_of_lt_mul (by rw[aFy];exact hj);have hdm:=Nat.div_add_mod j T.size;have hlt:j % T.size<(T.enc l[j / T.size]).length:=by rw[T.dR];exact Nat.mod_lt _ T.gL
    have h5:=T.uK (aAa hq) (aAa hlt);have e:j / T.size*T.size+j % T.size=j:=by rw[aFy];exact hdm
    rw[e,hu] at h5;have h6:=(hf (j / T.size) hq).2 (j % T.size) _ (aAa hlt);rw[e] at h6;rw[h6,←h5]
   refine .inr ⟨a,rfl,?_,hcell⟩;have h0:0<(T.bT l).length:=by
    rw[T.bM];exact Nat.mul_pos o_ T.gL
   have:=aEk _ _ (hcell 0 _ (aAa h0))
   rwa [eQ] at this
  ·intro i h1 h2;simp at h1⊢;exact(hf i h2).1
theorem P8(T:Ty α)(R:DataW H→α→Prop)(hce:prog.cellsOf T.tid=T.size)
  (dec:∀n cs y,cs.length=T.size→DataW.trod enc prog W 0 (λ_=>true) true n T.tid cs=some y→∃a,cs=T.enc a∧R y.1 a)
  {t:TypeId} {v:Value} {d:DataW H} {p:List MemPlace} {base:Nat} (ht:prog.underlying t=some (.slice T.tid)) (hv:Value.okWide prog W .any base t v) (h:DataW.Trod enc prog W 0 (λ_=>true) true t v d p) :
  ∃A n c l,v=.slice A n c∧Rd (top W) T A n c l∧Sh R d l c:=by
 obtain⟨a,len,cap,rfl⟩:=okWide_slice ht hv;obtain⟨fuel,hf⟩:=h;obtain⟨A,n,c,l,hcs,hr,hs⟩:=TK T R hce dec ht hf;simp[Value.cells] at hcs;obtain⟨rfl,rfl,rfl⟩:=hcs;exact⟨_,_,_,l,rfl,hr,hs⟩
theorem gA{n:Nat}{t:TypeId}{k:IntKind}{v:Value}{z:DataW H×List MemPlace}(ht:prog.underlying t=some (.int k))(h:DataW.trod enc prog W 0 (λ_=>true) true n t [v]=some z):∃i:Int,v=.int k i∧(Lit.int k i).wf=true:=by
 obtain⟨i,h1,_,h3⟩:=DataW.trod_int ht h;injection h1 with h1 _
 exact⟨i,h1,h3⟩
theorem Vo{α:Type}{q:α→Prop}{d:DataW H}{l:List α}{c:Nat}(h:Sh (λ_ a=>q a) d l c):∀x∈l,q x:=by
 rcases h with⟨_,rfl,_⟩|⟨elems,spare,_,h1,_,h3⟩
 ·intro x hx;cases hx
 ·intro x hx;obtain⟨i,hi,rfl⟩:=aBm hx;exact h3 i o_ hi
end
end Go.Proofs.YtmilalkjbojciaaGreat.Sep
