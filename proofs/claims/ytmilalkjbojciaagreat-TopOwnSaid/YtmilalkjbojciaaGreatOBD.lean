/- Part BD: what it needs. No condition. -/
import Derived.Test.YtmilalkjbojciaaGreatOAA
import Derived.Test.YtmilalkjbojciaaGreatOBB
set_option maxRecDepth 100000
set_option maxHeartbeats 8000000
open Go.Proofs.Tryz
namespace Go.Proofs.YtmilalkjbojciaaGreat.Sep
def gw(e:bH):Bool×cQ:=(e.gone,e.bC)
theorem JZ{w:List cQ}{l l':List bH}(h:l'.map gw=l.map gw)(j:Nat):lost w l' j=lost w l j:=by
 induction j with
 |zero=>rfl
 |succ j ih =>
  have h1:(l'.map gw)[j]?=(l.map gw)[j]?:=by rw[h]
  rw[aBf,aBf] at h1;simp only[lost,ih];cases ha:l'[j]? with
  |none =>
   cases hb:l[j]? with
   |none=>rfl
   |some y=>rw[ha,hb] at h1;cases h1
  |some x =>
   cases hb:l[j]? with
   |none=>rw[ha,hb] at h1;cases h1
   |some y =>
    rw[ha,hb] at h1;have h2:gw x=gw y:=aDk h1;have h3:x.gone=y.gone:=congrArg Prod.fst h2;have h4:x.bC=y.bC:=congrArg Prod.snd h2;dsimp only;rw[h3,h4]
theorem CW{w:List cQ}{l m:List bH}{k:Nat}(h:∀j,j<k→m[j]?=l[j]?)(j:Nat)(hj:j≤k):lost w m j=lost w l j:=by
 induction j with
 |zero=>rfl
 |succ j ih=>simp only[lost,ih o_,h j o_]
theorem jG{w:List cQ}{l:List bH}:settle w l=l↔∀(i:Nat) (e:bH),l[i]?=some e→e.gone=lost w l (i+1):=by
 constructor
 ·intro h i e he;have h1:=lX (want:=w) he;rw[h,he] at h1;have h2:=aDk h1;exact congrArg bH.gone h2
 ·intro h;apply aCk;intro i;cases he:l[i]? with
  |none =>
   rw[aBx] at he⊢;rw[dJ];exact he
  |some e =>
   rw[lX he,←h i e he];rfl
theorem Hh(want:List cQ)(l:List bH):settle want (settle want l)=settle want l:=by
 rw[jG];have hl:∀j,j≤l.length→lost want (settle want l) j=lost want l j:=by
  intro j
  induction j with
  |zero=>intro _;rfl
  |succ j ih =>
   intro hj;have hx:l[j]?=some l[j]:=aAa o_;rw[nZ (lX hx),nZ hx,ih o_];show(lost want l j||((lost want l j||(l[j].gone||decide (want[j]?≠some l[j].bC)))||decide (want[j]?≠some l[j].bC)))=_;cases lost want l j<;>cases l[j].gone<;>cases decide (want[j]?≠some l[j].bC)<;>rfl
 intro i e he;have hi:=(aAd.1 he).1;rw[dJ] at hi;have hx:l[i]?=some l[i]:=aAa hi;rw[lX hx] at he;have he:=aDk he;subst he;rw[hl (i+1) hi];rfl
structure C3(s:dS):Prop where
 may:∀e∈s.l,e.may=true
 nB:(s.l.map bH.ord).Pairwise (· < ·)
 pos:∀e∈s.l,e.ord≤s.made
 gone:settle s.w s.l=s.l
 pF:∀f∈s.w,f.check=0
theorem C3.zero:C3 s0:=⟨λ_ he=>(aAk he).elim,List.Pairwise.nil,λ_ he=>(aAk he).elim,rfl,λ_ hf=>(aAk hf).elim⟩
theorem OT{e:bH}{g:Bool}(h:e.may=true)(hg:e.gone=true→g=true):(e.mark g).may=true:=by
 rw[bH.bY] at h⊢;obtain⟨h1,h2,h3,⟨h4,h5⟩,h6,h7,h8⟩:=h;refine⟨h1,h2,h3,⟨h4,?_⟩,h6,h7,h8⟩;rcases h5 with h5|h5
 ·left
  unfold bH.Ab bH.mark at *;dsimp only;cases ha:e.cX
  ·rw[ha] at h5;simp at h5
  ·rw[ha] at h5;rw[hg (by simpa using h5)];rfl
 ·exact .inr h5
theorem Qy{e:bH}(h:e.may=true)(ha:e.cX=false):e.qJ.may=true:=by
 rw[bH.bY] at h⊢;obtain⟨h1,h2,h3,⟨h4,h5⟩,h6,h7,h8⟩:=h;refine⟨h1,h2,h3,⟨h4,?_⟩,h6,h7,h8⟩;rcases h5 with h5|h5
 ·unfold bH.Ab at h5;rw[ha] at h5;simp at h5
 ·exact .inr h5
theorem Sk{e:bH}{now:Int}(h:e.may=true)(hnow:0≤now∧now≤1073741824):(e.gV now).may=true:=by
 unfold bH.gV;split
 ·rename_i hc;obtain⟨_,h8⟩:=hc;have hnt:e.nt=if e.Ab then e.back else e.aW:=rfl
  rw[bH.bY] at h;obtain⟨h1,h2,h3,⟨h4,h5⟩,h6,h7,h9⟩:=h;split
  ·rename_i hu;rw[if_pos hu] at hnt;rw[bH.bY];exact⟨h1,h2,h3,⟨by dsimp only;omega,.inl hu⟩,h6,hnow,.inl (by dsimp only;omega)⟩
  ·rename_i hu;rw[if_neg hu] at hnt;rw[bH.bY];refine⟨h1,h2,by dsimp only;omega,⟨h4,?_⟩,hnow,h7,h9⟩;rcases h5 with h5|h5
   ·exact absurd h5 hu
   ·exact .inr h5
 ·exact h
theorem OY(e:bH)(now:Int):(e.gV now).ord=e.ord∧gw (e.gV now)=gw e:=by
 unfold bH.gV;split
 ·split<;>exact⟨rfl,rfl⟩
 ·exact⟨rfl,rfl⟩
theorem yM{α:Type}{f:bH→α}{l:List bH}{k:Nat}{e e':bH}(he:l[k]?=some e)(h:f e'=f e):(l.set k e').map f=l.map f:=by
 rw[List.map_set,h];exact mN (by rw[aBf,he];rfl)
theorem JV(w:List cQ)(l:List bH):(settle w l).map bH.ord=l.map bH.ord:=by
 apply aCk;intro i;rw[aBf,aBf];cases he:l[i]? with
 |none =>
  have:(settle w l)[i]?=none:=by rw[aBx] at he⊢;rw[dJ];exact he
  rw[this]
 |some e=>rw[lX he];rfl
theorem C3.put{s:dS}{w:List cQ}(h:C3 s)(hw:∀f∈w,f.check=0):C3 (s.put w):=by
 have hat:∀e∈settle w s.l,∃(i:Nat) (x:bH),s.l[i]?=some x∧e=x.mark (lost w s.l (i+1)):=by
  intro e he;obtain⟨i,hi,rfl⟩:=aBm he;rw[dJ] at hi;have hx:s.l[i]?=some s.l[i]:=aAa hi;have hs:=lX (want:=w) hx;rw[aAa (by rw[dJ];exact hi)] at hs;exact⟨i,_,hx,aDk hs⟩
 refine⟨λe he=>?_,by show((settle w s.l).map bH.ord).Pairwise (· < ·);rw[JV];exact h.nB,λe he=>?_,Hh w s.l,hw⟩
 ·obtain⟨i,x,hx,rfl⟩:=hat e he;refine OT (h.may x (aAi hx)) λhg=>?_;rw[nZ hx,hg];simp
 ·obtain⟨i,x,hx,rfl⟩:=hat e he;exact h.pos x (aAi hx)
theorem C3.set{s:dS}(h:C3 s){k:Nat}{e e':bH}(he:s.l[k]?=some e)(ho:e'.ord=e.ord)(hg:gw e'=gw e)(hm:e'.may=true):C3 ⟨s.made,s.l.set k e',s.w⟩:=by
 refine⟨λx hx=>?_,?_,λx hx=>?_,?_,h.pF⟩
 ·rcases aCr hx with h1|rfl
  ·exact h.may x h1
  ·exact hm
 ·show((s.l.set k e').map bH.ord).Pairwise (· < ·);rw[yM he ho];exact h.nB
 ·rcases aCr hx with h1|rfl
  ·exact h.pos x h1
  ·show x.ord≤s.made;rw[ho];exact h.pos e (aAi he)
 ·show settle s.w (s.l.set k e')=s.l.set k e';rw[jG];intro i x hx;have hl:=JZ (w:=s.w) (yM he hg) (i+1);rw[hl];have hgs:=jG.1 h.gone;rw[aDr] at hx;split at hx
  ·rename_i hki;subst hki;split at hx
   ·have hx:=aDk hx;subst hx;rw[←hgs k e he];exact congrArg Prod.fst hg
   ·cases hx
  ·exact hgs i x hx
theorem C3.take{s:dS}(h:C3 s)(k:Nat):C3 ⟨s.made,s.l.take k,s.w⟩:=by
 refine⟨λx hx=>h.may x (aBs hx),?_,λx hx=>h.pos x (aBs hx),?_,h.pF⟩
 ·show((s.l.take k).map bH.ord).Pairwise (· < ·);exact h.nB.sublist ((aFt k s.l).map bH.ord)
 ·show settle s.w (s.l.take k)=s.l.take k;rw[jG];intro i x hx;have hi:=(aAd.1 hx).1;rw[aAg] at hi;rw[CW (l:=s.l) (k:=k) (λj hj=>by rw[aEd,if_pos hj]) (i+1) o_];rw[aEd,if_pos o_] at hx;exact jG.1 h.gone i x hx
theorem C3.push{s:dS}(h:C3 s)(hs:s.ok){id:bJ}{f:cQ}{now:Int}(ht:AP s.l=none)(hm:s.made<255)(hf:s.w[s.l.length]?=some f)(hnow:0≤now∧now≤1073741824) :
  C3 ⟨s.made+1,s.l++[rQ ⟨⟨id,s.made+1,false⟩,f⟩ now],s.w⟩:=by
 have h0:=hs.tS;have hgs:=jG.1 h.gone;have hz:lost s.w s.l s.l.length=false:=by
  cases hl:s.l.length with
  |zero=>rfl
  |succ k =>
   have hx:s.l[k]?=some s.l[k]:=aAa o_;rw[←hgs k _ hx];unfold AP at ht;rw[hl,show k+1 - 1=k from rfl,hx] at ht;dsimp only at ht;split at ht
   ·cases ht
   ·rename_i ho;unfold bH.pG at ho;cases hg:s.l[k].gone
    ·rfl
    ·rw[hg] at ho;simp at ho
 refine⟨λx hx=>?_,?_,λx hx=>?_,?_,h.pF⟩
 ·rcases aBg.1 hx with h1|h1
  ·exact h.may x h1
  ·rw[aAp] at h1;subst h1;rw[bH.bY];exact⟨by dsimp only;omega,h.pF f (aAi hf),by dsimp only;omega,⟨by dsimp only;omega,.inr rfl⟩,hnow,by dsimp only;omega,.inr rfl⟩
 ·show((s.l++[rQ ⟨⟨id,s.made+1,false⟩,f⟩ now]).map bH.ord).Pairwise (· < ·);rw[aBk,aFf];refine⟨h.nB,aFq _ _,λa ha b hb=>?_⟩;obtain⟨x,hx,rfl⟩:=aFn.1 ha;have hb:b=s.made+1:=by simpa using hb
  have:=h.pos x hx;omega
 ·show x.ord≤s.made+1;rcases aBg.1 hx with h1|h1
  ·have:=h.pos x h1;omega
  ·rw[aAp] at h1;subst h1;exact aCd _
 ·show settle s.w (s.l++[rQ ⟨⟨id,s.made+1,false⟩,f⟩ now])=s.l++[rQ ⟨⟨id,s.made+1,false⟩,f⟩ now];rw[jG];have hfr:∀j,j≤s.l.length→lost s.w (s.l++[rQ ⟨⟨id,s.made+1,false⟩,f⟩ now]) j=lost s.w s.l j :=
   λj hj=>CW (k:=s.l.length) (λi hi=>aBp hi) j hj
  intro i x hx;by_cases hi:i<s.l.length
  ·rw[hfr (i+1) o_];rw[aBp hi] at hx;exact hgs i x hx
  ·have hlt:=(aAd.1 hx).1;rw[aAe,aDa] at hlt;obtain rfl:i=s.l.length:=by omega
   have hx2:=hx;rw[aBc (aAf _),aEi] at hx2;have hx2:=aDk hx2;rw[nZ hx,hfr _ (aAf _),hz,←hx2];show false=(false||(false||decide (s.w[s.l.length]?≠some f)));rw[hf];simp
theorem C3.gV{s:dS}(h:C3 s)(hs:s.ok){id:bJ}{now:Int}(hnow:0≤now∧now≤1073741824):C3 (s.gV id now):=by
 rcases HJ (s:=s) (id:=id) (now:=now) with h1|⟨e,ht,_,h1⟩|⟨f,ht,hm,hf,h1⟩
 ·rw[h1];exact h
 ·rw[h1];obtain⟨he,_⟩:=yZ ht;exact h.set he (OY e now).1 (OY e now).2 (Sk (h.may e (aAi he)) hnow)
 ·rw[h1];exact h.push hs ht hm hf hnow
theorem C3.qJ{s:dS}(h:C3 s){id:bJ}{k:bP}:C3 (s.qJ id k):=by
 rcases G7 (s:=s) (id:=id) (k:=k) with h1|⟨i,e,he,_,ha,h1⟩|⟨i,e,he,_,_,hi,h1⟩
 ·rw[h1];exact h
 ·rw[h1];exact h.set he rfl rfl (Qy (h.may e (aAi he)) ha)
 ·rw[h1];exact h.take i
def JO(s:dS):Prop:=s.ok∧C3 s
def JL(ps:List dS):Prop:=∀s∈ps,JO s
theorem JO.zero:JO s0:=⟨dS.Kk,C3.zero⟩
theorem JL.getD{ps:List dS}(h:JL ps)(i:Nat):JO (ps.getD i s0):=by
 rw[aBb];cases hx:ps[i]? with
 |none=>exact JO.zero
 |some s=>exact h s (aAi hx)
theorem JL.set{ps:List dS}(h:JL ps){i:Nat}{s:dS}(hs:JO s):JL (ps.set i s):=by
 intro x hx;rcases aCr hx with h1|rfl
 ·exact h x h1
 ·exact hs
theorem Qx{l:List bH}{q:Int}(h1:∀e∈l,e.may=true)(h2:∀e∈l,q<e.ord)(h3:(l.map bH.ord).Pairwise (· < ·)):nB q l=true:=by
 induction l generalizing q with
 |nil=>rfl
 |cons x l ih =>
  rw[aCi,List.pairwise_cons] at h3;show(x.may&&(decide (q<x.ord)&&nB x.ord l))=true;rw[h1 x aBo,decide_eq_true (h2 x aBo),ih (λe he=>h1 e (aBl _ he)) (λe he=>h3.1 _ (aFi he)) h3.2];rfl
theorem OU{l:List bH}{q m:Int}(h:∀e∈l,e.ord≤m)(hq:q≤m):sL q l≤m:=by
 induction l generalizing q with
 |nil=>exact hq
 |cons x l ih=>exact ih (λe he=>h e (aBl _ he)) (h x aBo)
theorem JO.whole{s:dS}(h:JO s):pY s.made s.l=true:=by
 obtain⟨h1,h2⟩:=h;unfold pY;rw[Qx h2.may (λe he=>by have:=((bH.bY e).1 (h2.may e he)).1;omega) h2.nB,decide_eq_true ⟨OU h2.pos h1.tS,h1.nK⟩];rfl
end Go.Proofs.YtmilalkjbojciaaGreat.Sep
