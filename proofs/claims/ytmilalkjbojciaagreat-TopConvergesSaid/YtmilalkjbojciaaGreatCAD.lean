/- Part AD: what it needs. No condition. -/
import Derived.Test.YtmilalkjbojciaaGreatCAB
set_option linter.all false
set_option maxRecDepth 100000
set_option maxHeartbeats 8000000
open Go.Proofs.Tryz
namespace Go.Proofs.YtmilalkjbojciaaGreat.Sep
open Go.RowKit Reg
open Mem hiding Rd
variable{k:Nat}{α:Type}
instance:zH 3 [a! 0]:=⟨q_⟩
def bw(l:List α):List (Nat×α):=(l.zipIdx.map λp=>(p.2,p.1)).reverse
def MH(l:List α):(bw l).length=l.length:=by simp[bw]
def MF{l:List α}{i:Nat}{x:α}(h:(bw l)[k]?=some (i,x)):i+k+1=l.length/\l[i]?=some x:=by
 have b:k<(bw l).length:=(cH.1 h).1;rw[MH] at b;unfold bw at h;rw[List.getElem?_reverse (by simpa using b)] at h;simp only[fB,List.length_zipIdx,mM,List.getElem?_zipIdx,lM] at h;cases a:l[l.length - 1 - k]? with
 |none=>rw[a] at h;cases h
 |some y =>
  rw[a] at h;simp only[Dk,Option.some.injEq,Prod.mk.injEq] at h;obtain⟨rfl,rfl⟩:=h;exact⟨o_,a⟩
def MG{l:List α}{i:Nat}{x:α}(hi:i+k+1=l.length)(a:l[i]?=some x):(bw l)[k]?=some (i,x):=by
 unfold bw;rw[List.getElem?_reverse (by simp;omega)];simp only[fB,List.length_zipIdx,mM,List.getElem?_zipIdx,lM];rw[show l.length - 1 - k=i by omega,a];rfl
abbrev RC(p:Nat×aI):List p!:=[a! p.1,.agg p.2.cs.toArray]
def bwd(E:Env)(g:Nat)(A:n!)(n c:Nat)(l:List aI)(j:Rd E bO A n c l)(lp:Nat)(J X:Nat->aG)
  (r:∀d R2 i x,Sub E R2 d->(bw l)[i]?=some x->Gm prog d lp (RC x) [J i] (λe H'=>(e=.returned (.bool true)/\H'=[J (i+1)])\/(e=.returned (.bool false)/\H'=[X i]))) :
  aF prog E 381 #[.func (.yield lp) #[] #[],.pointer (some ⟨g,0,none⟩)] (J 0::[aE g 24 [.slice A n c]])
   (λe H'=>(∃v,e=.returned v)/\(H'=J (bw l).length::[aE g 24 [.slice A n c]]\/∃i,i<(bw l).length/\H'=X i::[aE g 24 [.slice A n c]])):=by
 have q:=j.len;have f:=j.cap;have h:=cS;have a:(bw l).length=n:=by rw[MH,q]
 refine VT func381 rfl ntmps381 s_ ?_;repeat (first|refine tC ?_|refine sH ?_|intro _)
 refine CI.loop (X:=Nat) (λk=>[(0,.func (.yield lp) #[] #[]),(1,.pointer (some ⟨g,0,none⟩)),(3,a! (n - 1 - k:Int))]) (λk=>[J k,aE g 24 [.slice A n c]]) (λk=>k<=n) (λk=>n - k) 0 aK aB.refl (bY _) ?_;intro k G t;by_cases p:k<n
 ·have⟨i,s⟩:∃i:Nat,i+k+1=n:=⟨n - 1 - k,o_⟩;have b:(n - 1 - k:Int)=(i:Int):=o_;have m:l[i]?=some l[i]:=bS o_;generalize l[i]=x at m;rw[b];repeat (first|refine tC ?_|refine sH ?_|intro _)
  refine LI.yield sD rfl ER aH (λM o=>r M _ k (i,x) o (MG o_ m)) ?_;rintro e H' (⟨rfl,rfl⟩|⟨rfl,rfl⟩)
  ·refine⟨_,rfl,_,bU,?_⟩;repeat (first|refine tC ?_|refine sH ?_|intro _)
   exact⟨k+1,aK,aB.refl,o_,o_⟩
  ·refine⟨_,rfl,_,bU,?_⟩;repeat (first|refine tC ?_|refine sH ?_|intro _)
   exact Hy rfl aC (⟨⟨_,rfl⟩,.inr ⟨k,o_,rfl⟩⟩)
 ·obtain rfl:k=n:=o_;repeat (first|refine tC ?_|refine sH ?_|intro _)
  exact gG rfl aC (⟨⟨_,rfl⟩,.inl (by rw[a])⟩)
def XE(E:Env)(A:n!)(n c:Nat):G E 371 [.slice A n c] [] λe a=>∃g,e=.returned (.func (.func 381) #[] #[.pointer (some ⟨g,0,none⟩)])/\a=[aE g 24 [.slice A n c]]:=by
 refine p_ func371 ntmps371 ?_;intros
 exact dS ⟨_,rfl,rfl⟩
def rI(l:List aI)(c:aI):Nat:=behind (λx=>decide (¬nJ c x<0)) l
def pD(l:List aI)(c:aI):List aI:=l.take (rI l c)++[c]++l.drop (rI l c)
theorem IC(l:List aI)(c:aI):(pD l c).length=l.length+1:=by
 have:=MD (λx=>decide (¬nJ c x<0)) l;unfold pD rI;simp only[bR,dR,lB,gL,tH];omega
def Ck(l:List aI)(k:Nat):Nat×aI:=((bw l)[k]?).getD (0,kU)
def JC{l:List aI}{x:Nat×aI}(h:(bw l)[k]?=some x):Ck l k=x:=by unfold Ck;rw[h];rfl
def aJk(E:Env)(A:n!)(n c:Nat)(l:List aI)(c0:aI)(hr:Rd E bO A n c l)(hm:n<=10000):G E 344 [.slice A n c,.agg c0.cs.toArray] [] λe H'=>∃B d,(n+1<=d/\d<=maxLen)/\e=.returned (.slice B (n+1) d)/\H'=[own bO B (n+1) d (pD l c0)]:=by
 have hn:=hr.len;have hcap:=hr.cap;have hmax:=cS;refine VU func344 rfl ntmps344 s_ λhds=>?_;refine WJ.vV (a_ ?_);intros
 refine WJ.vV (a_ ?_);intros;rename_i g3 g5;refine WJ.seq ?_;refine WJ.vV (a_ ?_);refine u_ (λM=>XE M A n c) ?_;intro g;refine WJ.rf (Y:=Nat) (ps:=[10,11]) (xs:=bw l) RC (λk=>[mS (∀j x,j<k->(bw l)[j]?=some x->nJ c0 x.2<0),aE g3 34 c0.cs,aE g5 3 [a! 0]])
  (λk=>[mS ((∀j x,j<k->(bw l)[j]?=some x->nJ c0 x.2<0)/\¬nJ c0 (Ck l k).2<0),aE g3 34 c0.cs,aE g5 3 [a! ((Ck l k).1+1:Int)]])
  (λk y=>[(3,.pointer (some ⟨g3,0,none⟩)),(5,.pointer (some ⟨g5,0,none⟩)),(6,a! (Ck l k).1),(7,.pointer (some ⟨y,0,none⟩))])
  (λk y=>[aE y 34 (Ck l k).2.cs,mS (∀j x,j<k->(bw l)[j]?=some x->nJ c0 x.2<0),aE g3 34 c0.cs,aE g5 3 [a! 0]])
  (Hit:=[aE g 24 [.slice A n c]]) (Hd:=[aE g 24 [.slice A n c]]) (Hs:=λ_=>[aE g 24 [.slice A n c]])
  hds rfl ⟨_,func381,q_,rfl⟩ (λ_=>rfl) sD ?_
  (λM R' lp J X hE hy=>bwd M g A n c l (hr.sub hE) lp J X hy) ?_ ?_ ?_ ?_
 ·simp only[mX,jD];exact(aB.qH (p:=∀j x,j<0->(bw l)[j]?=some x->nJ c0 x.2<0) λj x hj=>i! hj o_).trans aC
 ·intro E2 R3 lp k x hE hd hx;rw[JC hx];repeat (first|refine tC ?_|refine sH ?_|intro _)
  exact⟨_,aK,aC⟩
 ·intro E2 R3 lp k x y Gf hE hd hx;rw[JC hx];have⟨i,x⟩:=x;have⟨hi,hxl⟩:=MF hx;try dsimp only
  refine CI.fact aV λhall=>?_;by_cases hl:nJ c0 x<0
  ·repeat (first|refine tC ?_|refine sH ?_|intro _)
   refine MO sD sK aH (λM hE=>U2 M c0 x) ?_;rintro e H' ⟨rfl,rfl⟩;refine⟨_,rfl,_,bU,?_⟩;repeat (first|refine tC ?_|refine sH ?_|intro _)
   refine⟨(aB.qH (p:=∀j x,j<k+1->(bw l)[j]?=some x->nJ c0 x.2<0) λj z hj hz=>?_).trans aC⟩;by_cases hjk:j=k
   ·subst hjk;rw[hx] at hz;injection hz with hz;subst hz;exact hl
   ·exact hall j z o_ hz
  ·repeat (first|refine tC ?_|refine sH ?_|intro _)
   refine MO sD sK aH (λM hE=>U2 M c0 x) ?_;rintro e H' ⟨rfl,rfl⟩;refine⟨_,rfl,_,bU,?_⟩;repeat (first|refine tC ?_|refine sH ?_|intro _)
   refine⟨rfl,(aB.qH (p:=(∀j x,j<k->(bw l)[j]?=some x->nJ c0 x.2<0)/\¬nJ c0 x<0) ⟨hall,hl⟩).trans aC⟩
 ·intro D;simp only[mX,jD];change WJ _ _ _ _ _ _ [_,_,_,aE g5 3 [a! ((0:Nat):Int)],_];refine WJ.fact aV λhall=>?_;refine WJ.Na ?_;have⟨m,hm⟩:∃m,m=0:=⟨_,rfl⟩
  have hkn:m<=n:=by rw[hm];exact bY _
  have hat:rI l c0=m:=by rw[hm];exact P8 (HY λi x hi hx=>by have:=hall (n - 1 - i) (i,x) (by rw[MH];omega) (MG o_ hx);simpa using this)
  refine C.conv (H':=[kH D,aE g3 34 c0.cs,aE g5 3 [a! (m:Int)],aE g 24 [.slice A n c]]) (by rw[hm];exact aC) ?_;have hlen:=IC l c0;unfold pD at hlen⊢;rw[hat] at hlen⊢;clear hall hat hm;have hr':Rd (E.jM [{ target:=.collected D,args:=#[] }]) bO A n c l:=hr;have h1:Rd (E.jM [{ target:=.collected D,args:=#[] }]) bO A m c (l.take m):=hr.upto hkn o_ (bM _);have h2:Rd (E.jM [{ target:=.collected D,args:=#[] }]) bO _ _ _ (l.drop m):=hr.from_ (k:=m) hkn;refine a_ ?_;refine rA (l_ [0,1,2,3,5,6,7] (g_ 4 (g_ 8 (g_ 9 (n_ 10 .nil))))) (a_ ?_);intros;refine cg rfl sD bB sK aH (λM hE=>JF M _ _ _ _ bK (by intro s hs;simp at hs;rcases hs with rfl|rfl|rfl;exact h1.sub hE;exact bK;exact h2.sub hE) (by simp;omega)) ?_;simp only[zK,GZ,aY,<-bF,hlen,<-hn];refine b_ ?_;intro B d hd;refine⟨_,aV,?_⟩;exact dS ⟨_,_,hd,rfl,rfl⟩
 ·intro D k hk;simp only[mX,jD];change WJ _ _ _ _ _ _ [_,_,_,aE g5 3 [a! (((Ck l k).1+1:Nat):Int)],_];refine WJ.fact aV λhall=>?_;refine WJ.Na ?_;have⟨m,hm⟩:∃m,m=(Ck l k).1+1:=⟨_,rfl⟩
  have hkn:m<=n:=by rw[hm];exact(by have h:=bS hk;rw[JC h];have:=(MF (i:=(bw l)[k].1) (x:=(bw l)[k].2) h).1;omega)
  have hat:rI l c0=m:=by rw[hm];exact(by have h:=bS hk;rw[JC h] at hall⊢;have hb:=MF (i:=(bw l)[k].1) (x:=(bw l)[k].2) h;refine P6 hb.2 (d! hall.2) λj y hj hy=>?_;have hjn:=(cH.1 hy).1;have:=hall.1 (n - 1 - j) (j,y) o_ (MG o_ hy);simpa using this)
  refine C.conv (H':=[kH D,aE g3 34 c0.cs,aE g5 3 [a! (m:Int)],aE g 24 [.slice A n c]]) (by rw[hm];exact aC) ?_;have hlen:=IC l c0;unfold pD at hlen⊢;rw[hat] at hlen⊢;clear hall hat hm;have hr':Rd (E.jM [{ target:=.collected D,args:=#[] }]) bO A n c l:=hr;have h1:Rd (E.jM [{ target:=.collected D,args:=#[] }]) bO A m c (l.take m):=hr.upto hkn o_ (bM _);have h2:Rd (E.jM [{ target:=.collected D,args:=#[] }]) bO _ _ _ (l.drop m):=hr.from_ (k:=m) hkn;refine a_ ?_;refine rA (l_ [0,1,2,3,5,6,7] (g_ 4 (g_ 8 (g_ 9 (n_ 10 .nil))))) (a_ ?_);intros;refine cg rfl sD bB sK aH (λM hE=>JF M _ _ _ _ bK (by intro s hs;simp at hs;rcases hs with rfl|rfl|rfl;exact h1.sub hE;exact bK;exact h2.sub hE) (by simp;omega)) ?_;simp only[zK,GZ,aY,<-bF,hlen,<-hn];refine b_ ?_;intro B d hd;refine⟨_,aV,?_⟩;exact dS ⟨_,_,hd,rfl,rfl⟩
instance:iB 221 [.slice none 0 0] [(0,1)]:=⟨⟨q_,q_⟩⟩
def Xr(E:Env)(A:n!)(n c:Nat)(l:List aI)(hr:Rd E bO A n c l)(f:FuncId)(cs:List p!)(p:aI->Bool)(hk:jT f=true)(hp:∀M R,Sub E R M->∀x:aI,G M f (.agg x.cs.toArray::cs) [] (bL (.bool (p x)) [])) :
  G E 337 [.slice A n c,.func (.func f) #[] cs.toArray] [] (bL (.bool (l.any p)) []):=by
 refine p_ func337 ntmps337 ?_
 refine cl sD sK aH (λM hE=>SB M A n c l bK f cs p hk λE2 R hE2=>hp E2 _ (hE.trans hE2)) ?_;rintro r H' ⟨rfl,rfl⟩;refine a_ ?_
 exact aX rfl aJ aC (⟨by rw[<-Hn],rfl⟩)
abbrev pt(g:Nat):p!:=.pointer (some ⟨g,0,none⟩)
section
variable (E:Env) (g:Nat) (B:n!) (m d:Nat) (l:List aI)
def VP(hb:gX E g [.slice B m d])(a:Rd E bO B m d l):G E 240 [pt g] [] (bL (a! m) []):=by
 refine p_ func240 ntmps240 ?_
 exact aS
def GF(hb:gX E g [.slice B m d])(h:Rd E bO B m d l)(f:m<=100000):G E 77 [pt g] [] λe a=>∃A k,(m<=k/\k<=maxLen)/\e=.returned (.slice A m k)/\a=[own bO A m k l]:=by
 refine p_ func77 ntmps77 ?_
 refine C_ (λM b=>Gx M B m d l b o_) ?_;intro A k c
 exact dS ⟨_,_,c,rfl,rfl⟩
def aRg(hb:gX E g [.slice B m d])(i:Rd E bO B m d l)(f:m<=100000):G E 143 [pt g] [] λe a=>∃q A k,e=.returned (pt q)/\a=[aE q 221 [.slice A m k],own bO A m k l]:=by
 refine p_ func143 ntmps143 ?_
 refine rO (λM b c=>GF M g B m d l b c f) ?_;refine b_ ?_;intro A k h;intros
 exact dS ⟨_,_,_,rfl,rfl⟩
def aLw(hb:gX E g [.slice B m d])(b:Rd E bO B m d l):G E 179 [pt g] [] (bL (.tuple #[.agg ((l[0]?).getD kU).cs.toArray,.bool (!l.isEmpty)]) []):=by
 have a:=b.len;have e:=b.cap;refine p_ func179 ntmps179 ?_;intros
 refine oE (λM=>VP M g B m d l) ?_;cases l with
 |nil =>
  obtain rfl:m=0:=a;simp only[List.getElem?_nil,Option.getD_none,List.isEmpty_nil,Bool.not_true];refine a_ ?_
  exact lO
 |cons x l =>
  simp only[gL] at a;have c:(x::l)[0]?=some x:=rfl;simp only[c,oD,List.isEmpty_cons,LM];refine a_ ?_
  exact lO
def qL(l:List aI)(a:aL):Bool:=decide (0<=eH l a) && !(l.any λc=>decide (c.id.rep=a.rep/\c.id.seq<a.seq))
def aHa(q:Nat)(a:aL)(h:gX E q a.cs)(x:aI):G E 373 [.agg x.cs.toArray,pt q] [] (bL (.bool (decide (x.id.rep=a.rep/\x.id.seq<a.seq))) []):=by
 refine t_ func373 ntmps373 ?_;repeat' (first|refine w_ ?_|refine k_ ?_|refine f_ ?_ ?_|intro _)
 all_goals exact aX rfl aJ aC ⟨iK,rfl⟩
def aOf(hb:gX E g [.slice B m d])(hr:Rd E bO B m d l)(r s:Int):G E 345 [pt g,.agg #[a! r,a! s]] [] (bL (.bool (qL l ⟨r,s⟩)) []):=by
 unfold qL;refine p_ func345 ntmps345 ?_;intros;rename_i q;by_cases h:0<=eH l ⟨r,s⟩
 ·rw[d! h,uC];refine rA (l_ [0,1,2,3,4,5,6,7] (g_ 8 (l_ [9,10] .nil))) (a_ ?_);refine cl sD sK aH (λM hE=>Xr M B m d l (hr.sub hE) 373 [_] _ sK λE2 R2 hE2 x=>aHa E2 q ⟨r,s⟩ ((gX.of hE aV).sub hE2) x) (b_ ?_);exact aS
 ·rw[e! h,xP];refine rA (l_ [0,1,2,3,4,5,6,7] (g_ 8 (l_ [9,10] .nil))) (a_ ?_);exact aS
def xJ(l:List aI)(a:aL):List aI:=if qL l a then BT l (eH l a) else l
def aHd(r s:Int)(hm:m<=100000):G E 303 [pt g,.agg #[a! r,a! s]] [aE g 221 [.slice B m d],own bO B m d l]
  λe H'=>∃A k,e=.returned (.tuple #[.agg (if qL l ⟨r,s⟩ then(l[(eH l ⟨r,s⟩).toNat]?).getD kU else kU).cs.toArray,.bool (qL l ⟨r,s⟩)])/\H'=[aE g 221 [.slice A (xJ l ⟨r,s⟩).length k],own bO A (xJ l ⟨r,s⟩).length k (xJ l ⟨r,s⟩)]:=by
 unfold xJ;refine aF.fact (p:=m=l.length) (λw hw=>by have⟨F,h1,_⟩:=hw.has (a:=own bO B m d l) aV;exact h1.1) λhn=>?_;refine p_ func303 ntmps303 ?_;intros
 rename_i g3 g4;refine oE (λM h1 h2=>aOf M g B m d l h1 h2 r s) ?_;cases hf:qL l ⟨r,s⟩ with
 |false =>
  simp only[tG,if_false];rw[<-hn];refine a_ ?_
  exact mL rfl aJ rfl rfl rfl aV rfl aJ aC (⟨_,_,rfl,rfl⟩)
 |true =>
  simp only[if_true];have h0:0<=eH l ⟨r,s⟩:=by unfold qL at hf;simp at hf;exact hf.1
  have⟨hlt,x,hx,_⟩:=CD h0;change l[(eH l ⟨r,s⟩).toNat]?=some x at hx;rw[hx,oD];refine a_ ?_
  refine rA (l_ [0,1,2,3,4] (g_ 5 (n_ 6 .nil))) (a_ ?_);intros
  refine C_ (λM h1=>aFr M B m d l (eH l ⟨r,s⟩) h1 hm) ?_;intro A k hk
  exact mL rfl aJ rfl rfl rfl aV rfl aJ aC (⟨_,_,rfl,rfl⟩)
def aJm(x:aI)(hm:m<=10000):G E 302 [pt g,.agg x.cs.toArray] [aE g 221 [.slice B m d],own bO B m d l]
  λe H'=>∃A k,e=.returned (.bool (decide (eH l x.id<0)))/\H'=[aE g 221 [.slice A (if eH l x.id<0 then pD l x else l).length k],own bO A (if eH l x.id<0 then pD l x else l).length k (if eH l x.id<0 then pD l x else l)]:=by
 refine aF.fact (p:=m=l.length) (λw hw=>by obtain⟨F,h1,_⟩:=hw.has (a:=own bO B m d l) aV;exact h1.1) λhn=>?_;refine t_ func302 ntmps302 ?_;by_cases h:eH l x.id<0
 have h':¬0<=eH l ⟨x.id.rep,x.id.seq⟩:=by show ¬0<=eH l x.id;omega
 simp only[c! h,d! h];have hl:=IC l x;rw[<-hn] at hl;rw[hl];refine a_ ?_;intros;refine rA (l_ [0,1,2,3,4,5,6,7,8] (g_ 9 (l_ [10,11] .nil))) (a_ ?_);refine C.fL 9 (l_ [0,1,2,3,4,5] (g_ 6 (l_ [7,8] (g_ 9 .nil)))) _ q_ q_ aB.refl (a_ ?_);refine AV (λM h1=>aJk M B m d l x h1 hm) ?_;refine b_ ?_;intro A k hk;rotate_left;have h':0<=eH l ⟨x.id.rep,x.id.seq⟩:=by show 0<=eH l x.id;omega
 simp only[b! h,e! h];rw[<-hn];refine a_ ?_;intros;refine rA (l_ [0,1,2,3,4,5,6,7,8] (g_ 9 (l_ [10,11] .nil))) (a_ ?_);all_goals
  exact dS ⟨_,_,rfl,rfl⟩
end
def Ea(v t:V4)(c:aI):Bool:=c.id.may&&decide (AR v c.id.rep=c.id)&&decide (1<=c.time/\c.time<=1073741824)&&decide (t.get c.id.rep<c.time)
def aDn(E:Env)(v t:V4)(c:aI)(e:v.ok):G E 301 [.agg v.cs.toArray,.agg t.cs.toArray,.agg c.cs.toArray] [] (bL (.bool (Ea v t c)) []):=by
 obtain⟨⟨r,s⟩,h,n,a,b,nn,rf⟩:=c;unfold Ea;dsimp only[aI.cs,G];refine t_ func301 ntmps301 ?_;cases i:aL.may ⟨r,s⟩ with
 |false =>
  simp only[xP];refine a_ ?_;intros;refine rA (l_ [0,1] (g_ 2 (l_ [3,4,5,6,7,9,10] (g_ 8 (l_ [11,12,13,14,15] (g_ 16 (l_ [17,18,19,20,21,22,23,24,25,26,27,28] .nil))))))) (a_ ?_);exact aS
 |true =>
  have j:=(aL.eY _).1 i;dsimp only at j;simp only[uC];cases k:decide (AR v r=⟨r,s⟩) with
  |false =>
   simp only[xP];refine a_ ?_;intros;refine rA (l_ [0,1] (g_ 2 (l_ [3,4,5,6,7,9,10] (g_ 8 (l_ [11,12,13,14,15] (g_ 16 (l_ [17,18,19,20,21,22,23,24,25,26,27,28] .nil))))))) (a_ ?_);refine y_ (λM=>GH M v r e) ?_;exact aS
  |true =>
   simp only[uC];by_cases f:1<=h/\h<=1073741824
   ·rw[d! f,uC];rcases four (show 0<=r/\r<=3 by omega) with rfl|rfl|rfl|rfl;rw[show t.get 0=t.a from rfl];refine a_ ?_;intros;refine rA (l_ [0,1] (g_ 2 (l_ [3,4,5,6,7,9,10] (g_ 8 (l_ [11,12,13,14,15] (g_ 16 (l_ [17,18,19,20,21,22,23,24,25,26,27,28] .nil))))))) (a_ ?_);refine y_ (λM=>GH M v 0 e) ?_;rotate_left;rw[show t.get 1=t.b from rfl];refine a_ ?_;intros;refine rA (l_ [0,1] (g_ 2 (l_ [3,4,5,6,7,9,10] (g_ 8 (l_ [11,12,13,14,15] (g_ 16 (l_ [17,18,19,20,21,22,23,24,25,26,27,28] .nil))))))) (a_ ?_);refine y_ (λM=>GH M v 1 e) ?_;rotate_left;rw[show t.get 2=t.c from rfl];refine a_ ?_;intros;refine rA (l_ [0,1] (g_ 2 (l_ [3,4,5,6,7,9,10] (g_ 8 (l_ [11,12,13,14,15] (g_ 16 (l_ [17,18,19,20,21,22,23,24,25,26,27,28] .nil))))))) (a_ ?_);refine y_ (λM=>GH M v 2 e) ?_;rotate_left;rw[show t.get 3=t.d from rfl];refine a_ ?_;intros;refine rA (l_ [0,1] (g_ 2 (l_ [3,4,5,6,7,9,10] (g_ 8 (l_ [11,12,13,14,15] (g_ 16 (l_ [17,18,19,20,21,22,23,24,25,26,27,28] .nil))))))) (a_ ?_);refine y_ (λM=>GH M v 3 e) ?_;all_goals
     exact aX rfl aJ aC (⟨iK,rfl⟩)
   ·rw[e! f,xP];refine a_ ?_;intros;refine rA (l_ [0,1] (g_ 2 (l_ [3,4,5,6,7,9,10] (g_ 8 (l_ [11,12,13,14,15] (g_ 16 (l_ [17,18,19,20,21,22,23,24,25,26,27,28] .nil))))))) (a_ ?_);refine y_ (λM=>GH M v r e) ?_;exact aX rfl aJ aC (⟨iK,rfl⟩)
end Go.Proofs.YtmilalkjbojciaaGreat.Sep
