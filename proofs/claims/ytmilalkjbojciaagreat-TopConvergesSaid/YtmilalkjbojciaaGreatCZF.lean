/- Part ZF: what it needs. No condition. -/
import Derived.Test.YtmilalkjbojciaaGreatCZB
import Derived.Test.YtmilalkjbojciaaGreatCZC
set_option linter.all false
set_option maxRecDepth 100000
set_option maxHeartbeats 8000000
open Go.Proofs.Tryz
namespace Go.Proofs.YtmilalkjbojciaaGreat.Sep
variable{A:dT}{T':Int}{cf:bW}{f:Nat->List cK}{i:Nat}{k:bV}{m:Mg}{q:aM}{t t':Int}{u v v':Wv}{z:Nat×aM}
section
theorem UA:∀ {l m:List Int},l.Pairwise (· < ·)->m.Pairwise (· < ·)->(∀x,x∈l↔x∈m)->l=m
 | [],[],_,_,_=>rfl
 | [],y::m,_,_,h=>by have:=(h y).2 (.head _);cases this
 |x::l,[],_,_,h=>by have:=(h x).1 (.head _);cases this
 |x::l,y::m,c,hm,h=>by
  have⟨g,d⟩:=Io.1 c;have⟨i,f⟩:=Io.1 hm;have a:x=y:=by
   rcases tK.1 ((h x).1 (.head _)) with e|e
   ·exact e
   ·rcases tK.1 ((h y).2 (.head _)) with b|b
    all_goals grind
  subst a;rw[UA d f λz=>⟨λhz=>?_,λhz=>?_⟩];all_goals grind
def Ob:∀(A:List aM),(pF A).Sublist A
 | []=>.slnil
 |q::A=>by
  unfold pF;split
  ·exact(Ob A).cons q
  ·exact(Ob A).cons_cons q
theorem Fk:∀ {A:List aM},q∈pF A->∃b a,A=b++q::a/\q.key.cJ=false/\∀x∈a,x.key≠q.key.other
 | [],h=>by cases h
 |p::A,h=>by
  unfold pF at h;split at h
  ·have⟨b,a,e,d⟩:=Fk h
   grind
  ·rename_i c;rcases tK.1 h with rfl|h
   ·simp only[LN,GV,h!,not_or,not_exists,not_and] at c;exact⟨[],A,rfl,by simpa using c.1,c.2⟩
   ·have⟨b,a,e,d⟩:=Fk h;exact⟨p::b,a,by rw[e];rfl,d⟩
theorem VE:∀ {A:List aM},q∈A->q.key.cJ=false->(∀x∈A,x.key≠q.key.other)->q∈pF A
 | [],h,_,_=>by cases h
 |p::A,h,hu,hn=>by
  unfold pF;rcases tK.1 h with rfl|h
  ·grind
  ·have:=VE h hu λx a=>hn x (.tail _ a)
   grind
theorem Qj{u v:aM}:∀ {a d f g:List aM},(∀x∈a,x.key≠k)->(∀x∈d,x.key≠k)->u.key=k->v.key=k->a++u::f=d++v::g->a=d
 | [],[],_,_,_,_,_,_,_=>rfl
 | [],c::d,f,g,_,j,hu,_,e=>by
  grind
 |b::a,[],f,g,i,_,_,l,e=>by
  grind
 |b::a,c::d,f,g,i,j,hu,l,e=>by
  injection e with m n
  rw[m,Qj (λx h=>i x (.tail _ h)) (λx h=>j x (.tail _ h)) hu l n]
theorem Cg.ends{a:aL}{s:bC}(h:Cg A a s)(hk:(A.a.map aM.key).Nodup)(hc:∀e∈s.l,e.dN=true/\e.gone=false)(hr:(s.l.map aN.ord).Pairwise (· < ·))(hp:∀e∈s.l,1<=e.ord/\e.ord<=s.made) :
  (rC a (pF A.a)).map (λq=>q.key.ord)=s.l.map aN.ord:=by
 have nou:∀e∈s.l,¬Dm A a e.ord:=λe he hu=>by
  have⟨i,hi⟩:=vH he;have:=(h.gO i e hi hu).2.1
  grind
 refine UA ?_ hr λo=>⟨λho=>?_,λho=>?_⟩
 ·rw[List.pairwise_map];have e:rC a (pF A.a)=(pF A.a).filter λq=>decide (q.key.id=a) && !q.key.cJ:=by
   unfold rC;refine List.filter_congr λq hq=>?_;have⟨_,_,_,hu,_⟩:=Fk hq;rw[hu];simp
  rw[e];exact h.iW.sublist ((Ob A.a).filter _)
 ·obtain⟨q,hq,rfl⟩:=jX.1 ho;have⟨hq,hid⟩:=uI.1 hq;have hid:=g! hid;have⟨A1,A2,e,hu,hl⟩:=Fk hq;have hqA:q∈A.a:=by rw[e];simp
  have⟨m1,m2⟩:=h.made q hqA hid;refine LQ λhno=>?_;have⟨_,u,hu1,hu2⟩:=h.out q.key.ord m1 m2 λx hx hxo=>hno (jX.2 ⟨x,hx,hxo⟩);have⟨B1,B2,e2⟩:=Ld hu1;have⟨p,hp1,hp2⟩:=h.Dp B1 B2 u e2 (by rw[hu2]) (by rw[hu2]);have hpq:p.key=q.key:=by
   rw[hp2,hu2];have⟨⟨qi,qo,qu⟩,qw⟩:=q;dsimp only at hid hu⊢;rw[hid,hu]
  have huo:u.key=q.key.other:=by
   rw[hu2];have⟨⟨qi,qo,qu⟩,qw⟩:=q;dsimp only at hid hu⊢;rw[hid,hu];rfl
  rw[e] at hu1;rcases eL.1 hu1 with h1|h1
  ·
   have⟨C1,C2,e3⟩:=Ld h1;have e4:B1++u::B2=C1++u::(C2++q::A2):=by rw[<-e2,e,e3];simp
   have hBC:B1=C1:=by
    have hnd:((B1++u::B2).map aM.key).Nodup:=by rw[<-e2];exact hk
    have k1:u.key∉B1.map aM.key:=λhh=>by
     rw[gP,jL,Ab] at hnd;exact hnd.2.2 _ hh _ (.head _) rfl
    have hnd2:((C1++u::(C2++q::A2)).map aM.key).Nodup:=by rw[<-e4];exact hnd
    have k2:u.key∉C1.map aM.key:=λhh=>by
     rw[gP,jL,Ab] at hnd2;exact hnd2.2.2 _ hh _ (.head _) rfl
    exact(Qj (k:=u.key) (λx hx hxe=>k1 (by rw[<-hxe];exact xV hx)) (λx hx hxe=>k2 (by rw[<-hxe];exact xV hx)) rfl rfl e4)
   rw[hBC] at hp1;have hnd:(A.a.map aM.key).Nodup:=hk;rw[e,gP,jL,Ab] at hnd;refine hnd.2.2 p.key (xV ?_) q.key (.head _) hpq;rw[e3];exact zN _ hp1
  ·rcases tK.1 h1 with h1|h1
   ·rw[h1] at hu2;rw[hu2] at hu;cases hu
   ·exact hl u h1 huo
 ·obtain⟨e,he,rfl⟩:=jX.1 ho;have⟨q,hq,hqk⟩:=h.Bl e he (hc e he).1;refine jX.2 ⟨q,uI.2 ⟨VE hq (by rw[hqk]) λx hx hxe=>nou e he ⟨x,hx,by rw[hxe,hqk];rfl⟩,d! (by rw[hqk])⟩,by rw[hqk]⟩
def tS(p:bC):Nat:=p.l.countP (·.gone)+p.l.countP (λe => !e.dN)+(p.w.length - p.l.countP λe => !e.gone)
theorem L?{l:List aN}{e:aN}(h:l[l.length - 1]?=some e):∃m,l=m++[e]:=by
 rcases GX l with rfl|⟨m,x,rfl⟩
 all_goals grind
theorem Pj{id:aL}{made:Int}{m:List aN}{x:aN}{w:List bE}(f:((m++[x]).map aN.ord).Pairwise (· < ·)) :
  (x.dN=false->bC.cR ⟨made,m++[x],w⟩ id ⟨id,x.ord,false⟩=⟨made,m++[x.cR],w⟩)/\(x.gO=true->1<=x.back->bC.cR ⟨made,m++[x],w⟩ id ⟨id,x.ord,true⟩=⟨made,m,w⟩):=by
 have c:(m++[x])[m.length]?=some x:=by rw[wG (bM _),BZ];rfl
 have b:(m++[x]).findIdx? (λe=>decide (e.ord=x.ord))=some m.length:=by
  grind
 have a:=λu=>Gn (id:=id) (k:=⟨id,x.ord,u⟩) rfl b c;refine⟨λh=>?_,λh d=>?_⟩
 ·unfold bC.cR;rw[a,c! (by grind)];show(⟨made,(m++[x]).set m.length x.cR,w⟩:bC)=_;rw[Ip _ _ (bM _),BZ];rfl
 ·unfold bC.cR;rw[a,b! s_,c! (by grind)];show(⟨made,(m++[x]).take m.length,w⟩:bC)=_;rw[List.take_left]
theorem NV{p:bC}(h:lK p):p.l.countP (λe => !e.gone)<=p.w.length:=by
 have b:=BF.1 h.gone;have a:(p.l.drop p.w.length).countP (λe => !e.gone)=0:=by
  grind [List.countP_eq_zero,List.getElem?_of_mem,J0]
 have:=wE (p:=λe:aN => !e.gone) (l₁:=p.l.take p.w.length) (l₂:=p.l.drop p.w.length)
 grind [List.take_append_drop,List.countP_le_length]
theorem Jn(l:List aN):l.countP (·.gone)+l.countP (λe => !e.gone)=l.length:=by
 induction l with
 |nil=>rfl
 |cons e l a =>
  grind
theorem Z7{a:aL}{p:bC}(h:Cg A a p):tS p<=17:=by
 have d:p.l.countP (λe => !e.dN)<=1:=by
  rcases GX p.l with e|⟨m,x,e⟩
  ·grind
  ·rw[PI] at e;rw[e,wE];have:m.countP (λe => !e.dN)=0:=by
    rw[List.countP_eq_zero];intro y c;have⟨i,b⟩:=vH c;have f:=(cH.1 b).1;rw[h.low i y (by grind) (by grind)];decide
   grind
 have:=Jn p.l;have:=h.len;have:=h.wide;grind [tS]
theorem Z9{id:aL}{p:bC}(h:Cg A id p)(r:lK p)(d:next id p.made p.l p.w=some q)(now:Int):tS ((p.dK id now).cR id q.key)<tS p/\((p.dK id now).cR id q.key).w=p.w:=by
 have y:=NV r;have z:=r.iW;have D:=r.pos;have⟨a,l,w⟩:=p;dsimp only at d y z D;cases s:jV l with
 |some e =>
  have t:bC.dK ⟨a,l,w⟩ id now=⟨a,l.set (l.length - 1) (e.dK now),w⟩:=by grind [bC.dK,Ok]
  unfold next at d;rw[s] at d;dsimp only at d;have⟨J,i⟩:=BN s;obtain⟨m,rfl⟩:=L? J;split at d
  ·rename_i F;obtain rfl:=iN d;rw[t];have H:(m++[e]).set ((m++[e]).length - 1) (e.dK now)=m++[e.dK now]:=by
    rw[bR,xU,Nat.add_sub_cancel,Ip _ _ (bM _),BZ];rfl
   rw[H];have⟨E,O⟩:=On e now;have g:((m++[e.dK now]).map aN.ord).Pairwise (· < ·):=by rw[gP,List.map_singleton,E,<-List.map_singleton,<-gP];exact z
   have⟨j,B⟩:=Pj (id:=id) (made:=a) (w:=w) g;rw[E] at j B;have hb:=(r.may e (by dsimp only;simp));rw[aN.eY] at hb;have⟨_,_,_,⟨⟨hb,_⟩,_⟩,_⟩:=hb;cases c:e.gO with
   |true =>
    have n:(e.dK now).gO=true/\1<=(e.dK now).back:=by
     unfold aN.dK;rw[c! ⟨i,F⟩,c! c];exact⟨c,d_⟩
    rw[B n.1 n.2];unfold aN.gO at c;have c:=(fI _ _).mp c;refine⟨?_,rfl⟩;unfold tS;dsimp only;rw[wE,wE,wE,zJ,zJ,zJ,c.1,c.2];simp
   |false =>
    have o:e.dN=false:=by
     unfold aN.gO at c;unfold aN.eO at i;cases K:e.dN with
     |false=>rfl
     |true=>rw[K] at c i;rw[uC] at c;rw[c] at i;cases i
    have k:(e.dK now).dN=false/\(e.dK now).gone=e.gone:=by
     unfold aN.dK;rw[c! ⟨i,F⟩,b! (by rw[c];decide)];exact⟨o,rfl⟩
    rw[j k.1];refine⟨?_,rfl⟩;unfold tS;dsimp only;rw[wE,wE,wE,wE,wE,wE,zJ,zJ,zJ,zJ,zJ,zJ,o];have u:(e.dK now).cR.gone=e.gone:=k.2;have v:(e.dK now).cR.dN=true:=rfl;rw[u,v];simp
  ·cases d
 |none =>
  have t:bC.dK ⟨a,l,w⟩ id now=⟨a+1,l++[sM q now],w⟩:=by unfold bC.dK;rw[Oj d s];rfl
  unfold next at d;rw[s] at d;obtain⟨_,f,M,rfl⟩:=C3 d;rw[t];have g:((l++[sM ⟨⟨id,a+1,false⟩,f⟩ now]).map aN.ord).Pairwise (· < ·):=by
   rw[gP,wH];refine⟨z,Cc _ _,λa o b hb=>?_⟩;obtain⟨x,N,rfl⟩:=jX.1 o;obtain rfl:=eM.1 hb;have:=D x N;show x.ord<a+1;omega
  have j:=(Pj (id:=id) (made:=a+1) (w:=w) g).1 rfl;dsimp only at j;change tS (bC.cR _ id ⟨id,(sM ⟨⟨id,a+1,false⟩,f⟩ now).ord,false⟩)<_/\(bC.cR _ id ⟨id,(sM ⟨⟨id,a+1,false⟩,f⟩ now).ord,false⟩).w=w;rw[j];refine⟨?_,rfl⟩;have P:=(cH.1 M).1;have:=Jn l;unfold tS;dsimp only;rw[wE,wE,wE,zJ,zJ,zJ];have u:(sM ⟨⟨id,a+1,false⟩,f⟩ now).cR.gone=false:=rfl;have v:(sM ⟨⟨id,a+1,false⟩,f⟩ now).cR.dN=true:=rfl;rw[u,v];simp;omega
def FE(cf:bW)(p:bC):Prop:=∃e,p.l[p.l.length - 1]?=some e/\e.eO=true/\cf.cO<=e.nt
theorem Z8{p:bC}(a:lK p)(h:tS p=0):quiet p.l p.w=true:=by
 grind [NV,Jn,tS,List.countP_eq_zero,quiet,List.all_eq_true,aN.eO]
theorem aOu{base a n:Int}(h:1<=a/\a<=64):Dly.wait base a n<=a:=by
 unfold Dly.wait;split
 ·omega
 ·have e:fC a 1 64=a:=by grind [fC]
  have b:=Dly.FK base 1 64 o_;rw[e];exact(Dly.JK a (min (fC base 1 64) a) o_ o_ ((min n 64 - 1).toNat)).2
theorem Qu(a:1<=cf.cap/\cf.cap<=64){e:aN}{now:Int}(h:e.last+cf.cap<=now/\e.iY+cf.cap<=now)(b:0<=e.last/\e.last<=1073741824)(c:0<=e.iY/\e.iY<=1073741824):e.due cf<=now:=by
 have d:=aOu (base:=cf.base) (n:=e.nt) a;have:fC e.lt 0 1073741824+cf.cap<=now:=by
  grind [aN.lt,fC]
 unfold aN.due Dly.due;omega
theorem aOy{id:aL}{p:bC}(h:Cg A id p)(j:lK p)(E:1<=cf.cO/\cf.cO<=8)(w:1<=cf.cap/\cf.cap<=64)(s:p.made<255){now:Int}(H:∀e∈p.l,e.last+cf.cap<=now/\e.iY+cf.cap<=now) :
  sT id p.made p.l p.w cf now=true\/tS p=0\/FE cf p:=by
 have F:=NV j;have B:=Jn p.l;cases a:jV p.l with
 |some e =>
  have⟨r,t⟩:=BN a;by_cases d:cf.cO<=e.nt
  ·exact .inr (.inr ⟨e,r,t,d⟩)
  ·refine .inl ?_;have c:=dG r;have hb:=j.may e c;rw[aN.eY] at hb;have⟨_,_,_,_,u,v,_⟩:=hb;have z:=Qu w (H e c) u v;unfold sT;have n:(next id p.made p.l p.w).isSome=true:=by
    grind [next]
   rw[n,a];dsimp only;unfold aN.ready;rw[t,d! (show e.nt<cf.cO by omega),d! z];simp
 |none =>
  by_cases P:p.l.length<p.w.length
  ·refine .inl ?_;have n:next id p.made p.l p.w=some ⟨⟨id,p.made+1,false⟩,p.w[p.l.length]⟩:=by
    grind [next,Rf,List.getElem?_eq_getElem]
   unfold sT;rw[n,a];exact d! E.1
  ·refine .inr (.inl ?_);have top:∀e∈p.l,e.dN=true/\e.gone=false:=by
    rcases GX p.l with e|⟨m,x,e⟩
    ·grind
    ·rw[PI] at e;have J:p.l[p.l.length - 1]?=some x:=by grind
     have f:x.eO=false:=by
      grind [Eb]
     unfold aN.eO at f;have q:x.dN=true/\x.gone=false:=by grind
     intro y K;have⟨i,g⟩:=vH K;have D:=(cH.1 g).1;by_cases l:i+1=p.l.length
     ·grind
     ·refine⟨h.low i y g o_,?_⟩;have d:=BF.1 j.gone;have o:=d _ x J;rw[show p.l.length - 1+1=p.l.length by omega,q.2] at o;rw[d i y g];cases b:lost p.w p.l (i+1) with
      |false=>rfl
      |true =>
       have:∀k,lost p.w p.l (i+1+k)=true:=λk=>by
        induction k with
        |zero=>exact b
        |succ k M=>exact aPd M
       have:=this (p.l.length - (i+1));grind
   have N:p.l.countP (·.gone)=0:=List.countP_eq_zero.2 λe c=>by grind
   have O:p.l.countP (λe => !e.dN)=0:=List.countP_eq_zero.2 λe c=>by grind
   unfold tS;omega
theorem aMx{p:bC}(h:FE cf p)(id:aL)(now:Int):sT id p.made p.l p.w cf now=false:=by
 have⟨e,a,b,c⟩:=h
 grind [sT,Eb,aN.ready]
theorem aFq{p:bC}(h:FE cf p)(c:lK p)(g:1<=cf.cap/\cf.cap<=64){now:Int}(i:∀e∈p.l,e.last+cf.cap<=now/\e.iY+cf.cap<=now):zU p.l cf now=true:=by
 have⟨e,a,d,f⟩:=h;have b:=dG a;have hb:=c.may e b
 grind [aN.eY,hb,zU,aN.dead,Qu]
structure FI(cf:bW)(T t:Int)(v:Wv):Prop where
 w:WI T v
 cf:v.cf=cf
 now:v.now=t
 cl:∀(i:Nat) (n:Nd),v.aD[i]?=some n->Cl n
 ref:v.ref=0
 sub:v.sub<=48
 ws:v.ws.length<=128
 len:1<=v.aD.length/\v.aD.length<=4
structure Kp(v v':Wv):Prop where
 len:v'.aD.length=v.aD.length
 l:∀i,(v.state i).v.l <+: (v'.state i).v.l
 all:∀i,∀c∈(v.state i).all,c∈(v'.state i).all
 own:Lw 0 v v'
def gH(v v':Wv):Prop:=v'.aD.length=v.aD.length/\∀i,v'.state i=v.state i
theorem gH.refl(v:Wv):gH v v:=⟨rfl,λ_=>rfl⟩
theorem gH.trans{a b c:Wv}(h:gH a b)(k:gH b c):gH a c:=⟨k.1.trans h.1,λi=>(k.2 i).trans (h.2 i)⟩
def gH.kp{a b:Wv}(h:gH a b):Kp a b:=⟨h.1,λi=>by rw[h.2];exact E3 _,λi c d=>by rw[h.2];exact d,λi=>by rw[h.2];omega⟩
theorem Kp.trans{a b c:Wv}(h:Kp a b)(k:Kp b c):Kp a c:=⟨k.len.trans h.len,λi=>(h.l i).trans (k.l i),λi x d=>k.all i x (h.all i x d),λi=>by have:=h.own i;have:=k.own i;omega⟩
section
variable {cf:bW} {T t:Int} {v:Wv}
theorem FI.st(h:FI cf T t v){n:Nd}(a:v.aD[i]?=some n):v.state i=n.s/\Gd n.s/\n.s.r=i:=by
 have e:v.state i=n.s:=(pE a).trans (jH (h.cl i n a).up);have⟨_,b,_,c,_⟩:=h.w.h.gd a;rw[jH (h.cl i n a).up] at b c
 grind
def FI.at_(h:FI cf T t v)(hi:i<v.aD.length):∃n,v.aD[i]?=some n/\Cl n/\v.state i=n.s/\Gd n.s/\n.s.r=i:=by
 have a:v.aD[i]?=some v.aD[i]:=bS hi;exact⟨_,a,h.cl i _ a,h.st a⟩
theorem FI.mv(h:FI cf T t v){n n':Nd}(e:v.aD[i]?=some n)(k:nL n n')(g:WI T' v'/\Lw 0 v v')(e1:v'.aD=v.aD.set i n')(e2:v'.cf=v.cf)(q:v'.now=v.now)(r:v'.ref=v.ref)(s:v'.sub=v.sub)(u:v'.ws.length<=128) :
  FI cf T' t v'/\Kp v v'/\v'.state i=n'.s/\∀j,j≠i->v'.state j=v.state j:=by
 have a:v'.state i=n'.s:=by rw[pE (n:=n') (by grind),jH k.1.up]
 have d:∀j,j≠i->v'.state j=v.state j:=λj b=>by grind [Wv.state,xG]
 have⟨f,x,_⟩:=h.st e;have⟨_,_,l,y,z⟩:=k;have⟨o,p,_,_⟩:=H5 x y;rw[<-z] at o p;refine⟨⟨g.1,e2.trans h.cf,q.trans h.now,λj m c=>?_,r.trans h.ref,by rw[s];exact h.sub,u,by rw[e1,iM];exact h.len⟩,⟨by rw[e1,iM],λj=>?_,λj=>?_,g.2⟩,a,d⟩
 ·rw[e1,xG e] at c;split at c
  ·rw[<-iN c];assumption
  ·exact h.cl j m c
 ·by_cases b:j=i
  ·subst b;rw[a,f];exact o
  ·rw[d j b];exact E3 _
 ·by_cases b:j=i
  ·subst b;rw[a,f];exact p
  ·rw[d j b];exact λc w=>w
def FI.still(h:FI cf T t v){n n':Nd}(b:v.aD[i]?=some n)(p:Cl n')(q:n'.r=n.r)(c:n'.s=n.s)(r:WI T' v'/\Lw 0 v v')(e1:v'.aD=v.aD.set i n')(e2:v'.cf=v.cf)(d:v'.now=v.now)(e:v'.ref=v.ref)(f:v'.sub=v.sub)(g:v'.ws.length<=128) :
  FI cf T' t v'/\gH v v':=by
 have⟨k,l,m,o⟩:=h.mv b (nL.same p q c) r e1 e2 d e f g;refine⟨k,l.len,λj=>?_⟩;by_cases a:j=i
 ·subst a;rw[m,c,(h.st b).1]
 ·exact o j a
theorem FI.Ef(h:FI cf T t v)(e:WI T' v')(e1:v'.aD=v.aD)(e2:v'.cf=v.cf)(a:v'.now=t')(b:v'.ref=0)(c:v'.sub=v.sub)(d:v'.ws.length<=128):FI cf T' t' v'/\gH v v' :=
 ⟨⟨e,e2.trans h.cf,a,λj m f=>h.cl j m (by grind),b,by rw[c];exact h.sub,d,by rw[e1];exact h.len⟩,by rw[e1],λj=>by unfold Wv.state;rw[e1]⟩
theorem Hu{ws:List bX}(h:ws.length<=128)(m:Mg):(jJ ws m).1.length<=128/\∀p∈ws,p∈(jJ ws m).1:=by
 grind [jJ,tB]
theorem KS{ws:List bX}(h:ws.length<128)(a:m.check=0):(jJ ws m).1=ws++[⟨m.to,m.enc,false⟩]:=by
 grind [jJ,tB]
theorem p7{n:Nd}(a:Cl n)(e:m.ok)(d:m.check=0)(ws:List bX)(c:ws.length<=128):nL n (eC ws n m).1.2/\(eC ws n m).1.1.length<=128/\∀p∈ws,p∈(eC ws n m).1.1:=by
 have⟨g,h,i,j⟩:=a.sync;unfold eC;split
 ·grind [nL.same,Hu]
 split
 ·exact⟨(a.take (K0 e d)).1,c,λp b=>b⟩
 split
 ·grind [nL.same]
 ·exact⟨(a.take λx f=>by rw[eM.1 f];trivial).1,c,λp b=>b⟩
theorem G5{p:bX}{ws:List bX}{a:Nat}{n:Nd}(b:v.ws=p::ws)(g:kO p.b=some m)(c:p.to=a)(f:a<=3)(h:v.aD[a]?=some n)(i:n.up=true):v.bZ 0=(⟨v.cf,v.now,v.sub,v.bI,(eC ws n m).1.1,v.ref,v.app,v.aD.set a (eC ws n m).1.2⟩,(eC ws n m).2):=by
 have e:eK v.ws 0=ws:=by rw[b];rfl
 have d:jI v.ws 0=some p:=by rw[b];rfl
 grind [Wv.bZ]
theorem Z6(l:List aM)(q:aM):(tR 0 l q).1.1=0:=by
 grind [tR]
theorem FI.bZ(h:FI cf T t v){p:bX}{ws:List bX}(j:v.ws=p::ws):FI cf T t (v.bZ 0).1/\Kp v (v.bZ 0).1/\∀q∈ws,q∈(v.bZ 0).1.ws:=by
 have k:=h.w.bZ 0;have e:eK v.ws 0=ws:=by rw[j];rfl
 have u:jI v.ws 0=some p:=by rw[j];rfl
 have d:ws.length<=128:=by have:=h.ws;rw[j,gL] at this;omega
 have same:∀ {f:Wv} (c:List bX) (r:Int) (s:List aM),(v.bZ 0).1=f->f=⟨v.cf,v.now,v.sub,v.bI,c,r,s,v.aD⟩->r=0->c.length<=128->(∀q∈ws,q∈c)->FI cf T t f/\Kp v f/\∀q∈ws,q∈f.ws:=λ{f} c r s u x z d A=>by
  rw[u] at k;subst x;have⟨a,b⟩:=h.Ef k.1 rfl rfl h.now z rfl d;exact⟨a,b.kp,A⟩
 cases o:kO p.b with
 |none =>
  refine same ws v.ref v.app rfl ?_ h.ref d λq g=>g
  grind [Wv.bZ]
 |some m =>
  by_cases B:p.to=9
  ·have l:(v.bZ 0).1=⟨v.cf,v.now,v.sub,v.bI,(iQ ws v.ref v.app m).1.1,(iQ ws v.ref v.app m).1.2.1,(iQ ws v.ref v.app m).1.2.2,v.aD⟩:=by
    grind [Wv.bZ]
   refine same _ _ _ rfl l ?_ ?_ ?_
   ·unfold iQ;rw[h.ref];grind [Z6]
   ·grind [iQ,Hu]
   ·grind [iQ,Hu]
  ·by_cases y:p.to<0
   ·refine same ws v.ref v.app rfl ?_ h.ref d λq g=>g
    grind [Wv.bZ]
   ·cases i:v.aD[p.to.toNat]? with
    |none =>
     refine same ws v.ref v.app rfl ?_ h.ref d λq g=>g
     grind [Wv.bZ]
    |some n =>
     have w:=h.cl _ n i;have D:=(cH.1 i).1;have:=h.len.2;have l:=G5 j o (a:=p.to.toNat) o_ o_ i w.up;have⟨x1,x2,E⟩:=p7 w (AE o).2.2 (AE o).1 ws d;rw[l] at k⊢;have⟨a,b,_⟩:=h.mv i x1 k rfl rfl rfl rfl rfl x2;grind
def IF{a r i n:Int}(b:1<=a/\a<=15)(d:0<=r/\r<=3)(hi:0<=i/\i<=3)(c:0<=n/\n<=255)(hb:(bP a r i n).bare=bP a r i n):(bP a r i n).check=0:=by
 have e:((bP a r i n).GB.all small)=true:=by
  simp[cK.GB,bP,small,mG];omega
 unfold cK.check;exact(c! b).trans ((c! e).trans ((c! ⟨(show(0:Int)<=0/\(0:Int)<=65535 by decide),c.1,by show n<=2147483647;omega⟩).trans (c! hb)))
theorem EY{st:cK}(a:st.check=0)(c:st.r.toNat=i){n:Nd}(b:v.aD[i]?=some n):v.step st=v.wP i n st:=by
 grind [Wv.step]
def EX(a r i n:Int):bQ (bP a r i n).c.n:=bQ.zero
theorem IQ(h:FI cf T t v){st:cK}{x:Wv×iX}(e:v.step st=x)(b:st.kind≠1)(a:bQ st.c.n):WI (T+rE st) x.1/\Lw 0 v x.1:=by
 have:=h.w.step st a
 grind [GA,st]
def FI.pack(h:FI cf T t v){r:Nat}(g:r<v.aD.length):FI cf T t (v.step (bP 15 r 0 0)).1/\gH v (v.step (bP 15 r 0 0)).1/\(v.step (bP 15 r 0 0)).1.ws=v.ws/\(v.step (bP 15 r 0 0)).1.app=v.app:=by
 have⟨n,c,f,_⟩:=h.at_ g;have:=h.len.2;have e:=EY (v:=v) (st:=bP 15 r 0 0) (IF sD o_ sD sD rfl) (i:=r) (jK r) c;have d:=IQ h e (show(15:Int)≠1 by decide) (EX _ _ _ _);rw[e];rw[show rE (bP 15 r 0 0)=0 from rfl,BW] at d;have⟨j,k,l⟩:=f.pack;have⟨a,b⟩:=h.still c j k l d rfl rfl rfl rfl rfl h.ws;exact⟨a,b,rfl,rfl⟩
theorem FI.ask(h:FI cf T t v){r:Nat}(l:r<v.aD.length)(hi:i<v.aD.length)(k:r≠i):FI cf T t (v.step (bP 3 r i 0)).1/\gH v (v.step (bP 3 r i 0)).1/\(v.step (bP 3 r i 0)).1.ws=(jJ v.ws (tN (v.state r) i)).1/\(v.step (bP 3 r i 0)).1.app=v.app:=by
 have⟨n,d,j,m,_⟩:=h.at_ l;have:=h.len.2;have e:=EY (v:=v) (st:=bP 3 r i 0) (IF sD o_ o_ sD rfl) (i:=r) (jK r) d;have c:=IQ h e (show(3:Int)≠1 by decide) (EX _ _ _ _);have⟨o,p,q,f⟩:=j.sync;have g:vZ v.aD.length v.ws n (bP 3 r i 0)=(((jJ v.ws (tN (v.state r) i)).1,n.sync.1),⟨0,(jJ v.ws (tN (v.state r) i)).2,0⟩):=by
  refine(b! (show ¬(((i:Int)<0\/(v.aD.length:Int)<=i)\/(i:Int)=r) by omega)).trans ((b! λh=>h o).trans ?_);rw[f,m];rfl
 rw[e];rw[show rE (bP 3 r i 0)=0 from rfl,BW] at c;rw[show v.wP r n (bP 3 r i 0)=v.ask r n (bP 3 r i 0) from rfl] at c⊢;unfold Wv.ask at c⊢;rw[g] at c⊢;have⟨a,b⟩:=h.still d p q f c rfl rfl rfl rfl rfl (Hu h.ws _).1
 grind
theorem FI.cD(h:FI cf T t v):FI cf T t (v.step (bP 4 0 0 16)).1/\Kp v (v.step (bP 4 0 0 16)).1/\(v.step (bP 4 0 0 16)).1.ws=v.ws/\(v.step (bP 4 0 0 16)).1.app=v.app/\∃n,v.aD[0]?=some n/\(v.step (bP 4 0 0 16)).1.state 0=(oT 16 n 0).1.s/\(v.step (bP 4 0 0 16)).2=(oT 16 n 0).2/\∀j,j≠0->(v.step (bP 4 0 0 16)).1.state j=v.state j:=by
 have⟨n,l,g,p,_⟩:=h.at_ (i:=0) (by have:=h.len.1;omega);have e:=EY (v:=v) (st:=bP 4 0 0 16) sD (i:=0) rfl l;have f:=IQ h e (show(4:Int)≠1 by decide) (EX _ _ _ _);have o:zD n 16=oT 16 n 0:=by
  unfold zD;rw[c! sD,c! g.up];rfl
 rw[e];rw[show rE (bP 4 0 0 16)=0 from rfl,BW] at f;have m:v.wP 0 n (bP 4 0 0 16)=(v.yX 0 (oT 16 n 0).1,(oT 16 n 0).2):=by
  show v.uM 16=_
  grind [Wv.uM]
 rw[m] at f⊢;have⟨a,b,c,d⟩:=h.mv l (g.Gy (k:=16) (j:=0)) f rfl rfl rfl rfl rfl h.ws
 grind
def FI.iV(h:FI cf T t v){r:Nat}(s:r<v.aD.length):FI cf (T+1) t (v.step (bP 5 r 0 0)).1/\Kp v (v.step (bP 5 r 0 0)).1/\∃n,v.aD[r]?=some n/\Cl n/\v.state r=n.s/\(v.step (bP 5 r 0 0)).1.state r=(n.tries t (n.s.ready cf t) []).1.s/\(v.step (bP 5 r 0 0)).2.code=(n.tries t (n.s.ready cf t) []).2.2 /\
  (v.step (bP 5 r 0 0)).1.ws=(rN r t v.ws v.bI (n.tries t (n.s.ready cf t) []).2.1).1/\∀j,j≠r->(v.step (bP 5 r 0 0)).1.state j=v.state j:=by
 have⟨n,f,k,u,_⟩:=h.at_ s;have:=h.len.2;have e:=EY (v:=v) (st:=bP 5 r 0 0) (IF sD o_ sD sD rfl) (i:=r) (jK r) f;have g:=IQ h e (show(5:Int)≠1 by decide) (EX _ _ _ _);have⟨x,y,m⟩:=k.iV (cf:=v.cf) (now:=v.now) (bQ.now h.w.now);rw[e];rw[show rE (bP 5 r 0 0)=1 from rfl] at g;have p:∀ {l:List aM} {ws:List bX} {bI:List nO},ws.length<=128->(rN r v.now ws bI l).1.length<=128:=by
  intro l
  induction l with
  |nil=>exact λh=>h
  |cons q l w=>exact λh=>w (Hu h _).1
 have o:v.wP r n (bP 5 r 0 0)=v.iV r n r:=rfl;rw[o] at g⊢;have⟨a,b,c,d⟩:=h.mv f x g rfl rfl rfl rfl rfl (p h.ws);refine⟨a,b,n,f,k,u,?_,?_,?_,d⟩
 ·rw[c,<-h.cf,<-h.now];exact y
 ·rw[<-h.cf,<-h.now,<-m];rfl
 ·rw[<-h.cf,<-h.now,<-m];rfl
theorem FI.tick(h:FI cf T t v)(j:1<=cf.cap/\cf.cap<=64)(k:t+64<=1073741824):FI cf T (t+cf.cap) (v.step (bP 6 0 0 cf.cap)).1/\gH v (v.step (bP 6 0 0 cf.cap)).1/\(v.step (bP 6 0 0 cf.cap)).1.ws=v.ws/\(v.step (bP 6 0 0 cf.cap)).1.app=v.app:=by
 have⟨n,g,_⟩:=h.at_ (i:=0) (by have:=h.len.1;omega);have e:=EY (v:=v) (st:=bP 6 0 0 cf.cap) (IF sD sD sD o_ rfl) (i:=0) rfl g;have d:=IQ h e (show(6:Int)≠1 by decide) (EX _ _ _ _);rw[e];rw[show rE (bP 6 0 0 cf.cap)=0 from rfl,BW] at d;have f:v.wP 0 n (bP 6 0 0 cf.cap)=v.tick cf.cap:=rfl;have c:=h.now;rw[f] at d⊢;have⟨a,b⟩:=h.Ef (v':=(v.tick cf.cap).1) d.1 rfl rfl (t':=t+cf.cap) (by
  show(tE v.now cf.cap).1=_;unfold tE;rw[c! o_,c]) h.ref rfl h.ws
 grind
end
theorem Dy{d:Dv}{st:cK}(h:(d.dB st).short=false):d.short=false/\(st.kind≠15->(d.w.step st).2.code≠10):=by
 grind [Dv.dB]
def Qq:∀ {l:List cK} {d:Dv},(d.oH l).short=false->d.short=false
 | [],_,h=>h
 |_::l,_,h=>(Dy (Qq (l:=l) h)).1
def MW:∀ {k r:Nat} {d:Dv},(yD f r k d).short=false->d.short=false
 |0,_,_,h=>h
 |k+1,r,_,h=>Qq (MW (k:=k) (r:=r+1) h)
def Gp{P:Nat->Dv->Prop}{m:Nat}(a:∀r d,r<m->P r d->(d.oH (f r)).short=false->P (r+1) (d.oH (f r))):∀ {k r:Nat} {d:Dv},r+k<=m->P r d->(yD f r k d).short=false->P (r+k) (yD f r k d)
 |0,_,_,_,h,_=>h
 |k+1,r,d,hm,h,b=>by
  have:=Gp a (k:=k) (r:=r+1) (d:=d.oH (f r)) o_ (a r d o_ h (MW (k:=k) (r:=r+1) b)) b;rw[show r+1+k=r+(k+1) by omega] at this;exact this
theorem Bj:∀ {k:Nat} {d:Dv} {n:Nat},(pJ k d n).1.short=false->d.short=false
 |0,_,_,h=>h
 |k+1,d,n,h=>by
  by_cases a:d.w.ws=[]
  ·grind [Cu]
  ·rw[G9 _ d n a] at h;exact(Dy (Bj (k:=k) h)).1
def Dv.Bj{d:Dv}(h:d.bZ.short=false):d.short=false:=Sep.Bj (n:=0) h
def Dv.I6{d:Dv}(h:(d.all i f).short=false):d.short=false:=MW h
def VA(b:1<=v.aD.length):v.step (bP 7 0 0 0)=v.bZ 0:=by
 unfold Wv.step;rw[b! (show ¬(bP 7 0 0 0).check≠0 by decide)];have a:(bP 7 0 0 0).r.toNat=0:=rfl;rw[a,bS (show 0<v.aD.length by omega)];rfl
theorem drain{P:Wv->Prop}(c:∀v,P v->1<=v.aD.length)(i:∀v p ws,P v->v.ws=p::ws->(v.bZ 0).2.code≠10->P (v.bZ 0).1):∀ {k:Nat} {d:Dv} {n:Nat},iD d.w.ws<=k->P d.w->(pJ k d n).1.short=false->P (pJ k d n).1.w/\(pJ k d n).1.w.ws=[]
 |0,d,n,hk,h,b=>by
  refine⟨h,?_⟩;cases a:d.w.ws with
  |nil=>exact a
  |cons p ws=>rw[a] at hk;have:=(LJ p).1;have e:iD (p::ws)=wt p+iD ws:=rfl;omega
 |k+1,d,n,hk,h,b=>by
  cases a:d.w.ws with
  |nil=>rw[Cu _ d n a];exact⟨h,a⟩
  |cons p ws =>
   have f:d.w.ws≠[]:=by grind
   rw[G9 _ d n f] at b⊢;have g:=(Dy (Bj (k:=k) b)).2 sD;have e:(d.dB (bP 7 0 0 0)).w=(d.w.bZ 0).1:=by show(d.w.step (bP 7 0 0 0)).1=_;rw[VA (c _ h)]
   rw[VA (c _ h)] at g;have:=O9 a;exact drain c i (k:=k) (by grind) (by grind) b
def Dv.drain{P:Wv->Prop}(c:∀v,P v->1<=v.aD.length)(b:∀v p ws,P v->v.ws=p::ws->(v.bZ 0).2.code≠10->P (v.bZ 0).1){d:Dv}(h:P d.w)(a:d.bZ.short=false):P d.bZ.w/\d.bZ.w.ws=[]/\d.short=false :=
 have:=Sep.drain c b (n:=0) (bM _) h a
 ⟨this.1,this.2,Bj a⟩
def Un(v:Wv)(x:aI):Prop:=∃j:Nat,j<v.aD.length/\x.id.rep=j/\x∈(v.state j).all
noncomputable def Hi(aD:List Nd):List aL:=aD.flatMap λn=>(List.range (sP n).toNat).map (dC n.state.r)
theorem Nf:∀ {aD:List Nd},(∀n∈aD,0<=sP n)->((Hi aD).length:Int)=CP aD
 | [],_=>rfl
 |n::aD,h=>by
  have b:=h n (.head _);have c:=Nf (aD:=aD) λx a=>h x (.tail _ a)
  grind [Hi,List.length_range,sP,CP]
section
variable {cf:bW} {T t:Int} {v:Wv} (h:FI cf T t v)
include h
theorem Ox(hi:i<v.aD.length){x:aI}(b:x∈(v.state i).all):Un v x:=by
 have⟨n,d,g,o,k,l⟩:=h.at_ hi;by_cases e:x.id.rep=i
 ·exact⟨i,hi,e,b⟩
 ·rw[pE d] at b;have⟨j,m,a,f,c⟩:=h.w.h.own i n d x b e;exact⟨j,(cH.1 a).1,f,by rw[pE a];exact(h.w.h.gd a).2.2.2.2.2 x c⟩
theorem K7(s:FI cf T' t' v')(k:Kp v v'){x:aI}(a:Un v' x):Un v x:=by
 have⟨j,b,f,a⟩:=a;rw[k.len] at b;have⟨n,_,_,g,r,w⟩:=h.at_ b;have⟨A,_,_,p,l,z⟩:=s.at_ (i:=j) (by rw[k.len];exact b);have e:=k.own j;have c:=k.all j;rw[p] at a e c;rw[g] at e c;rw[w,z] at e;have⟨o,B,u⟩:=CK l a;rw[f] at o u;have⟨y,m,d⟩:=Cz r.v.lQ o (q:=x.id.seq) (by grind [vC]) o_;have:x=y:=l.uniq a (c y m) (by rw[d,<-f]);exact⟨j,b,f,by rw[g,this];exact m⟩
theorem uni:Pb (Un v):=by
 refine⟨λx y ⟨i,hi,hx,hxm⟩ ⟨j,hj,hy,hym⟩ e=>?_,λs gs us c uc hc=>?_⟩
 ·have:i=j:=by grind
  subst this;have⟨n,_,_,e1,g1,_⟩:=h.at_ hi;rw[e1] at hxm hym;exact g1.uniq hxm hym e
 ·have own0:∀n∈v.aD,0<=sP n:=λn hn=>by
   have⟨i,hi⟩:=vH hn;have hg:=(h.w.h.gd hi).2.1;exact(hg.v.count hg.rep).1
  have inn:∀x,Un v x->x.id∈Hi v.aD:=λx ⟨j,hj,hr,hx⟩=>by
   have⟨n,hn,_,e1,g1,r1⟩:=h.at_ hj;rw[e1] at hx;have⟨p1,p2,p3⟩:=CK g1 hx;have e3:n.state=n.s:=(pE hn).symm.trans e1;refine List.mem_flatMap.2 ⟨n,dG hn,jX.2 ⟨(x.id.seq - 1).toNat,List.mem_range.2 ?_,?_⟩⟩
   ·grind [sP]
   ·rw[e3,r1,<-hr];unfold dC;rw[show(((x.id.seq - 1).toNat+1:Nat):Int)=x.id.seq by omega]
  have hl:=Nf own0;have:=h.w.sm;have:=h.sub;have hn:=Ft (l:=c.id::s.all.map aI.id) (m:=Hi v.aD) (Cb.2 ⟨λhm=>?_,gs.ids⟩) λa ha=>?_
  ·grind [Sv.all]
  ·have⟨x,hx,e⟩:=jX.1 hm;have⟨i,hi,hxi,hxm⟩:=us x hx;have⟨j,hj,hcj,hcm⟩:=uc;have:i=j:=by grind
   subst this;have⟨n,_,_,e1,g1,_⟩:=h.at_ hi;rw[e1] at hxm hcm;rw[g1.uniq hxm hcm e] at hx;exact hc hx
  ·grind
end
theorem SS{s:Sv}(h:Gd s):EA s=s.v.known:=aNj h.v.lQ λr a=>by rw[vC];exact dV _
theorem W6{s:Sv}(h:Gd s)(hi:i<=3):(tN s i).check=0/\(tN s i).ok:=by
 refine⟨?_,λc b=>(cZ b).elim,bQ.zero⟩;have k:EA s=s.v.known:=SS h;have l:=h.v.len;have a:=h.rep;have c:=λr a=>h.v.count (r:=r) a;have d:0<=s.v.known.a/\s.v.known.a<=48:=c 0 sD;have f:0<=s.v.known.b/\s.v.known.b<=48:=c 1 sD;have g:0<=s.v.known.c/\s.v.known.c<=48:=c 2 sD;have j:0<=s.v.known.d/\s.v.known.d<=48:=c 3 sD;have e:tN s i=⟨1,s.r,i,s.v.known.a,s.v.known.b,s.v.known.c,s.v.known.d,s.v.l.length,[],[],kz,ez⟩:=by grind [tN]
 rw[e];unfold Mg.check;refine(c! ⟨(by decide:(1:Int)<=1),(by decide:(1:Int)<=4)⟩).trans ((c! ?_).trans (c! rfl));show((nG s.r&&nG i)&&((sq s.v.known.a&&sq s.v.known.b&&sq s.v.known.c&&sq s.v.known.d)&&bs s.v.l.length))=true
 grind [nG,sq,bs]
theorem Pu{s:Sv}(h:Gd s)(f:m.check=0)(k:m.kind=1):(wM s m).check=0/\(wM s m).ok:=by
 have⟨_,_,g⟩:=Mg.Mn f k;have d:=(Mg.jZ f).2.1;unfold Mg.xD at d;rw[b! o_,b! o_] at d;have d:=((fI _ _).mp d).1;have l:nG s.r=true:=d! h.rep;have b:∀c∈(zR s m).take 8,c∈s.v.l++s.v.t:=λc a=>(uI.1 (mD a)).1;refine⟨?_,λc a=>?_,bQ.zero⟩
 ·unfold Mg.check;refine(c! ⟨(by decide:(1:Int)<=2),(by decide:(2:Int)<=4)⟩).trans ((c! ?_).trans (c! rfl));show((nG s.r&&nG m.fr)&&(((decide (((pW s m).take 16).length<=16)&&((pW s m).take 16).all aL.may)&&(decide (((zR s m).take 8).length<=8)&&((zR s m).take 8).all aI.may))&&bs m.base))=true;have i:((pW s m).take 16).all aL.may=true:=qR.2 λa e=>by
   unfold pW at e;obtain⟨c,a,rfl⟩:=jX.1 (mD e);exact(aL.eY _).2 ((aI.eY c).1 (h.v.may (zN _ (CZ a)))).1
  have j:((zR s m).take 8).all aI.may=true:=qR.2 λc a=>h.v.may (b c a);rw[l,d,i,j,d! (List.length_take_le 16 _),d! (List.length_take_le 8 _),show bs m.base=true from d! g];rfl
 ·rcases eL.1 (b c a) with a|a
  ·exact(h.v.qE c a).2.2.2.2.2.1
  ·exact(h.v.vS c a).2.2.2.2.2.1
structure CU(U:aI->Prop)(b:Nat)(B S s:Sv):Prop where
 a:(∀c∈S.all,c∈s.all)\/B.all.length+8<=s.all.length
 l:b≠0->(∀c,U c->c∈B.all)->min (B.v.l.length+16) S.v.l.length<=s.v.l.length
theorem FJ{s s':Sv}(h:Gd s)(b:∀c∈s.all,c∈s'.all):s.all.length<=s'.all.length:=by
 have:=Ft (l:=s.all.map aI.id) (m:=s'.all.map aI.id) h.ids λa a=>by
  grind
 grind
theorem CU.mono{U:aI->Prop}{b:Nat}{B S s s':Sv}(h:CU U b B S s)(hg:Gd s)(hk:∀c∈s.all,c∈s'.all)(hl:s.v.l <+: s'.v.l):CU U b B S s' :=
 ⟨h.a.imp (λh c hc=>hk c (h c hc)) λh=>iR h (FJ hg hk),λh1 h2=>iR (h.l h1 h2) hl.length_le⟩
structure GN(a b:Nat)(B:Sv)(p:bX):Prop where
 to:p.to=a
 m:∃m:Mg,kO p.b=some m/\m.kind=1/\m.fr=b/\m.to=a/\(⟨m.k0,m.k1,m.k2,m.k3⟩:V4)=B.v.known/\m.base=B.v.l.length
structure Told(U:aI->Prop)(b:Nat)(B S:Sv)(p:bX):Prop where
 to:p.to=b
 m:∃(m:Mg) (s:Sv),kO p.b=some m/\m.kind=2/\m.to=b/\m.base=B.v.l.length/\Gd s/\(∀x∈s.all,U x)/\(∀c∈S.all,c∈s.all)/\S.v.l.length<=s.v.l.length/\m.cL=(s.all.filter λx => !kR B.v.known x.id).take 8/\m.ids.length=min 16 (s.v.l.length - B.v.l.length)
structure Jr(cf:bW)(T t:Int)(v0:Wv)(a b:Nat)(v:Wv):Prop where
 f:FI cf T t v
 k:Kp v0 v
 g:CU (Un v0) b (v0.state b) (v0.state a) (v.state b)\/∃p∈v.ws,GN a b (v0.state b) p\/Told (Un v0) b (v0.state b) (v0.state a) p
theorem Jr.bZ{T T0 t0:Int}{v0:Wv}(h0:FI cf T0 t0 v0){a b:Nat}(ha:a<v0.aD.length)(hb:b<v0.aD.length){p:bX}{ws:List bX}(h:Jr cf T t v0 a b v)(hv:v.ws=p::ws)(hs:(v.bZ 0).2.code≠10):Jr cf T t v0 a b (v.bZ 0).1:=by
 have⟨f1,k1,w1⟩:=h.f.bZ hv;have hlen:=h.f.len;have hk:=h.k.len;have hlw:ws.length<128:=by have:=h.f.ws;rw[hv,gL] at this;omega
 have jQ:CU (Un v0) b (v0.state b) (v0.state a) (v.state b)->Jr cf T t v0 a b (v.bZ 0).1:=λg=>by
  have⟨n,_,_,e1,g1,_⟩:=h.f.at_ (i:=b) o_;exact⟨f1,h.k.trans k1,.inl (g.mono (by grind) (k1.all b) (k1.l b))⟩
 rcases h.g with g|⟨q,hq,g⟩
 ·exact jQ g
 rw[hv] at hq;rcases(tK.1 hq).symm with hq|rfl
 ·exact⟨f1,h.k.trans k1,.inr ⟨q,w1 q hq,g⟩⟩
 have us:∀ {i:Nat},i<v.aD.length->∀x∈(v.state i).all,Un v0 x:=λhi x hx=>K7 h0 h.f h.k (Ox h.f hi hx);rcases g with⟨hto,m,hm,hk1,hfr,hmt,hkn,hba⟩|⟨hto,m,s,hm,hk2,hmt,hba,gs,ss,sS,sl,hch,hid⟩
 ·have⟨n,hn,hc,e1,g1,r1⟩:=h.f.at_ (i:=a) o_;have ed:=G5 hv hm hto o_ hn hc.up;have⟨s1,s2,s3,s4⟩:=hc.sync;have hmc:=(AE hm).1;have ha2:answers n.sync.1.s m:=⟨hmc,hk1,by rw[s4,r1];exact hmt⟩;have⟨c1,c2⟩:=Pu (s:=n.sync.1.s) (by rw[s4];exact g1) hmc hk1;have eh:(eC ws n m).1.1=ws++[⟨(wM n.sync.1.s m).to,(wM n.sync.1.s m).enc,false⟩]:=by
   unfold eC;rw[c! hk1,b! (λh=>h s1)];unfold rM;rw[c! ha2];exact KS hlw c1
  refine⟨f1,h.k.trans k1,.inr ⟨⟨(wM n.sync.1.s m).to,(wM n.sync.1.s m).enc,false⟩,?_,.inr ⟨hfr,wM n.sync.1.s m,n.s,EF c1 c2,rfl,hfr,hba,g1,?_,?_,?_,?_,?_⟩⟩⟩
  ·rw[ed];show _∈(eC ws n m).1.1;rw[eh];simp
  ·rw[<-e1];exact us o_
  ·rw[<-e1];exact h.k.all a
  ·rw[<-e1];exact(h.k.l a).length_le
  ·show(zR n.sync.1.s m).take 8=_;unfold zR;rw[hkn,s4];rfl
  ·show((pW n.sync.1.s m).take 16).length=_;unfold pW;rw[dR,fB,lB,s4,hba];omega
 ·have⟨n,hn,hc,e1,g1,r1⟩:=h.f.at_ (i:=b) o_;have⟨nB,_,_,eB,gB,_⟩:=h0.at_ hb;have ed:=G5 hv hm hto o_ hn hc.up;have⟨hmc,_,hmo⟩:=AE hm;have eh:eC ws n m=((ws,(n.take (gS n.s m)).1),⟨(n.take (gS n.s m)).2.2,(n.take (gS n.s m)).2.1,0⟩):=by
   grind [eC]
  have hcode:(n.take (gS n.s m)).2.2≠10:=by
   grind
  have⟨t1,t2⟩:=hc.take (K0 (s:=n.s) hmo hmc);have⟨_,t3⟩:=t2 (aIc n.s m) hcode;have est:(v.bZ 0).1.state b=fW n.s (gS n.s m):=by
   rw[ed,eh];rw[pE (n:=(n.take (gS n.s m)).1) (BE hn),jH t1.1.up,t3]
  have⟨l1,l2⟩:=aHs g1 hmo hmc hk2 (by grind);refine⟨f1,h.k.trans k1,.inl ?_⟩;rw[est];have hall:=h.k.all b;have hpl:=(h.k.l b).length_le;rw[eB] at hall hba hid hch hpl⊢;rw[e1] at hall hpl;have unt:∀x∈n.s.all,Un v0 x:=λx hx=>us (i:=b) o_ x (by grind);refine⟨?_,λhb0 hfull=>?_⟩
  ·have:=aAc (uni h0) gs ss gB g1 unt hall;rw[<-hch] at this;rcases this with k|k
   ·grind
   ·have ho:∀x∈gS n.s m,x.ok:=K0 hmo hmc;refine .inr (iR k ?_);have gT:Gd (tryAll n.s m.cL).1:=VX g1 λc hcm=>by
     rw[hch] at hcm;have:=(uI.1 (mD hcm)).1;exact(eL.1 this).elim (gs.v.qE c) (gs.v.vS c)
    exact FJ gT l1
  ·have⟨n0,hn0,_⟩:=h.f.at_ (i:=0) o_;have hD:D0 v.aD=n0.stored.v.l:=by grind [D0]
   have⟨y1,_,_,_,y5,y6⟩:=h.f.w.h.gd hn0;have cD:=h.f.w.h.cD b n hn hb0;rw[jH hc.up] at cD;have hids:=((h.f.w.p _ (by grind)).b m hm).1.ids hk2;rw[hD] at cD hids;have:=l2 (D:=n0.stored.v.l) (R:=n0.stored.v.t) y1.v.lQ cD hids o_ λc hcD=>hall c (hfull c (us (i:=0) o_ c (by rw[pE hn0];exact y6 c (zN _ hcD))));omega
def rV(ws:List bX):Prop:=∀p∈ws,∀m,kO p.b=some m->m.kind<=2
theorem rV.post{ws:List bX}(h:rV ws)(f:m.kind<=2)(e:m.check=0->m.ok):rV (jJ ws m).1:=by
 unfold jJ;split
 ·exact h
 ·rename_i c;have c:m.check=0:=LR.1 c;unfold tB;split
  ·exact h
  ·intro p a d b;rcases eL.1 a with a|a
   ·exact h p a d b
   ·grind [kO,EF,Option.some.inj]
section
variable {cf:bW} {T t:Int} {v:Wv}
def aGh(h:FI cf T t v){b:Bool}(l:((Dv.mk v b).all 0 (eV 15)).short=false):FI cf T t ((Dv.mk v b).all 0 (eV 15)).w/\gH v ((Dv.mk v b).all 0 (eV 15)).w/\((Dv.mk v b).all 0 (eV 15)).w.ws=v.ws:=by
 refine Gp (f:=eV 15) (P:=λ_ d=>FI cf T t d.w/\gH v d.w/\d.w.ws=v.ws) (m:=v.aD.length) (λr d j ⟨g,e,i⟩ _=>?_) (k:=v.aD.length - 0) (r:=0) (d:=⟨v,b⟩) o_ ⟨h,gH.refl v,rfl⟩ l;have⟨a,b,c,_⟩:=g.pack (r:=r) (by rw[e.1];exact j);exact⟨a,e.trans b,c.trans i⟩
def W7(h:FI cf T t v)(u:rV v.ws){b:Bool}(s:((Dv.mk v b).all 1 tY).short=false):FI cf T t ((Dv.mk v b).all 1 tY).w/\gH v ((Dv.mk v b).all 1 tY).w/\rV ((Dv.mk v b).all 1 tY).w.ws:=by
 refine Gp (f:=tY) (P:=λr d=>1<=r/\FI cf T t d.w/\gH v d.w/\rV d.w.ws) (m:=v.aD.length) (λr d o ⟨w,l,j,p⟩ _=>?_) (k:=v.aD.length - 1) (r:=1) (d:=⟨v,b⟩) (by have:=h.len;omega) ⟨bM 1,h,gH.refl v,u⟩ s |>.2;have⟨n,_,_,e,g,_⟩:=l.at_ (i:=r) (by rw[j.1];exact o);have⟨a,b,c,_⟩:=l.ask (r:=r) (i:=0) (by rw[j.1];exact o) (by rw[j.1];omega) o_;refine⟨o_,a,j.trans b,?_⟩;have:rV (d.w.step (bP 3 r (0:Nat) 0)).1.ws:=by
  rw[c];exact p.post (show(1:Int)<=2 by decide) λhc=>⟨λc q=>(cZ q).elim,bQ.zero⟩
 exact this
structure LO(cf:bW)(T t:Int)(v:Wv)(r:Nat)(d:Dv):Prop where
 r1:1<=r
 f:FI cf T t d.w
 s:gH v d.w
 w:rV d.w.ws
 n:d.w.ws.length+2<=2*r
 a:∀j,1<=j->j<r->(∃p∈d.w.ws,GN 0 j (v.state j) p)/\∃p∈d.w.ws,GN j 0 (v.state 0) p
theorem Py(h:FI cf T t v){j:Wv}(d:gH j v){r:Nat}(k:r<v.aD.length)(hi:i<v.aD.length)(f:r≠i)(m:v.ws.length<128)(q:rV v.ws):FI cf T t (v.step (bP 3 r i 0)).1/\gH j (v.step (bP 3 r i 0)).1/\rV (v.step (bP 3 r i 0)).1.ws/\(v.step (bP 3 r i 0)).1.ws.length=v.ws.length+1/\(∀p∈v.ws,p∈(v.step (bP 3 r i 0)).1.ws)/\∃p∈(v.step (bP 3 r i 0)).1.ws,GN i r (j.state r) p:=by
 have⟨a,b,c,_⟩:=h.ask k hi f;have⟨n,_,_,e,g,w⟩:=h.at_ k;have l:=d.2 r;have:=h.len.2;have⟨k1,k2⟩:=W6 (s:=v.state r) (by grind) (i:=i) o_;have u:=KS m k1;refine⟨a,d.trans b,?_,?_,λp o=>?_,⟨(tN (v.state r) i).to,(tN (v.state r) i).enc,false⟩,?_,rfl,tN (v.state r) i,EF k1 k2,rfl,?_,rfl,?_,?_⟩
 ·rw[c];exact q.post (show(1:Int)<=2 by decide) λ_=>k2
 ·grind
 ·grind
 ·grind
 ·show(v.state r).r=r;grind
 ·show EA (v.state r)=_;grind [SS]
 ·show((v.state r).v.l.length:Int)=_;rw[l]
theorem XW(h:FI cf T t v)(l:v.ws=[]){b:Bool}(A:((Dv.mk v b).all 1 xE).short=false):LO cf T t v v.aD.length ((Dv.mk v b).all 1 xE):=by
 have M:=h.len;have:=Gp (f:=xE) (P:=LO cf T t v) (m:=v.aD.length) (λr d R k N=>?_) (k:=v.aD.length - 1) (r:=1) (d:=⟨v,b⟩) o_ ⟨bM 1,h,gH.refl v,by rw[l];exact λp g=>(cZ g).elim,by rw[l];exact bM 2,λj e s=>by omega⟩ A
 ·rw[show 1+(v.aD.length - 1)=v.aD.length by omega] at this;exact this
 ·have c:d.oH (xE r)=(d.dB (bP 3 r (0:Nat) 0)).dB (bP 3 (0:Nat) r 0):=rfl;have w:=k.s.1;have x:=k.n;have u:=k.r1;have⟨n,a,o,B,D,E⟩:=Py k.f k.s (r:=r) (i:=0) o_ o_ o_ o_ k.w;have⟨F,H,b3,b4,J,K⟩:=Py n a (r:=0) (i:=r) (by rw[a.1];omega) (by rw[a.1];omega) o_ o_ o;have q:((d.dB (bP 3 r (0:Nat) 0)).dB (bP 3 (0:Nat) r 0)).w=((d.w.step (bP 3 r (0:Nat) 0)).1.step (bP 3 (0:Nat) r 0)).1:=rfl;refine⟨o_,?_,?_,?_,?_,λj e s=>?_⟩
  ·grind
  ·grind
  ·grind
  ·grind
  ·rw[c,q];by_cases O:j=r
   ·grind
   ·have⟨⟨p,g,Q⟩,U,y,z⟩:=k.a j e o_;grind
theorem Qd:∀ {k:Nat} {n:Nd} {j:Nat},Cl n->Gd n.s->(oT k n j).2.code≠10->min (n.s.v.l.length+k) n.s.all.length<=(oT k n j).1.s.v.l.length
 |0,n,j,_,_,_=>by
  show _<=n.s.v.l.length;omega
 |k+1,n,j,hc,a,d=>by
  cases i:n.s.v.t with
  |nil =>
   grind [oT,Sv.all]
  |cons c b =>
   have f:∀x∈[Rc.cD c.id],x.ok:=λx p=>by rw[eM.1 p];trivial
   have⟨q,l⟩:=hc.take f;have⟨h,r⟩:=QX a (b:=b) (by rw[<-i];exact a.v.lQ) (c:=c) (tJ _ (by grind));have e:oT (k+1) n j=if (n.take [.cD c.id]).2.2=0 then oT k (n.take [.cD c.id]).1 (j+1) else((n.take [.cD c.id]).1,⟨(n.take [.cD c.id]).2.2,j,0⟩):=by
    show(match n.s.v.t[0]? with|none=>_|some c=>_)=_;rw[i];rfl
   rw[e] at d⊢;by_cases g:(n.take [.cD c.id]).2.2=0
   ·rw[c! g] at d⊢;have⟨_,m⟩:=l ⟨h,trivial⟩ (by grind);have o:(n.take [.cD c.id]).1.s=(n.s.doc (.cD c.id)).1:=m;have:=Qd (k:=k) (j:=j+1) q.1 (by rw[o];exact a.doc (x:=.cD c.id) trivial) d;have s:=FJ a (Dz a (.cD c.id)).2
    grind
   ·rw[b! g] at d;exact i! (l ⟨h,trivial⟩ d).1 g
def Bc(L:List aI)(v:Wv):Prop:=∀i,i<v.aD.length->(v.state i).v.l=L/\(v.state i).v.t=[]
theorem EV{L:List aI}(hL:Bc L v)(h:FI cf T t v)(h':FI cf T' t' v')(k:Kp v v'):Bc L v':=by
 intro i hi;rw[k.len] at hi;obtain⟨h1,h2⟩:=hL i hi;obtain⟨n,_,_,e,g,_⟩:=h.at_ hi;obtain⟨n',_,_,e',g',_⟩:=h'.at_ (i:=i) (by rw[k.len];exact hi);have hp:=k.l i;rw[h1] at hp;rw[e'] at hp⊢;have hsub:=Ft (l:=n'.s.all.map aI.id) (m:=L.map aI.id) g'.ids λa ha=>by
  obtain⟨x,hx,rfl⟩:=jX.1 ha;obtain⟨j,hj,_,hxj⟩:=K7 h h' k (Ox h' (i:=i) (by rw[k.len];exact hi) (by rw[e'];exact hx));unfold Sv.all at hxj;rw[(hL j hj).1,(hL j hj).2,aY] at hxj
  grind
 rw[fB,fB] at hsub;unfold Sv.all at hsub;rw[bR] at hsub;have hl:=hp.length_le;exact⟨(hp.eq_of_length o_).symm,zM.1 o_⟩
theorem aLa{L:List aI}{s:Sv}(g:Gd s)(q:s.v.l=L)(r:s.v.t=[])(n:∀c∈m.cL,c∈L):gS s m=[]:=by
 have i:∀c∈L,(s.doc (.cB c)).2≠0:=λc j b=>by
  have b:(s.dB c).2=0:=b;unfold Sv.dB at b;split at b
  ·rcases Ff s.v c with⟨d,_⟩|⟨_,_,f,_⟩
   ·exact d b
   ·exact g.v.fresh f c (by grind) rfl
  ·cases b
 have h:∀a,(s.doc (.cD a)).2≠0:=λa b=>by
  have⟨c,i,k⟩:=Qo b;have d:=FJ (g.doc (x:=.cD a) trivial) (s':=s) λx o=>(JM g o).elim id λe=>by cases e
  have p:(s.doc (.cD a)).1.all.length=(s.doc (.cD a)).1.v.l.length+(s.doc (.cD a)).1.v.t.length:=bR;have f:s.all.length=s.v.l.length+s.v.t.length:=bR;grind
 have d:tryAll s m.cL=(s,[]):=by
  have:∀l:List aI,(∀c∈l,c∈L)->l.foldl (λz c=>fP z (.cB c)) (s,[])=(s,([]:List Rc)):=by
   intro l
   induction l with
   |nil=>exact λ_=>rfl
   |cons c l u =>
    grind [fP,MS]
  exact this m.cL n
 unfold gS;rw[d];split
 ·split
  ·rfl
  ·dsimp only;generalize m.ids.drop _=ids;cases ids with
   |nil=>rfl
   |cons a ids =>
    grind [comms]
 ·rfl
structure Sf(cf:bW)(T t:Int)(L:List aI)(v0 v:Wv):Prop where
 f:FI cf T t v
 s:gH v0 v
 l:Bc L v
 w:rV v.ws
theorem Sf.bZ{L:List aI}{v0:Wv}(h:Sf cf T t L v0 v){p:bX}{ws:List bX}(hv:v.ws=p::ws):Sf cf T t L v0 (v.bZ 0).1:=by
 have⟨f1,k1,w1⟩:=h.f.bZ hv;have hsoft:rV ws:=λq hq=>h.w q (by grind);have e:eK v.ws 0=ws:=by rw[hv];rfl
 have e1:jI v.ws 0=some p:=by rw[hv];rfl
 have fin:gH v (v.bZ 0).1->rV (v.bZ 0).1.ws->Sf cf T t L v0 (v.bZ 0).1:=λhs hw=>⟨f1,h.s.trans hs,EV h.l h.f f1 k1,hw⟩
 have same:∀ {ws':List bX} {r:Int} {ap:List aM},(v.bZ 0).1=⟨v.cf,v.now,v.sub,v.bI,ws',r,ap,v.aD⟩->rV ws'->Sf cf T t L v0 (v.bZ 0).1:=λe hw=>fin (by rw[e];exact⟨rfl,λi=>rfl⟩) (by grind);cases hm:kO p.b with
 |none =>
  grind [Wv.bZ]
 |some m =>
  have hk:=h.w p (by grind) m hm;have⟨hmc,_,hmo⟩:=AE hm;have hpk:=(h.f.w.p p (by grind)).b m hm;by_cases h9:p.to=9
  ·exfalso;have hp:=(Mg.jZ hmc).2.1;unfold Mg.xD at hp;rw[b! o_,b! o_,<-hpk.2,h9] at hp;have:=((fI _ _).mp hp).2;cases this
  ·by_cases hlt:p.to<0
   ·grind [Wv.bZ]
   ·cases hn:v.aD[p.to.toNat]? with
    |none =>
     grind [Wv.bZ]
    |some n =>
     have hc:=h.f.cl _ n hn;have hi:=(cH.1 hn).1;have:=h.f.len.2;have⟨es,g,_⟩:=h.f.st hn;have⟨l1,l2⟩:=h.l _ hi;rw[es] at l1 l2;have ed:=G5 hv hm (a:=p.to.toNat) o_ o_ hn hc.up;have⟨s1,s2,s3,s4⟩:=hc.sync;have hn':(eC ws n m).1.2.s=n.s/\(eC ws n m).1.2.up=true:=by
      unfold eC;split
      ·rw[b! (λh=>h s1)];exact⟨s4,s2.up⟩
      split
      ·rw[aLa g l1 l2 λc hcm=>by
        have⟨j,x,hx,_,hcx⟩:=hpk.1.cL c hcm;have⟨_,_,_,_,_,y6⟩:=h.f.w.h.gd hx;have hjl:=(cH.1 hx).1;have:=y6 c hcx;rw[<-pE hx] at this;unfold Sv.all at this;rw[(h.l j hjl).1,(h.l j hjl).2,aY] at this;exact this]
       unfold Nd.take;rw[c! hc.up];exact⟨rfl,hc.up⟩
      ·exfalso;have:=(Mg.jZ hmc).1;omega
     have hsf:rV (eC ws n m).1.1:=by
      unfold eC;split
      ·rw[b! (λh=>h s1)];refine hsoft.post ?_ λhc=>?_
       ·unfold rM;split
        ·exact(show(2:Int)<=2 by decide)
        ·exact(show(0:Int)<=2 by decide)
       ·unfold rM at hc⊢;split at hc
        ·grind [Pu]
        ·cases hc
      grind
     refine fin ⟨by rw[ed,iM],λj=>?_⟩ (by grind);grind [pE,eC,BE,jH,Wv.state,xG]
end
theorem Su{α:Type}{f:Nat->bC->List α}{ps:List bC}{x:α}:∀ {k:Nat},x∈gD f ps k↔∃i s,i<k/\ps[i]?=some s/\x∈f i s
 |0=>⟨λh=>(cZ h).elim,λ⟨_,_,h,_⟩=>by omega⟩
 |k+1=>by
  show x∈gD f ps k++_↔_;rw[eL,Su]
  grind
def Iv(s:Sv)(q:aM):Prop:=∃i:Nat,q.key.id=dC s.r i/\next (dC s.r i) (s.ps.getD i s0).made (s.ps.getD i s0).l (s.ps.getD i s0).w=some q/\(s.ps.getD i s0).made<255
theorem mem_ready{s:Sv}{now:Int}:q∈s.ready cf now↔∃i:Nat,sT (dC s.r i) (s.ps.getD i s0).made (s.ps.getD i s0).l (s.ps.getD i s0).w cf now=true/\next (dC s.r i) (s.ps.getD i s0).made (s.ps.getD i s0).l (s.ps.getD i s0).w=some q:=by
 unfold Sv.ready;rw[Su];constructor
 ·rintro⟨i,p,_,g,a⟩;unfold mC at a;split at a
  ·rename_i c;have e:s.ps.getD i s0=p:=by grind
   refine⟨i,by rw[e];exact c,?_⟩;rw[e];unfold sT at c;have d:=((fI _ _).mp c).1;rw[eM] at a;unfold bC.DH at a;cases b:next (dC s.r i) p.made p.l p.w with
   |none=>rw[b] at d;cases d
   |some y=>rw[b] at a;rw[a];rfl
  ·cases a
 ·rintro⟨i,c,b⟩;by_cases f:i<s.ps.length
  ·have e:s.ps.getD i s0=s.ps[i]:=by grind
   rw[e] at c b;refine⟨i,_,f,bS f,?_⟩;grind [mC,bC.DH]
  ·rw[qS,CY.2 o_] at b;cases b
theorem TE{s:Sv}(g:Gd s)(m:q.key.id=dC s.r i)(a:next (dC s.r i) (s.ps.getD i s0).made (s.ps.getD i s0).l (s.ps.getD i s0).w=some q)(o:(s.ps.getD i s0).made<255):i<s.ps.length/\q.key.may=true/\q.bD.check=0/\bQ q.bD.n:=by
 have l:i<s.ps.length:=by
  refine LQ λh=>?_;rw[qS,CY.2 o_] at a;cases a
 have⟨ok,d⟩:=g.ch.getD i;have n:=g.np;have j:=g.rep;have c:=TF ok a;generalize s.ps.getD i s0=p at *;have b:(1<=q.key.ord/\q.key.ord<=255)/\q.bD.check=0:=by
  unfold next at a;cases ht:jV p.l with
  |some e =>
   rw[ht] at a;dsimp only at a;have hb:=d.may e (dG (BN ht).1)
   grind [aN.eY,hb,Option.some.inj]
  |none =>
   rw[ht] at a;obtain⟨_,f,k,rfl⟩:=C3 a;have:=ok.vR;exact⟨by dsimp only;omega,d.nT f (dG k)⟩
 refine⟨l,(bV.eY _).2 ⟨?_,b.1⟩,b.2,c.2.2.1⟩
 grind [dC]
theorem aJs{s:Sv}(g:Gd s)(k:Iv s q){now:Int}(c:0<=now/\now<=1073741824):(s.doc (.fH q.key now)).2=0:=by
 have⟨i,a,d,j⟩:=k;have⟨n,b,_⟩:=TE g a d j;have f:(q.key.id.seq - 1).toNat=i:=by rw[a];show((((i+1:Nat):Int)) - 1).toNat=i;omega
 have o:q.key.id.seq=((i+1:Nat):Int):=by rw[a];rfl
 show(s.oF q.key now).2=0;unfold Sv.oF;rw[c! (by rw[b];exact d! c)];unfold AD;rw[c! ⟨by rw[a];rfl,o_,o_⟩,f,a];have l:(s.ps.getD i s0).iI (dC s.r i) q.key=true:=by grind [bC.iI,bC.DH]
 have m:(rL (dC s.r i) (s.ps.getD i s0).made (s.ps.getD i s0).l (s.ps.getD i s0).w now).isSome=true:=by
  cases ht:jV (s.ps.getD i s0).l with
  |some e=>rw[Ok d ht];rfl
  |none=>rw[Oj d ht];rfl
 grind
theorem VW{now:Int}(a:0<=now/\now<=1073741824):∀ {l acc:List aM} {n:Nd},Cl n->Gd n.s->(∀q∈l,Iv n.s q)->(l.map λq=>q.key.id).Nodup->(n.tries now l acc).2.2≠10->(n.tries now l acc).2.2=0
 | [],_,_,_,_,_,_,_=>rfl
 |q::l,acc,n,hc,k,f,b,g=>by
  have s:=aJs k (f q (.head _)) a;have⟨o,_,w⟩:=hc.write (x:=.fH q.key now);unfold Nd.tries at g⊢;by_cases m:(n.write (.fH q.key now)).2=0
  ·rw[c! m] at g⊢;have⟨_,_,e⟩:=(IY n (.fH q.key now)).resolve_left λz=>z.1 m;rw[jL,Cb] at b;refine VW a (l:=l) o (by rw[e];exact k.doc (x:=.fH q.key now) (bQ.now a)) (λy r=>?_) b.2 g;have⟨i,c,_⟩:=f q (.head _);have⟨j,d,B,A⟩:=f y (.tail _ r);have⟨v,D⟩:=IJ c s;rw[e,v];have p:¬j=i:=λe=>b.1 (by grind);refine⟨j,d,?_,?_⟩;all_goals grind
  ·grind
def EO(z:Nat×aM):bX:=⟨9,(qI z.1 z.2).enc,false⟩
def FH(z:Nat×aM):bX:=⟨z.1,(tM (qI z.1 z.2)).enc,false⟩
structure xY(z:Nat×aM):Prop where
 r:z.1<=3
 k:z.2.key.may=true
 w:z.2.bD.check=0
 n:bQ z.2.bD.n
theorem xY.CG(h:xY z):(qI z.1 z.2).check=0:=by
 have a:nG z.1=true:=d! (by have:=h.r;omega);unfold Mg.check;refine(c! ⟨(by decide:(1:Int)<=3),(by decide:(3:Int)<=4)⟩).trans ((c! ?_).trans (c! rfl));show((nG z.1&&decide ((9:Int)=9))&&(z.2.key.may&&decide (z.2.bD.check=0)))=true;rw[a,h.k,d! h.w];rfl
theorem xY.cR(h:xY z):(tM (qI z.1 z.2)).check=0:=by
 have a:nG z.1=true:=d! (by have:=h.r;omega);unfold Mg.check;refine(c! ⟨(by decide:(1:Int)<=4),(by decide:(4:Int)<=4)⟩).trans ((c! ?_).trans (c! rfl));show((decide ((9:Int)=9)&&nG z.1)&&z.2.key.may)=true;rw[a,h.k];rfl
theorem xY.aBe(h:xY z):kO (EO z).b=some (qI z.1 z.2):=EF h.CG ⟨λ_ a=>(cZ a).elim,h.n⟩
theorem xY.WU(h:xY z):kO (FH z).b=some (tM (qI z.1 z.2)):=EF h.cR ⟨λ_ a=>(cZ a).elim,bQ.zero⟩
theorem Up{r:Nat}{now:Int}:∀ {L:List aM} {ws:List bX} {bI:List nO},(∀q∈L,xY (r,q))->ws.length+L.length<=128->(rN r now ws bI L).1=ws++L.map λq=>EO (r,q)
 | [],ws,_,_,_=>by rw[tI,aY];rfl
 |q::L,ws,bI,h,a=>by
  rw[gL] at a;have e:(jJ ws (qI r q)).1=ws++[EO (r,q)]:=KS o_ (h q (.head _)).CG;show(rN r now (jJ ws (qI r q)).1 _ L).1=_;rw[e,Up (λx b=>h x (.tail _ b)) (by grind),jL,bF];rfl
noncomputable def rq(u:Wv)(cf:bW)(t:Int)(r:Nat):List (Nat×aM):=(List.range r).flatMap λi=>((u.state i).ready cf t).map λq=>(i,q)
theorem OD(u:Wv)(cf:bW)(t:Int)(r:Nat):rq u cf t (r+1)=rq u cf t r++((u.state r).ready cf t).map λq=>(r,q):=by
 grind [rq,List.range_succ]
theorem B7{r:Nat}:z∈rq u cf t r↔z.1<r/\z.2∈(u.state z.1).ready cf t:=by
 grind [rq]
section
variable {cf:bW} {T t:Int} {u:Wv} (h:FI cf T t u) (hT:T<255) (ht:0<=t/\t<=1073741824)
include h hT
theorem DO{r:Nat}(l:r<=u.aD.length)(m:z∈rq u cf t r):xY z/\Iv (u.state z.1) z.2/\∃j,j<(u.state z.1).ps.length/\z.2.key.id=dC z.1 j/\sT (dC z.1 j) ((u.state z.1).ps.getD j s0).made ((u.state z.1).ps.getD j s0).l ((u.state z.1).ps.getD j s0).w cf t=true/\next (dC z.1 j) ((u.state z.1).ps.getD j s0).made ((u.state z.1).ps.getD j s0).l ((u.state z.1).ps.getD j s0).w=some z.2:=by
 have⟨p,f⟩:=B7.1 m;have⟨n,d,_,e,g,q⟩:=h.at_ (i:=z.1) o_;have⟨j,l,b⟩:=mem_ready.1 f;have k:=h.w.begun z.1 n d j;rw[<-pE d] at k;have a:=NU b;have o:(u.state z.1).r=z.1:=by grind
 have⟨k1,k2,k3,k4⟩:=TE (by grind) a b o_;have c:=h.len.2;refine⟨⟨o_,k2,k3,k4⟩,⟨j,a,b,o_⟩,j,k1,?_⟩
 grind
theorem OC:∀ {r:Nat},r<=u.aD.length->((rq u cf t r).map λz=>z.2.key.id).Nodup
 |0,_=>List.Pairwise.nil
 |r+1,hr=>by
  rw[OD,gP,List.map_map];have⟨n,_,_,e,g,o⟩:=h.at_ (i:=r) o_;refine Ab.2 ⟨OC o_,by have:=(N8 g cf t).2;rw[<-e] at this;exact this,λa a b hb f=>?_⟩;obtain⟨x,d,rfl⟩:=jX.1 a;obtain⟨q,c,rfl⟩:=jX.1 hb;have⟨_,_,j,_,k,_⟩:=DO h hT (r:=r) o_ d;have⟨_,_,m,_,l,_⟩:=DO h hT (z:=(r,q)) (r:=r+1) hr (B7.2 ⟨by show r<r+1;omega,c⟩)
  grind [B7,D6]
theorem UI{r:Nat}(d:r<=u.aD.length):(rq u cf t r).length<=48:=by
 have a:∀n∈u.aD,0<=sP n:=λn b=>by
  have⟨i,p⟩:=vH b;have c:=(h.w.h.gd p).2.1;exact(c.v.count c.rep).1
 have:=Ft (OC h hT d) (m:=Hi u.aD) λa l=>by
  obtain⟨z,f,rfl⟩:=jX.1 l;have⟨_,_,j,k,v,_⟩:=DO h hT d f;have q:=(B7.1 f).1;have⟨n,b,_,e,g,x⟩:=h.at_ (i:=z.1) o_;have s:n.state=n.s:=(pE b).symm.trans e;rw[e] at k;have o:=g.n;refine List.mem_flatMap.2 ⟨n,dG b,jX.2 ⟨j,List.mem_range.2 ?_,?_⟩⟩;all_goals grind [sP]
 rw[fB] at this;have w:=Nf a;have:=h.w.sm;have:=h.sub;omega
structure Pm(cf:bW)(T t:Int)(u:Wv)(r:Nat)(d:Dv):Prop where
 f:FI cf (T+r) t d.w
 k:Kp u d.w
 done:∀i,i<r->FF t (u.state i) (d.w.state i) ((u.state i).ready cf t)
 rest:∀i,r<=i->d.w.state i=u.state i
 ws:d.w.ws=(rq u cf t r).map EO
include ht in
theorem aCh(W:u.ws=[]){b:Bool}(U:((Dv.mk u b).all 0 (eV 5)).short=false):Pm cf T t u u.aD.length ((Dv.mk u b).all 0 (eV 5)):=by
 have:=Gp (f:=eV 5) (P:=Pm cf T t u) (m:=u.aD.length) (λr d E k B=>?_) (k:=u.aD.length - 0) (r:=0) (d:=⟨u,b⟩) o_ ⟨by rw[show T+((0:Nat):Int)=T from BW T];exact h,(gH.refl u).kp,λi D=>by omega,λi _=>rfl,W⟩ U
 ·rw[show 0+(u.aD.length - 0)=u.aD.length by omega] at this;exact this
 ·have p:d.oH (eV 5 r)=d.dB (bP 5 r 0 0):=rfl;rw[p] at B⊢;have⟨N,k1,n,hn,O,J,K,w,o,M⟩:=k.f.iV (r:=r) (by rw[k.k.len];exact E);have F:=k.rest r (bM r);have⟨n0,R,_,H,g0,r0⟩:=h.at_ E;have c:n.s=u.state r:=J.symm.trans F;have Q:Gd n.s:=by grind
  rw[c] at K w o;have a:(n.tries t ((u.state r).ready cf t) []).2.2≠10:=by
   rw[<-w];exact(Dy B).2 (by show(5:Int)≠15;decide)
  have g:(((u.state r).ready cf t).map λq=>q.key.id).Nodup:=by grind [N8]
  have A:∀q∈(u.state r).ready cf t,Iv n.s q:=λq j=>by
   rw[c];exact(DO h hT (z:=(r,q)) (r:=r+1) o_ (B7.2 ⟨by show r<r+1;omega,j⟩)).2.1
  have X:=VW ht O Q A g a;have⟨l1,_,v,l,Z⟩:=Ol (now:=t) (acc:=[]) (n:=n) (λq j=>by have⟨i,x,y,_⟩:=A q j;exact⟨i,x,y⟩) g;have l:=l X;subst l;rw[jD] at v;rw[v] at o;have e:=UI h hT (r:=r+1) o_;rw[OD,bR,fB] at e;refine⟨?_,k.k.trans k1,λi D=>?_,λi D=>?_,?_⟩
  ·have:T+((r+1:Nat):Int)=T+(r:Nat)+1:=o_;rw[this];exact N
  ·by_cases s:i=r;subst s;rotate_left;have:=k.done i o_;all_goals
    show FF t _ ((d.w.step _).1.state i) _;grind
  ·show(d.w.step _).1.state i=_;rw[M i o_];exact k.rest i o_
  ·show(d.w.step _).1.ws=_;rw[o,Up (λq j=>(DO h hT (z:=(r,q)) (r:=r+1) o_ (B7.2 ⟨by show r<r+1;omega,j⟩)).1) (by rw[k.ws,fB];omega),k.ws,OD,gP,List.map_map];rfl
end
theorem WW{s:Sv}(hid:k.id=dC s.r i)(hi:i<s.ps.length)(hm:k.may=true):(s.doc (.cR k)).1=⟨s.v,s.ps.set i ((s.ps.getD i s0).cR (dC s.r i) k),s.r⟩/\((s.doc (.cR k)).2≠0->(s.ps.getD i s0).cR (dC s.r i) k=s.ps.getD i s0):=by
 have hk:(k.id.seq - 1).toNat=i:=by rw[hid];show((((i+1:Nat):Int)) - 1).toNat=i;omega
 have hs:k.id.seq=((i+1:Nat):Int):=by rw[hid];rfl
 show(s.oW k).1=_/\((s.oW k).2≠0->_);unfold Sv.oW;rw[c! hm];unfold Aq;rw[c! ⟨by rw[hid];rfl,o_,o_⟩,hk,hid];refine⟨rfl,λhz=>?_⟩;dsimp only at hz;unfold bC.cR;cases ha:dN (dC s.r i) (s.ps.getD i s0).l k with
 |none=>rfl
 |some l=>rw[ha] at hz;exact i! rfl hz
def after(l:List (Nat×aM))(a:aL)(p:bC):bC:=match l.find? λz=>decide (z.2.key.id=a) with
 |some z=>p.cR a z.2.key
 |none=>p
theorem p6{n:Nd}(g:Cl n)(d:k.id=dC n.s.r i)(hi:i<n.s.ps.length)(a:k.may=true)(v:m.kind=4)(p:m.key=k){ws:List bX}(b:(eC ws n m).2.code≠10) :
  (eC ws n m).1.1=ws/\(eC ws n m).1.2.up=true/\(eC ws n m).1.2.s.v=n.s.v/\∀j,(eC ws n m).1.2.s.ps.getD j s0=if j=i then(n.s.ps.getD i s0).cR (dC n.s.r i) k else n.s.ps.getD j s0:=by
 have⟨f,o⟩:=WW d hi a;unfold eC at b⊢;rw[b! o_,b! o_,p] at b⊢;by_cases c:(n.s.doc (.cR k)).2=0
 ·rw[b! (λh=>h c)] at b⊢;have⟨r,s⟩:=g.take (l:=[.cR k]) λx q=>by rw[eM.1 q];trivial
  have⟨_,e⟩:=s ⟨c,trivial⟩ b;have e:(n.take [.cR k]).1.s=(n.s.doc (.cR k)).1:=e;refine⟨rfl,r.1.up,?_,λj=>?_⟩
  ·dsimp only;rw[e,f]
  ·dsimp only;rw[e,f];exact Jk hi _ j
 ·rw[c! c];refine⟨rfl,g.up,rfl,λj=>?_⟩;split
  ·rename_i e;subst e;exact(o c).symm
  ·rfl
structure Ak(cf:bW)(T t:Int)(L:List (Nat×aM))(u v:Wv):Prop where
 f:FI cf T t v
 k:Kp u v
 p:(∃k,k<=L.length/\v.ws=(L.drop k).map EO++(L.take k).map FH/\gH u v)\/∃k,k<=L.length/\v.ws=(L.drop k).map FH/\∀i,i<u.aD.length->(v.state i).v=(u.state i).v/\∀j,(v.state i).ps.getD j s0=after (L.take k) (dC i j) ((u.state i).ps.getD j s0)
theorem Qr{α:Type}{l:List α}{k:Nat}(h:k<l.length):∃x,l[k]?=some x/\l.drop k=x::l.drop (k+1)/\l.take (k+1)=l.take k++[x]:=by grind [List.getElem?_eq_getElem,List.drop_eq_getElem_cons,List.take_append_getElem]
section
variable {cf:bW} {T t:Int} {L:List (Nat×aM)} {u:Wv} (hL:∀z∈L,xY z/\z.1<u.aD.length/\∃j,j<(u.state z.1).ps.length/\z.2.key.id=dC z.1 j) (hn:(L.map λz=>z.2.key.id).Nodup) (hl:L.length<=48)
include hL hn hl
theorem Ak.cR(f:FI cf T t v)(k1:Kp u v){k:Nat}(hk:k<=L.length){p:bX}{ws:List bX}(J:v.ws=p::ws)(b:v.ws=(L.drop k).map FH)(B:∀i,i<u.aD.length->(v.state i).v=(u.state i).v/\∀j,(v.state i).ps.getD j s0=after (L.take k) (dC i j) ((u.state i).ps.getD j s0))(hu:FI cf T t u)(W:(v.bZ 0).2.code≠10):Ak cf T t L u (v.bZ 0).1:=by
 have⟨f1,k2,_⟩:=f.bZ J;have y:k<L.length:=by
  grind
 have⟨z,hz,U,ht⟩:=Qr y;rw[U,jL,J] at b;injection b with hp K;subst hp;have M:=dG hz;have⟨P,r,D,w,d⟩:=hL z M;have⟨n,q,R,e,g,O⟩:=f.at_ (i:=z.1) (by rw[k1.len];exact r);have⟨X,_,_,Q,g0,r0⟩:=hu.at_ r;have⟨v1,v2⟩:=B z.1 r;have E:=G5 J P.WU (a:=z.1) rfl P.r q R.up;have H:n.s.ps.length=X.s.ps.length:=by
  have h1:=g.n;have h2:=g0.n;have h3:n.s.v=X.s.v:=by rw[<-e,v1,Q]
  rw[h3,O,<-r0] at h1;omega
 rw[Q] at w;have⟨b1,b2,b3,b4⟩:=p6 R (k:=z.2.key) (i:=D) (by rw[d,O]) (by rw[H];exact w) P.k (m:=tM (qI z.1 z.2)) rfl rfl (ws:=ws) (by rw[E] at W;exact W);refine⟨f1,k1.trans k2,.inr ⟨k+1,y,?_,λi hi=>?_⟩⟩
 ·rw[E];show(eC ws n _).1.1=_;rw[b1,K]
 ·have⟨Z,N⟩:=B i hi;have A:(L.take k).find? (λx=>decide (x.2.key.id=z.2.key.id))=none:=by
   rw[List.find?_eq_none];intro x hx b;have b:=g! b;rw[<-mE k L,U,gP,Ab] at hn;exact hn.2.2 _ (xV hx) _ (xV (jW)) b
  have l:∀j p,after (L.take (k+1)) (dC i j) p=if i=z.1/\j=D then p.cR (dC i j) z.2.key else after (L.take k) (dC i j) p:=λj p=>by
   unfold after;rw[ht,List.find?_append];by_cases c:i=z.1/\j=D
   ·rw[c! c,c.1,c.2,<-d,A];have:[z].find? (λx=>decide (x.2.key.id=z.2.key.id))=some z:=List.find?_cons_of_pos (d! rfl);rw[this];rfl
   ·rw[b! c];have:[z].find? (λx=>decide (x.2.key.id=dC i j))=none:=by
     rw[List.find?_cons_of_neg]
     ·rfl
     ·intro b;have b:=g! b;rw[d] at b;have⟨e1,e2⟩:=D6 b;exact c ⟨o_,e2.symm⟩
    rw[this,Option.or_none]
  by_cases o:i=z.1
  ·subst o;have F:(v.bZ 0).1.state z.1=(eC ws n (tM (qI z.1 z.2))).1.2.s:=by
    rw[E,pE (n:=(eC ws n (tM (qI z.1 z.2))).1.2) (BE q),jH b2]
   rw[F];refine⟨by rw[b3,<-e];exact Z,λj=>?_⟩;rw[b4,l];by_cases s:j=D
   ·rw[c! s,c! ⟨rfl,s⟩,s,O,<-e,N D];unfold after;rw[<-d,A]
   ·rw[b! s,b! (λh=>s h.2),<-e];exact N j
  ·have F:(v.bZ 0).1.state i=v.state i:=by
    rw[E];unfold Wv.state;dsimp only;rw[xG q,b! o]
   rw[F];refine⟨Z,λj=>?_⟩;rw[l,b! (λh=>o h.1)];exact N j
theorem Ak.bZ(o:FI cf T t u)(h:Ak cf T t L u v){p:bX}{ws:List bX}(b:v.ws=p::ws)(n:(v.bZ 0).2.code≠10):Ak cf T t L u (v.bZ 0).1:=by
 rcases h.p with⟨k,m,c,a⟩|⟨k,m,c,f⟩
 ·by_cases d:k<L.length
  ·have⟨x,k2,_⟩:=h.f.bZ b;have⟨z,E,y,D⟩:=Qr d;have g:v.ws.length=L.length:=by grind
   rw[y,jL,mX,b] at c;injection c with B i;subst B;have q:=(hL z (dG E)).1;have r:jI v.ws 0=some (EO z):=by rw[b];rfl
   have s:eK v.ws 0=ws:=by rw[b];rfl
   rw[b,gL] at g;have l:(v.bZ 0).1=⟨v.cf,v.now,v.sub,v.bI,ws++[FH z],(iQ ws v.ref v.app (qI z.1 z.2)).1.2.1,(iQ ws v.ref v.app (qI z.1 z.2)).1.2.2,v.aD⟩:=by
    have A:(tR v.ref v.app ⟨(qI z.1 z.2).key,(qI z.1 z.2).bD⟩).2=true:=by
     unfold tR;rw[h.f.ref];split
     ·rfl
     ·rw[b! sD]
    have w:(iQ ws v.ref v.app (qI z.1 z.2)).1.1=ws++[FH z]:=by
     unfold iQ;rw[c! A];exact KS o_ q.cR
    unfold Wv.bZ;rw[r];dsimp only;rw[q.aBe];dsimp only;rw[c! (show(EO z).to=9 from rfl),s,w]
   refine⟨x,h.k.trans k2,.inl ⟨k+1,d,?_,?_⟩⟩
   ·rw[l];dsimp only;rw[i,D,gP,bF];rfl
   ·refine a.trans ?_;rw[l];exact⟨rfl,λi=>rfl⟩
  ·have e:L.drop k=[]:=PK o_;rw[e,fX o_] at c;exact Ak.cR hL hn hl h.f h.k (k:=0) (bY _) b (by rw[c,uG];rfl) (λi _=>⟨by rw[a.2],λj=>by rw[a.2];rfl⟩) o n
 ·exact Ak.cR hL hn hl h.f h.k m b c f o n
theorem Ak.ends(h:Ak cf T t L u v)(c:v.ws=[]):∀i,i<u.aD.length->(v.state i).v=(u.state i).v/\∀j,(v.state i).ps.getD j s0=after L (dC i j) ((u.state i).ps.getD j s0):=by
 rcases h.p with⟨k,d,a,b⟩|⟨k,d,a,e⟩
 ·rw[c] at a;have:=j! List.length a;rw[bR,fB,fB,lB,dR,tH] at this;have:L=[]:=zM.1 o_;subst this;exact λi _=>⟨by rw[b.2],λj=>by rw[b.2];rfl⟩
 ·rw[c] at a;have:=j! List.length a;grind [List.take_of_length_le]
end
def PF(cf:bW)(t:Int)(id:aL)(p a:bC):Prop:=(sT id p.made p.l p.w cf t=false/\a=p)\/(sT id p.made p.l p.w cf t=true/\∃q,next id p.made p.l p.w=some q/\a=(p.dK id t).cR id q.key)
theorem FI.more{T:Int}(h:FI cf T t v)(a:T<=T'):FI cf T' t v:=⟨h.w.more a,h.cf,h.now,h.cl,h.ref,h.sub,h.ws,h.len⟩
theorem XM{T:Int}(h:FI cf T t u)(hT:T<250)(hw:u.ws=[]){b:Bool}(K:((Dv.mk u b).all 0 (eV 5)).bZ.short=false) :
  FI cf (T+4) t ((Dv.mk u b).all 0 (eV 5)).bZ.w/\((Dv.mk u b).all 0 (eV 5)).bZ.w.ws=[]/\Kp u ((Dv.mk u b).all 0 (eV 5)).bZ.w /\
  ∀i,i<u.aD.length->(((Dv.mk u b).all 0 (eV 5)).bZ.w.state i).v=(u.state i).v/\∀j,PF cf t (dC i j) ((u.state i).ps.getD j s0) ((((Dv.mk u b).all 0 (eV 5)).bZ.w.state i).ps.getD j s0):=by
 have Z:0<=t/\t<=1073741824:=by have:=h.w.now;rw[h.now] at this;exact this
 have k:=aCh h o_ Z hw (Dv.Bj K);generalize (Dv.mk u b).all 0 (eV 5)=d at *;have J:=h.len;have hL:∀z∈rq u cf t u.aD.length,xY z/\z.1<d.w.aD.length/\∃j,j<(d.w.state z.1).ps.length/\z.2.key.id=dC z.1 j:=λz l=>by
  have⟨s1,_,j,s2,s3,_⟩:=DO h o_ (bM _) l;have x:=(B7.1 l).1;exact⟨s1,by rw[k.k.len];exact x,j,by rw[(k.done z.1 x).n];exact s2,s3⟩
 have hn:=OC h (t:=t) o_ (bM _);have hl:=UI h (t:=t) o_ (bM _);have⟨a,c,_⟩:=Dv.drain (P:=Ak cf (T+(u.aD.length:Nat)) t (rq u cf t u.aD.length) d.w) (λv H=>H.f.len.1) (λv p ws H X U=>H.bZ hL hn hl k.f X U) ⟨k.f,(gH.refl _).kp,.inl ⟨0,bY _,by rw[k.ws,uG,qU];simp,gH.refl _⟩⟩ K;have e:=a.ends hL hn hl c;refine⟨a.f.more o_,c,k.k.trans a.k,λi r=>?_⟩;have⟨O,Q⟩:=e i (by rw[k.k.len];exact r);have⟨M,_,_,N⟩:=k.done i r;have⟨n,W,_,R,g,r1⟩:=h.at_ r;have A:(u.state i).r=i:=by rw[R];exact r1
 refine⟨O.trans M,λj=>?_⟩;rw[Q j,N j,A];have s:dC i j∈((u.state i).ready cf t).map (λq=>q.key.id)↔∃q∈(u.state i).ready cf t,q.key.id=dC i j:=jX;cases F:sT (dC i j) ((u.state i).ps.getD j s0).made ((u.state i).ps.getD j s0).l ((u.state i).ps.getD j s0).w cf t with
 |true =>
  have E:∃q,next (dC i j) ((u.state i).ps.getD j s0).made ((u.state i).ps.getD j s0).l ((u.state i).ps.getD j s0).w=some q:=by
   grind [sT,Option.isSome_iff_exists]
  have⟨q,o⟩:=E;have w:q∈(u.state i).ready cf t:=mem_ready.2 ⟨j,by rw[A];exact F,by rw[A];exact o⟩;have f:=NU o;refine .inr ⟨F,q,o,?_⟩;rw[c! (s.2 ⟨q,w,f⟩)];unfold after;cases y:(rq u cf t u.aD.length).find? (λz=>decide (z.2.key.id=dC i j)) with
  |none =>
   rw[List.find?_eq_none] at y;exact i! (d! f) (y (i,q) (B7.2 ⟨r,w⟩))
  |some z =>
   have l:=List.mem_of_find?_eq_some y;have m:z.2.key.id=dC i j:=g! (List.find?_some (p:=λz:Nat×aM=>decide (z.2.key.id=dC i j)) y);have⟨_,_,j2,_,B,_,D⟩:=DO h o_ (bM _) l;have⟨x1,x2⟩:=D6 (B.symm.trans m);have x1:z.1=i:=o_;rw[x1,x2,o] at D;dsimp only;rw[iN D]
 |false =>
  refine .inl ⟨F,?_⟩;have v:∀z∈rq u cf t u.aD.length,z.2.key.id≠dC i j:=λz l m=>by
   have⟨_,_,j2,_,B,D,_⟩:=DO h o_ (bM _) l;have⟨x1,x2⟩:=D6 (B.symm.trans m)
   grind
  rw[b! (λhm=>by
   have⟨q,o,f⟩:=s.1 hm;exact v (i,q) (B7.2 ⟨r,o⟩) f)]
  unfold after;rw[List.find?_eq_none.2 λz l=>by simpa using v z l]
structure xS(v v':Wv):Prop where
 a:∀j,1<=j->j<v.aD.length->CU (Un v) j (v.state j) (v.state 0) (v'.state j)/\CU (Un v) 0 (v.state 0) (v.state j) (v'.state 0)
 c:min ((v.state 0).v.l.length+16) (v.state 0).all.length<=(v'.state 0).v.l.length
def xS.from_{w:Wv}(h:gH v w)(g:xS w v'):xS v v':=by
 have b:Un w=Un v:=by
  funext x;unfold Un;rw[h.1];simp only[h.2]
 have⟨a,c⟩:=g;rw[b,h.1] at a;simp only[h.2] at a c;exact⟨a,c⟩
section
variable {cf:bW} {T t:Int} {v:Wv}
theorem xS.up{w:Wv}(f:FI cf T t v)(d:FI cf T' t' u)(h:Kp v u)(g:xS v u)(k:Kp u w):xS v w:=by
 have gd:∀i,i<v.aD.length->Gd (u.state i):=λi c=>by
  have⟨n,_,_,e,g,_⟩:=d.at_ (i:=i) (by rw[h.len];exact c)
  grind
 have:=f.len;exact⟨λj b a=>⟨(g.a j b a).1.mono (gd j a) (k.all j) (k.l j),(g.a j b a).2.mono (gd 0 o_) (k.all 0) (k.l 0)⟩,iR g.c (k.l 0).length_le⟩
theorem M9{d:Dv}(h:FI cf T t d.w)(k:Kp v d.w)(i:d.bZ.short=false):FI cf T t d.bZ.w/\Kp v d.bZ.w/\d.bZ.w.ws=[]/\d.short=false:=by
 have⟨⟨a,b⟩,c,e⟩:=Dv.drain (P:=λw=>FI cf T t w/\Kp v w) (λw f=>f.1.len.1) (λw p j f g _=>⟨(f.1.bZ g).1,f.2.trans (f.1.bZ g).2.1⟩) ⟨h,k⟩ i
 grind
def aLp{ws:List bX}(h:ws=[]):rV ws:=λp a=>by rw[h] at a;cases a
noncomputable def Wv.front(v:Wv):Dv:=((((((Dv.mk v false).bZ.all 0 (eV 15)).all 1 xE).bZ).dB (bP 4 0 0 16)).all 1 tY).bZ
theorem Yf{d:Dv}(h:d.w.ws=[]):d.bZ=d:=by
 grind [Dv.bZ,Cu]
theorem Zs(h:FI cf T t v)(hs:v.front.short=false):FI cf T t v.front.w/\v.front.w.ws=[]/\Kp v v.front.w/\(v.ws=[]->xS v v.front.w/\∀L,Bc L v->gH v v.front.w):=by
 unfold Wv.front at hs⊢;have hs6:=Dv.Bj hs;have hs5:=Dv.I6 hs6;have hs4:=(Dy hs5).1;have hs3:=Dv.Bj hs4;have hs2:=Dv.I6 hs3;have hs1:=Dv.I6 hs2;have⟨f1,k1,w1,_⟩:=M9 (v:=v) (d:=⟨v,false⟩) h (gH.refl v).kp hs1;have hd1:v.ws=[]->(Dv.mk v false).bZ=⟨v,false⟩:=λhw=>Yf (d:=⟨v,false⟩) hw;have⟨d1,e1⟩:∃d,(Dv.mk v false).bZ=d:=⟨_,rfl⟩
 rw[e1] at f1 k1 w1 hd1 hs hs6 hs5 hs4 hs3 hs2⊢;have⟨f2,k2,w2⟩:=aGh f1 (b:=d1.short) hs2;change FI cf T t (d1.all 0 (eV 15)).w at f2;change gH d1.w (d1.all 0 (eV 15)).w at k2;change (d1.all 0 (eV 15)).w.ws=d1.w.ws at w2;have⟨d2,e2⟩:∃d,d1.all 0 (eV 15)=d:=⟨_,rfl⟩;rw[e2] at f2 k2 w2 hs hs6 hs5 hs4 hs3⊢;have b3:LO cf T t d2.w d2.w.aD.length (d2.all 1 xE):=XW f2 (w2.trans w1) (b:=d2.short) hs3;have⟨d3,e3⟩:∃d,d2.all 1 xE=d:=⟨_,rfl⟩;rw[e3] at b3 hs hs6 hs5 hs4⊢;have⟨f4,k4,w4,_⟩:=M9 b3.f b3.s.kp hs4;have j4:∀a b:Nat,a<d2.w.aD.length->b<d2.w.aD.length->(∃p∈d3.w.ws,GN a b (d2.w.state b) p)->CU (Un d2.w) b (d2.w.state b) (d2.w.state a) (d3.bZ.w.state b):=λa b ha hb ⟨p,hp,hq⟩=>by
  have⟨z,zw,_⟩:=Dv.drain (P:=Jr cf T t d2.w a b) (λw hw=>hw.f.len.1) (λw p ws hw hv hc=>hw.bZ f2 ha hb hv hc) ⟨b3.f,b3.s.kp,.inr ⟨p,hp,.inl hq⟩⟩ hs4;rcases z.g with g|⟨p,hp,_⟩;all_goals grind
 have l4:∀L,Bc L d2.w->gH d2.w d3.bZ.w:=λL hL=>by
  have⟨z,_⟩:=Dv.drain (P:=Sf cf T t L d2.w) (λw hw=>hw.f.len.1) (λw p ws hw hv _=>hw.bZ hv) ⟨b3.f,b3.s,EV hL f2 b3.f b3.s.kp,b3.w⟩ hs4;exact z.s
 have⟨d4,e4⟩:∃d,d3.bZ=d:=⟨_,rfl⟩;rw[e4] at f4 k4 w4 j4 l4 hs hs6 hs5⊢;have⟨f5,k5,w5,_,n,hn,c5,q5,o5⟩:=f4.cD;have hcode:(oT 16 n 0).2.code≠10:=by rw[<-q5];exact(Dy hs5).2 (by show(4:Int)≠15;decide)
 have⟨es,g,_⟩:=f4.st hn;have gain5:=Qd (j:=0) (k:=16) (f4.cl 0 n hn) g hcode;rw[<-es,<-c5] at gain5;have l5:(d4.w.state 0).v.t=[]->gH d4.w (d4.dB (bP 4 0 0 16)).w:=λht=>⟨k5.len,λi=>by
  show(d4.w.step (bP 4 0 0 16)).1.state i=_;by_cases hi:i=0
  ·subst hi;rw[c5];have e:(oT 16 n 0).1=n:=by
    rw[es] at ht;show(match n.s.v.t[0]? with|none=>(n,(⟨0,0,0⟩:iX))|some c=>_).1=n;rw[ht];rfl
   rw[e,es]
  ·exact o5 i hi⟩
 have f5:FI cf T t (d4.dB (bP 4 0 0 16)).w:=f5;have k5:Kp d4.w (d4.dB (bP 4 0 0 16)).w:=k5;have w5:(d4.dB (bP 4 0 0 16)).w.ws=d4.w.ws:=w5;have gain5:min ((d4.w.state 0).v.l.length+16) (d4.w.state 0).all.length<=((d4.dB (bP 4 0 0 16)).w.state 0).v.l.length:=gain5;have⟨d5,e5⟩:∃d,d4.dB (bP 4 0 0 16)=d:=⟨_,rfl⟩;rw[e5] at f5 k5 w5 gain5 l5 hs hs6⊢;have⟨f6,k6,w6⟩:=W7 f5 (aLp (w5.trans w4)) (b:=d5.short) hs6;change FI cf T t (d5.all 1 tY).w at f6;change gH d5.w (d5.all 1 tY).w at k6;change rV (d5.all 1 tY).w.ws at w6;have⟨d6,e6⟩:∃d,d5.all 1 tY=d:=⟨_,rfl⟩;rw[e6] at f6 k6 w6 hs⊢;have⟨f7,k7,w7,_⟩:=M9 f6 (gH.refl d6.w).kp hs;refine⟨f7,w7,k1.trans (k2.kp.trans (k4.trans (k5.trans (k6.kp.trans k7)))),λhw=>?_⟩;have s1:gH v d1.w:=by grind [gH.refl]
 have s2:=s1.trans k2;have hlen:=h.len;refine⟨?_,λL hL=>?_⟩
 ·refine xS.from_ s2 (xS.up f2 f5 (k4.trans k5) ⟨λj h1 h2=>?_,?_⟩ (k6.kp.trans k7))
  ·have⟨q1,q2⟩:=b3.a j h1 h2;have gd:∀i,i<d2.w.aD.length->Gd (d4.w.state i):=λi hi=>by
    have⟨n,_,_,e,g,_⟩:=f4.at_ (i:=i) (by rw[k4.len];exact hi);grind
   exact⟨(j4 0 j o_ h2 q1).mono (gd j h2) (k5.all j) (k5.l j),(j4 j 0 h2 o_ q2).mono (gd 0 o_) (k5.all 0) (k5.l 0)⟩
  ·have a1:=(k4.l 0).length_le;have⟨n2,_,_,e2,g2,_⟩:=f2.at_ (i:=0) (by have:=f2.len;omega);have a2:=FJ (s:=d2.w.state 0) (by grind) (k4.all 0);omega
 ·have L2:=EV hL h f2 s2.kp;have s4:=l4 L L2;have L4:=EV L2 f2 f4 s4.kp;have s5:=l5 (L4 0 (by grind)).2;have L5:=EV L4 f4 f5 k5;have⟨z,_⟩:=Dv.drain (P:=Sf cf T t L d6.w) (λw hw=>hw.f.len.1) (λw p ws hw hv _=>hw.bZ hv) ⟨f6,gH.refl _,EV L5 f5 f6 k6.kp,w6⟩ hs;exact s2.trans (s4.trans (s5.trans (k6.trans z.s)))
theorem FI.cg(h:FI cf T t v)(hi:i<v.aD.length)(j:Nat):Cg ⟨v.app,v.now⟩ (dC i j) ((v.state i).ps.getD j s0):=by
 have⟨n,a,_,e,_,b⟩:=h.at_ hi;have:=(h.w.h.nv i n a).1.ext.cg (h.w.h.gd a).1 (h.w.h.cg i n a) j
 grind [pE]
def Tm(cf:bW)(v:Wv):Prop:=∀i,i<v.aD.length->∀j,∀e∈((v.state i).ps.getD j s0).l,e.last+cf.cap<=v.now/\e.iY+cf.cap<=v.now
structure Lt(cf:bW)(T t:Int)(v v':Wv):Prop where
 f:FI cf (T+4) (t+cf.cap) v'
 w:v'.ws=[]
 k:Kp v v'
 tm:Tm cf v'
 g:v.ws=[]->xS v v'
 c:v.ws=[]->∀L,Bc L v->∀i,i<v.aD.length->∀j,PF cf t (dC i j) ((v.state i).ps.getD j s0) ((v'.state i).ps.getD j s0)
theorem aLi(hc:1<=cf.cap/\cf.cap<=64)(h:FI cf T t v)(hT:T<250)(ht:t+64<=1073741824)(hs:v.round.short=false):Lt cf T t v v.round.w:=by
 have e:v.round=((v.front.all 0 (eV 5)).bZ).dB (bP 6 0 0 v.cf.cap):=rfl;rw[e] at hs⊢;have hs9:=(Dy hs).1;have hs7:=Dv.I6 (Dv.Bj hs9);have hf7:=Zs h hs7;generalize v.front=d7 at *;have⟨u7,b7⟩:=d7;have⟨f7,w7,k7,g7⟩:=hf7;have⟨f9,w9,k9,c9⟩:=XM f7 hT w7 hs9;dsimp only at k7 g7 k9 c9;generalize (Dv.mk u7 b7 |>.all 0 (eV 5)).bZ=d9 at *;rw[h.cf] at hs⊢;have⟨fA,sA,wA,_⟩:=f9.tick hc ht;have eA:(d9.dB (bP 6 0 0 cf.cap)).w=(d9.w.step (bP 6 0 0 cf.cap)).1:=rfl;rw[eA];refine⟨fA,wA.trans w9,k7.trans (k9.trans sA.kp),λi hi j e he=>?_,λhw=>?_,λhw L hL i hi j=>?_⟩
 ·rw[sA.1] at hi;rw[sA.2] at he;have:=(f9.cg hi j).tm e he;rw[f9.now] at this;rw[fA.now];grind
 ·exact xS.up h f7 k7 (g7 hw).1 (k9.trans sA.kp)
 ·have s7:=(g7 hw).2 L hL;have:=(c9 i (by rw[s7.1];exact hi)).2 j;rw[s7.2] at this;rw[sA.2];exact this
end
end
section
open Go.RowKit Reg Oct
open Mem hiding Rd
instance {a b c d f g h i j k l b3 b4 m n o:Int}:LW 42 #[a! a,a! b,a! c,a! d,a! f,a! g,a! h,a! i] #[a! j,a! k,a! l,a! b3,a! b4,a! m,a! n,a! o] (decide (a=j)&&(decide (b=k)&&(decide (c=l)&&(decide (d=b3)&&(decide (f=b4)&&(decide (g=m)&&(decide (h=n)&&decide (i=o)))))))):=⟨zF.eight (e:=2) q_ q_ q_ q_⟩
instance:DecidableEq O8:=λx y=>decidable_of_iff (x.a0=y.a0/\x.a1=y.a1/\x.a2=y.a2/\x.a3=y.a3/\x.a4=y.a4/\x.a5=y.a5/\x.a6=y.a6/\x.a7=y.a7) (by cases x;cases y;simp)
instance:DecidableEq Bk:=λx y=>decidable_of_iff (x.kQ=y.kQ/\x.qG=y.qG/\x.jB=y.jB/\x.bG=y.bG) (by cases x;cases y;simp)
def O8.dec(a b:O8):(decide (a.a0=b.a0)&&(decide (a.a1=b.a1)&&(decide (a.a2=b.a2)&&(decide (a.a3=b.a3)&&(decide (a.a4=b.a4)&&(decide (a.a5=b.a5)&&(decide (a.a6=b.a6)&&decide (a.a7=b.a7))))))))=decide (a=b):=by
 rw[uB];cases a;cases b;simp only[fI,h!,O8.mk.injEq]
section
variable (E:Env)
def aAj(x y:Bh)(M:Rd E eS x.A x.m x.c x.b.bG)(N:Rd E eS y.A y.m y.c y.b.bG):G E 17 [.agg x.cs.toArray,.agg y.cs.toArray] [] (bL (.bool (decide (x.b=y.b))) []):=by
 obtain⟨⟨e,f,g,l⟩,A,n,c⟩:=x;obtain⟨⟨j,o,b3,k⟩,B,m,d⟩:=y;have D:=M.len;have u:=M.cap;have U:=N.len;have p:=N.cap;have W:=cS;dsimp only at M N D u U p⊢;have w:=O8.dec e j;have F:=O8.dec f o;have O:=O8.dec g b3;dsimp only[Bh.cs,Bk.cs];refine t_ func17 ntmps17 ?_;by_cases s:e=j;case neg =>
  have r:=w.trans (e! s);have H:=j! not r;rw[e! (show ¬((⟨e,f,g,l⟩:Bk)=⟨j,o,b3,k⟩) from λh=>s (Bk.mk.inj h).1)];refine a_ ?_;intros;exact aS
 by_cases t:f=o;case neg =>
  have r:=F.trans (e! t);have H:=j! not r;have P:=j! not (w.trans (d! s));rw[e! (show ¬((⟨e,f,g,l⟩:Bk)=⟨j,o,b3,k⟩) from λh=>t (Bk.mk.inj h).2.1)];refine a_ ?_;intros;exact aS
 by_cases z:g=b3;case neg =>
  have r:=O.trans (e! z);have H:=j! not r;have P:=j! not (w.trans (d! s));have X:=j! not (F.trans (d! t));rw[e! (show ¬((⟨e,f,g,l⟩:Bk)=⟨j,o,b3,k⟩) from λh=>z (Bk.mk.inj h).2.2.1)];refine a_ ?_;intros;exact aS
 have r:=j! not (w.trans (d! s));have H:=j! not (F.trans (d! t));have P:=j! not (O.trans (d! z));have J:decide ((⟨e,f,g,l⟩:Bk)=⟨j,o,b3,k⟩)=decide (l=k):=by rw[s,t,z];simp
 rw[J];by_cases K:n=m
 ·subst K;refine a_ ?_;intros;rename_i Q R;refine C.scan (Y:=Unit) D (λi _=>[(2,pt Q),(3,pt R),(5,a! i)]) (λ_ _=>[aE Q 45 (Bk.cs ⟨e,f,g,l⟩ A n c),aE R 45 (Bk.cs ⟨j,o,b3,k⟩ B n d)]) (λi _=>l.take i=k.take i) () aK aC rfl ?_ ?_
  ·intro i _ x G Z v b;have a:k[i]?=some k[i]:=bS o_;generalize k[i]=y at a;dsimp only[Bk.cs];by_cases q:x=y
   ·subst q;have J:(!decide (x=x))=false:=s_
    refine a_ ?_;refine rA (l_ [0,1,2,3,4,5,6,7,8,9,10] .nil) (a_ ?_);exact⟨(),aK,aC,by rw[take_succ v,take_succ a,b]⟩
   ·have J:(!decide (x=y))=true:=by simp[q]
    refine a_ ?_;refine rA (l_ [0,1,2,3,4,5,6,7,8,9,10] .nil) (a_ ?_);exact aX rfl aJ aC (⟨iK (by rw[eq_comm,decide_eq_false_iff_not];rintro rfl;rw[v] at a;injection a with a;exact q a),rfl⟩)
  ·intro _ G b;dsimp only[Bk.cs];refine a_ ?_;exact aX rfl aJ aC (⟨iK (by rw[eq_comm,decide_eq_true_iff];rwa [D,gY,<-D,U,gY] at b),rfl⟩)
 ·refine a_ ?_;intros;exact aX rfl aJ aC (⟨iK (by rw[eq_comm,decide_eq_false_iff_not];rintro rfl;omega),rfl⟩)
end
end
end Go.Proofs.YtmilalkjbojciaaGreat.Sep
