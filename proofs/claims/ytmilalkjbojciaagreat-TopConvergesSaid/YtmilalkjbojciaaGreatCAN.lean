/- Part AN: what it needs. No condition. -/
import Derived.Test.YtmilalkjbojciaaGreatCAK
import Derived.Test.YtmilalkjbojciaaGreatCAM
set_option linter.all false
set_option maxRecDepth 100000
set_option maxHeartbeats 8000000
open Go.Proofs.Tryz
namespace Go.Proofs.YtmilalkjbojciaaGreat.Sep
variable{D:o!}{E:Env}{N:Nat}{R:List aG}{g:Nat}
section
open Go.RowKit Reg Oct
open Mem hiding Rd
section
variable (E:Env) (A:n!) (n c:Nat)
def Xk(l:List aI)(b:Rd E bO A n c l)(h:48<n):aF prog E 151 #[.slice A n c] [] λe d=>e=.returned (.tuple #[.slice none 0 0,a! 3])/\d=[]:=by
 have f:=b.len;have a:=b.cap;refine x_ func151 ntmps151 ?_
 exact mZ
def GK(l:List aI)(e:Ending)(H':List aG):Prop :=
 match l.all aI.may with
 |true=>∃a b,e=.returned (.tuple #[.slice a (1+22*l.length) b,a! 0])/\H'=[own bH a (1+22*l.length) b (jN l)]
 |false=>e=.returned (.tuple #[.slice none 0 0,a! 4])/\H'=[]
def QJ(l:List aI)(p:Rd E bO A n c l)(h:n<=48):aF prog E 151 #[.slice A n c] [] (GK l):=by
 have j:=p.len;have o:=p.cap;refine x_ func151 ntmps151 ?_;intros;rename_i g;have m:UInt8.ofNat ((n:Int).toNat)=UInt8.ofNat l.length:=by rw[jK,j]
 rw[m];refine C.loop (X:=Nat×n!×Nat) (λx=>[(4,.slice x.2.1 (1+22*x.1) x.2.2),(16,.slice A n c),(17,a! n),(18,a! x.1)]) (λx=>[own bH x.2.1 (1+22*x.1) x.2.2 (UInt8.ofNat l.length::nY (l.take x.1))]) (λx=>x.1<=n/\(l.take x.1).all aI.may=true) (λx=>n - x.1) (0,_,_) aK aB.refl ⟨bY _,rfl⟩ ?_;rintro⟨i,w,z⟩ G ⟨u,b⟩;dsimp only at u b⊢;by_cases v:i<n
 ·have e:i<l.length:=o_;have t:l[i]?=some l[i]:=bS e;have a:l.take (i+1)=l.take i++[l[i]]:=rS e;have d:l[i]∈l:=zL e;generalize l[i]=x at t a d;have q:1+22*i+22=1+22*(i+1):=o_;cases f:x.may
  ·have k:l.all aI.may=false:=by
    rw[List.all_eq_false];exact⟨x,d,by rw[f];simp⟩
   refine c_ ?_;intros;refine A_ (λM=>YW M x f) ?_;unfold GK;rw[k];exact mZ
  ·have r:UInt8.ofNat l.length::nY (l.take i)++x.put=UInt8.ofNat l.length::nY (l.take (i+1)):=by rw[a,aHm];rfl
   refine c_ ?_;intros;refine aU (λM=>Qf M x f) ?_;refine e_ ?_;intro y B;intros;rw[q,r];exact⟨(i+1,_,_),aK,aC,⟨by dsimp only;omega,by dsimp only;rw[a,List.all_append,b];simp[f]⟩,d_⟩
 ·obtain rfl:i=n:=o_;have s:l.take i=l:=fX o_;rw[s] at b⊢;unfold GK;rw[b,<-j];refine c_ ?_;exact uX rfl aJ aJ aC (⟨_,_,rfl,by unfold jN;rw[<-j]⟩)
end
section
variable (E:Env) (A:n!) (n c:Nat)
def YF(l:o!)(hr:Rd E bH A n c l)(hl:n<=140737488355300)(h:∀x t,l=x::t->¬(x.toNat<=48/\t.length=22*x.toNat)) :
  aF prog E 248 #[.slice A n c] [] λe H'=>e=.returned (.tuple #[.slice none 0 0,a! 16])/\H'=[]:=by
 have hn:=hr.len;have hcap:=hr.cap;refine x_ func248 ntmps248 ?_;refine cU (λM h1=>AJ M A n c l h1 o_) ?_;rintro e H' ⟨g,A0,c0,rfl,h5,h6,rfl⟩;refine c_ ?_;refine cU (λM=>zB M g false A0 n c0 l 1) ?_;cases l with
 |nil =>
  rw[show nx false ([]:o!) (wid 1)=(none,true,[]) from rfl];rintro e H' ⟨A1,n1,c1,rfl,hal1,rfl⟩;refine gk bU ?_;simp only[tk];refine c_ ?_;refine A_ (λM=>L8 M g true true A1 n1 c1) ?_;exact mZ
 |cons x t =>
  have hx:=Ad x;rw[show nx false (x::t) (wid 1)=(some [x],false,t) from DG (k:=1) s_];rintro e H' ⟨A1,n1,c1,rfl,hal1,rfl⟩;refine gk bU ?_;have hg:Oct.get [x]=x.toNat:=by simp[Oct.get]
  simp only[tk,hg];refine c_ ?_;refine aP (λM=>L8 M g true false A1 n1 c1) ?_;by_cases h48:x.toNat<=48
  ·have ht:t.length≠22*x.toNat:=λht=>h x t rfl ⟨h48,ht⟩;simp only[gL] at hn;refine c_ ?_
   refine cl sD sK aH (λM hE=>HT M g false A1 n1 c1 t (hal1 _ bK)) ?_;rw[b! lA];refine e_ ?_;exact mZ
  ·refine c_ ?_;exact mZ
def WG(r:Option (List aI))(e:Ending)(H':List aG):Prop :=
 match r with
 |some a=>∃O b,e=.returned (.tuple #[.slice O a.length b,a! 0])/\H'=[own bO O a.length b a]
 |none=>e=.returned (.tuple #[.slice none 0 0,a! 16])/\H'=[]
def YG(x:UInt8)(t:o!)(P:Rd E bH A n c (x::t))(a8:x.toNat<=48)(ht:t.length=22*x.toNat) :
  aF prog E 248 #[.slice A n c] [] (WG (pieces x.toNat t)):=by
 have hn:=P.len;have N:=P.cap;simp only[gL] at hn;have hg:Oct.get [x]=x.toNat:=by simp[Oct.get]
 refine x_ func248 ntmps248 ?_;refine cU (λM h1=>AJ M A n c (x::t) h1 o_) ?_;rintro e p ⟨g,s,v,rfl,h5,h6,rfl⟩;refine c_ ?_;refine cU (λM=>zB M g false s n v (x::t) 1) ?_;rw[show nx false (x::t) (wid 1)=(some [x],false,t) from DG (k:=1) s_];rintro e p ⟨u,K,w,rfl,f,rfl⟩;refine gk bU ?_;simp only[tk,hg];generalize x.toNat=k at *;refine c_ ?_;refine A_ (λM=>L8 M g true false u K w) ?_;refine cl sD sK aH (λM D=>HT M g false u K w t (f _ bK)) ?_;rw[b! lA];refine e_ ?_;unfold nQ;refine C.loop (X:=List aI×(n!×Nat)×n!×Nat×Nat) (λq=>[(4,.pointer (some ⟨g,0,none⟩)),(7,.slice q.2.1.1 q.1.length q.2.1.2),(33,.int .u64 k),(34,.int .u64 q.1.length)])
  (λq=>[gA g true false q.2.2.1 q.2.2.2.1 q.2.2.2.2,own bH s n v (x::t),own bO q.2.1.1 q.1.length q.2.1.2 q.1]) (λq=>q.1.length<=k/\pieces k t=(pieces (k - q.1.length) (t.drop (22*q.1.length))).map (q.1++·)/\mW s n v (x::t) q.2.2.1 q.2.2.2.1 q.2.2.2.2 (t.drop (22*q.1.length)))
  (λq=>k - q.1.length) ([],(none,0),u,K,w) aK (by simp only[tH];exact(aB.nil bO).trans aC) ⟨bY _,s_,f⟩ ?_
 rintro⟨a,⟨O,co⟩,Q,n2,W⟩ G ⟨hk,b,h⟩;dsimp only at hk b h⊢;by_cases b0:a.length<k
 ·have l:((t.drop (22*a.length)).take 22).length=22:=by simp;omega
  have H:nx false (t.drop (22*a.length)) 22=(some ((t.drop (22*a.length)).take 22),false,(t.drop (22*a.length)).drop 22):=DG (k:=22) (by simp;omega);have j:(t.drop (22*a.length)).drop 22=t.drop (22*(a.length+1)):=by rw[pU];congr 1
  have m:(t.drop (22*a.length)).length<=140737488355328:=by simp;omega
  have J:k - a.length=(k - (a.length+1))+1:=o_;rw[J,pieces,j] at b;refine c_ ?_;refine cl sD sK aH (λM D=>Cm M g false Q n2 W (t.drop (22*a.length)) 22 (h _ bK) m) ?_;rw[H,j];rintro e p ⟨R,n3,Z,B,d,rfl,i,o,a9,rfl⟩;dsimp only[Option.getD,Option.isSome] at o⊢;rw[l] at o⊢;refine gk bU ?_;cases r:rW ((t.drop (22*a.length)).take 22) with
  |none =>
   rw[r] at b;refine c_ ?_;refine cl sD sK aH (λM D=>JH M B 22 d _ none r bK sD) ?_;rintro e p ⟨rfl,rfl⟩;refine gk bU ?_;dsimp only[Option.getD,Option.isSome];rw[b! lA];refine c_ ?_;intros;rw[b];exact mZ
  |some y =>
   rw[r] at b;refine c_ ?_;refine cl sD sK aH (λM D=>JH M B 22 d _ (some y) r bK sD) ?_;rintro e p ⟨rfl,rfl⟩;refine gk bU ?_;dsimp only[Option.getD,Option.isSome];rw[c! rfl];refine c_ ?_;intros;rename_i U z _ _;refine⟨(a++[y],(U,z),R,n3,Z),?_,?_,⟨by simp;omega,?_,?_⟩,by simp;omega⟩
   ·dsimp only;rw[show(a++[y]).length=a.length+1 by simp];exact aK
   ·dsimp only;rw[show(a++[y]).length=a.length+1 by simp];exact aC
   ·dsimp only;rw[show(a++[y]).length=a.length+1 by simp,b];cases pieces (k - (a.length+1)) (t.drop (22*(a.length+1)))<;>simp
   ·dsimp only;rw[show(a++[y]).length=a.length+1 by simp];exact h.trans i
 ·have F:a.length=k:=o_;rw[F,BZ] at b;have b:pieces k t=some a:=by rw[b];simp[pieces]
  rw[b];refine c_ ?_;exact oN ⟨_,_,rfl,rfl⟩
end
end
section
open Go.RowKit Reg
open Mem hiding Rd
instance aSp:iB 147 [.pointer none,.pointer none,a! 0] [(0,1),(1,1),(2,1)]:=⟨⟨q_,q_⟩⟩
structure Sv where
 v:Lg
 ps:List bC
 r:Int
abbrev gC(g a b:Nat)(s:Sv)(os:List Ov):List aG:=[aE g 147 [pt a,pt b,a! s.r],eF a s.r s.ps,eW b s.v os]
def cT(g:Nat)(s:Sv)(os:List Ov):aG:=pack λ(x:Nat×Nat)=>gC g x.1 x.2 s os
theorem cT.mk{a b:Nat}{s:Sv}{os:List Ov}:aB E (gC g a b s os++R) (cT g s os::R) :=
 aB.pack (l:=λ(x:Nat×Nat)=>gC g x.1 x.2 s os) (a,b) (.cons .aR (.cons .aR (.cons .aR .nil)))
def vX{f:FuncId}{args:Array p!}{s:Sv}{os:List Ov}{Q:Ending->List aG->Prop}(h:∀a b,aF prog E f args (gC g a b s os) Q):aF prog E f args [cT g s os] Q :=
 aF.unpack (l:=λ(x:Nat×Nat)=>gC g x.1 x.2 s os) Has.aR λx=>by rw[aY];exact h x.1 x.2
def TI(E:Env)(b:Bool):G E 258 [.bool b] [] (bL (a! (if b then 0 else 14)) []):=by
 refine t_ func258 ntmps258 ?_;cases b;all_goals
  refine a_ ?_
  exact aS
section
variable (E:Env) (g a b:Nat) (s:Sv) (os:List Ov)
def BJ(hb:gX E g [pt a,pt b,a! s.r]):G E 72 [pt g] [] (bL (.bool true) []):=by
 refine p_ func72 ntmps72 ?_
 exact aS
def Kv(hb:gX E g [pt a,pt b,a! s.r]):G E 99 [pt g] [] (bL (pt a) []):=by
 have c:=λM hb=>BJ M g a b s hb;refine p_ func99 ntmps99 ?_
 refine z_ c ?_
 exact aS
def aMs(r:Int):G E 224 [a! r] [] λe d=>∃g,e=.returned (pt g)/\d=[cT g ⟨sI,[],fC r 0 3⟩ []]:=by
 refine p_ func224 ntmps224 ?_
 refine u_ (λM=>aIe M (fC r 0 3)) ?_;intro f
 refine u_ aQk ?_;intro h;intros
 rename_i c;refine aX (H':=[cT c ⟨sI,[],fC r 0 3⟩ []]) rfl aJ ?_ ⟨c,rfl,rfl⟩;exact aB.trans (aB.cC (l:=gC c f h ⟨sI,[],fC r 0 3⟩ []) aH) (by have:=cT.mk (E:=E) (R:=[]) (g:=c) (a:=f) (b:=h) (s:=⟨sI,[],fC r 0 3⟩) (os:=[]);rwa [aY] at this)
def VD:G E 89 [pt g] [cT g s os] (bL (a! s.r) [cT g s os]):=by
 refine vX λa b=>?_;have c:=λM hb=>BJ M g a b s hb;dsimp only[gC];refine p_ func89 ntmps89 ?_
 refine z_ c ?_
 refine aX (H':=[cT g s os]) rfl aJ ?_ ⟨rfl,rfl⟩;have:=cT.mk (E:=E) (R:=[]) (g:=g) (a:=a) (b:=b) (s:=s) (os:=os);exact aB.trans (aB.cC (l:=gC g a b s os) aH) (by rwa [aY] at this)
def VB:G E 14 [pt g] [cT g s os] λe d=>∃c,e=.returned (pt c)/\d=[eW c s.v os,cT g s os]:=by
 refine vX λa b=>?_;have f:=λM hb=>BJ M g a b s hb;dsimp only[gC];refine p_ func14 ntmps14 ?_
 refine z_ f ?_
 refine u_ (λM=>SY M b s.v os) ?_;intro c
 refine aX (H':=[eW c s.v os,cT g s os]) rfl aJ ?_ ⟨c,rfl,rfl⟩;have:=cT.mk (E:=E) (R:=[eW c s.v os]) (g:=g) (a:=a) (b:=b) (s:=s) (os:=os);exact aB.trans (aB.cC (l:=gC g a b s os++[eW c s.v os]) aH) (aB.trans this aC)
end
def Si{H:List aG}{v:Lg}{os:List Ov}{w:World}(d:St E H w)(b:Has (eW g v os) H R):∃h:Lh,h.os=os/\Lf h v:=by
 have⟨h,_,c,a,_⟩:=eW.out (R:=[]) (d.weaken (.cons b .nil));exact⟨h,c,a⟩
section
variable (E:Env) (g:Nat) (s:Sv) (os:List Ov)
theorem U6(hro:nN E os)(hps:s.ps.length<=48):G E 261 [pt g] [cT g s os] (bL (.tuple #[]) [cT g ⟨s.v,wK s.v s.r 49 0 s.ps,s.r⟩ os]):=by
 refine vX λa b=>?_;dsimp only[gC];refine aF.fact (p:=∃h:Lh,h.os=os/\Lf h s.v) (λw hw=>Si hw aV) λhex=>?_;obtain⟨h0,_,hf⟩:=hex;have hln:=hf.len;refine t_ func261 ntmps261 ?_;refine a_ ?_
 refine C.loop (X:=Nat×List bC) (λx=>[(0,pt g),(2,.int .i64 x.1)]) (λx=>[aE g 147 [pt a,pt b,.int .i64 s.r],eF a s.r x.2,eW b s.v os])
  (λx=>1<=x.1/\wK s.v s.r (50 - x.1) (x.1 - 1) x.2=wK s.v s.r 49 0 s.ps/\(∀q:Nat,q<x.1 - 1->∃c∈s.v.l++s.v.t,c.id=⟨s.r,((q+1:Nat):Int)⟩)/\x.2.length<=48) (λx=>50 - x.1) (1,s.ps) aK aC ⟨bM _,rfl,(λq h=>absurd h (It _)),hps⟩ ?_
 rintro⟨n,ps⟩ Gf ⟨h0,h1,h2,h3⟩;dsimp only at h0 h1 h2 h3⊢;obtain⟨q,rfl⟩:∃q,n=q+1:=⟨n - 1,by omega⟩
 have hq:q<=48:=by have:=Np h2;rw[bR] at this;omega
 rw[show q+1 - 1=q from rfl] at h1 h2;have out:=λM hro=>Sm M b s.v os hro ⟨s.r,((q+1:Nat):Int)⟩;have hfit:=SV hf.B4 hf.tok ⟨s.r,((q+1:Nat):Int)⟩;have hknow:=SW (v:=s.v) (a:=⟨s.r,((q+1:Nat):Int)⟩);have hstep:wK s.v s.r (50 - (q+1)) q ps=match oR s.v s.r q with
  |none=>ps
  |some w=>wK s.v s.r (48 - q) (q+1) (By ps ((q+1:Nat):Int) w):=by
  rw[show 50 - (q+1)=(48 - q)+1 by omega];rfl
 unfold oR at hstep;generalize iZ s.v ⟨s.r,((q+1:Nat):Int)⟩=res at out hfit hknow hstep;obtain⟨od,nT,known⟩:=res;dsimp only[aL.cs] at out hfit hknow hstep;refine a_ ?_
 refine C.cW (X:=Nat×Ov) (λx=>[(0,pt g),(2,.int .i64 ((q+1:Nat):Int)),(3,pt x.1),(4,.bool nT),(5,.bool known)])
  (λx=>[aE x.1 141 x.2.cs,dZ x.2,aE g 147 [pt a,pt b,.int .i64 s.r],eF a s.r ps,eW b s.v os]) (λx=>x.2.d=od) ?_ ?_
 ·refine rA (l_ [0,1,2,3,4,5,6,7,8,9] (.two 10 (l_ [11,12,13,14] (g_ 15 (g_ 16 (l_ [17,18] .nil)))) 15 (g_ 10 (l_ [11,12,13,14] (g_ 16 (l_ [17,18] .nil)))))) ?_;refine a_ ?_
  refine Dr.two ?_ ?_
  ·refine lC rfl sD bB sK aH (λM hE=>out M (hro.sub hE)) ?_;rintro e H' ⟨o,ho,rfl,rfl⟩;dsimp only[Ov.cs,dZ];refine a_ ?_;intros
   exact⟨(_,o),aK,aC,ho⟩
  ·refine a_ ?_;intros
   refine cg rfl sD bB sK aH (λM hE=>out M (hro.sub hE)) ?_;rintro e H' ⟨o,ho,rfl,rfl⟩;dsimp only[Ov.cs,dZ];refine a_ ?_
   exact⟨(_,o),aK,aC,ho⟩
 ·rintro⟨g3,o⟩ Gf2 ho;dsimp only[Ov.cs,dZ] at ho⊢;have hof:o.d.fit:=by rw[ho];exact hfit
  cases known with
  |false =>
   rw[if_neg sD] at hstep;dsimp only at hstep;refine a_ ?_
   refine Hy (H':=[cT g ⟨s.v,wK s.v s.r 49 0 s.ps,s.r⟩ os]) rfl ?_ ⟨rfl,rfl⟩;rw[<-h1,hstep];have:=cT.mk (E:=E) (R:=[]) (g:=g) (a:=a) (b:=b) (s:=⟨s.v,ps,s.r⟩) (os:=os);exact aB.trans (aB.cC (l:=gC g a b ⟨s.v,ps,s.r⟩ os) aH) (by rwa [aY] at this)
  |true =>
   rw[if_pos rfl] at hstep;dsimp only at hstep;obtain⟨c0,hc0,hc1⟩:=hknow rfl;have hwf:=O4 hof nT;have wn:=λM hr=>Vk M o nT hr (by have:=hr.len;have:=hof.len;unfold Ov.d at this;dsimp only at this;omega);have pu:=λM Y m d hr=>aPy M a s.r ps o_ ((q+1:Nat):Int) Y m d (qM o.d nT) hr (by have:=hr.len;have:=hwf.2;omega) hwf.1;have hwr:IntKind.i64.wrap (((q+1:Nat):Int)+1)=((q+1+1:Nat):Int):=by rw[dY _ o_];omega
   dsimp only[Ov.cs] at wn;refine a_ ?_
   refine rB (l_ [0,1,2,3,4,5,6] (g_ 7 (g_ 8 .nil))) ([aE g 147 _,aE g3 141 _]) ?_;refine a_ ?_
   refine AV wn ?_;rintro e H' ⟨Y,m,d,rfl,rfl⟩;refine a_ ?_
   refine AV (λM=>pu M Y m d) ?_;rintro e H' ⟨⟨bb,rfl⟩,rfl⟩;refine a_ ?_
   refine⟨(q+1+1,By ps ((q+1:Nat):Int) (qM o.d nT)),aK,aC,⟨by dsimp only;omega,?_,?_,?_⟩,by dsimp only;omega⟩
   ·dsimp only;rw[<-h1,hstep,ho,show 50 - (q+1+1)=48 - q by omega];rfl
   ·intro p hp;dsimp only at hp;by_cases hpq:p<q
    ·exact h2 p hpq
    ·obtain rfl:p=q:=o_;exact⟨c0,hc0,hc1⟩
   ·dsimp only;refine aHi h3 ?_;have:=Np (l:=s.v.l++s.v.t) (r:=s.r) (n:=q+1) λp hp=>by
     by_cases hpq:p<q
     ·exact h2 p hpq
     ·obtain rfl:p=q:=o_;exact⟨c0,hc0,hc1⟩
    rw[bR] at this;omega
end
def Sv.again(s:Sv):Sv:=⟨s.v,wK s.v s.r 49 0 s.ps,s.r⟩
def Sv.dB(s:Sv)(c:aI):Sv×Int :=
 if c.may then(if (nD s.v c).2=0 then Sv.again ⟨(nD s.v c).1,s.ps,s.r⟩ else⟨(nD s.v c).1,s.ps,s.r⟩,(nD s.v c).2) else(s,4)
section
variable (E:Env) (g:Nat) (s:Sv) (os:List Ov)
theorem aRc(f:nN E os)(j:s.ps.length<=48)(c:aI)(r:c.ok):G E 191 [pt g,.agg (R1 c).cs.toArray] [cT g s os] (bL (.int .i64 (s.dB c).2) [cT g (s.dB c).1 os]):=by
 refine vX λa b=>?_;have k:=λM hb=>BJ M g a b s hb;have dH:=λM=>DK (R1 c) c.may (show 1<=(1:Int)/\(1:Int)<=4 from by decide) (λE=>L9 E c) M;have add:=λM=>G? M b s.v os c r;have p:=λM f d=>U6 M g ⟨d,s.ps,s.r⟩ os f j;unfold Sv.dB;dsimp only[gC,fQ.cs,R1,aI.cs] at dH add⊢;rcases tF c.may with i|i
 ·rw[i] at dH⊢;generalize nD s.v c=m at add⊢;obtain⟨d,e⟩:=m;dsimp only at add⊢;rw[if_pos rfl];by_cases o:e=0
  ·subst o;rw[if_pos rfl];refine t_ func191 ntmps191 ?_;refine a_ ?_;intros
   refine cV k ?_;refine a_ ?_
   refine aP dH ?_;refine a_ ?_
   rename_i h;refine rB (l_ [0,1,2,3,4,5] (g_ 6 (n_ 7 .nil))) ([aE g 147 _,aE h 202 _]) ?_;refine a_ ?_
   refine cP add ?_;refine a_ ?_
   have mk:=cT.mk (E:=E) (R:=[]) (g:=g) (a:=a) (b:=b) (s:=⟨d,s.ps,s.r⟩) (os:=os);rw[aY] at mk;refine L.conv (aB.trans (aB.cC (l:=gC g a b ⟨d,s.ps,s.r⟩ os) aH) mk) ?_;refine cl sD sK aH (λM q=>p M (f.sub q) d) ?_;rintro e n ⟨rfl,rfl⟩;refine a_ ?_
   exact aS
  ·rw[if_neg o];refine t_ func191 ntmps191 ?_;refine a_ ?_;intros
   refine cV k ?_;refine a_ ?_
   refine aP dH ?_;refine a_ ?_
   rename_i h;refine rB (l_ [0,1,2,3,4,5] (g_ 6 (n_ 7 .nil))) ([aE g 147 _,aE h 202 _]) ?_;refine a_ ?_
   refine cP add ?_;refine a_ ?_
   have mk:=cT.mk (E:=E) (R:=[]) (g:=g) (a:=a) (b:=b) (s:=⟨d,s.ps,s.r⟩) (os:=os);rw[aY] at mk;exact aX (H':=[cT g ⟨d,s.ps,s.r⟩ os]) rfl aJ (aB.trans (aB.cC (l:=gC g a b ⟨d,s.ps,s.r⟩ os) aH) mk) ⟨rfl,rfl⟩
 ·rw[i] at dH⊢;rw[if_neg sD];refine t_ func191 ntmps191 ?_;refine a_ ?_;intros
  refine cV k ?_;refine a_ ?_
  refine aP dH ?_;refine a_ ?_
  refine aX (H':=[cT g s os]) rfl aJ ?_ ⟨rfl,rfl⟩;have:=cT.mk (E:=E) (R:=[]) (g:=g) (a:=a) (b:=b) (s:=s) (os:=os);exact aB.trans (aB.cC (l:=gC g a b s os) aH) (by rwa [aY] at this)
end
def nN.aT{M:Env}{a:List aG}{os:List Ov}(b:Sub E R M)(h:Has (Sep.aT dZ os) R a):nN M os:=λo d=>by
 have⟨i,c,e⟩:=oV d;exact Sub.aT b h (cH.2 ⟨c,e⟩) rfl
theorem nN.append{a b:List Ov}(c:nN E a)(d:nN E b):nN E (a++b):=λo e=>(eL.1 e).elim (c o) (d o)
def Sv.nS(s:Sv)(c:aL):Sv×Int :=
 if c.may then(if (pM s.v c).2=0 then Sv.again ⟨(pM s.v c).1,s.ps,s.r⟩ else⟨(pM s.v c).1,s.ps,s.r⟩,(pM s.v c).2) else(s,4)
def Sv.oF(s:Sv)(k:bV)(now:Int):Sv×Int :=
 if k.may&&yN now then(⟨s.v,(AD s.r s.ps k now).1,s.r⟩,if (AD s.r s.ps k now).2 then 0 else 14) else(s,4)
def Sv.oW(s:Sv)(k:bV):Sv×Int :=
 if k.may then(⟨s.v,(Aq s.r s.ps k).1,s.r⟩,if (Aq s.r s.ps k).2 then 0 else 14) else(s,4)
section
variable (E:Env) (g:Nat) (s:Sv) (os:List Ov)
theorem aJf(f:nN E os)(k:s.ps.length<=48)(c:aL):G E 191 [pt g,.agg (R2 c).cs.toArray] [cT g s os] λe h=>∃new,e=.returned (.int .i64 (s.nS c).2)/\h=[cT g (s.nS c).1 (os++new),aT dZ new]:=by
 refine vX λa b=>?_;have m:=λM hb=>BJ M g a b s hb;have dH:=λM=>DK (R2 c) c.may (show 1<=(2:Int)/\(2:Int)<=4 from by decide) (λE=>P3 E c) M;have cD:=λM=>Z? M b s.v os c;have q:=λM d new f=>U6 M g ⟨d,s.ps,s.r⟩ (os++new) f k;unfold Sv.nS;dsimp only[gC,fQ.cs,R2,aL.cs] at dH cD⊢;rcases tF c.may with j|j
 ·rw[j] at dH⊢;generalize pM s.v c=n at cD⊢;obtain⟨d,e⟩:=n;dsimp only at cD⊢;rw[if_pos rfl];by_cases p:e=0
  ·subst p;rw[if_pos rfl];refine t_ func191 ntmps191 ?_;refine a_ ?_;intros
   refine cV m ?_;refine a_ ?_
   refine aP dH ?_;refine a_ ?_
   rename_i i;refine rB (l_ [0,1,2,3,4,5] (g_ 6 (n_ 7 .nil))) ([aE g 147 _,aE i 202 _]) ?_;refine a_ ?_
   refine eI cD ?_;rintro e h ⟨new,rfl,rfl⟩;refine a_ ?_
   have mk:=cT.mk (E:=E) (R:=[aT dZ new]) (g:=g) (a:=a) (b:=b) (s:=⟨d,s.ps,s.r⟩) (os:=os++new);refine L.conv (aB.trans (aB.cC (l:=gC g a b ⟨d,s.ps,s.r⟩ (os++new)++[aT dZ new]) aH) mk) ?_;refine cl sD sK aH (λM o=>q M d new (nN.append (f.sub o) (nN.aT o aV))) ?_;rintro e h ⟨rfl,rfl⟩;refine a_ ?_
   exact dS ⟨new,rfl,rfl⟩
  ·rw[if_neg p];refine t_ func191 ntmps191 ?_;refine a_ ?_;intros
   refine cV m ?_;refine a_ ?_
   refine aP dH ?_;refine a_ ?_
   rename_i i;refine rB (l_ [0,1,2,3,4,5] (g_ 6 (n_ 7 .nil))) ([aE g 147 _,aE i 202 _]) ?_;refine a_ ?_
   refine eI cD ?_;rintro e h ⟨new,rfl,rfl⟩;refine a_ ?_
   have mk:=cT.mk (E:=E) (R:=[aT dZ new]) (g:=g) (a:=a) (b:=b) (s:=⟨d,s.ps,s.r⟩) (os:=os++new);exact aX (H':=[cT g ⟨d,s.ps,s.r⟩ (os++new),aT dZ new]) rfl aJ (aB.trans (aB.cC (l:=gC g a b ⟨d,s.ps,s.r⟩ (os++new)++[aT dZ new]) aH) mk) ⟨new,rfl,rfl⟩
 ·rw[j] at dH⊢;rw[if_neg sD];refine t_ func191 ntmps191 ?_;refine a_ ?_;intros
  refine cV m ?_;refine a_ ?_
  refine aP dH ?_;refine a_ ?_
  have mk:=cT.mk (E:=E) (R:=[aT dZ []]) (g:=g) (a:=a) (b:=b) (s:=s) (os:=os);refine aX (H':=[cT g s os,aT dZ []]) rfl aJ (aB.trans (aB.pK dZ) (aB.trans (aB.cC (l:=gC g a b s os++[aT dZ []]) aH) mk)) ⟨[],rfl,by rw[aY]⟩
theorem aHy(m:s.ps.length<=48)(k:bV)(now:Int)(c:bQ now):G E 191 [pt g,.agg (R3 k now).cs.toArray] [cT g s os] (bL (.int .i64 (s.oF k now).2) [cT g (s.oF k now).1 os]):=by
 refine vX λa b=>?_;have i:=λM hb=>BJ M g a b s hb;have dH:=λM=>DK (R3 k now) (k.may&&yN now) (show 1<=(3:Int)/\(3:Int)<=4 from by decide) (λE=>MA E k now) M;have dK:=λM=>aGz M a s.r s.ps o_ k now c;unfold Sv.oF;dsimp only[gC,fQ.cs,R3,bV.cs] at dH dK⊢;rcases tF (k.may&&yN now) with d|d
 ·rw[d] at dH⊢;generalize AD s.r s.ps k now=h at dK⊢;obtain⟨f,e⟩:=h;dsimp only at dK⊢;rw[if_pos rfl];refine t_ func191 ntmps191 ?_;refine a_ ?_;intros
  refine cV i ?_;refine a_ ?_
  refine aP dH ?_;refine a_ ?_
  rename_i j;refine rB (l_ [0,1,2,3,4,5,6,7] (g_ 8 (g_ 9 (n_ 10 .nil)))) ([aE g 147 _,aE j 202 _]) ?_;refine a_ ?_
  refine cP dK ?_;refine a_ ?_
  refine cP (λM=>TI M e) ?_;refine a_ ?_
  have mk:=cT.mk (E:=E) (R:=[]) (g:=g) (a:=a) (b:=b) (s:=⟨s.v,f,s.r⟩) (os:=os);rw[aY] at mk;exact aX (H':=[cT g ⟨s.v,f,s.r⟩ os]) rfl aJ (aB.trans (aB.cC (l:=gC g a b ⟨s.v,f,s.r⟩ os) aH) mk) ⟨rfl,rfl⟩
 ·rw[d] at dH⊢;rw[if_neg sD];refine t_ func191 ntmps191 ?_;refine a_ ?_;intros
  refine cV i ?_;refine a_ ?_
  refine aP dH ?_;refine a_ ?_
  have mk:=cT.mk (E:=E) (R:=[]) (g:=g) (a:=a) (b:=b) (s:=s) (os:=os);exact aX (H':=[cT g s os]) rfl aJ (aB.trans (aB.cC (l:=gC g a b s os) aH) (by rwa [aY] at mk)) ⟨rfl,rfl⟩
theorem aEj(m:s.ps.length<=48)(k:bV):G E 191 [pt g,.agg (R4 k).cs.toArray] [cT g s os] (bL (.int .i64 (s.oW k).2) [cT g (s.oW k).1 os]):=by
 refine vX λa b=>?_;have i:=λM hb=>BJ M g a b s hb;have dH:=λM=>DK (R4 k) k.may (show 1<=(4:Int)/\(4:Int)<=4 from by decide) (λE=>MC E k) M;have c:=λM=>E? M a s.r s.ps o_ k;unfold Sv.oW;dsimp only[gC,fQ.cs,R4,bV.cs] at dH c⊢;rcases tF k.may with d|d
 ·rw[d] at dH⊢;generalize Aq s.r s.ps k=h at c⊢;obtain⟨f,e⟩:=h;dsimp only at c⊢;rw[if_pos rfl];refine t_ func191 ntmps191 ?_;refine a_ ?_;intros
  refine cV i ?_;refine a_ ?_
  refine aP dH ?_;refine a_ ?_
  rename_i j;refine rB (l_ [0,1,2,3,4,5] (g_ 6 (g_ 7 (n_ 8 .nil)))) ([aE g 147 _,aE j 202 _]) ?_;refine a_ ?_
  refine cP c ?_;refine a_ ?_
  refine cP (λM=>TI M e) ?_;refine a_ ?_
  have mk:=cT.mk (E:=E) (R:=[]) (g:=g) (a:=a) (b:=b) (s:=⟨s.v,f,s.r⟩) (os:=os);rw[aY] at mk;exact aX (H':=[cT g ⟨s.v,f,s.r⟩ os]) rfl aJ (aB.trans (aB.cC (l:=gC g a b ⟨s.v,f,s.r⟩ os) aH) mk) ⟨rfl,rfl⟩
 ·rw[d] at dH⊢;rw[if_neg sD];refine t_ func191 ntmps191 ?_;refine a_ ?_;intros
  refine cV i ?_;refine a_ ?_
  refine aP dH ?_;refine a_ ?_
  have mk:=cT.mk (E:=E) (R:=[]) (g:=g) (a:=a) (b:=b) (s:=s) (os:=os);exact aX (H':=[cT g s os]) rfl aJ (aB.trans (aB.cC (l:=gC g a b s os) aH) (by rwa [aY] at mk)) ⟨rfl,rfl⟩
end
end
section
def C5{h:Nat}(a:h<=1):32<=dQ N h/\dQ N h+32*N<=32*(2*N+1):=by
 unfold dQ;have:h*N<=1*N:=oC _ a;omega
def Fa{x:o!}{h a:Nat}(c:D.length=32*(2*N+1))(b:h<=1)(g:a+x.length<=32*N):cN (sp D (dQ N h+a) x) N h=sp (cN D N h) a x:=by
 have i:=C5 (N:=N) b;have j:=An c b;have d:dQ N h+a+x.length<=D.length:=o_;have f:a+x.length<=(cN D N h).length:=o_;have e:=An (D:=sp D (dQ N h+a) x) (by rw[uZ d];exact c) b;apply uH
 grind [Mx,BH,List.getElem?_eq_none,uZ]
theorem FZ{x:o!}{h o:Nat}(c:D.length=32*(2*N+1))(b:h<=1)(e:o+x.length<=D.length)(a:o+x.length<=dQ N h\/dQ N h+32*N<=o):cN (sp D o x) N h=cN D N h:=by
 have f:=C5 (N:=N) b;have g:=An c b;have d:=An (D:=sp D o x) (by rw[uZ e];exact c) b;apply uH
 grind [Mx,BH,dQ,List.getElem?_eq_none]
def OU{c x:o!}{z:Nat}(_h:x.length<=z):sp (c++List.replicate z 0) c.length x=c++x++List.replicate (z - x.length) 0:=by
 grind [sp,List.take_left',List.drop_append,List.drop_of_length_le,(List.drop_replicate)]
structure Inv(s:LS):Prop where
 len:s.D.length=32*(2*s.N+1)
 n0:1<=s.N
 n1:s.N<=64
 xC:Gk s.bT
 dP:s.dP<=s.bT.length
 pos:s.pos=(cat (s.bT.take s.dP)).length
 cY:s.cY=cat (s.bT.drop s.dP)
 half:cN s.D s.N (hb s.D)=cat (s.bT.take s.dP)++List.replicate (32*s.N - s.pos) 0
 fit:s.pos+s.cY.length<=32*s.N
def JE{s:LS}(_:Inv s):cat s.bT=cat (s.bT.take s.dP)++cat (s.bT.drop s.dP):=by rw[<-MK,mE]
theorem p5(k:Nat):hb (List.replicate k 0)=0:=by
 unfold hb;cases k<;>rfl
def Inv.new{k:Nat}(a:1<=k)(b:k<=64):Inv (LS.new k):=by
 unfold LS.new;refine⟨rR,a,b,λ_ h=>(cZ h).elim,bM _,rfl,rfl,?_,bY _⟩;show cN (List.replicate (32*(2*k+1)) 0) k _=[]++List.replicate (32*k - 0) 0
 grind [p5,cN,dQ]
def I8{s:LS}{b:o!}:(s.append b).2=s\/((s.append b).1=0/\1<=b.length/\b.length<=4096/\s.pos+s.cY.length+(b.length+7)<=32*s.N+(s.pos+s.cY.length - 32*s.N)/\(s.append b).2=⟨s.N,s.D,s.bT++[b],s.dP,s.pos,s.cY++Frm.fr b,s.dead,s.aO⟩):=by
 grind [LS.append]
theorem Inv.append{s:LS}(h:Inv s)(b:o!):Inv (s.append b).2:=by
 rcases I8 (s:=s) (b:=b) with e|⟨_,e,g,i,f⟩
 ·grind
 ·rw[f];have j:=h.fit;have c:=h.dP;have d:(s.bT++[b]).take s.dP=s.bT.take s.dP:=E6 c;refine⟨h.len,h.n0,h.n1,λx a=>?_,by dsimp only;rw[bR];omega,by dsimp only;rw[d];exact h.pos,?_,by dsimp only;rw[d];exact h.half,by dsimp only;rw[bR,Frm.jO];omega⟩
  ·rcases eL.1 a with a|a
   ·exact h.xC x a
   ·grind
  ·dsimp only;rw[PJ c,MK,Gu,h.cY]
def aKy(a len:Nat):jR (-1) a len=false:=by grind [jR]
def I?(a len:Nat):fO (-1) a len = -1:=by grind [fO]
def Kz{s:LS}(b:s.dead=false)(a:jR s.aO s.pos s.cY.length=false):s.sync=(0,⟨s.N,sp s.D (dQ s.N (hb s.D)+s.pos) s.cY,s.bT,s.bT.length,s.pos+s.cY.length,[],false,fO s.aO s.pos s.cY.length⟩):=by
 grind [LS.sync]
theorem Of{s:LS}(b:s.dead=false)(a:jR s.aO s.pos s.cY.length=true):s.sync=(19,⟨s.N,sp s.D (dQ s.N (hb s.D)+s.pos) (s.cY.take (lq s.aO s.pos s.cY.length)),s.bT,s.dP,s.pos,s.cY,true,fO s.aO s.pos s.cY.length⟩):=by
 grind [LS.sync]
def laid{s:LS}(h:Inv s)(q:Nat)(g:q<=s.cY.length):hb (sp s.D (dQ s.N (hb s.D)+s.pos) (s.cY.take q))=hb s.D/\(sp s.D (dQ s.N (hb s.D)+s.pos) (s.cY.take q)).length=32*(2*s.N+1) /\
  cN (sp s.D (dQ s.N (hb s.D)+s.pos) (s.cY.take q)) s.N (hb s.D)=(cat s.bT).take (s.pos+q)++List.replicate (32*s.N - (s.pos+q)) 0:=by
 have f:=C5 (N:=s.N) (Am s.D);have d:=h.fit;have a:=h.len;have c:(s.cY.take q).length=q:=by rw[dR];omega
 have b:dQ s.N (hb s.D)+s.pos+(s.cY.take q).length<=s.D.length:=o_;refine⟨C4 o_ b,by rw[uZ b];exact a,?_⟩;rw[Fa a (Am _) o_,h.half];have e:=h.pos
 conv=>lhs;rw[show sp (cat (s.bT.take s.dP)++List.replicate (32*s.N - s.pos) 0) s.pos (s.cY.take q)=sp (cat (s.bT.take s.dP)++List.replicate (32*s.N - s.pos) 0) (cat (s.bT.take s.dP)).length (s.cY.take q) by rw[<-e]]
 rw[OU o_,c,JE h,Gc,fX (l:=cat (s.bT.take s.dP)) (i:=s.pos+q) o_,h.cY,<-e,show s.pos+q - s.pos=q by omega,show 32*s.N - s.pos - q=32*s.N - (s.pos+q) by omega]
def QK(v:List (o!)){i j:Nat}(h:i<=j):(cat (v.take i)).length<=(cat (v.take j)).length:=by
 grind [Nat.min_eq_left,List.take_append_drop,MK]
def found{s:LS}(h:Inv s)(q:Nat)(m:q<=s.cY.length):∃k,s.dP<=k/\k<=s.bT.length/\(q=s.cY.length->k=s.bT.length)/\Frm.iH ((cat s.bT).take (s.pos+q)++List.replicate (32*s.N - (s.pos+q)) 0)=s.bT.take k:=by
 have i:(cat s.bT).length=s.pos+s.cY.length:=by rw[JE h,bR,<-h.pos,<-h.cY]
 have⟨k,d,e,f,a⟩:=Frm.Zr s.bT h.xC (s.pos+q) (32*s.N - (s.pos+q)) (by grind [cat]);change (cat (s.bT.take k)).length<=_ at f;change k<s.bT.length->_<(cat (s.bT.take (k+1))).length at a;refine⟨k,?_,d,λhqq=>?_,e⟩
 ·by_cases c:k<s.dP
  ·have l:=h.dP;have g:=a o_;have b:=QK s.bT (show k+1<=s.dP by omega);have j:=h.pos;omega
  ·omega
 ·by_cases c:k<s.bT.length
  ·have g:=a c;have b:=QK s.bT (show k+1<=s.bT.length by omega);rw[gY] at b;omega
  ·omega
theorem Inv.open{F:Int}(b:D.length=32*(2*N+1))(g:1<=N)(h:N<=64):Inv (LS.open N D F):=by
 have i:=An b (Am D);have q:=C5 (N:=N) (Am D);have⟨e,f,o⟩:=Rb (cN D N (hb D));have d:Frm.upto (cN D N (hb D))=(cat (Frm.iH (cN D N (hb D)))).length:=by grind
 have j:=VM (X:=cN D N (hb D)) (p:=Frm.upto (cN D N (hb D))) (k:=32*N) o_;have l:=VN (cN D N (hb D)) (Frm.upto (cN D N (hb D))) (32*N);have m:uV D N=nZ (cN D N (hb D)) (Frm.upto (cN D N (hb D))) (32*N) - Frm.upto (cN D N (hb D)):=rfl;have n:(List.replicate (uV D N) (0:UInt8)).length=uV D N:=rR;have a:dQ N (hb D)+Frm.upto (cN D N (hb D))+(List.replicate (uV D N) (0:UInt8)).length<=D.length:=o_;have c:hb (sp D (dQ N (hb D)+Frm.upto (cN D N (hb D))) (List.replicate (uV D N) 0))=hb D:=C4 o_ a;unfold LS.open;refine⟨by dsimp only;rw[uZ a];exact b,g,h,f,bM _,by dsimp only;rw[gY];exact d,by dsimp only;rw[uF];rfl,?_,by dsimp only[List.length_nil];omega⟩;dsimp only;rw[c,Fa b (Am D) o_,gY,<-e];apply uH
 grind [cN,hb,BH,List.getElem?_append_left,CO,List.getElem?_append_right,uV,aQc,List.getElem?_eq_none]
def aBy{c:o!}{z:Nat}:nZ (c++List.replicate z 0) c.length (c.length+z)=c.length:=by
 induction z with
 |zero =>
  cases d:c.length with
  |zero=>rfl
  |succ k=>unfold nZ;rw[b! (λh=>i! h.1 o_)]
 |succ z e =>
  have a:∀k,k<=c.length+z->nZ (c++List.replicate (z+1) 0) c.length k=nZ (c++List.replicate z 0) c.length k:=by
   intro k
   induction k with
   |zero=>intro _;rfl
   |succ k b =>
    grind [nZ]
  grind [nZ]
theorem TY{s:LS}(h:Inv s)(F:Int):uV s.D s.N=0/\Frm.upto (cN s.D s.N (hb s.D))=s.pos/\Frm.iH (cN s.D s.N (hb s.D))=s.bT.take s.dP/\LS.open s.N s.D F=⟨s.N,s.D,s.bT.take s.dP,s.dP,s.pos,[],false,fO F s.pos 0⟩:=by
 have e:Gk (s.bT.take s.dP):=λx i=>h.xC x (mD i);have a:=HH e (32*s.N - s.pos);have f:=h.fit;rw[<-h.half] at a;have b:Frm.upto (cN s.D s.N (hb s.D))=s.pos:=by rw[a.2,h.pos]
 have d:uV s.D s.N=0:=by
  unfold uV;rw[b];have g:=aBy (c:=cat (s.bT.take s.dP)) (z:=32*s.N - s.pos);rw[<-h.half,<-h.pos,show s.pos+(32*s.N - s.pos)=32*s.N by omega] at g
  grind
 refine⟨d,b,a.1,?_⟩;unfold LS.open;rw[d,b,a.1,List.replicate_zero,Kt,dR,nM h.dP]
end
section
open Go.RowKit Reg
open Mem hiding Rd
theorem aPt(F:Int)(a:Nat):jR F a 0=false:=by grind [jR,tO]
def Inv.synced{s:LS}(h:Inv s)(F:Int):Inv ⟨s.N,sp s.D (dQ s.N (hb s.D)+s.pos) s.cY,s.bT,s.bT.length,s.pos+s.cY.length,[],false,F⟩:=by
 have⟨b,c,d⟩:=laid h s.cY.length (bM _);rw[gY] at b c d;have a:(cat s.bT).length=s.pos+s.cY.length:=by rw[JE h,bR,<-h.pos,<-h.cY]
 refine⟨c,h.n0,h.n1,h.xC,bM _,by dsimp only;rw[gY];exact a.symm,by dsimp only;rw[uF];rfl,?_,by dsimp only[List.length_nil];exact h.fit⟩;dsimp only;rw[b,d,fX o_,gY]
theorem VH{s:LS}(c:s.dead=false):∃(z:Int) (q:Nat) (a f:Nat) (e:o!) (d:Bool) (F:Int),s.sync=(z,⟨s.N,sp s.D (dQ s.N (hb s.D)+s.pos) (s.cY.take q),s.bT,a,f,e,d,F⟩)/\q<=s.cY.length/\(z=0\/z=19)/\(z=0->q=s.cY.length/\a=s.bT.length)/\(z=19->a=s.dP/\s.cY≠[]):=by
 cases b:jR s.aO s.pos s.cY.length
 ·rw[Kz c b];exact⟨0,s.cY.length,_,_,_,_,_,by rw[gY],bM _,.inl rfl,λ_=>⟨rfl,rfl⟩,λh=>i! h sD⟩
 ·rw[Of c b];grind [lq,aGj,aPt]
def Va(x:UInt8):(x ^^^ 1).toNat % 2=1 - x.toNat % 2:=by
 have h:∀y:Fin 256,(UInt8.ofNat y.1 ^^^ 1).toNat % 2=1 - y.1 % 2:=by decide +kernel
 have a:=h ⟨x.toNat,x.toNat_lt⟩;rw[UInt8.ofNat_toNat] at a;exact a
def Ro{x:UInt8}:hb (sp D 0 [x])=x.toNat % 2:=by
 grind [hb,sp]
def VF{s:LS}(h:Inv s)(hd:s.dead=false)(b:o!):(s.swap b).2.N=s.N/\(s.swap b).2.D.length=s.D.length /\
  ((Frm.iH (cN (s.swap b).2.D s.N (hb (s.swap b).2.D))=s.bT.take s.dP/\(s.swap b).1≠0)\/(Frm.iH (cN (s.swap b).2.D s.N (hb (s.swap b).2.D))=[b]/\((s.swap b).1=0\/(s.swap b).1=19))):=by
 have D:=h.len;have e:∀r:o!,hb r=hb s.D->cN r s.N (hb s.D)=cN s.D s.N (hb s.D)->Frm.iH (cN r s.N (hb r))=s.bT.take s.dP:=by
  intro r X Z;rw[X,Z,h.half];exact(HH (λx w=>h.xC x (mD w)) _).1
 have a:Frm.iH (cN s.D s.N (hb s.D))=s.bT.take s.dP:=e s.D rfl rfl;unfold LS.swap;by_cases E:b.length=0
 ·rw[c! E];exact⟨rfl,rfl,.inl ⟨a,d_⟩⟩
 rw[b! E];by_cases F:4096<b.length
 ·rw[c! F];exact⟨rfl,rfl,.inl ⟨a,d_⟩⟩
 rw[b! F];by_cases H:32*s.N<b.length+7
 ·rw[c! H];exact⟨rfl,rfl,.inl ⟨a,d_⟩⟩
 rw[b! H,b! (by grind)];have o:=Am s.D;have j:1 - hb s.D<=1:=o_;have hf:=C5 (N:=s.N) j;have a8:=C5 (N:=s.N) o;have y:dQ s.N (1 - hb s.D)+32*s.N<=dQ s.N (hb s.D)\/dQ s.N (hb s.D)+32*s.N<=dQ s.N (1 - hb s.D):=by
  have:hb s.D=0\/hb s.D=1:=o_;grind [dQ]
 have z1:((List.replicate (32*s.N) (0:UInt8)).take (lq s.aO 0 (32*s.N))).length<=32*s.N:=by rw[dR,rR];omega
 have p:dQ s.N (1 - hb s.D)+0+((List.replicate (32*s.N) (0:UInt8)).take (lq s.aO 0 (32*s.N))).length<=s.D.length:=o_;have l:(sY s).length=s.D.length:=uZ p;have t:hb (sY s)=hb s.D:=C4 o_ p;have g:cN (sY s) s.N (hb s.D)=cN s.D s.N (hb s.D):=FZ D o p o_;by_cases k1:jR s.aO 0 (32*s.N)=true
 ·rw[c! k1];exact⟨rfl,l,.inl ⟨e _ t g,d_⟩⟩
 rw[b! k1];have l2:((Frm.fr b).take (lq (rK s) 0 (b.length+7))).length<=b.length+7:=by rw[dR,Frm.jO];omega
 have q:dQ s.N (1 - hb s.D)+0+((Frm.fr b).take (lq (rK s) 0 (b.length+7))).length<=(sY s).length:=o_;have k:(rJ s b).length=s.D.length:=by rw[<-l];exact uZ q
 have u:hb (rJ s b)=hb s.D:=by rw[<-t];exact C4 o_ q
 have i:cN (rJ s b) s.N (hb s.D)=cN s.D s.N (hb s.D):=by rw[<-g];exact FZ o_ o q o_
 by_cases k2:jR (rK s) 0 (b.length+7)=true
 ·rw[c! k2];exact⟨rfl,k,.inl ⟨e _ u i,d_⟩⟩
 rw[b! k2];by_cases kz:wk (vA s b)=0
 ·have B:oS (vA s b)=true:=by
   unfold wk at kz;grind [oS]
  have f:pG s b=rJ s b:=by unfold pG;rw[c! kz,Kt]
  rw[c! B,f];exact⟨rfl,k,.inl ⟨e _ u i,d_⟩⟩
 ·have f:pG s b=sp (rJ s b) 0 [tx s.D]:=by unfold pG;rw[b! kz]
  have v:0+[tx s.D].length<=(rJ s b).length:=by grind
  have A:hb (pG s b)=1 - hb s.D:=by
   rw[f,Ro];exact Va _
  have m:(pG s b).length=s.D.length:=by rw[f,<-k];exact uZ v
  have n:cN (pG s b) s.N (1 - hb s.D)=Frm.fr b++List.replicate (32*s.N - (b.length+7)) 0:=by
   rw[f,FZ o_ j v (.inl (by show 0+1<=_;omega))];have O:lq (rK s) 0 (b.length+7)=b.length+7:=Fj (by grind);have M:lq s.aO 0 (32*s.N)=32*s.N:=Fj (by grind);have Q:(Frm.fr b).take (lq (rK s) 0 (b.length+7))=Frm.fr b:=by rw[O];exact fX (by rw[Frm.jO];exact bM _)
   have P:(List.replicate (32*s.N) (0:UInt8)).take (lq s.aO 0 (32*s.N))=List.replicate (32*s.N) 0:=by rw[M];exact fX (by grind)
   have W:cN (rJ s b) s.N (1 - hb s.D)=sp (cN (sY s) s.N (1 - hb s.D)) 0 (Frm.fr b):=by
    unfold rJ;rw[Q];exact Fa o_ j (by grind)
   have U:cN (sY s) s.N (1 - hb s.D)=sp (cN s.D s.N (1 - hb s.D)) 0 (List.replicate (32*s.N) 0):=by
    unfold sY;rw[P];exact Fa D j (by grind)
   have R:sp (cN s.D s.N (1 - hb s.D)) 0 (List.replicate (32*s.N) 0)=List.replicate (32*s.N) 0:=by
    unfold sp;rw[qU,jD,Dg (by rw[An D j,rR];omega),aY]
   rw[W,U,R];have J:=OU (c:=[]) (x:=Frm.fr b) (z:=32*s.N) (by rw[Frm.jO];omega);rw[jD,jD,tH,Frm.jO] at J;exact J
  have d:Frm.iH (cN (pG s b) s.N (hb (pG s b)))=[b]:=by
   rw[A,n];have K:=(HH (ls:=[b]) (λx w=>by rw[eM] at w;subst w;exact⟨o_,o_⟩) (32*s.N - (b.length+7))).1;rw[Gu] at K;exact K
  by_cases k3:oS (vA s b)=true
  ·rw[c! k3];exact⟨rfl,m,.inr ⟨d,.inr rfl⟩⟩
  ·rw[b! k3];exact⟨rfl,m,.inr ⟨d,.inl rfl⟩⟩
theorem Inv.swap{s:LS}(h:Inv s)(hd:s.dead=false)(b:o!):(s.swap b).1=0->Inv (s.swap b).2:=by
 have o:=h.len;have l:∀g:o!,hb g=hb s.D->cN g s.N (hb s.D)=cN s.D s.N (hb s.D)->Frm.iH (cN g s.N (hb g))=s.bT.take s.dP:=by
  intro g Q R;rw[Q,R,h.half];exact(HH (λx e=>h.xC x (mD e)) _).1
 have t:Frm.iH (cN s.D s.N (hb s.D))=s.bT.take s.dP:=l s.D rfl rfl;unfold LS.swap;by_cases B:b.length=0
 ·grind
 rw[b! B];by_cases D:4096<b.length
 ·grind
 rw[b! D];by_cases E:32*s.N<b.length+7
 ·grind
 rw[b! E,b! (by grind)];have k:=Am s.D;have d:1 - hb s.D<=1:=o_;have hf:=C5 (N:=s.N) d;have Z:=C5 (N:=s.N) k;have r:dQ s.N (1 - hb s.D)+32*s.N<=dQ s.N (hb s.D)\/dQ s.N (hb s.D)+32*s.N<=dQ s.N (1 - hb s.D):=by
  have:hb s.D=0\/hb s.D=1:=o_;grind [dQ]
 have z1:((List.replicate (32*s.N) (0:UInt8)).take (lq s.aO 0 (32*s.N))).length<=32*s.N:=by grind
 have f:dQ s.N (1 - hb s.D)+0+((List.replicate (32*s.N) (0:UInt8)).take (lq s.aO 0 (32*s.N))).length<=s.D.length:=o_;have y:(sY s).length=s.D.length:=uZ f;have U:hb (sY s)=hb s.D:=C4 o_ f;have p:cN (sY s) s.N (hb s.D)=cN s.D s.N (hb s.D):=FZ o k f o_;by_cases k1:jR s.aO 0 (32*s.N)=true
 ·grind
 rw[b! k1];have l2:((Frm.fr b).take (lq (rK s) 0 (b.length+7))).length<=b.length+7:=by rw[dR,Frm.jO];omega
 have a8:dQ s.N (1 - hb s.D)+0+((Frm.fr b).take (lq (rK s) 0 (b.length+7))).length<=(sY s).length:=o_;have A:(rJ s b).length=s.D.length:=by grind [uZ]
 have W:hb (rJ s b)=hb s.D:=by grind [C4]
 have q:cN (rJ s b) s.N (hb s.D)=cN s.D s.N (hb s.D):=by grind [FZ]
 by_cases k2:jR (rK s) 0 (b.length+7)=true
 ·grind
 rw[b! k2];by_cases kz:wk (vA s b)=0
 ·have X:oS (vA s b)=true:=by
   unfold wk at kz;grind [oS]
  grind
 ·have i:pG s b=sp (rJ s b) 0 [tx s.D]:=by grind
  have u:0+[tx s.D].length<=(rJ s b).length:=by grind
  have j:hb (pG s b)=1 - hb s.D:=by
   rw[i,Ro];exact Va _
  have m:(pG s b).length=s.D.length:=by grind [uZ]
  have a:cN (pG s b) s.N (1 - hb s.D)=Frm.fr b++List.replicate (32*s.N - (b.length+7)) 0:=by
   rw[i,FZ o_ d u (.inl (by grind))];have H:lq (rK s) 0 (b.length+7)=b.length+7:=Fj (by grind);have F:lq s.aO 0 (32*s.N)=32*s.N:=Fj (by grind);have K:(Frm.fr b).take (lq (rK s) 0 (b.length+7))=Frm.fr b:=by rw[H];exact fX (by rw[Frm.jO];exact bM _)
   have J:(List.replicate (32*s.N) (0:UInt8)).take (lq s.aO 0 (32*s.N))=List.replicate (32*s.N) 0:=by rw[F];exact fX (by grind)
   have P:cN (rJ s b) s.N (1 - hb s.D)=sp (cN (sY s) s.N (1 - hb s.D)) 0 (Frm.fr b):=by
    unfold rJ;rw[K];exact Fa o_ d (by grind)
   have O:cN (sY s) s.N (1 - hb s.D)=sp (cN s.D s.N (1 - hb s.D)) 0 (List.replicate (32*s.N) 0):=by
    unfold sY;rw[J];exact Fa o d (by rw[rR];omega)
   have M:sp (cN s.D s.N (1 - hb s.D)) 0 (List.replicate (32*s.N) 0)=List.replicate (32*s.N) 0:=by
    unfold sp;rw[qU,jD,Dg (by rw[An o d,rR];omega),aY]
   rw[P,O,M];have v:=OU (c:=[]) (x:=Frm.fr b) (z:=32*s.N) (by rw[Frm.jO];omega);rw[jD,jD,tH,Frm.jO] at v;exact v
  have n:Frm.iH (cN (pG s b) s.N (hb (pG s b)))=[b]:=by
   rw[j,a];have w:=(HH (ls:=[b]) (λx e=>by rw[eM] at e;subst e;exact⟨o_,o_⟩) (32*s.N - (b.length+7))).1;rw[Gu] at w;exact w
  by_cases k3:oS (vA s b)=true
  ·rw[c! k3];exact λh0=>i! h0 d_
  ·rw[b! k3];refine λ_=>⟨m.trans o,h.n0,h.n1,λx e=>?_,by show 1<=[b].length;exact bM _,?_,rfl,?_,?_⟩
   ·dsimp only at e;rw[eM] at e;subst e;exact⟨o_,o_⟩
   ·show b.length+7=(cat [b]).length;rw[Gu,Frm.jO]
   ·show cN (pG s b) s.N (hb (pG s b))=cat [b]++List.replicate (32*s.N - (b.length+7)) 0;rw[j,a,Gu]
   ·show b.length+7+0<=32*s.N;omega
end
end Go.Proofs.YtmilalkjbojciaaGreat.Sep
