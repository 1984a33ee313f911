/- Part AS: what it needs. No condition. -/
import Derived.Test.YtmilalkjbojciaaGreatCAQ
import Derived.Test.YtmilalkjbojciaaGreatCAR
set_option linter.all false
set_option maxRecDepth 100000
set_option maxHeartbeats 8000000
open Go.Proofs.Tryz
namespace Go.Proofs.YtmilalkjbojciaaGreat.Sep
open Go.RowKit Reg Oct
open Mem hiding Rd
section
variable (E:Env) (P:List Ov) (g:Nat) (cf:bW) (n:Nd) (k:Int)
def aKw(a:n.up=true):G E 69 [pt g] [bA P g cf n k] (bL (.bool true) [bA P g cf n k]):=by rw[<-a];exact CB E P g cf n k
def NW(A:n!)(m c:Nat)(l:List Rc)(B:Rd E jC A m c (l.map Rc.r))(K:∀x∈l,x.ok)(W:m<=100000):G E 116 [pt g,.slice A m c] [bA P g cf n k,aQ P] λe q=>∃Q,e=.returned (.tuple #[a! (n.take l).2.1,a! (n.take l).2.2])/\q=[bA (P++Q) g cf (n.take l).1 k,aQ (P++Q)]:=by
 have z:=cS;have N:m=l.length:=by have:=B.len;rwa [fB] at this
 unfold Nd.take;by_cases o:n.up=true
 ·rw[c! o];have d:=λM=>aKw M P g cf n k o;refine p_ func116 ntmps116 ?_
  refine r_ d ?_;refine C.scan (Y:=Nd×List Ov) (l:=l.map Rc.r) B.len (λi y=>[(0,pt g),(1,.slice A m c),(12,.slice A m c),(13,a! m),(14,a! i)])
   (λi y=>[bA (P++y.2) g cf y.1 k,aQ (P++y.2)]) (λi y=>y.1.up=true/\n.oP l 0=y.1.oP (l.drop i) i) (n,[]) aK (by dsimp only;rw[aY];exact aC) ⟨o,by rw[uG]⟩ ?_ ?_
  ·rintro i ⟨s,Q⟩ R F U b ⟨a,j⟩;dsimp only at a j⊢;obtain⟨x,u,rfl⟩:∃x,l[i]?=some x/\x.r=R:=by
    rw[mM] at b;cases h:l[i]? with
    |none=>rw[h] at b;cases b
    |some x=>rw[h] at b;exact⟨x,rfl,iN b⟩
   have p:=λM=>NY M (P++Q) g cf s k a x (K x (dG u));have t:=(cH.1 u).1;have H:l.drop i=x::l.drop (i+1):=by rw[lL t,(cH.1 u).2]
   have f:=Ek s x;rw[j,H,Nd.oP];generalize s.write x=w at *;have⟨D,J⟩:=w;dsimp only at p f⊢;refine a_ ?_;intros;refine aU p ?_;rintro e q ⟨r,rfl,rfl⟩;refine gk bU ?_;by_cases v:J=0
   ·subst v;rw[c! rfl];refine a_ ?_;exact⟨(D,Q++r),aK,(by dsimp only;rw[<-bF];exact aC),by rw[f];exact a,rfl⟩
   ·rw[b! v];refine a_ ?_;exact uX (H':=[bA (P++(Q++r)) g cf D k,aQ (P++(Q++r))]) rfl aJ aJ (by rw[<-bF];exact aC) ⟨Q++r,rfl,rfl⟩
  ·rintro⟨s,Q⟩ F ⟨a,j⟩;dsimp only at a j⊢;rw[Dg o_,Nd.oP] at j;rw[j];have O:m<=maxLen:=o_;refine a_ ?_;exact oN ⟨Q,rfl,rfl⟩
 ·rw[b! o];have d:=λM=>CB M P g cf n k;rw[show n.up=false by simpa using o] at d;refine p_ func116 ntmps116 ?_
  refine r_ d ?_;exact uX (H':=[bA (P++[]) g cf n k,aQ (P++[])]) rfl aJ aJ (by rw[aY];exact aC) ⟨[],rfl,rfl⟩
end
def Nd.tries(n:Nd)(now:Int):List aM->List aM->Nd×List aM×Int
 | [],acc=>(n,acc,0)
 |q::l,acc=>if (n.write (.fH q.key now)).2=0 then Nd.tries (n.write (.fH q.key now)).1 now l (acc++[q]) else((n.write (.fH q.key now)).1,acc,(n.write (.fH q.key now)).2)
def Nd.iV(n:Nd)(cf:bW)(now:Int):Nd×List aM×Int :=
 if n.up then
  (if (n.tries now (n.s.ready cf now) []).1.sync.2=0 then((n.tries now (n.s.ready cf now) []).1.sync.1,(n.tries now (n.s.ready cf now) []).2) else((n.tries now (n.s.ready cf now) []).1.sync.1,[],(n.tries now (n.s.ready cf now) []).1.sync.2))
 else(n,[],19)
def T4(s:Sv)(cf:bW)(now:Int):(s.ready cf now).length<=s.ps.length:=Pd (λi s=>by unfold mC;split<;>simp) _ _
section
variable (E:Env) (P:List Ov) (g:Nat) (cf:bW) (n:Nd) (k:Int)
def aCp(now:Int)(hnow:bQ now)(hk:k<=10000000000000):G E 118 [pt g,a! now] [bA P g cf n k,aQ P] λe H'=>∃Q A m c,m=(n.iV cf now).2.1.length/\(m<=c/\c<=maxLen)/\e=.returned (.tuple #[.slice A m c,a! (n.iV cf now).2.2])/\H'=[own cF A m c (n.iV cf now).2.1,bA (P++Q) g cf (n.iV cf now).1 (k+2048),aQ (P++Q)]:=by
 have hmax:=cS;unfold Nd.iV;by_cases hu:n.up=true
 ·rw[c! hu];refine AI (λy ho _=>?_) (λy ho hd=>by rw[hu] at hd;cases hd);have hnp:=(ho.gd hu).1.np;have hrl:=T4 n.s cf now;have rdy:=λM=>aGd M P y.gs n.s cf now;generalize n.s.ready cf now=rs at *;dsimp only[gN,k!,l!,bW.cs] at rdy⊢;refine p_ func118 ntmps118 ?_
  refine cV (λM=>xB M g cf n.r y.gm y.gd) ?_;repeat ((fail_if_success (refine C.seq (x:=Code.region 5 _ _) ?_));first|refine mV ?_|refine k_ ?_|intro _|refine Dr.two ?_ ?_)
  refine C.cW (X:=Nd×List aM×Int×List Ov×n!×Nat) (λz=>[(0,pt g),(6,.slice z.2.2.2.2.1 z.2.1.length z.2.2.2.2.2),(7,a! z.2.2.1)]) (λz=>[own cF z.2.2.2.2.1 z.2.1.length z.2.2.2.2.2 z.2.1,bA (P++z.2.2.2.1) g cf z.1 k,aQ (P++z.2.2.2.1)]) (λz=>n.tries now rs []=(z.1,z.2.1,z.2.2.1)/\z.1.up=true/\z.2.1.length<=z.2.2.2.2.2/\z.2.2.2.2.2<=maxLen) ?_ ?_
  ·refine a_ ?_;refine rB (l_ [0,1,2,3,4,5,6,7,8,9,10,11,14] (g_ 12 (n_ 13 .nil))) ([aE g 181 (qD cf n.r (pt y.gm) y.gd),aE y.gm 191 [pt y.gl,pt y.gs]]) (a_ ?_);refine eI rdy ?_;rintro e H' ⟨O,oc,rfl,rfl⟩;refine gd bU aC ?_;have hrm:rs.length<=maxLen:=o_;refine a_ ?_;refine C.conv (aB.trans (aB.cC (l:=gN P g cf n k y++[aQ P,own cF O rs.length oc rs]) aH) (aB.eG (aZ.append (bA.up ho hu) aZ.refl))) ?_;dsimp only[k!,l!];refine C.scan (Y:=Nd×List aM×List Ov×n!×Nat) (l:=rs) rfl (λi z=>[(0,pt g),(1,a! now),(6,.slice z.2.2.2.1 z.2.1.length z.2.2.2.2),(7,a! 0),(26,.slice O rs.length oc),(27,a! rs.length),(28,a! i)])
    (λi z=>[own cF z.2.2.2.1 z.2.1.length z.2.2.2.2 z.2.1,bA (P++z.2.2.1) g cf z.1 k,aQ (P++z.2.2.1),own cF O rs.length oc rs]) (λi z=>z.1.up=true/\n.tries now rs []=z.1.tries now (rs.drop i) z.2.1/\z.2.1.length=i/\z.2.1.length<=z.2.2.2.2/\z.2.2.2.2<=maxLen) (n,[],[],none,0) aK (by dsimp only;rw[aY];exact aB.trans (aB.nil cF) aC) ⟨hu,by rw[uG],rfl,bM _,bY _⟩ ?_ ?_
   ·rintro i ⟨n1,acc,Q,B,d⟩ q F hi hq ⟨hu1,ht,hai,h1,h2⟩;dsimp only at hu1 ht hai h1 h2⊢;have law:=λM=>NY M (P++Q) g cf n1 k hu1 (.fH q.key now) hnow;have hlt:=(cH.1 hq).1;have e1:rs.drop i=q::rs.drop (i+1):=by rw[lL hlt,(cH.1 hq).2]
    have hup2:=Ek n1 (.fH q.key now);rw[e1,Nd.tries] at ht;generalize n1.write (.fH q.key now)=w at *;have⟨n2,e2⟩:=w;dsimp only at law hup2 ht⊢;refine a_ ?_;intros;refine r_ (λM=>S0 M q.key now) ?_;refine aU law ?_;rintro e H' ⟨Q2,rfl,rfl⟩;refine gk bU ?_;by_cases he:e2=0
    ·subst he;rw[c! rfl] at ht;refine a_ ?_;intros;rename_i B2 d2 h3 h4;have hl1:(acc++[q]).length=acc.length+1:=s_
     exact⟨(n2,acc++[q],Q++Q2,B2,d2),(by dsimp only;rw[hl1];exact aK),(by dsimp only;rw[hl1,<-bF];exact aC),by rw[hup2];exact hu1,ht,by dsimp only;omega,by dsimp only;omega,h4⟩
    ·rw[b! he] at ht;refine a_ ?_;exact⟨(n2,acc,e2,Q++Q2,B,d),aK,(by dsimp only;rw[<-bF];exact aC),ht,by rw[hup2];exact hu1,h1,h2⟩
   ·rintro⟨n1,acc,Q,B,d⟩ F ⟨hu1,ht,hai,h1,h2⟩;dsimp only at hu1 ht hai h1 h2⊢;rw[uF,Nd.tries] at ht;refine a_ ?_;exact⟨(n1,acc,0,Q,B,d),aK,aC,ht,hu1,h1,h2⟩
  ·rintro⟨n1,acc,sh,Q,B,d⟩ F ⟨ht,hu1,h1,h2⟩;dsimp only at ht hu1 h1 h2⊢;rw[ht];dsimp only;have syn:=λM=>KG M (P++Q) g cf n1 k hk;generalize n1.sync=w at *;have⟨n2,e2⟩:=w;dsimp only at syn⊢;refine a_ ?_
   refine aP syn ?_;by_cases he:e2=0
   ·subst he;rw[c! rfl];refine a_ ?_;exact oN ⟨Q,B,acc.length,d,rfl,⟨h1,h2⟩,rfl,rfl⟩
   ·rw[b! he];refine a_ ?_;exact uX rfl aJ aJ (aB.trans (aB.nil cF) (aB.cC (l:=[own cF none 0 0 [],bA (P++Q) g cf n2 (k+2048),aQ (P++Q)]) aH)) ⟨Q,none,0,0,rfl,⟨bM _,bY _⟩,rfl,rfl⟩
 ·rw[b! hu];have hup:=λM=>CB M P g cf n k;rw[show n.up=false by simpa using hu] at hup;refine p_ func118 ntmps118 ?_
  refine r_ hup ?_;exact uX (H':=[own cF none 0 0 [],bA (P++[]) g cf n (k+2048),aQ (P++[])]) rfl aJ aJ (aB.trans (aB.nil cF) (aB.trans (aB.cC (l:=[own cF none 0 0 [],bA P g cf n k,aQ P]) aH) (aB.eG (aZ.cons aZ.refl (aZ.cons (bA.mono o_) (by rw[aY];exact aZ.refl)))))) ⟨[],none,0,0,rfl,⟨bM _,bY _⟩,rfl,rfl⟩
end
def Dr.l9{P:t!}{N:Nat}{E:Env}{z:Nat}{Q:QF}{F:Nat->p!}{H:List aG}{a:Td}{l:List Oper}{f:List aG}{d:Option Nat}{e:Op}{ty:q!}{b:String}{c:Array Edge}{gd:Option (Nat×Bool)}(hi:nth l z=some ⟨d,e,ty,b,c,gd⟩)(i:∀k,d=some k->k<N)(j:gV l N F true gd)
  (h:dF P N E F H ⟨d,e,ty,b,c,gd⟩ λv H'=>qP P N E z l Q a (BQ F d v) H'):Dr P N E z l Q f (.one z true a) F H:=Dr.D5 hi i j h λ_ _ m=>m
def QN{N z:Nat}{E:Env}{F:Nat->p!}{H R Hp:List aG}{Q:QF}{f:FuncId}{b:List r!}{i:Array q!}{d:Nat}{ty:q!}{h:String}{o:Array Edge}{l:Ending->List aG->Prop}{os:List Oper}{a:Td}{m:List aG}{gd:Option (Nat×Bool)}(hi:nth os z=some ⟨some d,.call { callee:=.value (.func f),args:=b.toArray,argTypes:=i },ty,h,o,gd⟩)(t:d<N)(u:gV os N F true gd)(w:jT f=true)(x:fJ Hp H R)
  (c:∀M,Sub E R M->aF prog M f (mI F b).toArray Hp l) (s:∀e H',l e H'->∃v,e=.returned v/\∃j,kE H' R j/\qP prog N E z os Q a (gK F d v) j):Dr prog N E z os Q m (.one z true a) F H:=by
 have⟨y,p,q,r⟩:=AK w;exact Dr.l9 hi (by rintro k ⟨⟩;exact t) u (S.call rfl rfl p q r x c s)
section
variable (E:Env) (P:List Ov) (g:Nat) (cf:bW) (n:Nd) (k:Int)
def aJo(hk:k<=10000000000000):G E 130 [pt g] [bA P g cf n k] (bL (a! n.pack.2) [bA P g cf n.pack.1 (k+4128)]):=by
 have hmax:=cS;refine AI (λy ho hu=>?_) (λy ho hu=>?_)
 ·rw[aY];have hok:=ho.pack;have put:=λM=>Tp M P y.gs n.s;have swp:=λM A m c hr=>W9 M y.gl y.gd n.ls k hk A m c n.fD hr;have himg:n.fD=[5]++kA n.s:=rfl;rw[himg] at swp;unfold Nd.pack at hok⊢;rw[c! hu] at hok⊢;have hswe:(n.ls.swap n.fD).1≠0->(n.ls.swap n.fD).1≠19->(n.ls.swap n.fD).2=n.ls:=λh0 h1=>by
   unfold LS.swap at h0 h1⊢;by_cases c1:n.fD.length=0
   ·rw[c! c1]
   rw[b! c1] at h0 h1⊢;by_cases c2:4096<n.fD.length
   ·rw[c! c2]
   rw[b! c2] at h0 h1⊢;by_cases c3:32*n.ls.N<n.fD.length+7
   ·rw[c! c3]
   rw[b! c3] at h0 h1⊢;by_cases c4:n.ls.dead=true
   ·rw[c! c4]
   rw[b! c4] at h0 h1⊢;by_cases c5:jR n.ls.aO 0 (32*n.ls.N)=true
   ·rw[c! c5] at h1;exact i! rfl h1
   rw[b! c5] at h0 h1⊢;by_cases c6:jR (rK n.ls) 0 (n.fD.length+7)=true
   ·rw[c! c6] at h1;exact i! rfl h1
   rw[b! c6] at h0 h1⊢;by_cases c7:oS (vA n.ls n.fD)=true
   ·rw[c! c7] at h1;exact i! rfl h1
   rw[b! c7] at h0;exact i! rfl h0
  rw[himg] at hok hswe⊢;generalize n.ls.swap ([5]++kA n.s)=res at *;have⟨cd,z2⟩:=res;dsimp only at hok swp hswe⊢;generalize kA n.s=ib at *;by_cases h0:cd=0
  ·subst h0;rw[c! rfl] at hok⊢;dsimp only[gN];refine p_ func130 ntmps130 ?_;refine z_ (λM=>xB M g cf n.r y.gm y.gd) ?_;refine rB (l_ [0,1,2,3,4,5,6,7,9,10,11,12,13,14,15] (.two 8 (g_ 16 (g_ 17 (g_ 18 (g_ 19 (n_ 20 .nil))))) 16 (g_ 8 (g_ 17 (g_ 18 (g_ 19 (n_ 20 .nil))))))) ([aE g 181 (qD cf n.r (pt y.gm) y.gd),aE y.gm 191 [pt y.gl,pt y.gs]]) (a_ ?_);refine Dr.two ?_ ?_;rotate_left;refine lC rfl sD bB sK aH (λM hE=>put M) ?_;rotate_left;refine a_ ?_;intros;refine eI put ?_;all_goals
    rintro e H' ⟨A,m,c,⟨h1,h2,h3⟩,rfl,rfl⟩;refine a_ ?_;intros;rw[show UInt8.ofNat (Int.toNat 5)=5 from rfl];refine E_ (λM=>swp M _ (1+m) _) ?_;refine y_ (λM=>He M g 0 (by decide)) ?_;exact aX rfl aJ (aB.trans (aB.cC (l:=gN P g cf ⟨n.r,z2,true,⟨some n.s,[]⟩,n.s⟩ (k+4128) y) aH) (aB.eG (bA.up hok rfl))) ⟨rfl,rfl⟩
  ·rw[b! h0] at hok⊢;by_cases h19:cd=19
   ·subst h19;rw[c! rfl] at hok⊢;have dd:=λM=>TA M P g cf ⟨n.r,z2,false,n.lc,n.s⟩ (k+4128) y;dsimp only[gN];refine p_ func130 ntmps130 ?_
    refine z_ (λM=>xB M g cf n.r y.gm y.gd) ?_;refine C.fL 19 (l_ [0,1,2,3,4,5,6,7,9,10,11,12,13,14,15] (.two 8 (g_ 16 (g_ 17 (g_ 18 (g_ 19 (g_ 20 .nil))))) 16 (g_ 8 (g_ 17 (g_ 18 (g_ 19 (g_ 20 .nil))))))) ([aE g 181 (qD cf n.r (pt y.gm) y.gd),aE y.gm 191 [pt y.gl,pt y.gs]]) q_ q_ aC (a_ ?_);refine Dr.two ?_ ?_;rotate_left;refine lC rfl sD bB sK aH (λM hE=>put M) ?_;rotate_left;refine a_ ?_;intros;refine eI put ?_;all_goals
     rintro e H' ⟨A,m,c,⟨h1,h2,h3⟩,rfl,rfl⟩;refine a_ ?_;intros;rw[show UInt8.ofNat (Int.toNat 5)=5 from rfl];refine E_ (λM=>swp M _ (1+m) _) ?_;refine QN rfl sD bB sK aH (λM hE=>dd M) (b_ ?_);exact aX rfl aJ (aB.trans (aB.cC (l:=nV g cf ⟨n.r,z2,false,n.lc,n.s⟩ (k+4128) y) aH) (aB.eG (bA.dn hok rfl))) ⟨rfl,rfl⟩
   ·rw[b! h19] at hok⊢;have hz:=hswe h0 h19;subst hz;dsimp only[gN];refine p_ func130 ntmps130 ?_;refine z_ (λM=>xB M g cf n.r y.gm y.gd) ?_;refine rB (l_ [0,1,2,3,4,5,6,7,9,10,11,12,13,14,15] (.two 8 (g_ 16 (g_ 17 (g_ 18 (g_ 19 (n_ 20 .nil))))) 16 (g_ 8 (g_ 17 (g_ 18 (g_ 19 (n_ 20 .nil))))))) ([aE g 181 (qD cf n.r (pt y.gm) y.gd),aE y.gm 191 [pt y.gl,pt y.gs]]) (a_ ?_);refine Dr.two ?_ ?_;rotate_left;refine lC rfl sD bB sK aH (λM hE=>put M) ?_;rotate_left;refine a_ ?_;intros;refine eI put ?_;all_goals
     rintro e H' ⟨A,m,c,⟨h1,h2,h3⟩,rfl,rfl⟩;refine a_ ?_;intros;rw[show UInt8.ofNat (Int.toNat 5)=5 from rfl];refine E_ (λM=>swp M _ (1+m) _) ?_;refine y_ (λM=>He M g cd h19) ?_;exact aX rfl aJ (aB.trans (aB.cC (l:=gN P g cf n (k+4128) y) aH) (aB.eG (bA.up ho hu))) ⟨rfl,rfl⟩
 ·rw[aY];unfold Nd.pack;rw[b! (by rw[hu];decide)];refine p_ func130 ntmps130 ?_;refine z_ (λM=>DF M g cf n.r y.gd) ?_;exact aX rfl aJ (aB.trans (aB.cC (l:=nV g cf n k y) aH) (aB.eG ((aZ.cons aZ.refl (kI.mono o_)).trans (bA.dn ho hu)))) ⟨rfl,rfl⟩
end
def fP(z:Sv×List Rc)(x:Rc):Sv×List Rc:=((z.1.doc x).1,if (z.1.doc x).2=0 then z.2++[x] else z.2)
def comms:Sv->List Rc->List aL->List Rc
 |_,out,[]=>out
 |s,out,a::l=>if (s.doc (.cD a)).2=0 then comms (s.doc (.cD a)).1 (out++[.cD a]) l else out
def tryAll(s:Sv)(l:List aI):Sv×List Rc:=l.foldl (λz c=>fP z (.cB c)) (s,[])
def gS(s:Sv)(m:Mg):List Rc :=
 if m.check=0/\m.kind=2/\m.to=s.r then
  (if ((tryAll s m.cL).1.v.l.length:Int) - m.base<0 then(tryAll s m.cL).2 else comms (tryAll s m.cL).1 (tryAll s m.cL).2 (m.ids.drop (min ((tryAll s m.cL).1.v.l.length - m.base.toNat) m.ids.length)))
 else[]
def aGy{s:Sv}{l:List aI}{i:Nat}{x:aI}(h:l[i]?=some x):tryAll s (l.take (i+1))=fP (tryAll s (l.take i)) (.cB x):=Cy (f:=λz c=>fP z (.cB c)) h
def aRi(z:Sv×List Rc)(x:Rc):(fP z x).2.length<=z.2.length+1:=by
 unfold fP;dsimp only;split
 ·simp
 ·omega
def VY(s:Sv)(l:List aI):(tryAll s l).2.length<=l.length:=by
 have:∀(l:List aI) (z:Sv×List Rc),(l.foldl (λz c=>fP z (.cB c)) z).2.length<=z.2.length+l.length:=by
  intro l
  induction l with
  |nil=>exact λz=>bM _
  |cons c l a =>
   intro z;have b:=a (fP z (.cB c));have d:=aRi z (.cB c);rw[CX,gL];omega
 have h:=this l (s,[]);simpa [tryAll] using h
def VX{s:Sv}(h:Gd s){l:List aI}(a:∀c∈l,c.ok):Gd (tryAll s l).1:=by
 have:∀(l:List aI) (z:Sv×List Rc),(∀c∈l,c.ok)->Gd z.1->Gd (l.foldl (λz c=>fP z (.cB c)) z).1:=by
  intro l
  induction l with
  |nil=>exact λz _ h=>h
  |cons c l d=>exact λz a h=>d _ (λx b=>a x (kF _ b)) (h.doc (x:=.cB c) (a c jW))
 exact this l (s,[]) a h
section
variable (E:Env) (P:List Ov) (g:Nat) (s:Sv)
def Tq(A:n!)(c:Nat)(l:List Rc)(x:Rc)(m:x.ok)(k:l.length<=1000000):G E 254 [pt g,.slice A l.length c,.agg x.r.cs.toArray] [cA P g s,aQ P,own jC A l.length c (l.map Rc.r)] λe d=>∃Q b a,(fP (s,l) x).2.length<=a/\a<=maxLen/\e=.returned (.tuple #[.slice b (fP (s,l) x).2.length a,.bool (decide ((s.doc x).2=0))])/\d=[cA (P++Q) g (s.doc x).1,aQ (P++Q),own jC b (fP (s,l) x).2.length a ((fP (s,l) x).2.map Rc.r)]:=by
 refine aF.post (aDc E P g s A l.length c (l.map Rc.r) x m k) ?_;rintro e d ⟨Q,b,a,h,j,rfl,rfl⟩;have f:(if (s.doc x).2=0 then l.length+1 else l.length)=(fP (s,l) x).2.length:=by unfold fP;dsimp only;split<;>simp
 have i:(if (s.doc x).2=0 then l.map Rc.r++[x.r] else l.map Rc.r)=(fP (s,l) x).2.map Rc.r:=by unfold fP;dsimp only;split<;>simp
 rw[f] at h;rw[f,i];exact⟨_,aB.refl,Q,b,a,h,j,rfl,rfl⟩
theorem aJa(m:Mg)(A:Option Addr)(n c:Nat)(B:Option Addr)(k d:Nat)(hI:Rd E gJ A n c m.ids)(hC:Rd E bO B k d m.cL)(hok:m.ok):G E 189 [pt g,.agg (fV m A n c B k d).toArray] [cA P g s,aQ P] λe H'=>∃Q X qc,((gS s m).length<=qc/\qc<=maxLen)/\(gS s m).length<=100/\e=.returned (.slice X (gS s m).length qc)/\H'=[own jC X (gS s m).length qc ((gS s m).map Rc.r),cA (P++Q) g s,aQ (P++Q)]:=by
 refine Jj E P g s λhg=>?_;have hmax:=cS;have h0:=hg.rep;have rep:=λM=>Fx M P g s;have dH:=λM hI hC=>HW M m A n c B k d hI hC;have cln:=λM=>Nm M P g s;have hnl:=hI.len;have hkl:=hC.len;unfold gS;by_cases hc:m.check=0
 ·by_cases hk:m.kind=2
  ·by_cases ht:m.to=s.r
   ·rw[if_pos ⟨hc,hk,ht⟩];obtain⟨f1,f2,f3,f4,f5⟩:=Mg.D4 hc hk;rw[hc] at dH;refine t_ func189 ntmps189 ?_;refine a_ ?_;intros
    rename_i g3;refine rA (n_ 0 (g_ 1 (l_ [2,3,4] (g_ 5 (l_ [6,7,8,9,10,11,12,13,14,15,16] (g_ 17 (l_ [18,19] .nil))))))) ?_;refine a_ ?_
    refine cP rep ?_;refine a_ ?_
    refine vN dH ?_;refine a_ ?_
    refine cP rep ?_;refine a_ ?_
    refine aU cln ?_;rintro e H' ⟨g2,rfl,rfl⟩;refine a_ ?_
    have hkm:k<=maxLen:=o_;have hch:∀c∈m.cL,c.ok:=λc hc=>EE (qR.1 f4 c hc) (hok.1 c hc);refine C.scan (Y:=List Ov×Option Addr×Nat) (l:=m.cL) hkl (λi y=>[(0,pt g2),(3,pt g3),(5,.slice y.2.1 (tryAll s (m.cL.take i)).2.length y.2.2),(35,.slice B k d),(36,.int .i64 k),(37,.int .i64 i)])
     (λi y=>[cA (P++y.1) g2 (tryAll s (m.cL.take i)).1,aQ (P++y.1),own jC y.2.1 (tryAll s (m.cL.take i)).2.length y.2.2 ((tryAll s (m.cL.take i)).2.map Rc.r),aE g3 195 (fV m A n c B k d),cA P g s]) (λi y=>(tryAll s (m.cL.take i)).2.length<=y.2.2/\y.2.2<=maxLen) ([],none,0) aK (by dsimp only;rw[aY];exact(show aB _ _ [cA P g2 s,aQ P,own jC none 0 0 [],aE g3 195 (fV m A n c B k d),cA P g s] from aB.trans (aB.nil jC) aC)) ⟨bM _,bY _⟩ ?_ ?_
    ·rintro i ⟨Q,X,qc⟩ x F hi hx ⟨h1,h2⟩;dsimp only at h1 h2⊢;have hzl:=VY s (m.cL.take i);rw[dR] at hzl;rw[aGy hx];generalize tryAll s (m.cL.take i)=z at *;obtain⟨s1,out⟩:=z;dsimp only at h1 hzl⊢;have law:=λM=>Tq M (P++Q) g2 s1 X qc out (.cB x) (hch x (dG hx)) o_;have e1:(fP (s1,out) (.cB x)).1=(s1.doc (.cB x)).1:=rfl;rw[e1];generalize (fP (s1,out) (.cB x)).2=out2 at *;generalize s1.doc (.cB x)=w at *;refine a_ ?_;intros
     refine aP (λM=>Fm M x) ?_;refine a_ ?_
     refine aU law ?_;rintro e H' ⟨Q2,X2,q2,h3,h4,rfl,rfl⟩;refine a_ ?_
     exact⟨(Q++Q2,X2,q2),aK,(by dsimp only;rw[<-bF];exact aC),h3,h4⟩
    ·rintro⟨Q,X,qc⟩ F ⟨h1,h2⟩;dsimp only at h1 h2⊢;rw[hkl,gY] at h1⊢;have hzl:=VY s m.cL;have hzg:=VX hg hch;generalize tryAll s m.cL=z at *;obtain⟨s1,out⟩:=z;dsimp only at h1 hzl hzg⊢;have hln:=hzg.v.len;have hlm:s1.v.l.length<=maxLen:=o_;have eU:=λM=>uW M (P++Q) g2 s1;have hb0:0<=m.base/\m.base<=48:=f5;have bak:aB E [own jC X out.length qc (out.map Rc.r),cA P g s,aQ (P++Q)] [own jC X out.length qc (out.map Rc.r),cA (P++Q) g s,aQ (P++Q)]:=aB.eG (aZ.cons aZ.refl (aZ.cons cA.mono aZ.refl));by_cases hneg:(s1.v.l.length:Int) - m.base<0
     ·rw[if_pos hneg];refine a_ ?_
      refine rB (l_ [0,4,5] (g_ 1 (g_ 2 (l_ [3,6,7] .nil)))) ([aE g3 195 _]) ?_;refine a_ ?_
      refine eI eU ?_;rintro e H' ⟨g5,rfl,rfl⟩;refine a_ ?_
      refine eI (λM=>BB M (P++Q) g5 s1.v) ?_;rintro e H' ⟨O,oc,hoc,rfl,rfl⟩;refine a_ ?_
      exact aX (H':=[own jC X out.length qc (out.map Rc.r),cA (P++Q) g s,aQ (P++Q)]) rfl aJ (aB.trans (aB.cC (l:=[own jC X out.length qc (out.map Rc.r),cA P g s,aQ (P++Q)]) aH) bak) ⟨Q,X,qc,⟨h1,h2⟩,by omega,rfl,rfl⟩
     ·rw[if_neg hneg];have hJ:(min ((s1.v.l.length:Int) - m.base) (n:Int)).toNat=min (s1.v.l.length - m.base.toNat) m.ids.length:=by rw[<-hnl];omega
      have hr2:=hI.from_ (k:=(min ((s1.v.l.length:Int) - m.base) (n:Int)).toNat) o_;rw[<-hJ];have hnm:n<=maxLen:=o_;refine a_ ?_
      refine rB (l_ [0,4,5] (g_ 1 (g_ 2 (l_ [3,6,7] .nil)))) ([aE g3 195 _]) ?_;refine a_ ?_
      refine eI eU ?_;rintro e H' ⟨g5,rfl,rfl⟩;refine a_ ?_
      refine eI (λM=>BB M (P++Q) g5 s1.v) ?_;rintro e H' ⟨O,oc,hoc,rfl,rfl⟩;refine a_ ?_
      generalize (min ((s1.v.l.length:Int) - m.base) (n:Int)).toNat=J at *;refine C.scan (Y:=Sv×List Rc×List Ov×Option Addr×Nat) (l:=m.ids.drop J) hr2.len (λi y=>[(0,pt g2),(5,.slice y.2.2.2.1 y.2.1.length y.2.2.2.2),(67,.slice (if c=J then A else A.map (·.add (J*gJ.size))) (n - J) (c - J)),(68,.int .i64 ((n - J:Nat):Int)),(69,.int .i64 i)])
       (λi y=>[cA (P++y.2.2.1) g2 y.1,aQ (P++y.2.2.1),own jC y.2.2.2.1 y.2.1.length y.2.2.2.2 (y.2.1.map Rc.r),cA P g s]) (λi y=>comms s1 out (m.ids.drop J)=comms y.1 y.2.1 ((m.ids.drop J).drop i)/\y.2.1.length<=8+i/\y.2.1.length<=y.2.2.2.2/\y.2.2.2.2<=maxLen) (s1,out,Q,X,qc) aK aC ⟨rfl,by dsimp only;omega,h1,h2⟩ ?_ ?_
      ·rintro i ⟨s2,out2,Q2,X2,q2⟩ a F hi ha ⟨hcm,h3,h4,h5⟩;dsimp only at hcm h3 h4 h5⊢;have hlt:=(cH.1 ha).1;have e1:(m.ids.drop J).drop i=a::(m.ids.drop J).drop (i+1):=by rw[lL hlt,(cH.1 ha).2]
       rw[e1,comms] at hcm;have hid:(m.ids.drop J).length<=16:=by rw[lB];omega
       have law:=λM=>Tq M (P++Q2) g2 s2 X2 q2 out2 (.cD a) trivial o_;unfold fP at law;dsimp only at law;generalize s2.doc (.cD a)=w at *;obtain⟨s3,cd⟩:=w;dsimp only at law hcm;by_cases he:cd=0
       ·subst he;rw[if_pos rfl] at hcm;simp only[if_true,decide_true] at law;refine a_ ?_;intros
        refine aP (λM=>EJ M a) ?_;refine a_ ?_
        refine aU law ?_;rintro e H' ⟨Q3,X3,q3,h6,h7,rfl,rfl⟩;refine a_ ?_
        exact⟨(s3,out2++[.cD a],Q2++Q3,X3,q3),aK,(by dsimp only;rw[<-bF];exact aC),hcm,by dsimp only;rw[bR];simp;omega,h6,h7⟩
       ·rw[if_neg he] at hcm;simp only[he,if_false,decide_false] at law;rw[hcm];refine a_ ?_;intros
        refine aP (λM=>EJ M a) ?_;refine a_ ?_
        refine aU law ?_;rintro e H' ⟨Q3,X3,q3,h6,h7,rfl,rfl⟩;refine a_ ?_
        exact aX (H':=[own jC X3 out2.length q3 (out2.map Rc.r),cA (P++(Q2++Q3)) g s,aQ (P++(Q2++Q3))]) rfl aJ (by rw[<-bF];exact aB.trans (aB.cC (l:=[own jC X3 out2.length q3 (out2.map Rc.r),cA P g s,aQ (P++Q2++Q3)]) aH) (aB.eG (aZ.cons aZ.refl (aZ.cons (by rw[bF];exact cA.mono) aZ.refl)))) ⟨Q2++Q3,X3,q3,⟨h6,h7⟩,by omega,rfl,rfl⟩
      ·rintro⟨s2,out2,Q2,X2,q2⟩ F ⟨hcm,h3,h4,h5⟩;dsimp only at hcm h3 h4 h5⊢;have hid:(m.ids.drop J).length<=16:=by rw[lB];omega
       have hnj:=hr2.len;rw[show(m.ids.drop J).drop (n - J)=[] from Dg o_,comms] at hcm;rw[hcm];refine a_ ?_
       exact aX (H':=[own jC X2 out2.length q2 (out2.map Rc.r),cA (P++Q2) g s,aQ (P++Q2)]) rfl aJ (aB.trans (aB.cC (l:=[own jC X2 out2.length q2 (out2.map Rc.r),cA P g s,aQ (P++Q2)]) aH) (aB.eG (aZ.cons aZ.refl (aZ.cons cA.mono aZ.refl)))) ⟨Q2,X2,q2,⟨h4,h5⟩,by omega,rfl,rfl⟩
   ·rw[if_neg λh=>ht h.2.2];rw[hc] at dH;refine t_ func189 ntmps189 ?_;refine a_ ?_;intros
    rename_i g3;refine rA (n_ 0 (g_ 1 (l_ [2,3,4] (g_ 5 (l_ [6,7,8,9,10,11,12,13,14,15,16] (g_ 17 (l_ [18,19] .nil))))))) ?_;refine a_ ?_
    refine cP rep ?_;refine a_ ?_
    refine vN dH ?_;refine a_ ?_
    refine cP rep ?_;refine a_ ?_
    exact aX (H':=[own jC none 0 0 [],cA (P++[]) g s,aQ (P++[])]) rfl aJ (by rw[aY];exact aB.trans (aB.nil jC) (aB.cC (l:=[own jC none 0 0 [],cA P g s,aQ P]) aH)) ⟨[],none,0,⟨bM _,bY _⟩,bY _,rfl,rfl⟩
  ·rw[if_neg λh=>hk h.2.1];rw[hc] at dH;refine t_ func189 ntmps189 ?_;refine a_ ?_;intros
   rename_i g3;refine rA (n_ 0 (g_ 1 (l_ [2,3,4] (g_ 5 (l_ [6,7,8,9,10,11,12,13,14,15,16] (g_ 17 (l_ [18,19] .nil))))))) ?_;refine a_ ?_
   refine cP rep ?_;refine a_ ?_
   refine vN dH ?_;refine a_ ?_
   exact aX (H':=[own jC none 0 0 [],cA (P++[]) g s,aQ (P++[])]) rfl aJ (by rw[aY];exact aB.trans (aB.nil jC) (aB.cC (l:=[own jC none 0 0 [],cA P g s,aQ P]) aH)) ⟨[],none,0,⟨bM _,bY _⟩,bY _,rfl,rfl⟩
 ·rw[if_neg λh=>hc h.1];refine t_ func189 ntmps189 ?_;refine a_ ?_;intros
  rename_i g3;refine rA (n_ 0 (g_ 1 (l_ [2,3,4] (g_ 5 (l_ [6,7,8,9,10,11,12,13,14,15,16] (g_ 17 (l_ [18,19] .nil))))))) ?_;refine a_ ?_
  refine cP rep ?_;refine a_ ?_
  refine vN dH ?_;refine a_ ?_
  exact aX (H':=[own jC none 0 0 [],cA (P++[]) g s,aQ (P++[])]) rfl aJ (by rw[aY];exact aB.trans (aB.nil jC) (aB.cC (l:=[own jC none 0 0 [],cA P g s,aQ P]) aH)) ⟨[],none,0,⟨bM _,bY _⟩,bY _,rfl,rfl⟩
end
def pW(s:Sv)(m:Mg):List aL:=(s.v.l.drop (min m.base.toNat s.v.l.length)).map (·.id)
def zR(s:Sv)(m:Mg):List aI:=(s.v.l++s.v.t).filter λx => !kR ⟨m.k0,m.k1,m.k2,m.k3⟩ x.id
def wM(s:Sv)(m:Mg):Mg:=⟨2,s.r,m.fr,0,0,0,0,m.base,(pW s m).take 16,(zR s m).take 8,kz,ez⟩
def answers(s:Sv)(m:Mg):Prop:=m.check=0/\m.kind=1/\m.to=s.r
instance (s:Sv)(m:Mg):Decidable (answers s m):=by unfold answers;infer_instance
def mz:Mg:=⟨0,0,0,0,0,0,0,0,[],[],kz,ez⟩
def aDu:fV mz none 0 0 none 0 0=[a! 0,a! 0,a! 0,a! 0,a! 0,a! 0,a! 0,a! 0,.slice none 0 0,.slice none 0 0,a! 0,a! 0,a! 0,.bool false,a! 0,a! 0,a! 0,a! 0,a! 0]:=rfl
section
variable (E:Env) (P:List Ov) (g:Nat) (s:Sv)
theorem aRn(m:Mg)(A:n!)(n c:Nat)(B:n!)(k d:Nat)(hI:Rd E gJ A n c m.ids)(hC:Rd E bO B k d m.cL)(hno:¬answers s m):G E 188 [pt g,.agg (fV m A n c B k d).toArray] [cA P g s] λe H'=>e=.returned (.tuple #[.agg (fV mz none 0 0 none 0 0).toArray,.bool false])/\H'=[cA P g s]:=by
 refine Jj E P g s λhg=>?_;have h0:=hg.rep;have rep:=λM=>Fx M P g s;have dH:=λM hI hC=>HW M m A n c B k d hI hC;unfold answers at hno;rw[aDu];by_cases hc:m.check=0
 ·by_cases hk:m.kind=1
  ·have ht:m.to≠s.r:=λh=>hno ⟨hc,hk,h⟩;rw[hc] at dH;refine p_ func188 ntmps188 ?_;intros
   rename_i g3 g4;refine rA (n_ 0 (g_ 1 (l_ [2,3,4] (g_ 5 (l_ [6,7,8,9,10,11,12,13,14,15,16] (g_ 17 (l_ [18,19] .nil))))))) (a_ ?_)
   refine y_ rep ?_
   refine H_ dH ?_
   refine y_ rep ?_
   exact lO
  ·rw[hc] at dH;refine p_ func188 ntmps188 ?_;intros
   rename_i g3 g4;refine rA (n_ 0 (g_ 1 (l_ [2,3,4] (g_ 5 (l_ [6,7,8,9,10,11,12,13,14,15,16] (g_ 17 (l_ [18,19] .nil))))))) (a_ ?_)
   refine y_ rep ?_
   refine H_ dH ?_
   exact lO
 ·refine p_ func188 ntmps188 ?_;intros
  rename_i g3 g4;refine rA (n_ 0 (g_ 1 (l_ [2,3,4] (g_ 5 (l_ [6,7,8,9,10,11,12,13,14,15,16] (g_ 17 (l_ [18,19] .nil))))))) (a_ ?_)
  refine y_ rep ?_
  refine H_ dH ?_
  exact lO
theorem aRf(m:Mg)(A:Option Addr)(n c:Nat)(B:Option Addr)(k d:Nat)(hI:Rd E gJ A n c m.ids)(hC:Rd E bO B k d m.cL)(hyes:answers s m):G E 188 [pt g,.agg (fV m A n c B k d).toArray] [cA P g s] λe H'=>∃X a x Y b y,a=(pW s m).length/\e=.returned (.tuple #[.agg (fV (wM s m) X (min a 16) (min a 16) Y (min b 8) (min b 8)).toArray,.bool true])/\H'=[own gJ X a x (pW s m),own bO Y b y (zR s m),cA P g s]:=by
 refine Jj E P g s λhg=>?_;have h0:=hg.rep;have hmax:=cS;have rep:=λM=>Fx M P g s;have eU:=λM=>uW M P g s;have dH:=λM hI hC=>HW M m A n c B k d hI hC;obtain⟨hc,hk,ht⟩:=hyes;obtain⟨f1,f2,hb0⟩:=Mg.Mn hc hk;have hlen:=hg.v.len;rw[hc] at dH;refine t_ func188 ntmps188 ?_;refine a_ ?_;intros
 rename_i g3 g4;refine rA (n_ 0 (g_ 1 (l_ [2,3,4] (g_ 5 (l_ [6,7,8,9,10,11,12,13,14,15,16] (g_ 17 (l_ [18,19] .nil))))))) ?_;refine a_ ?_
 refine cP rep ?_;refine a_ ?_
 refine vN dH ?_;refine a_ ?_
 refine cP rep ?_;refine a_ ?_
 refine aU eU ?_;rintro e H' ⟨g5,rfl,rfl⟩;refine a_ ?_
 refine aU (λM=>BB M P g5 s.v) ?_;rintro e H' ⟨O,oc,hoc,rfl,rfl⟩;refine a_ ?_
 refine C.cW (X:=Nat) (λg8=>[(3,pt g3),(4,pt g4),(6,pt g5),(7,.slice O s.v.l.length oc),(8,pt g8)]) (λg8=>[aE g8 195 ([.int .i64 2,.int .i64 s.r,.int .i64 m.fr,.int .i64 0,.int .i64 0,.int .i64 0,.int .i64 0,.int .i64 m.base,.slice none 0 0,.slice none 0 0,.int .i64 0,.int .i64 0,.int .i64 0,.bool false,.int .i64 0,.int .i64 0,.int .i64 0,.int .i64 0,.int .i64 0]:List Value),aE g3 195 (fV m A n c B k d),aE g4 195 ([.int .i64 0,.int .i64 0,.int .i64 0,.int .i64 0,.int .i64 0,.int .i64 0,.int .i64 0,.int .i64 0,.slice none 0 0,.slice none 0 0,.int .i64 0,.int .i64 0,.int .i64 0,.bool false,.int .i64 0,.int .i64 0,.int .i64 0,.int .i64 0,.int .i64 0]:List Value),own bO O s.v.l.length oc s.v.l,kX P g5 s.v,cA P g s]) (λ_=>True) ?_ ?_
 ·refine rB (l_ [0,2,3,4,5] (.two 1 (n_ 6 (g_ 7 (g_ 8 .nil))) 7 (g_ 1 (n_ 6 (g_ 8 .nil))))) ([aE g3 195 _]) ?_;refine a_ ?_
  refine Dr.two ?_ ?_
  ·refine lC rfl sD bB sK aH (λM hE=>rep M) ?_;rintro e H' ⟨rfl,rfl⟩;refine h_ ?_;intros
   rename_i g8;exact⟨g8,aK,aC,trivial⟩
  ·refine h_ ?_;intros
   refine cP rep ?_;refine h_ ?_
   rename_i g8;exact⟨g8,aK,aC,trivial⟩
 ·rintro g8 F -;have hJ:(min m.base (s.v.l.length:Int)).toNat=min m.base.toNat s.v.l.length:=o_;refine a_ ?_
  rw[hJ];generalize hJ':min m.base.toNat s.v.l.length=J at *;have hJl:J<=s.v.l.length:=o_;have Mw:s.v.l.length - J=(s.v.l.drop J).length:=by rw[lB]
  have hids:pW s m=(s.v.l.drop J).map (·.id):=by unfold pW;rw[hJ']
  have hca:s.v.l.length<=48:=o_;refine C.scan (Y:=Option Addr×Nat) (l:=s.v.l.drop J) Mw (λi y=>[(3,pt g3),(4,pt g4),(6,pt g5),(7,.slice O s.v.l.length oc),(8,pt g8),(49,.slice (if oc=J then O else O.map (·.add (J*bO.size))) (s.v.l.length - J) (oc - J)),(50,.int .i64 ((s.v.l.length - J:Nat):Int)),(51,.int .i64 i)])
   (λi y=>[own gJ y.1 i y.2 (((s.v.l.drop J).take i).map (·.id)),aE g8 195 ([.int .i64 2,.int .i64 s.r,.int .i64 m.fr,.int .i64 0,.int .i64 0,.int .i64 0,.int .i64 0,.int .i64 m.base,.slice y.1 i y.2,.slice none 0 0,.int .i64 0,.int .i64 0,.int .i64 0,.bool false,.int .i64 0,.int .i64 0,.int .i64 0,.int .i64 0,.int .i64 0]:List Value),aE g3 195 (fV m A n c B k d),aE g4 195 ([.int .i64 0,.int .i64 0,.int .i64 0,.int .i64 0,.int .i64 0,.int .i64 0,.int .i64 0,.int .i64 0,.slice none 0 0,.slice none 0 0,.int .i64 0,.int .i64 0,.int .i64 0,.bool false,.int .i64 0,.int .i64 0,.int .i64 0,.int .i64 0,.int .i64 0]:List Value),own bO O s.v.l.length oc s.v.l,kX P g5 s.v,cA P g s]) (λi y=>i<=y.2/\y.2<=maxLen) (none,0) aK (aB.nil gJ) ⟨bY _,bY _⟩ ?_ ?_
  ·rintro i ⟨X,x⟩ c F hi hc' ⟨h1,h2⟩;dsimp only at h1 h2⊢;have hsucc:((s.v.l.drop J).take (i+1)).map (·.id)=((s.v.l.drop J).take i).map (·.id)++[c.id]:=by rw[take_succ hc',gP];rfl
   rw[hsucc];refine a_ ?_;intros
   rename_i X' x' h3 h4;exact⟨(X',x'),aK,aC,h3,h4⟩
  ·rintro⟨X,x⟩ F ⟨h1,h2⟩;dsimp only at h1 h2⊢;have hal:(pW s m).length=s.v.l.length - J:=by rw[hids,fB,lB]
   rw[show((s.v.l.drop J).take (s.v.l.length - J)).map (·.id)=pW s m by rw[hids,fX (by rw[lB];exact bM _)]];have ha48:s.v.l.length - J<=48:=o_;generalize s.v.l.length - J=a at *;refine a_ ?_
   refine cV (λM h1=>Zc M X a x (pW s m) 16 h1 (by omega) (by omega)) ?_;refine a_ ?_
   refine rB (l_ [0,1,2,3] (g_ 4 (g_ 5 (g_ 6 (g_ 7 (n_ 8 (g_ 9 .nil))))))) ([aE g3 195 _]) ?_;refine a_ ?_
   refine eI (λM=>Tz M P g5 s.v) ?_;rintro e H' ⟨U,uc,huc,rfl,rfl⟩;refine a_ ?_;intros
   rename_i W w1 hw1 hw2;refine cg rfl sD bB sK aH (λM hE=>aGr M ⟨m.k0,m.k1,m.k2,m.k3⟩ W _ w1 (s.v.l++s.v.t) bK o_) ?_;rintro e H' ⟨K2,b,y,hb,rfl,rfl⟩;refine a_ ?_
   refine cg rfl sD bB sK aH (λM hE=>Zb M K2 b y _ 8 bK o_ o_) ?_;rintro e H' ⟨rfl,rfl⟩;refine a_ ?_
   exact mL (cs:=([.int .i64 2,.int .i64 s.r,.int .i64 m.fr,.int .i64 0,.int .i64 0,.int .i64 0,.int .i64 0,.int .i64 m.base,.slice X (min a 16) (min a 16),.slice K2 (min b 8) (min b 8),.int .i64 0,.int .i64 0,.int .i64 0,.bool false,.int .i64 0,.int .i64 0,.int .i64 0,.int .i64 0,.int .i64 0]:List Value)) (H':=[own gJ X a x (pW s m),own bO K2 b y ((s.v.l++s.v.t).filter λx => !kR ⟨m.k0,m.k1,m.k2,m.k3⟩ x.id),cA P g s]) rfl aJ rfl rfl rfl aV rfl aJ aC ⟨X,a,x,K2,b,y,hal.symm,rfl,rfl⟩
end
end Go.Proofs.YtmilalkjbojciaaGreat.Sep
