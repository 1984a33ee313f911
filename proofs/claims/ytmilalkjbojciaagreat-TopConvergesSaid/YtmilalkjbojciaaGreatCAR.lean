/- Part AR: what it needs. No condition. -/
import Derived.Test.YtmilalkjbojciaaGreatCAO
import Derived.Test.YtmilalkjbojciaaGreatCAP
set_option linter.all false
set_option maxRecDepth 100000
set_option maxHeartbeats 8000000
open Go.Proofs.Tryz
namespace Go.Proofs.YtmilalkjbojciaaGreat.Sep
open Go.RowKit Reg Oct
open Mem hiding Rd
variable{m:Mg}
def Mg.ends(h:m.check=0):0<=m.fr/\m.fr<=9/\0<=m.to/\m.to<=9:=by
 have⟨_,a,_,_⟩:=Mg.jZ h;unfold Mg.xD at a;split at a
 ·simp[nG] at a;omega
 ·split at a;all_goals
   simp[nG] at a;omega
def Mg.ZW(h:m.check=0)(b:m.kind=1):(∀x∈m.ks,0<=x/\x<=65535)/\0<=m.base/\m.base<=48:=by
 have⟨_,_,a,_⟩:=Mg.jZ h;unfold Mg.dI at a;rw[c! b] at a;simp[sq,bs] at a;refine⟨λx e=>?_,o_⟩;simp at e;omega
def Mg.RR(h:m.check=0)(b:m.kind=2):m.ids.length<=16/\m.ids.all aL.may=true/\m.cL.length<=8/\m.cL.all aI.may=true/\0<=m.base/\m.base<=48:=by
 have⟨_,_,a,_⟩:=Mg.jZ h;unfold Mg.dI at a;rw[b! o_,c! b] at a;simp only[fI,h!,bs] at a;exact⟨a.1.1.1,a.1.1.2,a.1.2.1,a.1.2.2,a.2⟩
def Mg.ZX(h:m.check=0)(b:m.kind=3):m.key.may=true/\m.bD.check=0:=by
 have⟨_,_,a,_⟩:=Mg.jZ h;unfold Mg.dI at a;rw[b! o_,b! o_,c! b] at a;simpa using a
def Mg.ZY(h:m.check=0)(b:m.kind=4):m.key.may=true:=by
 have⟨_,_,a,_⟩:=Mg.jZ h;unfold Mg.dI at a
 rwa [b! o_,b! o_,b! o_] at a
def Mg.P9(a:m.kind=1):(([]++wn 1 [m.kind,m.fr,m.to])++wn 2 m.ks)++wn 1 [m.base]=m.body:=by
 unfold Mg.body;rw[c! a];simp[wn,cX]
def Mg.QA(a:m.kind=2):(((([]++wn 1 [m.kind,m.fr,m.to])++wn 1 [m.base,(m.ids.length:Int)])++kV m.ids)++jN m.cL)=m.body:=by
 unfold Mg.body;rw[b! o_,c! a];simp[wn,cX]
def Mg.QB(a:m.kind=3):((([]++wn 1 [m.kind,m.fr,m.to])++cX kW (kM m.key))++m.bD.put)=m.body:=by
 unfold Mg.body;rw[b! o_,b! o_,c! a];simp[wn,cX]
def Mg.QC(a:m.kind=4):(([]++wn 1 [m.kind,m.fr,m.to])++cX kW (kM m.key))=m.body:=by
 unfold Mg.body;rw[b! o_,b! o_,b! o_];simp[wn,cX]
def Ju(k:bV):(cX kW (kM k)).length=5:=by simp[cX,kM,eJ]
def Mg.XV(h:m.check=0):1<=m.body.length/\m.body.length<=300:=by
 have⟨f,_,_,_⟩:=Mg.jZ h;rcases(show m.kind=1\/m.kind=2\/m.kind=3\/m.kind=4 by omega) with a|a|a|a
 ·rw[<-Mg.P9 a];simp[BU]
 ·have⟨b,_,e,_⟩:=Mg.RR h a;rw[<-Mg.QA a];simp[BU,D9,HB];omega
 ·rw[<-Mg.QB a];simp[BU,Ju,bE.iP]
 ·rw[<-Mg.QC a];simp[BU,Ju]
section
variable (E:Env) (m:Mg) (A:n!) (n c:Nat) (B:n!) (k d:Nat)
def S7(g:Rd E gJ A n c m.ids)(f:Rd E bO B k d m.cL)(h:m.check≠0):aF prog E 178 #[.agg (fV m A n c B k d).toArray] [] λe a=>e=.returned (.tuple #[.slice none 0 0,a! m.check])/\a=[]:=by
 refine x_ func178 ntmps178 ?_;intros
 refine rO (λM=>HW M m A n c B k d) ?_;generalize m.check=b at *;refine e_ ?_
 exact mZ
def PX(m:Mg)(e:Ending)(H':List aG):Prop:=∃a b,e=.returned (.tuple #[.slice a (m.body.length+7) b,a! 0])/\H'=[own bH a (m.body.length+7) b m.enc]
theorem S8(hI:Rd E gJ A n c m.ids)(hC:Rd E bO B k d m.cL)(h:m.check=0):aF prog E 178 #[.agg (fV m A n c B k d).toArray] [] (PX m):=by
 have hn:=hI.len;have hk:=hC.len;have g1:=hI.cap;have e7:=hC.cap;have e3:=cS;have e6:=(Mg.jZ h).1;have e4:=Mg.XV h;have e5:=Mg.ends h;have a8:4<=maxLen:=sD;have a9:=SU m A n c B k d;have o1:1<=1/\1<=8:=o_;have o2:1<=2/\2<=8:=o_;have b3:∀x∈[m.kind,m.fr,m.to],0<=x/\x<=65535:=λx t=>by simp at t;omega
 have z0:0=([]:o!).length:=rfl;have z1:3<=100:=o_;have z2:0<=100000:=o_;have z3:0+1*3=3:=o_;have j:3=([]++wn 1 [m.kind,m.fr,m.to]).length:=by rw[bR,BU];rfl
 have z4:3<=100000:=o_;have z5:3<=80000:=o_;unfold PX Mg.enc;refine x_ func178 ntmps178 ?_;intros
 refine rO (λM=>HW M m A n c B k d) ?_;rw[h];refine e_ ?_;intros
 rename_i gb gw gs;refine L.conv (aB.mR bH none) ?_;refine cl sD sK aH (λM W=>DZ M gw none 0 0 [] 1 3 1 rfl o1 _ 3 3 [m.kind,m.fr,m.to] bK b3 z1 z0 z2 z3) ?_;rintro e r ⟨rfl,P,R,rfl⟩;refine gk bU ?_;generalize q:[]++wn 1 [m.kind,m.fr,m.to]=g at *;rcases(show m.kind=1\/m.kind=2\/m.kind=3\/m.kind=4 by omega) with b|b|b|b
 ·have⟨w,y,f3⟩:=Mg.ZW h b;have a:=Mg.P9 b;rw[q] at a;have b9:3=g.length:=j;have c0:4<=100:=o_;have c7:3+2*4=11:=o_;have N:11=(g++wn 2 m.ks).length:=by rw[bR,BU,<-j];rfl
  have c8:1<=100:=o_;have c9:11<=100000:=o_;have e0:11+1*1=12:=o_;have e1:∀x∈[m.base],0<=x/\x<=65535:=λx t=>by simp at t;omega
  have O:12=((g++wn 2 m.ks)++wn 1 [m.base]).length:=by rw[bR,BU,<-N];rfl
  have e2:1<=12:=o_;have K:12<=4096:=o_;refine c_ ?_
  refine cl sD sK aH (λM W=>DZ M gw P 3 R g 2 11 2 rfl o2 (some ⟨gb,3,none⟩) 4 4 m.ks (W.arr aV rfl a8 a9) w c0 b9 z4 c7) ?_;rintro e r ⟨rfl,u,v,rfl⟩;refine c_ ?_;intros
  refine cl sD sK aH (λM W=>DZ M gw u 11 v (g++wn 2 m.ks) 1 12 1 rfl o1 _ 1 1 [m.base] bK e1 c8 N c9 e0) ?_;rintro e r ⟨rfl,Z,c3,rfl⟩;refine gk bU ?_;rw[a] at O⊢;rw[<-O];refine c_ ?_
  refine cU (λM b=>Fz M Z 12 c3 m.body b e2 K) ?_;refine e_ ?_;intro Q U
  exact oN ⟨_,_,rfl,rfl⟩
 ·have⟨w,y,f3,f4,f5,f6⟩:=Mg.RR h b;have a:=Mg.QA b;rw[q,<-hn] at a;have f:3=g.length:=j;have b5:2<=100:=o_;have b6:3+1*2=5:=o_;have b7:∀x∈[m.base,(n:Int)],0<=x/\x<=65535:=λx t=>by simp at t;omega
  have J:5=(g++wn 1 [m.base,(n:Int)]).length:=by rw[bR,BU,<-j];rfl
  have b8:k<=48:=o_;have l:m.body.length=5+3*n+(1+22*k):=by rw[<-a];simp only[bR,<-J,D9,HB];omega
  refine c_ ?_;intros
  refine cl sD sK aH (λM W=>DZ M gw P 3 R g 1 5 1 rfl o1 _ 2 2 [m.base,(n:Int)] bK b7 b5 f z4 b6) ?_;rintro e r ⟨rfl,u,v,rfl⟩;refine gk bU ?_;generalize g++wn 1 [m.base,(n:Int)]=z at *;refine c_ ?_
  refine C.loop (X:=Nat×n!×Nat) (λx=>[(1,.pointer (some ⟨gb,0,none⟩)),(5,.pointer (some ⟨gw,0,none⟩)),(29,a! m.kind),(52,.slice A n c),(53,a! n),(54,a! x.1)]) (λx=>[aE gw 330 [.slice x.2.1 (5+3*x.1) x.2.2],own bH x.2.1 (5+3*x.1) x.2.2 (z++kV (m.ids.take x.1)),aE gb 195 (fV m A n c B k d)]) (λx=>x.1<=n) (λx=>n - x.1) (0,u,v) aK (by simp[kV];exact aC) (bY _) ?_;rintro⟨i,Z,c3⟩ G hi;dsimp only at hi⊢;by_cases g0:i<n
  ·have s:i<m.ids.length:=o_;have t:m.ids[i]?=some m.ids[i]:=bS s;have H:m.ids.take (i+1)=m.ids.take i++[m.ids[i]]:=rS s;have F:m.ids[i].may=true:=by rw[qR] at y;exact y _ (zL s)
   generalize m.ids[i]=x at t H F;have hz:(z++kV (m.ids.take i))++mA x=z++kV (m.ids.take (i+1)):=by rw[H,Rv,bF]
   have b0:5+3*i=(z++kV (m.ids.take i)).length:=by rw[bR,D9,dR,<-J];omega
   have b1:5+3*i<=90000:=o_;have b2:5+3*i+3=5+3*(i+1):=o_;refine c_ ?_;intros
   refine aU (λM=>Vm M gw Z (5+3*i) c3 (z++kV (m.ids.take i)) (5+3*(i+1)) x F b0 b1 b2) ?_;rintro e r ⟨rfl,Q,U,rfl⟩;refine gk bU ?_;rw[hz];refine c_ ?_
   exact⟨(i+1,Q,U),aK,aC,by dsimp only;omega,d_⟩
  obtain rfl:i=n:=o_;have D:m.ids.take i=m.ids:=fX o_;rw[D];refine c_ ?_
  refine cU (λM b=>QJ M B k d m.cL b b8) ?_;unfold GK;rw[f4];rintro e r ⟨Q,U,rfl,rfl⟩;refine gk bU ?_;rw[<-hk];refine c_ ?_;intros
  rw[a];have o:1<=5+3*i+(1+22*k):=o_;have p:5+3*i+(1+22*k)<=4096:=o_;rw[l];rename_i A5 c5 _ _;refine cU (λM b=>Fz M A5 (5+3*i+(1+22*k)) c5 m.body b o p) ?_;refine e_ ?_;intro A6 c6
  exact oN ⟨_,_,rfl,rfl⟩
 ·have⟨w,y⟩:=Mg.ZX h b;have a:=Mg.QB b;rw[q] at a;have f:3=g.length:=j;have l:m.body.length=8+13:=by rw[<-a];simp only[bR,<-f,Ju,bE.iP]
  refine c_ ?_
  refine aU (λM=>Vn M gw P 3 R g 8 m.key w f z5 rfl) ?_;rintro e r ⟨rfl,u,v,rfl⟩;refine c_ ?_
  refine aU (λM=>RZ M m.bD y) ?_;refine e_ ?_;intro Q U;intros
  rw[a];have o:1<=8+13:=o_;have p:8+13<=4096:=o_;rw[l];rename_i A5 c5 _ _;refine cU (λM b=>Fz M A5 (8+13) c5 m.body b o p) ?_;refine e_ ?_;intro A6 c6
  exact oN ⟨_,_,rfl,rfl⟩
 ·have w:=Mg.ZY h b;have a:=Mg.QC b;rw[q] at a;have f:3=g.length:=j;have l:m.body.length=8:=by rw[<-a];simp only[bR,<-f,Ju]
  refine c_ ?_
  refine aU (λM=>Vn M gw P 3 R g 8 m.key w f z5 rfl) ?_;rintro e r ⟨rfl,u,v,rfl⟩;refine gk bU ?_;rw[a];refine c_ ?_
  have o:1<=8:=o_;have p:8<=4096:=o_;rw[l];refine cU (λM b=>Fz M u 8 v m.body b o p) ?_;refine e_ ?_;intro A6 c6
  exact oN ⟨_,_,rfl,rfl⟩
end
def MT(g:Nat)(A:n!)(n c:Nat)(l:o!)(s:Rs)(v:p!)(e:Ending)(H':List aG):Prop:=∃a d b,e=.returned v/\mW A n c l a d b s.2/\H'=[gA g true s.1 a d b]
abbrev rv(g:Nat):p!:=.agg #[.pointer (some ⟨g,0,none⟩)]
section
variable (E:Env) (g:Nat) (A:n!) (n c:Nat)
def pO(s s':Rs)(w:Nat)(v:Int)(l:dW s w=s')(m:((vl s w:Nat):Int)=v)(W:Int)(j:W=w)(p:w=1\/w=2)(x:Rd E bH A n c s.2) :
  aF prog E 186 #[rv g,a! W] [gA g true s.1 A n c] (MT g A n c s.2 s' (a! v)):=by
 subst l m;have f:wid W=(w:Int):=by unfold wid;rw[b! o_];exact j
 have k:=oQ s w;have h:256 ^ w<=65536:=by rcases p with rfl|rfl<;>decide
 have d:vl s w<18446744073709551616:=o_;have u:IntKind.i64.wrap ((vl s w:Nat):Int)=((vl s w:Nat):Int):=(GJ d).trans (oO o_);refine x_ func186 ntmps186 ?_;intros
 refine cU (λM=>zB M g s.1 A n c s.2 W) ?_;have⟨o,i⟩:∃o,nx s.1 s.2 (w:Int)=(o,dW s w):=⟨_,rfl⟩
 have a:=II s w;rw[i] at a;rw[f,i];rintro e r ⟨q,y,t,rfl,b,rfl⟩;dsimp only at a b⊢;rw[a];refine c_ ?_
 exact dS ⟨_,_,_,rfl,b,rfl⟩
def cW(s:Rs)(p:Rd E bH A n c s.2):aF prog E 246 #[rv g] [gA g true s.1 A n c] (MT g A n c s.2 (yG s) (.agg (EH s).cs.toArray)):=by
 refine x_ func246 ntmps246 ?_;intros;rename_i i o;refine rB (l_ [0,2] (g_ 1 (g_ 3 (n_ 4 (g_ 5 .nil))))) ([aE i 279 [.pointer (some ⟨g,0,none⟩)]]) (c_ ?_);refine cg rfl sD bB sK aH (λM j=>pO M g A n c s (dW s 1) 1 _ rfl rfl 1 rfl (.inl rfl) bK) ?_;rintro e f ⟨d,k,h,rfl,a,rfl⟩;refine c_ ?_;refine cg rfl sD bB sK aH (λM j=>pO M g d k h (dW s 1) (yG s) 2 _ rfl rfl 2 rfl (.inr rfl) (a _ bK)) ?_;rintro e f ⟨l,q,m,rfl,b,rfl⟩;refine c_ ?_;apply eP;(· exact rfl);(· exact aJ);(· exact rfl);(· exact rfl);(· exact rfl);(· exact aV);(· exact rfl);rotate_left;(· exact(⟨_,_,_,rfl,a.trans b,rfl⟩));(· exact aC)
def Sz(s:Rs)(u:Rd E bH A n c s.2):aF prog E 249 #[rv g] [gA g true s.1 A n c] (MT g A n c s.2 (DB s) (.agg (Bw s).cs.toArray)):=by
 refine x_ func249 ntmps249 ?_;intros;rename_i l t;refine rB (l_ [0,2,4] (g_ 1 (g_ 3 (g_ 5 (l_ [6,7] (g_ 8 .nil)))))) ([aE l 279 [.pointer (some ⟨g,0,none⟩)]]) (c_ ?_);refine AV (λM=>cW M g A n c s) ?_;rintro e f ⟨h,o,j,rfl,a,rfl⟩;refine c_ ?_;refine cg rfl sD bB sK aH (λM m=>pO M g h o j (yG s) (dW (yG s) 1) 1 _ rfl rfl 1 rfl (.inl rfl) (a _ bK)) ?_;rintro e f ⟨i,p,k,rfl,b,rfl⟩;refine c_ ?_;refine cg rfl sD bB sK aH (λM m=>pO M g i p k (dW (yG s) 1) (DB s) 1 _ rfl rfl 1 rfl (.inl rfl) (b _ (a _ bK))) ?_;rintro e f ⟨q,v,r,rfl,d,rfl⟩;refine c_ ?_;apply eP;(· exact rfl);(· exact aJ);(· exact rfl);(· exact rfl);(· exact rfl);(· exact aV);(· exact rfl);rotate_left;(· exact(⟨_,_,_,rfl,(a.trans b).trans d,rfl⟩));(· exact aC)
end
def aF.NS{P:t!}{E:Env}{f:FuncId}{args:Array p!}{H:List aG}{Q Q':Ending->List aG->Prop}(h:aF P E f args H Q)(hq:∀e H',Q e H'->∃H'',Q' e H''/\aB E H' H''):aF P E f args H Q':=by
 exact λhds w hw=>(h hds w hw).mono λ_ _ ⟨H',h1,h2⟩=>(hq _ _ h2).elim λH'' h3=>⟨H'',h3.2 _ h1,h3.1⟩
def KR{P:t!}{E:Env}{fn:Func}{R:Ending->List aG->Prop}{F:Nat->p!}{H H1:List aG}{e:Ex}(hc:aB E H H1)(h:mB P E fn R e F H1)(hp:∀c,e≠.panic c:=by intro c h;cases h):mB P E fn R e F H:=by
 cases e with
 |panic c=>exact i! rfl (hp c)
 |normal=>have⟨v,H',h1,h2,h3⟩:=h;exact⟨v,H',λw hw=>h1 w (hc w hw),hc.trans h2,h3⟩
 |ret=>have⟨v,H',h1,h2,h3⟩:=h;exact⟨v,H',λw hw=>h1 w (hc w hw),hc.trans h2,h3⟩
 |exit id=>exact h
def AP(s:Rs)(w:Nat):(dW s w).2.length<=s.2.length:=by
 unfold dW nx;split
 ·exact bM _
 ·split
  ·exact bM _
  ·simp
def Rx(s:Rs)(i:Nat):(qA s i).2.length<=s.2.length:=by
 induction i with
 |zero=>exact bM _
 |succ i a=>exact iR (iR (AP _ _) (AP _ _)) a
def Fc(s:Rs):Nat->Int×Int×Int×Int
 |0=>(0,0,0,0)
 |1=>(jE s 0,0,0,0)
 |2=>(jE s 0,jE s 1,0,0)
 |3=>(jE s 0,jE s 1,jE s 2,0)
 |_=>(jE s 0,jE s 1,jE s 2,jE s 3)
section
variable (E:Env) (A:n!) (n c:Nat)
def aPg(l:o!)(hr:Rd E bH A n c l)(hl:n<=140737488355300):aF prog E 248 #[.slice A n c] [] λe H'=>∃O co ek,e=.returned (.tuple #[.slice O (wY l).length co,a! ek])/\H'=[own bO O (wY l).length co (wY l)]:=by
 by_cases h:∃x t,l=x::t/\x.toNat<=48/\t.length=22*x.toNat
 ·obtain⟨x,t,rfl,h1,h2⟩:=h;refine aF.NS (YG E A n c x t hr h1 h2) ?_;have hl:wY (x::t)=(pieces x.toNat t).getD []:=c! ⟨h1,h2⟩;rw[hl];cases pieces x.toNat t with
  |none =>
   rintro e H' ⟨rfl,rfl⟩;exact⟨_,⟨none,0,16,rfl,rfl⟩,aB.nil bO⟩
  |some xs =>
   rintro e H' ⟨O,co,rfl,rfl⟩;exact⟨_,⟨O,co,0,rfl,rfl⟩,aB.refl⟩
 ·refine aF.NS (YF E A n c l hr hl λx t he hq=>h ⟨x,t,he,hq⟩) ?_;have hl:wY l=[]:=by
   unfold wY;split
   ·rfl
   ·exact b! λhq=>h ⟨_,_,rfl,hq⟩
  rw[hl];rintro e H' ⟨rfl,rfl⟩;exact⟨_,⟨none,0,16,rfl,rfl⟩,aB.nil bO⟩
def ZQ(q:Rd E bH A n c []):aF prog E 250 #[.slice A n c] [] λe i=>e=.returned (.tuple #[.agg pZ.cs.toArray,a! 16])/\i=[]:=by
 have J:=q.len;have p:=q.cap;have m:1<=1/\1<=8:=o_;have R:1<=2/\2<=8:=o_;have U:1<=8/\8<=8:=o_;have l:st gF [] 5=(true,[]):=rfl;have W:va gF [] 0=0:=rfl;have X:va gF [] 1=0:=rfl;have Z:va gF [] 2=0:=rfl;have v3:va gF [] 3=0:=rfl;have v4:va gF [] 4=0:=rfl;refine x_ func250 ntmps250 ?_;intros
 refine cU (λM H=>AJ M A n c [] H (by simp at J;omega)) ?_;rintro e i ⟨g,r,x,rfl,h5,h6,rfl⟩;refine gk bU ?_;unfold nQ;refine c_ ?_;intros
 rename_i o j;refine L.step sD (S.fN rfl cQ rfl rfl func297 q_ rfl aH (λM k=>BM M j g (false,[]) (st gF [] 1) 1 0 rfl W r n x 1 rfl m bK) ?_);rintro e i ⟨s,K,y,rfl,a,rfl⟩;refine c_ ?_
 refine L.step sD (S.fN rfl cQ rfl rfl func297 q_ rfl aH (λM k=>BM M j g (st gF [] 1) (st gF [] 2) 1 0 rfl X s K y 1 rfl m (a _ bK)) ?_);rintro e i ⟨t,N,z,rfl,b,rfl⟩;refine c_ ?_
 refine L.step sD (S.fN rfl cQ rfl rfl func297 q_ rfl aH (λM k=>BM M j g (st gF [] 2) (st gF [] 3) 8 0 rfl Z t N z 8 rfl U (b _ (a _ bK))) ?_);rintro e i ⟨u,O,B,rfl,d,rfl⟩;refine c_ ?_;intros
 refine L.step sD (S.fN rfl cQ rfl rfl func297 q_ rfl aH (λM k=>BM M j g (st gF [] 3) (st gF [] 4) 1 0 rfl v3 u O B 1 rfl m (d _ (b _ (a _ bK)))) ?_);rintro e i ⟨v,P,D,rfl,h,rfl⟩;refine c_ ?_
 refine L.step sD (S.fN rfl cQ rfl rfl func297 q_ rfl aH (λM k=>BM M j g (st gF [] 4) (st gF [] 5) 2 0 rfl v4 v P D 2 rfl R (h _ (d _ (b _ (a _ bK))))) ?_);rintro e i ⟨w,Q,F,rfl,f,rfl⟩;refine c_ ?_
 rw[l] at f⊢;dsimp only at f⊢;refine cl sD sK aH (λM k=>JQ M g true w Q F [] (f _ (h _ (d _ (b _ (a _ bK)))))) (e_ ?_)
 exact lD
def aLv(o:Option (o!))(g:∀y,o=some y->y.length=13)(b:Rd E bH A n c (o.getD [])):aF prog E 250 #[.slice A n c] [] λe a=>∃d,e=.returned (.tuple #[.agg ((o.bind oK).getD pZ).cs.toArray,a! d])/\a=[]:=by
 cases o with
 |none =>
  refine aF.mono (ZQ E A n c b) ?_;rintro e a ⟨rfl,rfl⟩;exact⟨16,rfl,rfl⟩
 |some y =>
  have f:=b.len;refine aF.mono (RO E A n c y _ rfl b (f.trans (g y rfl))) ?_;rintro e a ⟨rfl,rfl⟩;exact⟨_,rfl,rfl⟩
end
abbrev kz:bV:=⟨⟨0,0⟩,0,false⟩
abbrev ez:bE:=⟨0,0,0,⟨0,0⟩⟩
abbrev Au(a fr to:Int):Mg:=⟨a,fr,to,0,0,0,0,0,[],[],kz,ez⟩
section
variable (E:Env) (g gm:Nat) (A:n!) (n c:Nat) (s:Rs) (fr to:Int)
def MB(g gm:Nat)(m:Mg)(e:Ending)(H':List aG):Prop:=∃O p q B k d h a f b,e=.returned (.tuple #[])/\H'=[aE gm 195 (fV m O p q B k d),own gJ O p q m.ids,own bO B k d m.cL,gA g true h a f b]
def mb1(u:Rd E bH A n c s.2):aF prog E 187 #[rv g,.pointer (some ⟨gm,0,none⟩)] [aE gm 195 (fV (Au 1 fr to) none 0 0 none 0 0),gA g true s.1 A n c] (MB g gm ⟨1,fr,to,jE s 0,jE s 1,jE s 2,jE s 3,(vl (qB s 4) 1:Nat),[],[],kz,ez⟩):=by
 refine x_ func187 ntmps187 ?_;intros;rename_i j;refine C.loop (X:=Nat×(Int×Int×Int×Int)×n!×Nat×Nat) (λx=>[(1,.pointer (some ⟨gm,0,none⟩)),(2,.pointer (some ⟨j,0,none⟩)),(12,a! 1),(15,a! x.1)]) (λx=>[aE j 279 [.pointer (some ⟨g,0,none⟩)],aE gm 195 (fV ⟨1,fr,to,x.2.1.1,x.2.1.2.1,x.2.1.2.2.1,x.2.1.2.2.2,0,[],[],kz,ez⟩ none 0 0 none 0 0),gA g true (qB s x.1).1 x.2.2.1 x.2.2.2.1 x.2.2.2.2]) (λx=>x.1<=4/\x.2.1=Fc s x.1/\mW A n c s.2 x.2.2.1 x.2.2.2.1 x.2.2.2.2 (qB s x.1).2) (λx=>4 - x.1) (0,(0,0,0,0),A,n,c) aK aC ⟨bY _,rfl,mW.refl⟩ ?_;rintro⟨i,t,k,m,l⟩ G ⟨r,q,b⟩;dsimp only at r q b⊢;subst q;rcases(show i=0\/i=1\/i=2\/i=3\/i=4 by omega) with rfl|rfl|rfl|rfl|rfl
 ·dsimp only[Fc];refine c_ ?_;refine rB (l_ [0,1,2,4,5] (g_ 3 (n_ 6 (g_ 7 .nil)))) ([aE j 279 [.pointer (some ⟨g,0,none⟩)]]) (c_ ?_);refine cg rfl sD bB sK aH (λM p=>pO M g k m l (qB s 0) (qB s 1) 2 (jE s 0) rfl rfl 2 rfl (.inr rfl) (b _ bK)) ?_;rintro e o ⟨d,h,f,rfl,a,rfl⟩;refine c_ ?_;exact⟨(1,(jE s 0,0,0,0),d,h,f),aK,aC,⟨by dsimp only;omega,rfl,b.trans a⟩,d_⟩
 ·dsimp only[Fc];refine c_ ?_;refine rB (l_ [0,1,2,4,5] (g_ 3 (n_ 6 (g_ 7 .nil)))) ([aE j 279 [.pointer (some ⟨g,0,none⟩)]]) (c_ ?_);refine cg rfl sD bB sK aH (λM p=>pO M g k m l (qB s 1) (qB s 2) 2 (jE s 1) rfl rfl 2 rfl (.inr rfl) (b _ bK)) ?_;rintro e o ⟨d,h,f,rfl,a,rfl⟩;refine c_ ?_;exact⟨(2,(jE s 0,jE s 1,0,0),d,h,f),aK,aC,⟨by dsimp only;omega,rfl,b.trans a⟩,d_⟩
 ·dsimp only[Fc];refine c_ ?_;refine rB (l_ [0,1,2,4,5] (g_ 3 (n_ 6 (g_ 7 .nil)))) ([aE j 279 [.pointer (some ⟨g,0,none⟩)]]) (c_ ?_);refine cg rfl sD bB sK aH (λM p=>pO M g k m l (qB s 2) (qB s 3) 2 (jE s 2) rfl rfl 2 rfl (.inr rfl) (b _ bK)) ?_;rintro e o ⟨d,h,f,rfl,a,rfl⟩;refine c_ ?_;exact⟨(3,(jE s 0,jE s 1,jE s 2,0),d,h,f),aK,aC,⟨by dsimp only;omega,rfl,b.trans a⟩,d_⟩
 ·dsimp only[Fc];refine c_ ?_;refine rB (l_ [0,1,2,4,5] (g_ 3 (n_ 6 (g_ 7 .nil)))) ([aE j 279 [.pointer (some ⟨g,0,none⟩)]]) (c_ ?_);refine cg rfl sD bB sK aH (λM p=>pO M g k m l (qB s 3) (qB s 4) 2 (jE s 3) rfl rfl 2 rfl (.inr rfl) (b _ bK)) ?_;rintro e o ⟨d,h,f,rfl,a,rfl⟩;refine c_ ?_;exact⟨(4,(jE s 0,jE s 1,jE s 2,jE s 3),d,h,f),aK,aC,⟨by dsimp only;omega,rfl,b.trans a⟩,d_⟩
 ·dsimp only[Fc];refine c_ ?_;refine cl sD sK aH (λM p=>pO M g k m l (qB s 4) (dW (qB s 4) 1) 1 (vl (qB s 4) 1:Nat) rfl rfl 1 rfl (.inl rfl) (b _ bK)) ?_;rintro e o ⟨d,h,f,rfl,a,rfl⟩;refine c_ ?_;refine KR ((aB.nil bO).trans (aB.nil gJ)) ?_;exact gG rfl aC (⟨none,0,0,none,0,0,_,_,_,_,rfl,rfl⟩)
def mb4(h:Rd E bH A n c s.2):aF prog E 187 #[rv g,.pointer (some ⟨gm,0,none⟩)] [aE gm 195 (fV (Au 4 fr to) none 0 0 none 0 0),gA g true s.1 A n c] (MB g gm ⟨4,fr,to,0,0,0,0,0,[],[],Bw s,ez⟩):=by
 refine x_ func187 ntmps187 ?_;intros
 refine cU (λM=>Sz M g A n c s) ?_;rintro e d ⟨b,j,f,rfl,a,rfl⟩;refine gk bU ?_;generalize Bw s=i at *;refine c_ ?_
 refine KR ((aB.nil bO).trans (aB.nil gJ)) ?_;exact gG rfl aC (⟨none,0,0,none,0,0,_,_,_,_,rfl,rfl⟩)
def mb0(a:Int)(b:¬(1<=a/\a<=4)):aF prog E 187 #[rv g,.pointer (some ⟨gm,0,none⟩)] [aE gm 195 (fV (Au a fr to) none 0 0 none 0 0),gA g true s.1 A n c] (MB g gm (Au a fr to)):=by
 have k1:decide (a=1)=false:=e! o_;have k2:decide (a=2)=false:=e! o_;have k3:decide (a=3)=false:=e! o_;have k4:decide (a=4)=false:=e! o_;refine x_ func187 ntmps187 ?_;intros
 refine KR ((aB.nil bO).trans (aB.nil gJ)) ?_;exact gG rfl aC (⟨none,0,0,none,0,0,_,_,_,_,rfl,rfl⟩)
def mb3(F:Rd E bH A n c s.2)(q:s.2.length<=140737488355300):aF prog E 187 #[rv g,.pointer (some ⟨gm,0,none⟩)] [aE gm 195 (fV (Au 3 fr to) none 0 0 none 0 0),gA g true s.1 A n c] (MB g gm ⟨3,fr,to,0,0,0,0,0,[],[],Bw s,EN (DB s)⟩):=by
 have h:(DB s).2.length<=140737488355328:=iR (iR (iR (AP _ _) (AP _ _)) (iR (AP _ _) (AP _ _))) (iR q sD);refine x_ func187 ntmps187 ?_;intros
 refine cU (λM=>Sz M g A n c s) ?_;rintro e k ⟨j,v,l,rfl,b,rfl⟩;refine gk bU ?_;generalize Bw s=H at *;generalize DB s=a at *;refine c_ ?_
 refine cl sD sK aH (λM D=>Cm M g a.1 j v l a.2 13 (b _ bK) h) ?_;have t:∀y,(nx a.1 a.2 13).1=some y->y.length=13:=λy u=>by have:=(TM u).2;omega
 have p:EN a=((nx a.1 a.2 13).1.bind oK).getD pZ:=rfl;generalize nx a.1 a.2 13=o at *;rintro e k ⟨w,J,x,B,d,rfl,i,r,m,rfl⟩;refine c_ ?_
 refine cU (λM=>aLv M B _ d o.1 t) ?_;rw[<-p];generalize EN a=f at *;refine e_ ?_;intro z
 refine KR ((aB.nil bO).trans (aB.nil gJ)) ?_;exact gG rfl aC (⟨none,0,0,none,0,0,_,_,_,_,rfl,rfl⟩)
def mb2(hr:Rd E bH A n c s.2)(hl:s.2.length<=140737488355300):aF prog E 187 #[rv g,.pointer (some ⟨gm,0,none⟩)] [aE gm 195 (fV (Au 2 fr to) none 0 0 none 0 0),gA g true s.1 A n c] (MB g gm ⟨2,fr,to,0,0,0,0,(vl s 1:Nat),AA (dW (dW s 1) 1) (Bs (dW s 1)),wY (DD (qA (dW (dW s 1) 1) (Bs (dW s 1)))),kz,ez⟩):=by
 refine x_ func187 ntmps187 ?_;intros;refine cU (λM=>pO M g A n c s (dW s 1) 1 (vl s 1:Nat) rfl rfl 1 rfl (.inl rfl)) ?_;rintro e t ⟨A1,n1,c1,rfl,k,rfl⟩;refine c_ ?_;refine cl sD sK aH (λM D=>pO M g A1 n1 c1 (dW s 1) (dW (dW s 1) 1) 1 (vl (dW s 1) 1:Nat) rfl rfl 1 rfl (.inl rfl) (k _ bK)) ?_;rintro e t ⟨R,n2,W,rfl,m,rfl⟩;refine gk bU ?_;have p:min (vl (dW s 1) 1:Int) 16=(Bs (dW s 1):Nat):=by unfold Bs;omega
 have q:(dW (dW s 1) 1).2.length<=140737488355300:=iR (iR (AP _ _) (AP _ _)) hl;have hN:Bs (dW s 1)<=16:=Nat.min_le_right _ _;have F:mW A n c s.2 R n2 W (dW (dW s 1) 1).2:=k.trans m;generalize Bs (dW s 1)=N at *;generalize dW (dW s 1) 1=f at *;generalize vl s 1=j at *;refine c_ ?_;rw[p];rename_i u;refine C.loop (X:=Nat×(n!×Nat)×n!×Nat×Nat) (λx=>[(1,.pointer (some ⟨gm,0,none⟩)),(2,.pointer (some ⟨u,0,none⟩)),(12,a! 2),(40,a! N),(41,a! x.1)]) (λx=>[aE u 279 [.pointer (some ⟨g,0,none⟩)],aE gm 195 (fV ⟨2,fr,to,0,0,0,0,j,[],[],kz,ez⟩ x.2.1.1 x.1 x.2.1.2 none 0 0),own gJ x.2.1.1 x.1 x.2.1.2 (AA f x.1),gA g true (qA f x.1).1 x.2.2.1 x.2.2.2.1 x.2.2.2.2]) (λx=>x.1<=N/\mW A n c s.2 x.2.2.1 x.2.2.2.1 x.2.2.2.2 (qA f x.1).2) (λx=>N - x.1) (0,(none,0),R,n2,W) aK (by simp only[AA,qA];exact(aB.nil gJ).trans aC) ⟨bY _,F⟩ ?_;rintro⟨i,⟨O,co⟩,v,P,w⟩ G ⟨hi,b⟩;dsimp only at hi b⊢;by_cases a9:i<N
 ·refine c_ ?_;refine C.fL 11 (l_ [0,1,2,3,4,5] (g_ 6 (g_ 7 (g_ 8 (l_ [9,10] (g_ 11 .nil)))))) ([aE u 279 [.pointer (some ⟨g,0,none⟩)],aE gm 195 (fV ⟨2,fr,to,0,0,0,0,j,[],[],kz,ez⟩ O i co none 0 0)]) q_ q_ aC (c_ ?_);refine cg rfl sD bB sK aH (λM D=>cW M g v P w (qA f i) (b _ bK)) ?_;rintro e t ⟨U,n4,Z,rfl,h,rfl⟩;refine gd bU aC ?_;have hq:yG (qA f i)=qA f (i+1):=rfl;rw[hq] at h⊢;have hz:AA f i++[EH (qA f i)]=AA f (i+1):=rfl;have J:=Ry f i;generalize EH (qA f i)=a at *;refine c_ ?_;intros;rename_i O' z _ _;rw[hz];exact⟨(i+1,(O',z),U,n4,Z),aK,aC,⟨by dsimp only;omega,b.trans h⟩,d_⟩
 ·obtain rfl:i=N:=o_;have J:=Ry f i;have r:(qA f i).2.length<=140737488355328:=iR (Rx _ _) (iR q sD);have K:=aRs (qA f i);have H:(DD (qA f i)).length<=140737488355300:=by unfold DD;split;(· exact bY _);(· exact iR (Rx _ _) q)
  generalize qA f i=l at *;refine c_ ?_;refine rB (l_ [0,1,2,3] (g_ 4 (g_ 5 (l_ [6,7,8,9,10] .nil)))) ([aE u 279 [.pointer (some ⟨g,0,none⟩)]]) (c_ ?_);refine cg rfl sD bB sK aH (λM D=>HT M g l.1 v P w l.2 (b _ bK)) (e_ ?_);refine cg rfl sD bB sK aH (λM D=>Cm M g l.1 v P w l.2 _ (b _ bK) r) ?_;generalize nx l.1 l.2 _=o at *;rintro e t ⟨U,n4,Z,B,d,rfl,h,b0,a8,rfl⟩;refine gd bU aC ?_;rw[K];generalize DD l=y at *;refine c_ ?_;refine cU (λM h1=>aPg M B y.length d y h1 H) ?_;rintro e t ⟨Q,cq,ek,rfl,rfl⟩;refine gk bU ?_;generalize wY y=ch at *;refine c_ ?_;exact gG rfl aC (⟨_,_,_,_,_,_,_,_,_,_,rfl,rfl⟩)
end
def R?(l:o!):∀c∈wY l,bQ c.n:=by
 intro c a;unfold wY at a;split at a
 ·exact i! a cZ
 ·rename_i h t;split at a
  ·rename_i d;cases b:pieces h.toNat t with
   |none=>rw[b] at a;exact i! a cZ
   |some e =>
    rw[b] at a;exact((No b d.2).2.2.2 c a).2.2.2.2.2.1
  ·exact i! a cZ
def aCu(s:Rs):bQ (EN s).n:=by
 unfold EN;cases(nx s.1 s.2 (13:Nat)).1 with
 |none=>exact bQ.zero
 |some y =>
  show bQ ((oK y).getD pZ).n;cases h:oK y with
  |none=>exact bQ.zero
  |some f =>
   have:=Qz y;rw[<-(Mj h).1] at this;exact this.2.2.1
section
variable (E:Env) (g gm:Nat) (A:n!) (n c:Nat)
def aGs(x:o!)(f:Rd E bH A n c (st dU x 3).2)(o:(st dU x 3).2.length<=140737488355300):aF prog E 187 #[rv g,.pointer (some ⟨gm,0,none⟩)] [aE gm 195 (fV (Au (va dU x 0:Nat) (va dU x 1:Nat) (va dU x 2:Nat)) none 0 0 none 0 0),gA g true (st dU x 3).1 A n c] λe d=>∃m,Lm x m/\m.ok/\MB g gm m e d:=by
 by_cases i:va dU x 0=1
 ·have a:=Lm.ask i;unfold yL at a;rw[i] at a⊢;exact aF.mono (mb1 E g gm A n c _ _ _ f) λe d h=>⟨_,a,⟨λc b=>i! b cZ,bQ.zero⟩,h⟩
 by_cases j:va dU x 0=2
 ·have a:=Lm.push j;unfold yL at a;rw[j] at a⊢;exact aF.mono (mb2 E g gm A n c _ _ _ f o) λe d h=>⟨_,a,⟨R? _,bQ.zero⟩,h⟩
 by_cases k:va dU x 0=3
 ·have a:=Lm.CG k;unfold yL at a;rw[k] at a⊢;exact aF.mono (mb3 E g gm A n c _ _ _ f o) λe d h=>⟨_,a,⟨λc b=>i! b cZ,aCu _⟩,h⟩
 by_cases l:va dU x 0=4
 ·have a:=Lm.vJ l;unfold yL at a;rw[l] at a⊢;exact aF.mono (mb4 E g gm A n c _ _ _ f) λe d h=>⟨_,a,⟨λc b=>i! b cZ,bQ.zero⟩,h⟩
 ·exact aF.mono (mb0 E g gm A n c _ _ _ _ o_) λe d h=>⟨_,Lm.none o_,⟨λc b=>i! b cZ,bQ.zero⟩,h⟩
def mframe(l:o!)(j:Rd E bH A n c l)(i:n<=140737488355200)(x:o!)(a:((Frm.kJ l).map Prod.fst).getD []=x):aF prog E 184 #[.slice A n c] [] λe h=>∃B d k f,e=.returned (.tuple #[.slice B x.length d,a! k,.bool f])/\h=[own bH B x.length d x]:=by
 cases b:Frm.kJ l with
 |none =>
  rw[b] at a;subst a;refine aF.NS (Rk E A n c l j i b) ?_;rintro e h ⟨rfl,rfl⟩;exact⟨_,⟨none,0,0,false,rfl,rfl⟩,aB.nil bH⟩
 |some p =>
  have⟨y,k⟩:=p;rw[b] at a;change y=x at a;subst a;refine aF.mono (Rl E A n c l j i y k b) ?_;rintro e h ⟨B,d,rfl,rfl⟩;exact⟨B,d,k,true,rfl,rfl⟩
def GP(o:Option Mg)(e:Ending)(H':List aG):Prop :=
 match o with
 |some m=>∃O p q B k d,e=.returned (.tuple #[.agg (fV m O p q B k d).toArray,a! 0])/\H'=[own gJ O p q m.ids,own bO B k d m.cL]
 |none=>e=.returned (.tuple #[.agg (fV (Au 0 0 0) none 0 0 none 0 0).toArray,a! 16])/\H'=[]
theorem HZ(b:o!)(hr:Rd E bH A n c b)(hl:n<=140737488355200):aF prog E 121 #[.slice A n c] [] (GP (kO b)):=by
 have hn:=hr.len;have⟨x,hx⟩:∃x,((Frm.kJ b).map Prod.fst).getD []=x:=⟨_,rfl⟩
 have hxl:x.length<=140737488355200:=by
  cases hf:Frm.kJ b with
  |none=>rw[hf] at hx;subst hx;exact bY _
  |some p =>
   have⟨y,k⟩:=p;rw[hf] at hx;change y=x at hx;subst hx;have:=Frm.FR hf;omega
 have hxl2:x.length<=140737488355300:=o_;have hs0:st dU x 0=(false,x):=rfl;have hsl:(st dU x 3).2.length<=140737488355300:=iR (iR (AP _ _) (iR (AP _ _) (AP (false,x) 1))) hxl2;refine x_ func121 ntmps121 ?_;intros
 refine cU (λM h1=>mframe M A n c b h1 hl x hx) ?_;refine e_ ?_;intro B d k f
 refine cU (λM h1=>AJ M B x.length d x h1 hxl2) ?_;rintro e H' ⟨g,A0,c0,rfl,h5,h6,rfl⟩;refine gk bU ?_;unfold nQ;repeat ((fail_if_success (refine C.seq (x:=Code.region 3 _ _) ?_));first|refine mV ?_|refine tU ?_|intro _|refine Dr.two ?_ ?_)
 rename_i g2 g7;refine C.cut (X:=Nat×n!×Nat×Nat) (λy=>[(0,.slice A n c),(2,.pointer (some ⟨g2,0,none⟩)),(7,.pointer (some ⟨g7,0,none⟩)),(8,.pointer (some ⟨y.1,0,none⟩))]) (λy=>[aE g7 279 [.pointer (some ⟨g,0,none⟩)],aE y.1 195 (fV (Au (va dU x 0:Nat) (va dU x 1:Nat) (va dU x 2:Nat)) none 0 0 none 0 0),gA g true (st dU x 3).1 y.2.1 y.2.2.1 y.2.2.2,aE g2 195 (fV (Au 0 0 0) none 0 0 none 0 0),own bH A0 x.length c0 x]) (λy=>mW A0 x.length c0 x y.2.1 y.2.2.1 y.2.2.2 (st dU x 3).2) ?_ ?_
 ·refine rB (l_ [0,2,4] (.two 1 (.two 3 (.two 5 (n_ 6 (g_ 7 (g_ 8 .nil))) 7 (g_ 5 (n_ 6 (g_ 8 .nil)))) 7 (g_ 3 (g_ 5 (n_ 6 (g_ 8 .nil))))) 7 (g_ 1 (g_ 3 (g_ 5 (n_ 6 (g_ 8 .nil))))))) ([aE g7 279 [.pointer (some ⟨g,0,none⟩)]]) (c_ ?_)
  refine Dr.two ?_ ?_
  ·refine lC rfl sD bB sK aH (λM hE=>pO M g A0 x.length c0 (false,x) (st dU x 1) 1 (va dU x 0:Nat) rfl rfl 1 rfl (.inl rfl) bK) ?_;rintro e H' ⟨A1,n1,c1,rfl,hal1,rfl⟩;refine c_ ?_
   refine Dr.two ?_ ?_
   ·refine lC rfl sD bB sK aH (λM hE=>pO M g A1 n1 c1 (st dU x 1) (st dU x 2) 1 (va dU x 1:Nat) rfl rfl 1 rfl (.inl rfl) (hal1 _ bK)) ?_;rintro e H' ⟨A2,n2,c2,rfl,hal2,rfl⟩;refine c_ ?_
    refine Dr.two ?_ ?_
    ·refine lC rfl sD bB sK aH (λM hE=>pO M g A2 n2 c2 (st dU x 2) (st dU x 3) 1 (va dU x 2:Nat) rfl rfl 1 rfl (.inl rfl) (hal2 _ (hal1 _ bK))) ?_;rintro e H' ⟨A3,n3,c3,rfl,hal3,rfl⟩;refine c_ ?_;intros
     exact⟨(_,_,_,_),aK,aC,(hal1.trans hal2).trans hal3⟩
    ·refine c_ ?_;intros
     refine cg rfl sD bB sK aH (λM hE=>pO M g A2 n2 c2 (st dU x 2) (st dU x 3) 1 (va dU x 2:Nat) rfl rfl 1 rfl (.inl rfl) (hal2 _ (hal1 _ bK))) ?_;rintro e H' ⟨A3,n3,c3,rfl,hal3,rfl⟩;refine c_ ?_
     exact⟨(_,_,_,_),aK,aC,(hal1.trans hal2).trans hal3⟩
   ·refine c_ ?_;intros
    refine cg rfl sD bB sK aH (λM hE=>pO M g A1 n1 c1 (st dU x 1) (st dU x 2) 1 (va dU x 1:Nat) rfl rfl 1 rfl (.inl rfl) (hal1 _ bK)) ?_;rintro e H' ⟨A2,n2,c2,rfl,hal2,rfl⟩;refine c_ ?_
    refine cg rfl sD bB sK aH (λM hE=>pO M g A2 n2 c2 (st dU x 2) (st dU x 3) 1 (va dU x 2:Nat) rfl rfl 1 rfl (.inl rfl) (hal2 _ (hal1 _ bK))) ?_;rintro e H' ⟨A3,n3,c3,rfl,hal3,rfl⟩;refine c_ ?_
    exact⟨(_,_,_,_),aK,aC,(hal1.trans hal2).trans hal3⟩
  ·refine c_ ?_;intros
   refine AV (λM=>pO M g A0 x.length c0 (false,x) (st dU x 1) 1 (va dU x 0:Nat) rfl rfl 1 rfl (.inl rfl)) ?_;rintro e H' ⟨A1,n1,c1,rfl,hal1,rfl⟩;refine c_ ?_
   refine cg rfl sD bB sK aH (λM hE=>pO M g A1 n1 c1 (st dU x 1) (st dU x 2) 1 (va dU x 1:Nat) rfl rfl 1 rfl (.inl rfl) (hal1 _ bK)) ?_;rintro e H' ⟨A2,n2,c2,rfl,hal2,rfl⟩;refine c_ ?_
   refine cg rfl sD bB sK aH (λM hE=>pO M g A2 n2 c2 (st dU x 2) (st dU x 3) 1 (va dU x 2:Nat) rfl rfl 1 rfl (.inl rfl) (hal2 _ (hal1 _ bK))) ?_;rintro e H' ⟨A3,n3,c3,rfl,hal3,rfl⟩;refine c_ ?_
   exact⟨(_,_,_,_),aK,aC,(hal1.trans hal2).trans hal3⟩
 rintro⟨g8,A3,n3,c3⟩ G hal;dsimp only at hal⊢;refine c_ ?_
 refine cl sD sK aH (λM hE=>aGs M g g8 A3 n3 c3 x (hal _ bK) hsl) ?_;rintro e H' ⟨m,hL,hok,O,p,q,Q,k2,d2,s',A4,n4,c4,rfl,rfl⟩;refine gk bU ?_;rw[aRz hx hL hok];by_cases hc:m.check=0
 ·refine c_ ?_
  refine rO (λM h1 h2=>S8 M m O p q Q k2 d2 h1 h2 hc) ?_;rintro e H' ⟨A5,c5,rfl,rfl⟩;refine gk bU ?_;by_cases he:m.enc=b
  ·rw[c! ⟨hc,he⟩];rw[he];have hd:decide (b≠b)=false:=e! λh=>h rfl;refine c_ ?_
   apply mL;(· exact rfl);(· exact aJ);(· exact rfl);(· exact rfl);(· exact rfl);(· exact aV);(· exact rfl);(· exact aJ);rotate_left;(· exact(⟨_,_,_,_,_,_,rfl,rfl⟩));(· exact aC)
  ·rw[b! λh=>he h.2];have hd:decide (m.enc≠b)=true:=d! he;refine c_ ?_
   exact lD
 ·rw[b! λh=>hc h.1];refine c_ ?_
  refine rO (λM h1 h2=>S7 M m O p q Q k2 d2 h1 h2 hc) ?_;generalize m.check=ck at *;refine e_ ?_
  exact lD
end
abbrev EA(s:Sv):V4:=xK (s.v.l++s.v.t)
def tN(s:Sv)(to:Int):Mg:=⟨1,s.r,to,(EA s).a,(EA s).b,(EA s).c,(EA s).d,s.v.l.length,[],[],kz,ez⟩
section
variable (E:Env) (P:List Ov) (g:Nat) (s:Sv)
def Jj{f:FuncId}{args:Array p!}{Q:Ending->List aG->Prop}{R:List aG}(h:Gd s->aF prog E f args (cA P g s::R) Q):aF prog E f args (cA P g s::R) Q:=aF.Jg Has.aR λ⟨_,a⟩=>h a.2
def aCj(to:Int):G E 114 [pt g,a! to] [cA P g s] (bL (.agg (fV (tN s to) none 0 0 none 0 0).toArray) [cA P g s]):=by
 refine Jj E P g s λhg=>?_;have h0:=hg.rep;have hlen:=hg.v.len;have hml:s.v.l.length<=maxLen:=by unfold maxLen;omega
 have rep:=λM=>Fx M P g s;have eU:=λM=>uW M P g s;unfold tN;refine p_ func114 ntmps114 ?_;intros
 refine r_ rep ?_
 refine u_ eU ?_;intro g2
 refine r_ rep ?_
 refine r_ (λM=>aLl M P g2 s.v) ?_
 refine u_ (λM=>BB M P g2 s.v) ?_;intro B k hk
 exact gE
def Zc(A:n!)(n c:Nat)(l:List aL)(k:Nat)(d:Rd E gJ A n c l)(h:n<=1000000)(e:k<=1000000):G E 251 [.slice A n c,a! k] [] (bL (.slice A (min n k) (min n k)) []):=by
 have b:=d.cap;have f:n<=maxLen:=o_;have a:(min (n:Int) (k:Int)).toNat=min n k:=o_;refine p_ func251 ntmps251 ?_
 exact aX rfl aJ aC (⟨by rw[a],rfl⟩)
def Zb(A:n!)(n c:Nat)(l:List aI)(k:Nat)(d:Rd E bO A n c l)(h:n<=1000000)(e:k<=1000000):G E 252 [.slice A n c,a! k] [] (bL (.slice A (min n k) (min n k)) []):=by
 have b:=d.cap;have f:n<=maxLen:=o_;have a:(min (n:Int) (k:Int)).toNat=min n k:=o_;refine p_ func252 ntmps252 ?_
 exact aX rfl aJ aC (⟨by rw[a],rfl⟩)
def aDc(A:n!)(n c:Nat)(l:List fQ)(x:Rc)(hx:x.ok)(hn:n<=1000000):G E 254 [pt g,.slice A n c,.agg x.r.cs.toArray] [cA P g s,aQ P,own jC A n c l] λe H'=>∃Q A' c',(if (s.doc x).2=0 then n+1 else n)<=c'/\c'<=maxLen/\e=.returned (.tuple #[.slice A' (if (s.doc x).2=0 then n+1 else n) c',.bool (decide ((s.doc x).2=0))])/\H'=[cA (P++Q) g (s.doc x).1,aQ (P++Q),own jC A' (if (s.doc x).2=0 then n+1 else n) c' (if (s.doc x).2=0 then l++[x.r] else l)]:=by
 have doo:=λM=>CC M P g s x hx;generalize s.doc x=res at *;have⟨s2,cd⟩:=res;dsimp only at doo⊢;generalize x.r=xr at *;dsimp only[fQ.cs] at doo⊢;refine aF.fact (p:=n<=c/\c<=maxLen) (λw hw=>by have⟨F,h1,_⟩:=hw.has (a:=own jC A n c l) aV;have:=Az h1;exact⟨this.2.1,this.2.2.1⟩) λhcap=>?_;by_cases h:cd=0
 ·subst h;simp only[if_true,decide_true];refine p_ func254 ntmps254 ?_;intros;refine u_ doo ?_;intro Q;intros;rename_i A' c' h1 h2;exact oN ⟨Q,A',c',h1,h2,rfl,rfl⟩
 ·simp only[h,if_false,decide_false];refine p_ func254 ntmps254 ?_;intros;refine u_ doo ?_;intro Q;exact oN ⟨Q,A,c,hcap.1,hcap.2,rfl,rfl⟩
end
end Go.Proofs.YtmilalkjbojciaaGreat.Sep
