/- Part AL: what it needs. No condition. -/
import Derived.Test.YtmilalkjbojciaaGreatCAK
set_option linter.all false
set_option maxRecDepth 100000
set_option maxHeartbeats 8000000
open Go.Proofs.Tryz
namespace Go.Proofs.YtmilalkjbojciaaGreat.Sep
variable{E:Env}{R:List aG}{e:iC}{g i k:Nat}{α:Type}
section
open Go.RowKit Reg
open Mem hiding Rd
def gD(f:Nat->bC->List α)(ps:List bC):Nat->List α
 |0=>[]
 |k+1=>gD f ps k++(match ps[k]? with|some s=>f k s|none=>[])
def Pf{f:Nat->bC->List α}{ps:List bC}{s:bC}(h:ps[k]?=some s):gD f ps (k+1)=gD f ps k++f k s:=by
 show gD f ps k++_=_;rw[h]
def dC(r:Int)(i:Nat):aL:=⟨r,((i+1:Nat):Int)⟩
def mC(r:Int)(cf:bW)(now:Int)(i:Nat)(s:bC):List aM:=if sT (dC r i) s.made s.l s.w cf now then[(s.DH (dC r i)).getD Hx] else[]
def mO(r:Int)(cf:bW)(now:Int)(i:Nat)(s:bC):List bV:=match s.l[s.l.length - 1]? with
 |some e=>if e.dead cf now then[⟨dC r i,e.ord,e.gO⟩] else[]
 |none=>[]
def NN{ls:List cM}{e:cM}(h:ls[i]?=some e):(ls.map cM.s)[i]?=some e.s:=by rw[mM,h];rfl
def Pd{f:Nat->bC->List α}(a:∀i s,(f i s).length<=1)(ps:List bC)(k:Nat):(gD f ps k).length<=k:=by
 induction k with
 |zero=>exact bM _
 |succ k b =>
  show(gD f ps k++_).length<=_;rw[bR];cases ps[k]? with
  |none=>simp;omega
  |some s=>have:=a k s;dsimp only;omega
abbrev qV(v:AX):aG:=own gI v.A v.n v.c v.l
section
variable (E:Env) (g:Nat) (B:n!) (n d:Nat) (r:Int) (ls:List cM)
def Jz:aF prog E 161 #[.pointer (some ⟨g,0,none⟩)] [lg g B n d r] λe a=>e=.returned (.slice B n d)/\a=[lg g B n d r]:=by
 refine D_ func161 ntmps161 ?_
 exact aS
def aHg(cf:bW)(now:Int)(K:n<=1000)(J:n=ls.length)(v:oU r ls) :
  aF prog E 241 #[.pointer (some ⟨g,0,none⟩),.agg cf.cs.toArray,a! now] (jA g B n d r ls) λx j=>∃O m s,x=.returned (.slice O m s)/\m=(gD (mC r cf now) (ls.map cM.s) n).length/\j=[own cF O m s (gD (mC r cf now) (ls.map cM.s) n),lg g B n d r,own iF B n d ls,aT fU ls,aT iA ls]:=by
 have w:=cS;unfold jA;refine D_ func241 ntmps241 ?_;intros;rename_i t;refine aU (λM=>Jz M g B n d r) ?_;rintro x j ⟨rfl,rfl⟩;refine h_ ?_;refine C.loop (X:=Nat×n!×Nat×Nat) (λx=>[(2,a! now),(4,.pointer (some ⟨t,0,none⟩)),(7,.slice x.2.1 x.2.2.1 x.2.2.2),(13,.slice B n d),(14,a! n),(15,a! x.1)])
  (λx=>[own cF x.2.1 x.2.2.1 x.2.2.2 (gD (mC r cf now) (ls.map cM.s) x.1),aE t 23 cf.cs,lg g B n d r,own iF B n d ls,aT fU ls,aT iA ls]) (λx=>x.1<=n/\x.2.2.1<=x.1/\x.2.2.1=(gD (mC r cf now) (ls.map cM.s) x.1).length) (λx=>n - x.1) (0,none,0,0) aK (by show aB _ _ [own cF none 0 0 [],aE t 23 cf.cs,lg g B n d r,own iF B n d ls,aT fU ls,aT iA ls];exact(aB.mR cF none).trans aC) ⟨bY _,bM _,rfl⟩ ?_
 rintro⟨i,O,m,s⟩ F ⟨A,H,c⟩;dsimp only at A H c⊢;by_cases D:i<n
 ·have⟨e,h⟩:∃e,ls[i]?=some e:=⟨_,bS o_⟩;have b:=v i e h;have l:dC r i=e.id:=b.id.symm;have o:bQ e.made:=by have:=b.s.vR;have:=b.s.qC;unfold bQ;unfold cM.s at *;dsimp only at *;omega
  have a:=Pf (f:=mC r cf now) (NN h);refine h_ ?_;intros;refine cl sD sK aH (λM k=>YY M e.id e.made e.A e.n e.c e.l e.w e.X e.nx e.cx cf now (Sub.aT (f:=fU) k aV h rfl) (Sub.aT (f:=iA) k aV h rfl) b.s.oJ o) ?_;cases p:sT e.id e.made e.l e.w cf now;have u:mC r cf now i e.s=[]:=by unfold mC cM.s;rw[l];dsimp only;rw[p];rfl
  rw[u,aY] at a;rintro x j ⟨rfl,rfl⟩;refine h_ ?_;refine⟨(i+1,O,m,s),aK,?_,⟨by dsimp only;omega,by dsimp only;omega,by dsimp only;rw[a];exact c⟩,d_⟩;rotate_left;have u:mC r cf now i e.s=[(next e.id e.made e.l e.w).getD Hx]:=by unfold mC cM.s bC.DH;rw[l];dsimp only;rw[p];rfl
  rw[u] at a;rintro x j ⟨rfl,rfl⟩;refine h_ ?_;refine cl sD sK aH (λM k=>Bi M e.id e.made e.A e.n e.c e.l e.w e.X e.nx e.cx (Sub.aT (f:=fU) k aV h rfl) (Sub.aT (f:=iA) k aV h rfl) b.s.oJ o) ?_;unfold Bb;generalize (next e.id e.made e.l e.w).getD Hx=q at a;rintro x j ⟨rfl,rfl⟩;refine h_ ?_;intros;rename_i y z k1 k2;refine⟨(i+1,y,m+1,z),aK,?_,⟨by dsimp only;omega,by dsimp only;omega,by dsimp only;rw[a,bR,<-c];rfl⟩,d_⟩;all_goals
   dsimp only;rw[a];exact aC
 obtain rfl:i=n:=o_;refine h_ ?_;exact dS ⟨O,m,s,rfl,c,rfl⟩
def S?(hn:n<=1000)(W:n=ls.length)(A:oU r ls) :
  aF prog E 100 #[.pointer (some ⟨g,0,none⟩)] (jA g B n d r ls) λx s=>∃O q a,x=.returned (.slice O n q)/\a.length=n/\(∀(i:Nat) (e:cM),ls[i]?=some e->∃v:AX,a[i]?=some v/\v.id=e.id/\v.made=e.made/\v.l=e.l/\v.n=e.n/\v.n<=v.c/\v.c<=maxLen)/\s=[own rY O n q a,aT qV a,lg g B n d r,own iF B n d ls,aT fU ls,aT iA ls]:=by
 have J:=cS;unfold jA;refine D_ func100 ntmps100 ?_;refine aU (λM=>Jz M g B n d r) ?_;rintro x s ⟨rfl,rfl⟩;refine h_ ?_;refine C.loop (X:=Nat×n!×Nat×List AX) (λx=>[(3,.slice x.2.1 x.1 x.2.2.1),(7,.slice B n d),(8,a! n),(9,a! x.1)])
  (λx=>[own rY x.2.1 x.1 x.2.2.1 x.2.2.2,aT qV x.2.2.2,lg g B n d r,own iF B n d ls,aT fU ls,aT iA ls]) (λx=>x.1<=n/\x.2.2.2.length=x.1/\∀(i:Nat) (e:cM),i<x.1->ls[i]?=some e->∃v:AX,x.2.2.2[i]?=some v/\v.id=e.id/\v.made=e.made/\v.l=e.l/\v.n=e.n/\v.n<=v.c/\v.c<=maxLen) (λx=>n - x.1) (0,none,0,[]) aK ((aB.mR rY none).trans ((aB.pK qV).trans aC)) ⟨bY _,rfl,λi e h=>i! h (It _)⟩ ?_
 rintro⟨i,O,q,a⟩ F ⟨Q,c,b⟩;dsimp only at Q c b⊢;by_cases U:i<n
 ·have⟨e,u⟩:∃e,ls[i]?=some e:=⟨_,bS o_⟩;have m:=A i e u;have w:e.n<=1000000:=by have D:=m.s.len;have H:=m.s.qC;have h3:=m.n;unfold cM.s at D H;dsimp only at D H;omega
  refine h_ ?_;intros;refine cl sD sK aH (λM P=>Gv M e.id e.made e.A e.n e.c e.l (Sub.aT (f:=fU) P aV u rfl) w) ?_;rintro x s ⟨o,p,rfl,t,rfl⟩;refine h_ ?_;refine L.lI sD (S.pY (T:=rY) (e:=⟨e.id,e.made,o,e.n,p,e.l⟩) rfl rfl rfl rfl sD) ?_;rintro _ _ ⟨_,rfl,rfl⟩;refine h_ ?_;intros;rename_i K N k1 k2;refine⟨(i+1,K,N,a++[⟨e.id,e.made,o,e.n,p,e.l⟩]),aK,aB.trans (aB.push (f:=qV) (l:=a) (x:=⟨e.id,e.made,o,e.n,p,e.l⟩) aH) aC,⟨by dsimp only;omega,by dsimp only;rw[bR,c];rfl,λj y R k=>?_⟩,d_⟩;dsimp only at R⊢;by_cases z:j=i
  ·subst z;rw[u] at k;injection k with k;subst k;exact⟨⟨e.id,e.made,o,e.n,p,e.l⟩,by rw[<-c];simp,rfl,rfl,rfl,rfl,t⟩
  ·have⟨v,Z,h⟩:=b j y o_ k;exact⟨v,by rw[Aa (by rw[c];omega)];exact Z,h⟩
 obtain rfl:i=n:=o_;refine h_ ?_;exact aX rfl aJ aC (⟨O,q,a,rfl,c,λj y k=>b j y (by have:=(cH.1 k).1;omega) k,rfl⟩)
end
section
variable (E:Env) (g:Nat) (B:n!) (n d:Nat) (r:Int) (ls:List cM)
def aGw(cf:bW)(now:Int)(Z:n<=1000)(W:n=ls.length)(w:oU r ls) :
  aF prog E 166 #[.pointer (some ⟨g,0,none⟩),.agg cf.cs.toArray,a! now] (jA g B n d r ls) λx o=>∃O m p,x=.returned (.slice O m p)/\m=(gD (mO r cf now) (ls.map cM.s) n).length/\o=[own qY O m p (gD (mO r cf now) (ls.map cM.s) n),lg g B n d r,own iF B n d ls,aT fU ls,aT iA ls]:=by
 have D:=cS;unfold jA;refine D_ func166 ntmps166 ?_;intros;rename_i u;refine aU (λM=>Jz M g B n d r) ?_;rintro x o ⟨rfl,rfl⟩;refine h_ ?_;refine C.loop (X:=Nat×n!×Nat×Nat) (λx=>[(2,a! now),(4,.pointer (some ⟨u,0,none⟩)),(7,.slice x.2.1 x.2.2.1 x.2.2.2),(12,.slice B n d),(13,a! n),(14,a! x.1)])
  (λx=>[own qY x.2.1 x.2.2.1 x.2.2.2 (gD (mO r cf now) (ls.map cM.s) x.1),aE u 23 cf.cs,lg g B n d r,own iF B n d ls,aT fU ls,aT iA ls]) (λx=>x.1<=n/\x.2.2.1<=x.1/\x.2.2.1=(gD (mO r cf now) (ls.map cM.s) x.1).length) (λx=>n - x.1) (0,none,0,0) aK (by show aB _ _ [own qY none 0 0 [],aE u 23 cf.cs,lg g B n d r,own iF B n d ls,aT fU ls,aT iA ls];exact(aB.mR qY none).trans aC) ⟨bY _,bM _,rfl⟩ ?_
 rintro⟨i,O,m,p⟩ F ⟨P,R,b⟩;dsimp only at P R b⊢;by_cases Q:i<n
 ·have⟨e,q⟩:∃e,ls[i]?=some e:=⟨_,bS o_⟩;have c:=w i e q;have v:dC r i=e.id:=c.id.symm;have l:=c.n;have N:e.n<=1000:=by have z:=c.s.len;have A:=c.s.qC;unfold cM.s at z A;dsimp only at z A;omega
  have a:=Pf (f:=mO r cf now) (NN q);refine h_ ?_;intros;refine cl sD sK aH (λM K=>Xo M e.id e.made e.A e.n e.c e.l cf now (Sub.aT (f:=fU) K aV q rfl)) ?_;cases h:e.l[e.l.length - 1]? with
  |none =>
   have s:mO r cf now i e.s=[]:=by unfold mO cM.s;dsimp only;rw[h]
   have j:zU e.l cf now=false:=by unfold zU;rw[h]
   rw[s,aY] at a;rw[j];rintro x o ⟨rfl,rfl⟩;refine h_ ?_;refine⟨(i+1,O,m,p),aK,?_,⟨by dsimp only;omega,by dsimp only;omega,by dsimp only;rw[a];exact b⟩,d_⟩;dsimp only;rw[a];exact aC
  |some y =>
   have j:zU e.l cf now=y.dead cf now:=by unfold zU;rw[h]
   have U:0<e.l.length:=by have:=(cH.1 h).1;omega
   have hs:IntKind.i64.wrap ((e.n:Int) - 1)=((e.n - 1:Nat):Int):=by rw[dY _ o_];omega
   rw[<-l] at h;rw[j];cases t:y.dead cf now;have s:mO r cf now i e.s=[]:=by unfold mO cM.s;dsimp only;rw[<-l,h];dsimp only;rw[t];rfl
   rw[s,aY] at a;rintro x o ⟨rfl,rfl⟩;refine h_ ?_;refine⟨(i+1,O,m,p),aK,?_,⟨by dsimp only;omega,by dsimp only;omega,by dsimp only;rw[a];exact b⟩,d_⟩;rotate_left;have s:mO r cf now i e.s=[⟨e.id,y.ord,y.gO⟩]:=by unfold mO cM.s;dsimp only;rw[<-l,h];dsimp only;rw[t,v];rfl
   rw[s] at a;rintro x o ⟨rfl,rfl⟩;refine h_ ?_;refine L.val sD (Y.indexAddr rfl rfl rfl (eE.aT (f:=fU) aV q rfl) sJ eZ h lU lU) ?_;refine L.val sD (Y.Se rfl rfl (eE.aT (f:=fU) aV q rfl) h lU lU) (h_ ?_);intros;refine C.fL 10 (l_ [0,1,2,3,4,5,6] (g_ 7 (n_ 8 (g_ 9 (g_ 10 (g_ 11 .nil)))))) _ q_ q_ aB.refl (h_ ?_);refine eI (λM=>Bo M y) ?_;rintro x o ⟨rfl,rfl⟩;refine h_ ?_;refine Dr.mK rfl (by rintro k ⟨⟩<;>decide) bB (S.pY (T:=qY) (e:=⟨e.id,y.ord,y.gO⟩) rfl rfl rfl rfl sD) ?_;rintro _ _ ⟨_,rfl,rfl⟩;refine⟨aC,?_⟩;refine h_ ?_;intros;rename_i H J k1 k2;refine⟨(i+1,H,m+1,J),aK,?_,⟨by dsimp only;omega,by dsimp only;omega,by dsimp only;rw[a,bR,<-b];rfl⟩,d_⟩;all_goals
    dsimp only;rw[a];exact aC
 obtain rfl:i=n:=o_;refine h_ ?_;exact dS ⟨O,m,p,rfl,b,rfl⟩
end
def CW(E:Env)(ls:List cM):Prop:=∀e∈ls,Rd E gI e.A e.n e.c e.l/\Rd E eT e.X e.nx e.cx e.w
def CW.sub{M:Env}{ls:List cM}(a:Sub E R M)(h:CW E ls):CW M ls:=λe b=>⟨(h e b).1.sub a,(h e b).2.sub a⟩
def CW.of{M:Env}{R1 R2:List aG}{ls:List cM}(a:Sub E R M)(c:Has (aT fU ls) R R1)(e:Has (aT iA ls) R R2):CW M ls:=λe h=>by
 obtain⟨i,b,rfl⟩:=oV h;exact⟨Sub.aT (f:=fU) a c (bS b) rfl,Sub.aT (f:=iA) a e (bS b) rfl⟩
def yU(ps:List bC):Bool:=ps.all λs=>quiet s.l s.w
section
variable (E:Env) (g:Nat) (B:n!) (n d:Nat) (r:Int) (ls:List cM)
def lq1(x:cM)(b:Rd E gI x.A x.n x.c x.l)(c:Rd E eT x.X x.nx x.cx x.w):aF prog E 205 #[.agg x.cs.toArray] [] λe a=>e=.returned (.bool (!quiet x.l x.w))/\a=[]:=by
 refine D_ func205 ntmps205 ?_;intros
 refine oE (λM=>YX M x.id x.made x.A x.n x.c x.l x.w x.X x.nx x.cx) ?_;refine h_ ?_
 exact aS
def aKs(u:Rd E iF B n d ls)(f:CW E ls):aF prog E 265 #[.slice B n d,.func (.func 205) #[] #[]] [] λx m=>(∃i:Int,x=.returned (a! i)/\decide (0<=i) = !yU (ls.map cM.s))/\m=[]:=by
 have D:=u.len;have p:=u.cap;refine D_ func265 ntmps265 ?_;refine C.loop (X:=Nat) (λi=>[(0,.slice B n d),(1,.func (.func 205) #[] #[]),(7,a! n),(8,a! i)]) (λ_=>[]) (λi=>i<=n/\∀(j:Nat) (y:cM),j<i->ls[j]?=some y->quiet y.l y.w=true) (λi=>n - i) 0 aK aB.refl ⟨bY _,λj y h=>by omega⟩ ?_;rintro i G ⟨A,b⟩;by_cases w:i<n
 ·have v:ls[i]?=some ls[i]:=bS o_;have a:ls[i]∈ls:=zL o_;generalize ls[i]=x at v a;have q:=cS;refine h_ ?_;refine L.step sD (S.Ds (cs:=[]) rfl rfl rfl rfl func205 q_ rfl aH (λM o=>lq1 M x ((f x a).1.sub o) ((f x a).2.sub o)) ?_);rintro e m ⟨rfl,rfl⟩;refine gk bU ?_;cases t:quiet x.l x.w
  ·have l:yU (ls.map cM.s)=false:=by
    unfold yU;rw[List.all_eq_false];exact⟨x.s,xV a,by show ¬quiet x.l x.w=true;rw[t];exact lA⟩
   refine h_ ?_;exact aX rfl aJ aC (⟨⟨i,rfl,by rw[l];exact d! (LZ i)⟩,rfl⟩)
  ·refine h_ ?_;refine⟨i+1,aK,aB.refl,⟨o_,λj y h c=>?_⟩,o_⟩;by_cases k:j=i
   ·subst k;rw[v] at c;injection c with c;subst c;exact t
   ·exact b j y o_ c
 ·obtain rfl:i=n:=o_;have l:yU (ls.map cM.s)=true:=by
   unfold yU;rw[qR];intro s z;obtain⟨y,c,rfl⟩:=jX.1 z;obtain⟨j,h,rfl⟩:=oV c;exact b j _ o_ (bS h)
  refine h_ ?_;exact aX rfl aJ aC (⟨⟨-1,rfl,by rw[l];rfl⟩,rfl⟩)
def aQj:aF prog E 144 #[.pointer (some ⟨g,0,none⟩)] (jA g B n d r ls) λx b=>x=.returned (.bool (yU (ls.map cM.s)))/\b=jA g B n d r ls:=by
 unfold jA;refine D_ func144 ntmps144 ?_;refine aU (λM=>Jz M g B n d r) ?_;rintro x b ⟨rfl,rfl⟩;refine h_ ?_;have a:∀M,Rd M iF B n d ls->CW M ls->aF prog M 204 #[.slice B n d,.func (.func 205) #[] #[]] [] λx b=>x=.returned (.bool (!yU (ls.map cM.s)))/\b=[]:=by
  intro j e f;refine D_ func204 ntmps204 ?_;refine cl sD sK aH (λM c=>aKs M B n d ls (e.sub c) (f.sub c)) ?_;rintro x b ⟨⟨i,rfl,h⟩,rfl⟩;refine h_ ?_;apply aX;(· exact rfl);(· exact aJ);rotate_left;(· exact(⟨by rw[<-h],rfl⟩));(· exact aC)
 refine cl sD sK aH (λM c=>a M bK (CW.of c aV aV)) ?_;rintro x b ⟨rfl,rfl⟩;refine h_ ?_;apply aX;(· exact rfl);(· exact aJ);rotate_left;(· exact(⟨by rw[Bool.not_not],rfl⟩));(· exact aC)
def W?(hn:n<=1000)(a9:n=ls.length)(R:oU r ls):aF prog E 202 #[.pointer (some ⟨g,0,none⟩)] (jA g B n d r ls) λx J=>∃p v o j,x=.returned (.pointer (some ⟨p,0,none⟩))/\oU r j/\j.map cM.s=ls.map cM.s/\(n<=o/\o<=maxLen)/\J=[lg p v n o r,own iF v n o j,aT fU j,aT iA j,lg g B n d r,own iF B n d ls,aT fU ls,aT iA ls]:=by
 have W:=cS;unfold jA;refine D_ func202 ntmps202 ?_;refine aU (λM=>Sd M r) ?_;rintro x J ⟨p,rfl,rfl⟩;refine h_ ?_;refine C.loop (X:=Nat×n!×Nat×List cM) (λx=>[(3,.pointer (some ⟨p,0,none⟩)),(23,.slice B n d),(24,a! n),(25,a! x.1)])
  (λx=>[lg p x.2.1 x.1 x.2.2.1 r,own iF x.2.1 x.1 x.2.2.1 x.2.2.2,aT fU x.2.2.2,aT iA x.2.2.2,lg g B n d r,own iF B n d ls,aT fU ls,aT iA ls])
  (λx=>x.1<=n/\x.2.2.2.length=x.1/\oU r x.2.2.2/\x.2.2.2.map cM.s=(ls.map cM.s).take x.1/\(x.1<=x.2.2.1/\x.2.2.1<=maxLen)) (λx=>n - x.1) (0,none,0,[]) aK ((aB.mR iF none).trans ((aB.pK fU).trans ((aB.pK iA).trans aC))) ⟨bY _,rfl,λi e h=>(by cases h),rfl,⟨bM _,bY _⟩⟩ ?_
 rintro⟨i,v,o,j⟩ F ⟨hi,q,c,s,A,D⟩;dsimp only at hi q c s A D⊢;by_cases a8:i<n
 ·have⟨e,K⟩:∃e,ls[i]?=some e:=⟨_,bS o_⟩;have a:=R i e K;have P:e.n<=1000000:=by have m:=a.s.len;have t:=a.s.qC;have h3:=a.n;unfold cM.s at m t;dsimp only at m t;omega
  have Q:e.nx<=100000:=by have m:=a.s.wide;have h3:=a.nx;unfold cM.s at m;dsimp only at m;omega
  have U:(ls.map cM.s).take (i+1)=(ls.map cM.s).take i++[e.s]:=by
   have h:=NN K;have⟨m,t⟩:=cH.1 h;rw[rS m,t]
  refine h_ ?_;intros;rename_i g5;refine C.fL 16 (l_ [0,1,2,3,4,5,6,8,9] (g_ 7 (g_ 10 (n_ 11 (g_ 12 (g_ 13 (l_ [14,15] (g_ 16 .nil)))))))) ([lg p v i o r,aE g5 242 e.cs]) q_ q_ aC (h_ ?_);refine cg rfl sD bB sK aH (λM N=>Gv M e.id e.made e.A e.n e.c e.l (Sub.aT (f:=fU) N (Has.bJ (Has.bJ (Has.bJ (Has.bJ (Has.bJ (Has.bJ (Has.bJ Has.aR))))))) K rfl) P) ?_;rintro x J ⟨u,y,rfl,O,rfl⟩;refine h_ ?_;refine cg rfl sD bB sK aH (λM N=>Uk M e.X e.nx e.cx e.w (Sub.aT (f:=iA) N (Has.bJ (Has.bJ (Has.bJ (Has.bJ (Has.bJ (Has.bJ (Has.bJ (Has.bJ (Has.bJ Has.aR))))))))) K rfl) Q) ?_;rintro x J ⟨w,b,rfl,z,rfl⟩;refine h_ ?_;refine Dr.mK rfl (by rintro k ⟨⟩<;>decide) bB (S.pY (T:=iF) (e:=⟨e.id,e.made,u,e.n,y,e.l,w,e.nx,b,e.w⟩) rfl rfl rfl rfl sD) ?_;rintro _ _ ⟨_,rfl,rfl⟩;refine⟨aC,?_⟩;refine h_ ?_;intros;rename_i Z d3 m t;have H:(⟨e.id,e.made,u,e.n,y,e.l,w,e.nx,b,e.w⟩:cM).ok r i:=⟨a.id,a.n,O,a.nx,z,a.s⟩;refine⟨(i+1,Z,d3,j++[⟨e.id,e.made,u,e.n,y,e.l,w,e.nx,b,e.w⟩]),aK,?_,⟨by dsimp only;omega,by dsimp only;rw[bR,q];rfl,c.push (by rw[q];exact H),by dsimp only;rw[gP,s,U];rfl,⟨m,t⟩⟩,d_⟩;dsimp only;refine aB.trans (aB.push (f:=fU) (l:=j) (x:=⟨e.id,e.made,u,e.n,y,e.l,w,e.nx,b,e.w⟩) aH) ?_;refine aB.trans (aB.push (f:=iA) (l:=j) (x:=⟨e.id,e.made,u,e.n,y,e.l,w,e.nx,b,e.w⟩) aH) ?_;exact aC
 obtain rfl:i=n:=o_;refine h_ ?_;exact aX rfl aJ aC (⟨p,v,o,j,rfl,c,by rw[s,fX (by rw[fB];omega)],⟨A,D⟩,rfl⟩)
end
section
variable (E:Env) (g:Nat) (r:Int) (ps:List bC)
def aOv:G E 144 [pt g] [eF g r ps] (bL (.bool (yU ps)) [eF g r ps]):=by
 refine Bz λx b=>?_;refine aF.post (aQj E g x.B x.ls.length x.d r x.ls) ?_;rintro e c ⟨rfl,rfl⟩;have a:=eF.mk (E:=E) (R:=[]) (g:=g) b;rw[aY] at a;exact⟨_,a,by rw[b.ps],rfl⟩
def X?(s:ps.length<=1000):G E 202 [pt g] [eF g r ps] λe j=>∃a,e=.returned (pt a)/\j=[eF a r ps,eF g r ps]:=by
 refine Bz λx c=>?_;have H:x.ls.length=ps.length:=by rw[<-c.ps,fB]
 refine aF.post (W? E g x.B x.ls.length x.d r x.ls o_ rfl c.ok) ?_;rintro e j ⟨a,l,n,k,rfl,k1,k2,k3,rfl⟩;have d:k.length=x.ls.length:=by have:=j! List.length k2;rwa [fB,fB] at this
 have o:=eF.mk (E:=E) (R:=[]) (g:=g) c;have f:=eF.mk (E:=E) (R:=jA g x.B x.ls.length x.d r x.ls) (g:=a) (x:=⟨l,n,k⟩) (r:=r) (ps:=ps) ⟨k1,by rw[k2,c.ps],by dsimp only;rw[d];exact k3⟩;dsimp only at f;rw[d] at f;rw[aY] at o;refine⟨[eF a r ps,eF g r ps],aB.trans f ?_,a,rfl,rfl⟩;intro w u;have p:St E (jA g x.B x.ls.length x.d r x.ls++[eF a r ps]) w:=u.conv λF t=>by
  have⟨i,m,v,y,z,A⟩:=t;exact⟨F,jU.2 ⟨m,i,λb=>by rw[v b];exact Or.comm,λb B D=>y b D B,A,⟨i,λ_=>False,λb=>by simp,λ_ _ h=>h,z,λ_ h=>h⟩⟩,λ_ h=>h⟩
 have q:=eF.mk (E:=E) (R:=[eF a r ps]) (g:=g) c w p;exact(show aB E [eF g r ps,eF a r ps] [eF a r ps,eF g r ps] from aC) w q
def aEs(o:ps.length<=1000)(cf:bW)(now:Int):G E 241 [pt g,.agg cf.cs.toArray,a! now] [eF g r ps] λe f=>∃O a,e=.returned (.slice O (gD (mC r cf now) ps ps.length).length a)/\f=[own cF O (gD (mC r cf now) ps ps.length).length a (gD (mC r cf now) ps ps.length),eF g r ps]:=by
 refine Bz λx c=>?_;have i:x.ls.length=ps.length:=by rw[<-c.ps,fB]
 refine aF.post (aHg E g x.B x.ls.length x.d r x.ls cf now o_ rfl c.ok) ?_;rintro e f ⟨O,m,a,rfl,rfl,rfl⟩;rw[c.ps,i];refine⟨[own cF O (gD (mC r cf now) ps ps.length).length a (gD (mC r cf now) ps ps.length),eF g r ps],?_,O,a,rfl,rfl⟩;intro w p;have l:St E (jA g x.B x.ls.length x.d r x.ls++[own cF O (gD (mC r cf now) ps ps.length).length a (gD (mC r cf now) ps ps.length)]) w:=p.conv λF j=>by
  rw[<-i] at j⊢;have⟨d,k,q,s,t,u⟩:=j;exact⟨F,jU.2 ⟨k,d,λb=>by rw[q b];exact Or.comm,λb v y=>s b y v,u,⟨d,λ_=>False,λb=>by simp,λ_ _ h=>h,t,λ_ h=>h⟩⟩,λ_ h=>h⟩
 have n:=eF.mk (E:=E) (g:=g) c w l;exact(show aB E [eF g r ps,_] [_,eF g r ps] from aC) w n
end
section
variable (E:Env) (g:Nat) (A:n!) (n c:Nat) (ls:List iC)
def aQu(i:Nat)(s:n<=128)(p:n=ls.length)(hi:i<n)(b:n<=c)(f:c<=maxLen) :
  aF prog E 183 #[.slice A n c,a! i,a! ((i+1:Nat):Int)] [own iJ A n c ls] λr e=>r=.returned (.slice A (n - 1) c)/\e=[own iJ A (n - 1) c (ls.eraseIdx i)]:=by
 have d:=cS;have h:n<=maxLen:=o_;have o:n - 1<=maxLen:=o_;have a:ls.take i++ls.drop (i+1)=ls.eraseIdx i:=(Li ..).symm;refine x_ func183 ntmps183 ?_
 refine L.val sD (Y.slice3 (q:=n) rfl rfl rfl rfl rfl rfl rfl rfl rfl rfl o_ o_ b) (c_ ?_)
 refine rB (l_ [0,1,2,3,4,5] (g_ 6 (n_ 7 .nil))) ([]) (c_ ?_)
 refine Dr.take rfl sD bB (λ_ _=>V.slice rfl rfl rfl (S.upto (j:=i) rfl rfl rfl o_)) (c_ ?_)
 refine Dr.take rfl sD bB (λ_ _=>V.slice rfl rfl rfl (S.from_ (j:=i+1) rfl rfl rfl o_ b)) (c_ ?_)
 refine Dr.mK rfl (by rintro k ⟨⟩<;>decide) bB (S.Wx (T:=iJ) (m:=n) (n':=n - 1) (l:=ls) (l2:=ls.drop (i+1)) (l':=ls.eraseIdx i) (by_:=40) rfl rfl rfl o_ o_ gR (eE.from_ (eE.own aV) o_) a rfl rfl o_ o_ o_ o_) ?_;rintro _ _ ⟨rfl,rfl⟩;refine⟨aC,?_⟩;refine c_ ?_
 refine L.val sD (λ_ _=>V.slice rfl rfl rfl (S.both (j:=n - 1) (m:=n) rfl rfl rfl rfl o_ b)) ?_;refine L.DR (S.YC (T:=iJ) (z:=aIy) (j:=n - 1) (k:=n - (n - 1)) rfl rfl rfl rfl (bM _) o_ o_ gR) ?_;rintro _ _ ⟨rfl,rfl⟩;refine c_ ?_
 exact aS
def aIo(i:Int)(b:n<=128)(h:i<0\/n<=i):aF prog E 120 #[.pointer (some ⟨g,0,none⟩),a! i] [wr g A n c] λr a=>r=.returned (.tuple #[.slice none 0 0,.bool false])/\a=[wr g A n c]:=by
 refine x_ func120 ntmps120 ?_
 refine A_ (λM=>IP M g A n c i b h) ?_
 exact mZ
def aCy(i:Nat)(k:n<=128)(h:n=ls.length)(o:n<=c)(a:c<=maxLen)(b:ls[i]?=some e) :
  aF prog E 120 #[.pointer (some ⟨g,0,none⟩),a! i] [wr g A n c,own iJ A n c ls,aT oY ls] λr m=>r=.returned (.tuple #[.slice e.A e.n e.c,.bool true])/\m=[own bH e.A e.n e.c e.b,wr g A (n - 1) c,own iJ A (n - 1) c (ls.eraseIdx i),aT oY (ls.eraseIdx i)]:=by
 have d:i<n:=by have:=(cH.1 b).1;omega
 have j:=cS;have p:IntKind.i64.wrap ((i:Int)+1)=((i+1:Nat):Int):=by rw[dY _ o_];omega
 refine x_ func120 ntmps120 ?_
 refine A_ (λM=>Ee M g A n c ls i k d b h) ?_
 refine A_ (λM=>aQu M A n c ls i k h d o a) ?_
 refine Ns (aB.out (f:=oY) (l:=ls) aV b) ?_;exact mZ
def aBi(i k:Int)(b:n<=128)(h:i<0\/n<=i):aF prog E 126 #[.pointer (some ⟨g,0,none⟩),a! i,a! k] [wr g A n c] λr a=>r=.returned (.bool false)/\a=[wr g A n c]:=by
 refine x_ func126 ntmps126 ?_
 refine A_ (λM=>IP M g A n c i b h) ?_
 exact aS
def aLy(i:Nat)(k:Int)(o:n<=128)(m:n=ls.length)(b:ls[i]?=some e)(j:e.n<=maxLen)(h:e.broken=true\/k<0\/(e.n:Int)<=k / 8)(p : -9223372036854775808<=k/\k<=9223372036854775807):aF prog E 126 #[.pointer (some ⟨g,0,none⟩),a! i,a! k] [wr g A n c,own iJ A n c ls] λr f=>r=.returned (.bool false)/\f=[wr g A n c,own iJ A n c ls]:=by
 have l:i<n:=by have:=(cH.1 b).1;omega
 have d:=cS;refine x_ func126 ntmps126 ?_;refine aP (λM=>Ee M g A n c ls i o l b m) ?_;rcases tF e.broken with hb|hb
 ·refine c_ ?_;exact aS
 by_cases a:k<0
 ·refine c_ ?_;exact aS
 have q:(e.n:Int)<=k / 8:=by
  rcases h with h|h|h
  ·rw[hb] at h;cases h
  ·exact i! h a
  ·exact h
 have s:IntKind.i64.wrap (k.tdiv 8)=k / 8:=by rw[PG o_];exact dY _ o_
 refine c_ ?_;exact aS
def DS(b:UInt8)(k:Nat):UInt8:=UInt8.ofNat (b.toNat ^^^ 2 ^ k)
def zZ(b:o!)(k:Nat):o!:=b.set (k / 8) (DS (b.getD (k / 8) 0) (k % 8))
def aHu(b:UInt8)(j:k<8){z:Int}(l:z=2 ^ k % 256):Go.bits .xor .u8 (b.toNat:Int) z=((DS b k).toNat:Int):=by
 subst l;have f:=Ad b;have a:2 ^ k<256:=Nat.pow_lt_pow_right (n:=8) sD j;have e:((2:Int) ^ k % 256)=((2 ^ k:Nat):Int):=by
  have h:((2 ^ k:Nat):Int)=(2:Int) ^ k:=s_
  have i:((2 ^ k:Nat):Int)<256:=o_;rw[<-h];exact Int.emod_eq_of_lt (LZ _) i
 have d:b.toNat ^^^ 2 ^ k<256:=Nat.xor_lt_two_pow (n:=8) f a;rw[e,u8_xor_nat _ _ f a,DS,FG,FA d]
def aKv(i k:Nat)(hn:n<=128)(hl:n=ls.length)(he:ls[i]?=some e)(hen:e.n=e.b.length)(hem:e.n<=140737488355300)(hb:e.broken=false)(hk:k / 8<e.n) :
  aF prog E 126 #[.pointer (some ⟨g,0,none⟩),a! i,a! k] [wr g A n c,own iJ A n c ls,aT oY ls] λr H'=>r=.returned (.bool true)/\H'=[aT oY (ls.set i (e.mark (zZ e.b k))),wr g A n c,own iJ A n c (ls.set i (e.mark (zZ e.b k)))]:=by
 have hil:=(cH.1 he).1;have hi:i<n:=o_;have hmax:=cS;have hem2:e.n<=maxLen:=o_;have hq:IntKind.i64.wrap ((k:Int).tdiv 8)=((k / 8:Nat):Int):=by rw[IntWalk.i64_quo _ _ o_];omega
 have hr:(k:Int).tmod 8=((k % 8:Nat):Int):=by rw[Int.tmod_eq_emod_of_nonneg o_];omega
 have⟨x,hx⟩:∃x,e.b[k / 8]?=some x:=⟨_,bS o_⟩
 have hfl:zZ e.b k=e.b.set (k / 8) (DS x (k % 8)):=by unfold zZ;rw[qS,hx];rfl
 have hz:IntKind.u8.wrap (1*2 ^ min ((k % 8:Nat):Int).toNat IntKind.u8.bits)=2 ^ (k % 8) % 256:=by
  rw[jK,show min (k % 8) IntKind.u8.bits=k % 8 from nM (show k % 8<=8 by omega),Int.one_mul];exact IntKind.wrap_u8 _
 have hxor:=aHu x (k:=k % 8) o_ rfl;rw[hfl];have hset:BV iJ e 2 (.bool true) (e.mark (e.b.set (k / 8) (DS x (k % 8)))):=BV.NQ rfl sD rfl;refine x_ func126 ntmps126 ?_
 refine aP (λM=>Ee M g A n c ls i hn hi he hl) ?_;repeat ((fail_if_success (refine C.seq (x:=Code.region 4 _ _) ?_));first|refine mV ?_|refine tU ?_|intro _|refine Dr.two ?_ ?_)
 refine C.conv (aB.out (f:=oY) (l:=ls) aV he) (c_ ?_)
 refine C.fL 13 (l_ [0,1,2,3,4,5,6,7,8,9,10,11,12] (g_ 13 .nil)) _ q_ q_ aB.refl (c_ ?_)
 refine Ns (aB.nC (f:=oY) (l:=ls.eraseIdx i) (i:=i) (x:=e.mark (e.b.set (k / 8) (DS x (k % 8)))) aH (JV hil)) ?_;exact aS
end
def iC.p(x:iC):bX:=⟨x.to,x.b,x.broken⟩
def BR(ls:List iC):Prop:=∀e∈ls,e.n=e.b.length/\e.n<=140737488355300
def BR.add{ls:List iC}(h:BR ls)(b:e.n=e.b.length)(d:e.n<=140737488355300):BR (ls++[e]):=by
 intro x a;rcases eL.1 a with a|a
 ·exact h x a
 ·rw[eM] at a;subst a;exact⟨b,d⟩
def aDp{X:Type}{l:List X}{e:X}{Z:Type}{f:X->Z}(a:l[i]?=some e):(l.take (i+1)).map f=(l.take i).map f++[f e]:=by
 obtain⟨h,rfl⟩:=cH.1 a;rw[rS h,gP];rfl
section
variable (E:Env) (g:Nat) (A:n!) (n c:Nat) (ls:List iC)
structure WN(E:Env)(g:Nat)(A:Option Addr)(n c:Nat)(ls:List iC):Prop where
 k:wD E ⟨g,0,none⟩ (.slice A n c)
 r:Rd E iJ A n c ls
 q:∀e∈ls,Rd E bH e.A e.n e.c e.b
def LU(n:Nat)(ls:List iC):Ending->List aG->Prop:=λr f =>
 ∃e d b a,r=.returned (.pointer (some ⟨e,0,none⟩))/\a.map iC.p=ls.map iC.p/\BR a/\(n<=b/\b<=maxLen)/\f=[wr e d n b,own iJ d n b a,aT oY a]
def aPh(hW:WN E g A n c ls)(hn:n<=128)(hok:BR ls):aF prog E 88 #[.pointer (some ⟨g,0,none⟩)] [] (LU n ls):=by
 obtain⟨hk,hr,hq⟩:=hW;have hl:=hr.len;have hmax:=cS;unfold LU;refine t_ func88 ntmps88 ?_;repeat ((fail_if_success (refine C.seq (x:=Code.region 4 _ _) ?_));first|refine mV ?_|refine tU ?_|intro _|refine Dr.two ?_ ?_)
 rename_i g3;refine C.conv ((aB.mR iJ none).trans (aB.pK oY)) (c_ ?_);refine C.loop (X:=Nat×n!×Nat×List iC) (λx=>[(3,.pointer (some ⟨g3,0,none⟩)),(13,.slice A n c),(14,a! n),(15,a! x.1)])
  (λx=>[wr g3 x.2.1 x.1 x.2.2.1,own iJ x.2.1 x.1 x.2.2.1 x.2.2.2,aT oY x.2.2.2]) (λx=>x.1<=n/\x.2.2.2.map iC.p=(ls.take x.1).map iC.p/\x.1=x.2.2.2.length/\BR x.2.2.2/\x.1<=x.2.2.1/\x.2.2.1<=maxLen) (λx=>n - x.1) (0,none,0,[]) aK aC ⟨bY _,rfl,rfl,λ_ h=>(cZ h).elim,bM _,bY _⟩ ?_
 rintro⟨i,B,d,l2⟩ F ⟨hi,hp,h2,h3,h4,h5⟩;dsimp only at hi hp h2 h3 h4 h5⊢;by_cases hlt:i<n
 ·obtain⟨e,he⟩:∃e,ls[i]?=some e:=⟨_,bS o_⟩;have hmem:=dG he;obtain⟨e1,e2⟩:=hok e hmem;have hi128:i<128:=o_;refine c_ ?_;intros;refine cl sD sK aH (λM hE=>O7 M g3 B i d l2 e.A e.n e.c e.to e.broken e.b hi128 h2 (Cf.rd ((hq e hmem).sub hE)) e2) ?_;unfold Dl;rintro r H' ⟨B',d',O,co,rfl,⟨j1,j2⟩,rfl⟩;refine c_ ?_;exact⟨(i+1,B',d',l2++[⟨e.to,O,e.n,co,e.b,e.broken⟩]),aK,aC,⟨by dsimp only;omega,by dsimp only;rw[aDp he,gP,hp];rfl,by dsimp only;rw[bR,<-h2];rfl,h3.add e1 e2,j1,j2⟩,d_⟩
 ·have hin:i=n:=o_;subst hin;refine c_ ?_;exact aX rfl aJ aC (⟨_,_,_,_,rfl,by rw[hp,fX o_],h3,⟨h4,h5⟩,rfl⟩)
end
def aDi{X Y:Type}{f:X->Y}{l:List X}:(l.eraseIdx k).map f=(l.map f).eraseIdx k:=by
 rw[Li,Li,gP,List.map_take,List.map_drop]
structure Wh where
 A:Option Addr
 c:Nat
 ls:List iC
structure Wf(x:Wh)(ws:List bX):Prop where
 p:x.ls.map iC.p=ws
 ok:BR x.ls
 len:ws.length<=128
 cap:ws.length<=x.c/\x.c<=maxLen
abbrev wB(g:Nat)(x:Wh):List aG:=[wr g x.A x.ls.length x.c,own iJ x.A x.ls.length x.c x.ls,aT oY x.ls]
def cI(g:Nat)(ws:List bX):aG:=pack λ(x:Wh)=>mS (Wf x ws)::wB g x
theorem cI.mk{ws:List bX}{x:Wh}(f:Wf x ws):aB E (wB g x++R) (cI g ws::R):=λw e=>by
 have c:St E (mS (Wf x ws)::wB g x++R) w:=aB.qH f w e;exact c.conv λF d=>by
  have⟨a,b,k1,k2,k3,k4⟩:=jU.1 d;exact⟨F,⟨a,b,k1,k2,⟨x,k3⟩,k4⟩,λ_ h=>h⟩
def cI.out{ws:List bX}{w:World}(f:St E (cI g ws::R) w):∃x:Wh,Wf x ws/\St E (wB g x++R) w:=by
 have⟨x,c⟩:=f.unpack (l:=λ(x:Wh)=>mS (Wf x ws)::wB g x) Has.aR;have e:=St.qH (H:=_) (R:=_) c Has.aR;refine⟨x,e,c.conv λF a=>?_⟩;have⟨h,d,k1,k2,k3,k4⟩:=a;exact⟨d,k4,λb hb=>(k1 b).2 (.inr hb)⟩
def DX{f:FuncId}{args:Array p!}{ws:List bX}{Q:Ending->List aG->Prop}(h:∀x:Wh,Wf x ws->aF prog E f args (wB g x) Q):aF prog E f args [cI g ws] Q:=by
 intro a w d;have⟨x,b,c⟩:=cI.out d;exact h x b a w (by simpa using c)
def Wf.n{x:Wh}{ws:List bX}(f:Wf x ws):x.ls.length=ws.length:=by rw[<-f.p,fB]
def Wf.at_{x:Wh}{ws:List bX}(f:Wf x ws){p:bX}(h:ws[i]?=some p):∃e,x.ls[i]?=some e/\e.p=p/\e.n=e.b.length/\e.n<=140737488355300:=by
 rw[<-f.p,mM] at h;cases a:x.ls[i]? with
 |none=>rw[a] at h;cases h
 |some e =>
  rw[a] at h;injection h with h
  exact⟨e,rfl,h,f.ok e (dG a)⟩
def BR.sub{l m:List iC}(h:BR l)(b:∀e∈m,e∈l):BR m:=λe a=>h e (b e a)
def jI(ws:List bX)(i:Int):Option bX:=if i<0 then none else ws[i.toNat]?
def IM{ws:List bX}{i:Int}(h:jI ws i=none):i<0\/(ws.length:Int)<=i:=by
 unfold jI at h;split at h
 ·exact .inl ‹_›
 ·have:=CY.1 h;omega
def CQ{ws:List bX}{i:Int}{p:bX}(h:jI ws i=some p):∃k:Nat,i=k/\ws[k]?=some p:=by
 unfold jI at h;split at h
 ·cases h
 ·exact⟨i.toNat,o_,h⟩
def tB(ws:List bX)(p:bX):List bX×Bool:=if 128<=ws.length then(ws,false) else(ws++[p],true)
def eK(ws:List bX)(i:Int):List bX:=if i<0 then ws else ws.eraseIdx i.toNat
def DV(ws:List bX)(i:Int):List bX×Bool:=match jI ws i with
 |some p=>tB ws p
 |none=>(ws,false)
def DW(ws:List bX)(i k:Int):List bX×Bool:=match jI ws i with
 |some p=>if p.broken=true\/k<0\/(p.b.length:Int)<=k / 8 then(ws,false) else(ws.set i.toNat ⟨p.to,zZ p.b k.toNat,true⟩,true)
 |none=>(ws,false)
section
variable (E:Env) (g:Nat) (ws:List bX)
def Vo:G E 35 [pt g] [cI g ws] (bL (a! ws.length) [cI g ws]):=by
 refine DX λx a=>?_;have c:=a.n;refine aF.post (aF.lR (Hp:=[wr g x.A x.ls.length x.c]) λM _=>aLj M g x.A x.ls.length x.c (by rw[c];exact a.len)) ?_;rintro e d ⟨f,⟨rfl,rfl⟩,rfl⟩;have b:=cI.mk (E:=E) (R:=[]) (g:=g) a;rw[aY] at b;exact⟨_,b,by rw[c],rfl⟩
def En(i:Int):G E 119 [pt g,a! i] [cI g ws] (bL (a! (((jI ws i).map bX.to).getD (-1))) [cI g ws]):=by
 refine DX λx a=>?_;have c:=a.n;have b:=cI.mk (E:=E) (R:=[]) (g:=g) a;rw[aY] at b;cases f:jI ws i with
 |none =>
  refine aF.post (aF.lR (Hp:=[wr g x.A x.ls.length x.c]) λM _=>aAr M g x.A x.ls.length x.c i (by rw[c];exact a.len) (by rw[c];exact IM f)) ?_;rintro e h ⟨j,⟨rfl,rfl⟩,rfl⟩;exact⟨_,b,rfl,rfl⟩
 |some p =>
  obtain⟨k,rfl,l⟩:=CQ f;obtain⟨e,d,rfl,_,_⟩:=a.at_ l;refine aF.post (aF.lR (Hp:=[wr g x.A x.ls.length x.c,own iJ x.A x.ls.length x.c x.ls]) λM _=>aEt M g x.A x.ls.length x.c x.ls k (by rw[c];exact a.len) (cH.1 d).1 d rfl) ?_;rintro e h ⟨j,⟨rfl,rfl⟩,rfl⟩;exact⟨_,b,rfl,rfl⟩
def aCo(i:Int):G E 125 [pt g,a! i] [cI g ws] (bL (.bool (((jI ws i).map bX.broken).getD false)) [cI g ws]):=by
 refine DX λx a=>?_;have c:=a.n;have b:=cI.mk (E:=E) (R:=[]) (g:=g) a;rw[aY] at b;cases f:jI ws i with
 |none =>
  refine aF.post (aF.lR (Hp:=[wr g x.A x.ls.length x.c]) λM _=>aNf M g x.A x.ls.length x.c i (by rw[c];exact a.len) (by rw[c];exact IM f)) ?_;rintro e h ⟨j,⟨rfl,rfl⟩,rfl⟩;exact⟨_,b,rfl,rfl⟩
 |some p =>
  obtain⟨k,rfl,l⟩:=CQ f;obtain⟨e,d,rfl,_,_⟩:=a.at_ l;refine aF.post (aF.lR (Hp:=[wr g x.A x.ls.length x.c,own iJ x.A x.ls.length x.c x.ls]) λM _=>aNk M g x.A x.ls.length x.c x.ls k (by rw[c];exact a.len) (cH.1 d).1 d rfl) ?_;rintro e h ⟨j,⟨rfl,rfl⟩,rfl⟩;exact⟨_,b,rfl,rfl⟩
def aIs(to:Int)(X:n!)(nx cx:Nat)(b:o!)(i:Rd E bH X nx cx b)(d:nx<=140737488355300):G E 30 [pt g,a! to,.slice X nx cx] [cI g ws] (bL (.bool (tB ws ⟨to,b,false⟩).2) [cI g (tB ws ⟨to,b,false⟩).1]):=by
 refine DX λx c=>?_;have q:=c.n;have n:=c.len;have f:=c.cap;unfold tB;by_cases h:128<=ws.length
 rw[c! h];have a:=cI.mk (E:=E) (R:=[]) (g:=g) c;rw[aY] at a;refine aF.post (aF.lR (Hp:=[wr g x.A x.ls.length x.c]) λM _=>aDo M g x.A x.ls.length x.c to X nx cx o_ (by unfold maxLen;omega)) ?_;rintro e k ⟨o,⟨rfl,rfl⟩,rfl⟩;rotate_left;rw[b! h];refine aF.post (aOb E g x.A x.ls.length x.c x.ls to X nx cx b o_ rfl i d) ?_;rintro e k ⟨j,l,O,m,rfl,p,rfl⟩;have a:=cI.mk (E:=E) (R:=[]) (g:=g) (x:=⟨j,l,x.ls++[⟨to,O,nx,m,b,false⟩]⟩) (ws:=ws++[⟨to,b,false⟩]) ⟨by rw[gP,c.p];rfl,c.ok.add i.len d,by rw[bR];simp;omega,by rw[bR];simp;omega⟩;rw[aY] at a;dsimp only[wB] at a;rw[bR] at a;all_goals
  exact⟨_,a,rfl,rfl⟩
def El(i:Int):G E 120 [pt g,a! i] [cI g ws] λr f=>match jI ws i with
  |none=>r=.returned (.tuple #[.slice none 0 0,.bool false])/\f=[cI g ws]
  |some p=>∃A n c,n<=140737488355300/\r=.returned (.tuple #[.slice A n c,.bool true])/\f=[own bH A n c p.b,cI g (eK ws i)]:=by
 refine DX λx a=>?_;have l:=a.n;have b:=a.cap;cases o:jI ws i with
 |none =>
  have d:=cI.mk (E:=E) (R:=[]) (g:=g) a;rw[aY] at d;refine aF.post (aF.lR (Hp:=[wr g x.A x.ls.length x.c]) λM _=>aIo M g x.A x.ls.length x.c i (by rw[l];exact a.len) (by rw[l];exact IM o)) ?_;rintro e f ⟨t,⟨rfl,rfl⟩,rfl⟩;exact⟨_,d,rfl,rfl⟩
 |some p =>
  obtain⟨k,rfl,s⟩:=CQ o;obtain⟨e,h,rfl,q,j⟩:=a.at_ s;have m:=(cH.1 h).1;refine aF.post (aCy E g x.A x.ls.length x.c x.ls k (by rw[l];exact a.len) rfl o_ b.2 h) ?_;rintro r f ⟨rfl,rfl⟩;have d:=cI.mk (E:=E) (R:=[own bH e.A e.n e.c e.b]) (g:=g) (x:=⟨x.A,x.c,x.ls.eraseIdx k⟩) (ws:=eK ws k) ⟨by unfold eK;rw[b! o_,jK,<-a.p,aDi],a.ok.sub λe h=>PS h,by unfold eK;rw[b! o_,jK,List.length_eraseIdx];have:=a.len;split<;>omega,by unfold eK;rw[b! o_,jK,List.length_eraseIdx];dsimp only;refine⟨?_,b.2⟩;split<;>omega⟩;dsimp only[wB] at d;rw[List.length_eraseIdx_of_lt m] at d;exact⟨_,aB.trans (aB.cC (.cons (.bJ .aR) (.cons (.bJ .aR) (.cons (.bJ .aR) (.cons .aR .nil))))) (aB.trans d (aB.cC (.cons (.bJ .aR) (.cons .aR .nil)))),_,_,_,j,rfl,rfl⟩
def aJr(i:Int):G E 124 [pt g,a! i] [cI g ws] (bL (.bool (DV ws i).2) [cI g (DV ws i).1]):=by
 refine DX λx a=>?_;have n:=a.n;have v:=a.len;have l:=a.cap;have b:=cI.mk (E:=E) (R:=[]) (g:=g) a;rw[aY] at b;unfold DV;cases m:jI ws i with
 |none =>
  refine aF.post (aF.lR (Hp:=[wr g x.A x.ls.length x.c]) λM _=>aPf M g x.A x.ls.length x.c i (by rw[n];exact a.len) (by rw[n];exact IM m)) ?_;rintro e j ⟨q,⟨rfl,rfl⟩,rfl⟩;exact⟨_,b,rfl,rfl⟩
 |some p =>
  obtain⟨k,rfl,u⟩:=CQ m;obtain⟨e,d,rfl,f,c⟩:=a.at_ u;dsimp only;unfold tB;by_cases h:128<=ws.length;rw[c! h];refine aF.post (aF.lR (Hp:=[wr g x.A x.ls.length x.c,own iJ x.A x.ls.length x.c x.ls]) λM _=>aSd M g x.A x.ls.length x.c x.ls k o_ (cH.1 d).1 d rfl) ?_;rintro e j ⟨q,⟨rfl,rfl⟩,rfl⟩;rotate_left;rw[b! h];refine aF.post (aDg E g x.A x.ls.length x.c x.ls k o_ (cH.1 d).1 d rfl c) ?_;rintro r j ⟨o,s,O,t,rfl,w,rfl⟩;have b:=cI.mk (E:=E) (R:=[]) (g:=g) (x:=⟨o,s,x.ls++[⟨e.to,O,e.n,t,e.b,e.broken⟩]⟩) (ws:=ws++[e.p]) ⟨by rw[gP,a.p];rfl,a.ok.add f c,by rw[bR];simp;omega,by rw[bR];simp;omega⟩;rw[aY] at b;dsimp only[wB] at b;rw[bR] at b;all_goals
   exact⟨_,b,rfl,rfl⟩
def aAi(i k:Int)(l:bQ k):G E 126 [pt g,a! i,a! k] [cI g ws] (bL (.bool (DW ws i k).2) [cI g (DW ws i k).1]):=by
 refine DX λx b=>?_;have u:=b.n;have n:=b.len;have d:=b.cap;have a:=cI.mk (E:=E) (R:=[]) (g:=g) b;rw[aY] at a;unfold DW;cases t:jI ws i with
 |none =>
  refine aF.post (aF.lR (Hp:=[wr g x.A x.ls.length x.c]) λM _=>aBi M g x.A x.ls.length x.c i k (by rw[u];exact b.len) (by rw[u];exact IM t)) ?_;rintro e s ⟨v,⟨rfl,rfl⟩,rfl⟩;exact⟨_,a,rfl,rfl⟩
 |some p =>
  obtain⟨j,rfl,z⟩:=CQ t;obtain⟨e,m,rfl,c,f⟩:=b.at_ z;dsimp only;have F:=(cH.1 m).1;by_cases h:e.p.broken=true\/k<0\/(e.p.b.length:Int)<=k / 8
  ·rw[c! h];refine aF.post (aF.lR (Hp:=[wr g x.A x.ls.length x.c,own iJ x.A x.ls.length x.c x.ls]) λM _=>aLy M g x.A x.ls.length x.c x.ls j k o_ rfl m (by unfold maxLen;omega) (by rw[c];exact h) l) ?_;rintro r s ⟨v,⟨rfl,rfl⟩,rfl⟩;exact⟨_,a,rfl,rfl⟩
  ·rw[b! h];have⟨hb,A⟩:=not_or.1 h;have⟨B,D⟩:=not_or.1 A;obtain⟨q,rfl⟩:=zI (show 0<=k by omega);have w:e.p.b.length=e.b.length:=rfl;refine aF.post (aKv E g x.A x.ls.length x.c x.ls j q o_ rfl m c f (Bool.eq_false_iff.2 hb) o_) ?_;rintro r s ⟨rfl,rfl⟩;have a:=cI.mk (E:=E) (R:=[]) (g:=g) (x:=⟨x.A,x.c,x.ls.set j (e.mark (zZ e.b q))⟩) (ws:=ws.set j ⟨e.to,zZ e.b q,true⟩) ⟨by rw[<-b.p,List.map_set];rfl,λy o=>by
    rcases Ca o with o|rfl
    ·exact b.ok y o
    ·exact⟨by dsimp only[iC.mark];unfold zZ;rw[iM];exact c,f⟩,by rw[iM];exact n,by rw[iM];exact d⟩
   rw[aY] at a;dsimp only[wB] at a;rw[iM] at a;exact⟨_,aB.trans (aB.cC (.cons (.bJ .aR) (.cons (.bJ .aR) (.cons .aR .nil)))) a,rfl,rfl⟩
def aMz:G E 88 [pt g] [cI g ws] λr k=>∃m,r=.returned (pt m)/\k=[cI m ws,cI g ws]:=by
 refine DX λx a=>?_;have u:=a.n;have j:=a.len;have n:=cI.mk (E:=E) (R:=[]) (g:=g) a;rw[aY] at n;refine aF.post (aF.read (Q0:=LU x.ls.length x.ls) λM e=>aPh M g x.A x.ls.length x.c x.ls ⟨wD.aE (i:=0) e Has.aR rfl,Sub.own e (.bJ .aR),λe q=>?_⟩ o_ a.ok) ?_
 ·obtain⟨i,s,rfl⟩:=oV q;exact Sub.aT (f:=oY) e (.bJ (.bJ .aR)) (bS s) rfl
 ·rintro r k ⟨t,⟨c,o,p,b,rfl,k1,k2,k3,rfl⟩,rfl⟩;have h:b.length=x.ls.length:=by have:=j! List.length k1;rwa [fB,fB] at this
  have d:=cI.mk (E:=E) (R:=wB g x) (g:=c) (x:=⟨o,p,b⟩) (ws:=ws) ⟨by rw[k1,a.p],k2,j,d_⟩;dsimp only[wB] at d n;rw[h] at d;refine⟨[cI c ws,cI g ws],aB.trans d ?_,c,rfl,rfl⟩;refine aB.trans (aB.cC (l:=[wr g x.A x.ls.length x.c,own iJ x.A x.ls.length x.c x.ls,aT oY x.ls]++[cI c ws]) (.cons (.bJ .aR) (.cons (.bJ .aR) (.cons (.bJ .aR) (.cons .aR .nil))))) ?_;exact aB.trans (cI.mk (x:=x) a) (aB.cC (.cons (.bJ .aR) (.cons .aR .nil)))
end
end
section
open Oct
abbrev dO:List Nat:=[1,1,2,1,1,4]
abbrev D8(b:o!):aL:=⟨va dO b 1,va dO b 2⟩
abbrev DA(b:o!):bV:=⟨D8 b,va dO b 3,decide ((va dO b 4:Int)=1)⟩
def Hl(b:o!):o!:=b.drop 1
def rF(b:o!):fQ :=
 if va dO b 0=1 then R1 ((rW (Hl b)).getD kU)
 else if va dO b 0=2 then R2 (D8 b)
 else if va dO b 0=3 then R3 (DA b) (va dO b 5)
 else if va dO b 0=4 then R4 (DA b)
 else⟨va dO b 0,mG,⟨0,0⟩,wW,0⟩
def FU(x:fQ):Bool :=
 if x.kind=1 then x.c.may else if x.kind=2 then x.id.may else if x.kind=3 then x.key.may&&yN x.now else if x.kind=4 then x.key.may else false
def sR(x:fQ):o! :=
 if x.kind=1 then[1]++x.c.put else if x.kind=2 then[2]++lG x.id else if x.kind=3 then[3]++fS x.key++be x.now.toNat 4 else[4]++fS x.key
def tT(b:o!):Option fQ:=if FU (rF b)=true/\sR (rF b)=b then some (rF b) else none
abbrev uQ(b:o!):aL:=⟨aW b 1 1,aW b 2 2⟩
abbrev keyOf(b:o!):bV:=⟨uQ b,aW b 4 1,decide ((aW b 5 1:Int)=1)⟩
def DL{b:o!}{n:Nat}(h:b.length=n):(4<=n->D8 b=uQ b)/\(6<=n->DA b=keyOf b)/\(10<=n->va dO b 5=aW b 6 4)/\(1<=n->va dO b 0=aW b 0 1):=by
 have a:4<=n->D8 b=uQ b:=λh4=>by
  unfold D8 uQ
  grind [pP]
 refine⟨a,λh6=>?_,λh10=>pP rfl rfl sD o_,λh0=>pP rfl rfl sD o_⟩;unfold DA keyOf
 grind [pP]
def aJb{b:o!}(h:b.length=0):va dO b 0=0:=by grind [Vf]
theorem Rg{b:o!}(h:4<=b.length):lG (uQ b)=(b.drop 1).take 3:=by
 unfold lG uQ;simp only[jK];rw[pX o_,pX o_];rw[show(3:Nat)=1+2 from rfl,zO,pU]
def head_eq{b:o!}{x:UInt8}(h:1<=b.length)(a:aW b 0 1=x.toNat):b=x::b.drop 1:=by
 cases b with
 |nil=>simp at h
 |cons y t =>
  have:aW (y::t) 0 1=y.toNat:=FV (l:=y::t) (i:=0) s_;rw[this] at a;rw[Ch.1 a];rfl
theorem aIi(k:Nat)(h:k<256):UInt8.ofNat (mU (decide ((k:Int)=1))).toNat=UInt8.ofNat k↔k<=1:=by
 constructor
 ·intro a;by_cases c:k=1
  ·omega
  ·rw[e! o_] at a;have b:=j! UInt8.toNat a;simp[mU] at b;omega
 ·intro a;rcases(show k=0\/k=1 by omega) with rfl|rfl<;>rfl
theorem SM{b:o!}(h:6<=b.length):fS (keyOf b)=(b.drop 1).take 5↔aW b 5 1<=1:=by
 have a:=mP b 4 1;have c:=mP b 5 1;have e:(b.drop 1).take 5=(b.drop 1).take 3++([UInt8.ofNat (aW b 4 1)]++[UInt8.ofNat (aW b 5 1)]):=by
  rw[<-zS,<-zS,pX o_,pX o_];rw[show(5:Nat)=3+(1+1) from rfl,zO,zO,pU,pU]
 unfold fS;rw[e,show(keyOf b).id=uQ b from rfl,Rg o_];rw[show((keyOf b).ord).toNat=aW b 4 1 from jK _,show(keyOf b).cJ=decide ((aW b 5 1:Int)=1) from rfl]
 grind [List.append_cancel_left,aIi]
end
section
open Go.RowKit Reg Oct
open Mem hiding Rd
def N2{b:o!}(h:va dO b 0=1):rF b=R1 ((rW (Hl b)).getD kU):=c! h
def N3{b:o!}(h:va dO b 0=2):rF b=R2 (D8 b):=by
 unfold rF;rw[b! o_,c! h]
def N4{b:o!}(h:va dO b 0=3):rF b=R3 (DA b) (va dO b 5):=by
 unfold rF;rw[b! o_,b! o_,c! h]
def N5{b:o!}(h:va dO b 0=4):rF b=R4 (DA b):=by
 unfold rF;rw[b! o_,b! o_,b! o_,c! h]
def T3{b:o!}(h:¬(1<=va dO b 0/\va dO b 0<=4)):rF b=⟨va dO b 0,mG,⟨0,0⟩,wW,0⟩:=by
 unfold rF;rw[b! o_,b! o_,b! o_,b! o_]
def WM(x:fQ):Prop :=
 (FU x=true->∀E,aF prog E 228 #[.agg x.cs.toArray] [] λe a=>∃b c,e=.returned (.tuple #[.slice b (sR x).length c,a! 0])/\a=[own bH b (sR x).length c (sR x)]) /\
 (FU x=false->∃k:Int,k≠0/\∀E,aF prog E 228 #[.agg x.cs.toArray] [] λe a=>e=.returned (.tuple #[.slice none 0 0,a! k])/\a=[])
def KD(x:fQ)(a:1<=x.kind/\x.kind<=4)(hb:∀E,aF prog E 300 #[.agg x.cs.toArray] [] (Er x false)):∃k:Int,k≠0/\∀E,aF prog E 228 #[.agg x.cs.toArray] [] λe b=>e=.returned (.tuple #[.slice none 0 0,a! k])/\b=[] :=
 ⟨4,by decide,UH x 4 sD (λE=>by have:=DK x false a hb E;rwa [b! lA] at this)⟩
def aFg(b:o!):WM (rF b):=by
 by_cases h1:va dO b 0=1
 ·rw[N2 h1];generalize (rW (Hl b)).getD kU=y;refine⟨λhf E=>?_,λhf=>KD _ ⟨show(1:Int)<=1 by decide,show(1:Int)<=4 by decide⟩ λE=>?_⟩
  ·have hm:y.may=true:=hf;have h:=UD E y hm;have e:sR (R1 y)=[1]++y.put:=rfl;rw[e,show([1]++y.put:o!).length=23 by simp[aI.iP]];exact h
  ·have hm:y.may=false:=hf;have h:=L9 E y;rw[hm] at h;exact h
 by_cases h2:va dO b 0=2
 ·rw[N3 h2];generalize D8 b=y;refine⟨λhf E=>?_,λhf=>KD _ ⟨show(1:Int)<=2 by decide,show(2:Int)<=4 by decide⟩ λE=>?_⟩
  ·have hm:y.may=true:=hf;have h:=UE E y hm;have e:sR (R2 y)=[2]++lG y:=rfl;rw[e,show([2]++lG y:o!).length=4 by simp[D7]];exact h
  ·have hm:y.may=false:=hf;have h:=P3 E y;rw[hm] at h;exact h
 by_cases h3:va dO b 0=3
 ·rw[N4 h3];generalize DA b=y;generalize va dO b 5=w;refine⟨λhf E=>?_,λhf=>KD _ ⟨show(1:Int)<=3 by decide,show(3:Int)<=4 by decide⟩ λE=>?_⟩
  ·have hm:(y.may&&yN w)=true:=hf;rw[fI] at hm;have h:=UF E y w hm.1 hm.2;have e:sR (R3 y w)=[3]++fS y++be (w:Int).toNat 4:=rfl;rw[e,show([3]++fS y++be (w:Int).toNat 4:o!).length=10 by simp[Bu,eJ]];exact h
  ·have hm:(y.may&&yN w)=false:=hf;have h:=MA E y w;rw[hm] at h;exact h
 by_cases h4:va dO b 0=4
 ·rw[N5 h4];generalize DA b=y;refine⟨λhf E=>?_,λhf=>KD _ ⟨show(1:Int)<=4 by decide,show(4:Int)<=4 by decide⟩ λE=>?_⟩
  ·have hm:y.may=true:=hf;have h:=UG E y hm;have e:sR (R4 y)=[4]++fS y:=rfl;rw[e,show([4]++fS y:o!).length=6 by simp[Bu]];exact h
  ·have hm:y.may=false:=hf;have h:=MC E y;rw[hm] at h;exact h
 have hno:¬(1<=va dO b 0/\va dO b 0<=4):=o_;rw[T3 hno];generalize va dO b 0=w at *;refine⟨λhf=>?_,λ_=>⟨12,by decide,UH _ 12 sD (aDr _ ?_)⟩⟩
 ·exfalso;unfold FU at hf;dsimp only at hf;rw[b! o_,b! o_,b! o_,b! o_] at hf;cases hf
 ·show ¬((1:Int)<=w/\(w:Int)<=4);omega
def OB(E:Env)(A:n!)(n c:Nat)(b:o!)(hr:Rd E bH A n c b)(hl:n<=140737488355300) :
  aF prog E 227 #[.slice A n c] [] λe H'=>e=.returned (.tuple #[.agg ((tT b).getD T1).cs.toArray,a! (if (tT b).isSome then 0 else 16)])/\H'=[]:=by
 have hn:=hr.len;have hcap:=hr.cap;have o1:1<=1/\1<=8:=o_;have o2:1<=2/\2<=8:=o_;have o4:1<=4/\4<=8:=o_;have q0:iG (vl (false,b) 1)=(va dO b 0:Nat):=oO (pI (oQ _ 1) sD);have q1:iG (vl (st dO b 1) 1)=(va dO b 1:Nat):=oO (pI (oQ _ 1) sD);have q2:iG (vl (st dO b 2) 2)=(va dO b 2:Nat):=oO (pI (oQ _ 2) sD);have q3:iG (vl (st dO b 3) 1)=(va dO b 3:Nat):=oO (pI (oQ _ 1) sD);have q4:iG (vl (st dO b 4) 1)=(va dO b 4:Nat):=oO (pI (oQ _ 1) sD);have q5:iG (vl (st dO b 5) 4)=(va dO b 5:Nat):=oO (pI (oQ _ 4) sD);have hput:=aFg b;have l0:=GG dO b 0;have hs1:va dO b 0=1->1<=n:=λh=>by
  by_cases h0:b.length=0
  ·rw[aJb h0] at h;cases h
  ·omega
 refine x_ func227 ntmps227 ?_;intros;refine cU (λM h1=>AJ M A n c b h1 o_) ?_;rintro e H' ⟨g,A0,c0,rfl,h5,h6,rfl⟩;refine gk bU ?_;unfold nQ;refine c_ ?_;intros;rename_i gres gr;refine L.step sD (S.fN rfl cQ rfl rfl func282 q_ rfl aH (λM hE=>zA M gr g (false,b) (st dO b 1) 1 _ rfl q0 A0 n c0 1 rfl o1 bK) ?_);rintro e H' ⟨A1,n1,c1,rfl,hal1,rfl⟩;refine gk bU ?_;repeat ((fail_if_success (refine C.seq (x:=Code.region 4 _ _) ?_));first|refine mV ?_|refine tU ?_|intro _|refine Dr.two ?_ ?_)
 rename_i gx;refine C.cW (X:=Unit) (λ_=>[(0,.slice A n c),(2,.pointer (some ⟨gres,0,none⟩)),(6,.pointer (some ⟨gx,0,none⟩))]) (λ_=>[aE gres 202 T1.cs,aE gx 202 (rF b).cs]) (λ_=>True) ?_ ?_
 ·by_cases k1:va dO b 0=1
  ·have hn1:=hs1 k1;have e1:st dO b 1=(false,b.drop 1):=ID (i:=1) sD (by simp;omega);have hnx:nx false (b.drop 1) ((b.drop 1).length:Nat)=(some ((b.drop 1).take (b.drop 1).length),false,(b.drop 1).drop (b.drop 1).length):=DG (bM _);rw[fX (bM _)] at hnx;have hlen:(b.drop 1).length<=140737488355328:=by simp;omega
   have hlen2:(b.drop 1).length<=140737488355300:=by simp;omega
   have z1:((va dO b 0:Nat):Int)=1:=o_;rw[N2 k1,z1];rw[e1] at hal1⊢;dsimp only at hal1⊢;unfold Hl;generalize b.drop 1=d at *;generalize hy:(rW d).getD kU=y;refine c_ ?_;refine rB (l_ [0,1] (g_ 2 (g_ 3 (l_ [4,5,6,7,8] .nil)))) ([aE gr 276 [.pointer (some ⟨g,0,none⟩)]]) (c_ ?_);refine cg rfl sD bB sK aH (λM hE=>HT M g false A1 n1 c1 d (hal1 _ bK)) ?_;rw[b! lA];refine e_ ?_;refine cg rfl sD bB sK aH (λM hE=>Cm M g false A1 n1 c1 d d.length (hal1 _ bK) hlen) ?_;rw[hnx];rintro e H' ⟨A3,n3,c3,B,dd,rfl,hal3,hmd,hd3,rfl⟩;dsimp only[Option.getD,Option.isSome] at hmd⊢;refine c_ ?_;refine cl sD sK aH (λM hE=>JH M B d.length dd d _ rfl bK hlen2) ?_;rw[hy];refine e_ ?_;exact⟨(),aK,aC,trivial⟩
  by_cases k2:va dO b 0=2
  ·have z2:((va dO b 0:Nat):Int)=2:=o_;rw[N3 k2,z2];refine c_ ?_;refine L.step sD (S.fN rfl cQ rfl rfl func282 q_ rfl aH (λM hE=>zA M gr g (st dO b 1) (st dO b 2) 1 _ rfl q1 A1 n1 c1 1 rfl o1 (hal1 _ bK)) ?_);rintro e H' ⟨A2,n2,c2,rfl,hal2,rfl⟩;refine c_ ?_;refine L.step sD (S.fN rfl cQ rfl rfl func282 q_ rfl aH (λM hE=>zA M gr g (st dO b 2) (st dO b 3) 2 _ rfl q2 A2 n2 c2 2 rfl o2 (hal2 _ (hal1 _ bK))) ?_);rintro e H' ⟨A3,n3,c3,rfl,hal3,rfl⟩;refine c_ ?_;exact⟨(),aK,aC,trivial⟩
  by_cases k3:va dO b 0=3
  ·have z3:((va dO b 0:Nat):Int)=3:=o_;rw[N4 k3,z3];refine c_ ?_;refine L.step sD (S.fN rfl cQ rfl rfl func282 q_ rfl aH (λM hE=>zA M gr g (st dO b 1) (st dO b 2) 1 _ rfl q1 A1 n1 c1 1 rfl o1 (hal1 _ bK)) ?_);rintro e H' ⟨A2,n2,c2,rfl,hal2,rfl⟩;refine c_ ?_;refine L.step sD (S.fN rfl cQ rfl rfl func282 q_ rfl aH (λM hE=>zA M gr g (st dO b 2) (st dO b 3) 2 _ rfl q2 A2 n2 c2 2 rfl o2 (hal2 _ (hal1 _ bK))) ?_);rintro e H' ⟨A3,n3,c3,rfl,hal3,rfl⟩;refine c_ ?_;refine L.step sD (S.fN rfl cQ rfl rfl func282 q_ rfl aH (λM hE=>zA M gr g (st dO b 3) (st dO b 4) 1 _ rfl q3 A3 n3 c3 1 rfl o1 (hal3 _ (hal2 _ (hal1 _ bK)))) ?_);rintro e H' ⟨A4,n4,c4,rfl,hal4,rfl⟩;refine c_ ?_;refine L.step sD (S.fN rfl cQ rfl rfl func282 q_ rfl aH (λM hE=>zA M gr g (st dO b 4) (st dO b 5) 1 _ rfl q4 A4 n4 c4 1 rfl o1 (hal4 _ (hal3 _ (hal2 _ (hal1 _ bK))))) ?_);rintro e H' ⟨A5,n5,c5,rfl,hal5,rfl⟩;refine c_ ?_;refine L.step sD (S.fN rfl cQ rfl rfl func282 q_ rfl aH (λM hE=>zA M gr g (st dO b 5) (st dO b 6) 4 _ rfl q5 A5 n5 c5 4 rfl o4 (hal5 _ (hal4 _ (hal3 _ (hal2 _ (hal1 _ bK)))))) ?_);rintro e H' ⟨A6,n6,c6,rfl,hal6,rfl⟩;refine c_ ?_;exact⟨(),aK,aC,trivial⟩
  by_cases k4:va dO b 0=4
  ·have z4:((va dO b 0:Nat):Int)=4:=o_;rw[N5 k4,z4];refine c_ ?_;refine L.step sD (S.fN rfl cQ rfl rfl func282 q_ rfl aH (λM hE=>zA M gr g (st dO b 1) (st dO b 2) 1 _ rfl q1 A1 n1 c1 1 rfl o1 (hal1 _ bK)) ?_);rintro e H' ⟨A2,n2,c2,rfl,hal2,rfl⟩;refine c_ ?_;refine L.step sD (S.fN rfl cQ rfl rfl func282 q_ rfl aH (λM hE=>zA M gr g (st dO b 2) (st dO b 3) 2 _ rfl q2 A2 n2 c2 2 rfl o2 (hal2 _ (hal1 _ bK))) ?_);rintro e H' ⟨A3,n3,c3,rfl,hal3,rfl⟩;refine c_ ?_;refine L.step sD (S.fN rfl cQ rfl rfl func282 q_ rfl aH (λM hE=>zA M gr g (st dO b 3) (st dO b 4) 1 _ rfl q3 A3 n3 c3 1 rfl o1 (hal3 _ (hal2 _ (hal1 _ bK)))) ?_);rintro e H' ⟨A4,n4,c4,rfl,hal4,rfl⟩;refine c_ ?_;refine L.step sD (S.fN rfl cQ rfl rfl func282 q_ rfl aH (λM hE=>zA M gr g (st dO b 4) (st dO b 5) 1 _ rfl q4 A4 n4 c4 1 rfl o1 (hal4 _ (hal3 _ (hal2 _ (hal1 _ bK))))) ?_);rintro e H' ⟨A5,n5,c5,rfl,hal5,rfl⟩;refine c_ ?_;exact⟨(),aK,aC,trivial⟩
  rw[T3 o_];refine c_ ?_;exact⟨(),aK,aC,trivial⟩
 rintro - G -;have hkg:tT b=if FU (rF b)=true/\sR (rF b)=b then some (rF b) else none:=rfl;generalize rF b=x at *;refine c_ ?_;cases hf:FU x
 ·have⟨k,hk0,hk⟩:=hput.2 hf;rw[b! (λh=>by rw[hf] at h;cases h.1)] at hkg;rw[hkg];dsimp only[Option.getD,Option.isSome];rw[b! lA];refine A_ hk ?_;exact lD
 ·have hp:=hput.1 hf;refine aU hp ?_;rintro e H' ⟨A2,c2,rfl,rfl⟩;refine gk bU ?_;by_cases hb:sR x=b;rw[c! ⟨hf,hb⟩] at hkg;rw[hkg];dsimp only[Option.getD,Option.isSome];rw[c! rfl];have hd:decide (sR x≠b)=false:=by simp[hb]
  rotate_left;rw[b! (λh=>hb h.2)] at hkg;rw[hkg];dsimp only[Option.getD,Option.isSome];rw[b! lA];have hd:decide (sR x≠b)=true:=by simp[hb]
  all_goals
   refine c_ ?_;exact lD
end
section
open Oct
def s?{b:o!}(a:aW b 0 1=1)(g:b.length=23):tT b=(rW (b.drop 1)).map R1:=by
 have i:=(DL (b:=b) rfl).2.2.2 o_;have hb:=head_eq (x:=1) o_ a;unfold tT;rw[N2 o_];unfold Hl;cases d:rW (b.drop 1) with
 |none =>
  rw[b!]
  ·rfl
  ·rintro⟨e,_⟩;have:kU.may=true:=e;revert this;decide
 |some c =>
  have⟨_,f,h,_⟩:=QM d;rw[c!]
  ·rfl
  ·refine⟨f,?_⟩;show[1]++c.put=b;grind
def t?{b:o!}(a:aW b 0 1=2)(d:b.length=4):tT b=if (uQ b).may=true then some (R2 (uQ b)) else none:=by
 have e:=(DL (b:=b) rfl).2.2.2 o_;have c:=(DL (b:=b) rfl).1 o_;have hb:=head_eq (x:=2) o_ a;unfold tT;rw[N3 o_,c];refine M6 ⟨λh=>h.1,λh=>⟨h,?_⟩⟩;show[2]++lG (uQ b)=b
 grind [Rg,List.take_of_length_le]
def u?{b:o!}(c:aW b 0 1=3)(i:b.length=10):tT b=if aW b 5 1<=1/\((keyOf b).may&&yN (aW b 6 4))=true then some (R3 (keyOf b) (aW b 6 4)) else none:=by
 have j:=(DL (b:=b) rfl).2.2.2 o_;have d:=(DL (b:=b) rfl).2.1 o_;have f:=(DL (b:=b) rfl).2.2.1 o_;have hb:=head_eq (x:=3) o_ c;have a:sR (R3 (keyOf b) (aW b 6 4))=b↔aW b 5 1<=1:=by
  have e:sR (R3 (keyOf b) (aW b 6 4))=3::(fS (keyOf b)++be (aW b 6 4) 4):=by
   show[3]++fS (keyOf b)++be ((aW b 6 4:Nat):Int).toNat 4=_
   grind
  have g:b.drop 1=(b.drop 1).take 5++(b.drop 6).take 4:=by
   grind [List.take_of_length_le,List.take_append_drop,List.drop_drop]
  rw[e,pX o_,<-SM o_]
  grind
 unfold tT;rw[N4 o_,d,f];exact M6 ⟨λh=>⟨a.1 h.2,h.1⟩,λh=>⟨h.2,a.2 h.1⟩⟩
def v?{b:o!}(c:aW b 0 1=4)(f:b.length=6):tT b=if aW b 5 1<=1/\(keyOf b).may=true then some (R4 (keyOf b)) else none:=by
 have g:=(DL (b:=b) rfl).2.2.2 o_;have d:=(DL (b:=b) rfl).2.1 o_;have hb:=head_eq (x:=4) o_ c;have a:sR (R4 (keyOf b))=b↔aW b 5 1<=1:=by
  have e:sR (R4 (keyOf b))=4::fS (keyOf b):=rfl
  grind [List.take_of_length_le,SM,List.drop]
 unfold tT;rw[N5 o_,d];exact M6 ⟨λh=>⟨a.1 h.2,h.1⟩,λh=>⟨h.2,a.2 h.1⟩⟩
end
end Go.Proofs.YtmilalkjbojciaaGreat.Sep
