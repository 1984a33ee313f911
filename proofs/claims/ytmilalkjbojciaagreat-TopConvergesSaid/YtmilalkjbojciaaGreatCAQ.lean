/- Part AQ: what it needs. No condition. -/
import Derived.Test.YtmilalkjbojciaaGreatCAP
set_option linter.all false
set_option maxRecDepth 100000
set_option maxHeartbeats 8000000
open Go.Proofs.Tryz
namespace Go.Proofs.YtmilalkjbojciaaGreat.Sep
variable{P:List Ov}{cf:bW}{g:Nat}{k:Int}
section
open Go.RowKit Reg Oct
open Mem hiding Rd
def wN(l:List bC):o!:=l.flatMap rX
def QR{l:List bC}(h:JL l):(wN l).length<=10000*l.length:=by
 induction l with
 |nil=>exact bM _
 |cons p l e =>
  have f:=e λx d=>h x (kF _ d);have a:=h p jW;have b:=Mb a.2.may;have g:=a.1.len;have i:=a.1.qC;show(rX p++wN l).length<=_;have c:(rX p).length=2+(qW p.l).length:=by unfold rX qW;simp;omega
  rw[bR,c,b,gL];omega
def R6{s:Sv}(h:Gd s):kA s=jN s.v.l++(jN s.v.t++wN s.ps):=by
 have f:=h.v.len;have e:∀l:List aI,l.length<=48->(∀c∈l,c∈s.v.l++s.v.t)->yK l=jN l:=λl d b=>by
  unfold yK;rw[b! o_,c! (qR.2 λc a=>h.v.may (b c a))]
 unfold kA;rw[e _ o_ (λc a=>zN _ a),e _ o_ (λc a=>tJ _ a),bF];rfl
section
variable (E:Env)
def KA(b:Bool)(hb:b=true):G E 328 [.bool b] [] (bL (.tuple #[]) []):=by subst hb;exact Fq E
def x5(P:List Ov)(s:Sv)(hg:Gd s)(B:n!)(n c:Nat)(hr:Rd E bH B n c (kA s)):G E 281 [a! s.r,.slice B n c] [aQ P] λe H'=>∃Q g,e=.returned (pt g)/\H'=[cA (P++Q) g s,aQ (P++Q)]:=by
 have hmax:=cS;have hlen:=hg.v.len;have hcb:=QR hg.ch;have hnp:=hg.np;have hrep:=hg.rep;have pl1:=Fy s.v.l;have pl2:=Fy s.v.t;have hbl:(kA s).length<=1000000:=by
  rw[R6 hg];unfold jN;simp only[bR,gL];omega
 have hn:=hr.len;have new:=λM=>Tn M P s.r;rw[show fC s.r 0 3=s.r by unfold fC;rw[b! o_,b! o_]] at new;have ch1:=λM g=>Ui M g s.v.l (jN s.v.t++wN s.ps) o_ (λc hc=>⟨hg.v.may (zN _ hc),hg.v.qE c hc⟩) (by unfold jN;simp only[bR,gL];omega);have ch2:=λM g=>Ui M g s.v.t (wN s.ps) o_ (λc hc=>⟨hg.v.may (tJ _ hc),hg.v.vS c hc⟩) o_;refine p_ func281 ntmps281 ?_
 refine u_ new ?_;intro gs;refine cU (λM h1=>AJ M B n c (kA s) h1 o_) ?_;rintro e H' ⟨gr,A0,c0,rfl,k1,k2,rfl⟩;refine gk bU ?_;unfold nQ;refine L.conv (aB.cC (l:=[gA gr true false A0 n c0,own bH A0 n c0 (kA s)]++[cA P gs ⟨sI,[],s.r⟩,aQ P]) aH) ?_;refine L.conv (kY.mk (x:=⟨A0,n,c0,kA s,A0,n,c0⟩) mW.refl) (a_ ?_);intros;rename_i g6;have e0:kY gr (kA s)=kY gr (jN s.v.l++(jN s.v.t++wN s.ps)):=by rw[R6 hg]
 rw[e0];refine u_ (λM=>ch1 M gr) ?_;intro A1 c1 hc1;refine C.scan (Y:=List Ov) (l:=s.v.l) rfl (λi _=>[(0,a! s.r),(1,.slice B n c),(5,pt gs),(6,pt g6),(18,.slice A1 s.v.l.length c1),(19,a! s.v.l.length),(20,a! i)])
  (λi Q=>[cA (P++Q) gs (kB s.r (s.v.l.take i)),aQ (P++Q),aE g6 414 [pt gr],own bO A1 s.v.l.length c1 s.v.l,kY gr (jN s.v.t++wN s.ps)]) (λ_ _=>True) [] aK (by rw[qU,aY,show kB s.r []=⟨sI,[],s.r⟩ from rfl];exact aC) trivial ?_ ?_
 ·rintro i Q x F hi hx _;have⟨d1,d2⟩:=aQs hg hx;have hxo:(Rc.cB x).ok:=hg.v.qE x (dG hx);rw[T5 hx];generalize kB s.r (s.v.l.take i)=z at *;have law:=λM=>CC M (P++Q) gs z (.cB x) hxo;have law2:=λM Q2=>CC M (P++Q++Q2) gs (z.doc (.cB x)).1 (.cD x.id) trivial;rw[d1] at law;rw[d2] at law2;generalize ((z.doc (.cB x)).1.doc (.cD x.id)).1=z3 at law2⊢;generalize (z.doc (.cB x)).1=z2 at law law2;refine a_ ?_;intros
  refine r_ (λM=>Fm M x) ?_;refine u_ law ?_;intro Q2;refine r_ (λM=>EJ M x.id) ?_;refine u_ (λM=>law2 M Q2) ?_;intro Q3;refine cl sD sK aH (λM hE=>KA M _ (by rfl)) (b_ ?_);exact⟨Q++Q2++Q3,aK,(by rw[<-bF,<-bF];exact aC),trivial⟩
 rintro Q F -;rw[gY];refine a_ ?_;refine u_ (λM=>ch2 M gr) ?_;intro A2 c2 hc2;refine C.scan (Y:=List Ov) (l:=s.v.t) rfl (λi _=>[(0,a! s.r),(1,.slice B n c),(5,pt gs),(6,pt g6),(40,.slice A2 s.v.t.length c2),(41,a! s.v.t.length),(42,a! i)])
  (λi Q=>[cA (P++Q) gs (BC (kB s.r s.v.l) (s.v.t.take i)),aQ (P++Q),aE g6 414 [pt gr],own bO A2 s.v.t.length c2 s.v.t,kY gr (wN s.ps)]) (λ_ _=>True) Q aK (by rw[qU,show BC (kB s.r s.v.l) []=kB s.r s.v.l from rfl];exact aC) trivial ?_ ?_
 ·rintro i Q x F hi hx _;have d1:=aDk hg hx;have hxo:(Rc.cB x).ok:=hg.v.vS x (dG hx);rw[T7 hx];generalize BC (kB s.r s.v.l) (s.v.t.take i)=z at *;have law:=λM=>CC M (P++Q) gs z (.cB x) hxo;rw[d1] at law;generalize (z.doc (.cB x)).1=z2 at law⊢;refine a_ ?_;intros
  refine r_ (λM=>Fm M x) ?_;refine u_ law ?_;intro Q2;refine cl sD sK aH (λM hE=>KA M _ (by rfl)) (b_ ?_);exact⟨Q++Q2,aK,(by rw[<-bF];exact aC),trivial⟩
 rintro Q F -;rw[gY,T6 hg];have cL:=λM=>aLh M (P++Q) gs (part s 0);rw[Nl] at cL;refine a_ ?_
 refine aU cL ?_;rintro e H' ⟨O,oc,chl,-,rfl,rfl⟩;refine a_ ?_;refine C.loop (X:=Nat) (λi=>[(0,a! s.r),(1,.slice B n c),(5,pt gs),(6,pt g6),(55,a! s.ps.length),(56,a! i)])
  (λi=>[cA (P++Q) gs (part s i),aQ (P++Q),aE g6 414 [pt gr],kY gr (wN (s.ps.drop i))]) (λi=>i<=s.ps.length) (λi=>s.ps.length - i) 0 aK (by rw[uG];exact aC) (bY _) ?_
 intro i F hi;by_cases hlt:i<s.ps.length
 ·have hj:=hg.ch _ (zL hlt);have e1:wN (s.ps.drop i)=rX s.ps[i]++wN (s.ps.drop (i+1)):=by rw[lL hlt];rfl
  have hcb2:=QR (l:=s.ps.drop (i+1)) λp hp=>hg.ch p (CZ hp);rw[lB] at hcb2;have hl:=Tg hg hlt;have hgl:=hg.part (i+1) hlt;have sch:=λM=>aFf M gr ⟨s.r,((i+1:Nat):Int)⟩ s.ps[i] hj (wN (s.ps.drop (i+1))) o_;have rep:=λM=>Fx M (P++Q) gs (part s i);have ld:=λM A m c hr hm=>aQv M (P++Q) gs (part s i) i (s.ps[i]'hlt).made A m c (s.ps[i]'hlt).l hr hm hj.1.oJ;have er:(part s i).r=s.r:=rfl;have hl1:=hj.1.len;have hl2:=hj.1.qC;have hw:IntKind.i64.wrap ((i:Int)+1)=((i+1:Nat):Int):=by rw[dY _ o_];rfl
  rw[er] at rep ld;rw[hl] at ld;rw[e1];generalize s.ps[i]=p at *;dsimp only[aL.cs] at sch ld;refine a_ ?_;refine rB (l_ [0,1,2,4,5] (g_ 3 (n_ 6 (g_ 7 (g_ 8 (g_ 9 .nil)))))) ([aE g6 414 [pt gr]]) (a_ ?_);refine y_ rep ?_;refine B_ sch ?_;intro A3 c3 hc3;refine E_ (λM h1=>ld M A3 p.l.length c3 h1 o_ hgl) ?_;refine cg rfl sD bB sK aH (λM hE=>KA M _ (by rfl)) (b_ ?_);exact⟨i+1,aK,aC,hlt,o_⟩
 ·obtain rfl:i=s.ps.length:=o_;rw[aOg,uF,show wN []=[] from rfl];have rep:=λM=>Fx M (P++Q) gs s;have put:=λM=>Tp M (P++Q) gs s;have hd:decide (kA s=kA s)=true:=d! rfl;have hrr:decide (s.r=s.r)=true:=d! rfl;clear e0;generalize kA s=x at *;refine a_ ?_
  refine rB (l_ [0,1] (g_ 2 (l_ [3,4,6] (g_ 5 (l_ [7,8,9,10,13,14] (g_ 11 (l_ [12,15,16] (g_ 17 .nil)))))))) ([aE g6 414 [pt gr]]) (a_ ?_);refine y_ (λM=>aDv M gr []) ?_;refine y_ rep ?_;refine eI put ?_;rintro e H' ⟨A4,n4,c4,⟨q1,q2,q3⟩,rfl,rfl⟩;refine gd bU aC ?_;refine Dr.more (Hk':=_) aC aB.refl (a_ ?_);refine y_ (λM=>KA M _ hd) ?_;exact dS ⟨Q,gs,rfl,rfl⟩
end
instance:zH 50 [.pointer none]:=⟨q_⟩
instance:zH 27 [a! 0]:=⟨q_⟩
section
variable {P:t!} {N:Nat} {E:Env} {F:Nat->p!} {H H' R R2:List aG}
def UW{t:q!}{a:Addr}{v:p!}{d:TypeDesc}{u:World}(e:P.underlying t=some d)(c:lY d=false)(b:u.cell? a=some v):(loadVar t a).run P u=.ok v u:=by
 cases d<;>simp[lY] at c<;>simp[loadVar,isAgg,run_underlying e,b]
def aBf{m:Func}{Q:Ending->List aG->Prop}{t u n:Nat}{ty p a b:q!}{v k:p!}{d l:TypeDesc}(y:m.results=#[.cell t ty,.cell u a])(A:F t=.pointer (some ⟨g,0,none⟩))(j:F u=.pointer (some ⟨n,0,none⟩))(z:P.underlying ty=some d)(x:lY d=false)(hb:Has (aE g p [v]) H R)
  (f:P.underlying a=some l) (e:lY l=false) (c:Has (aE n b [k]) H R2)
  (s:aB E H H') (h:Q (.returned (.tuple #[v,k])) H'):mB P E m Q .ret F H:=by
 refine⟨.tuple #[v,k],H',λw o=>?_,s,h⟩;have q:=UW (P:=P) z x (Cell.aE (E:=E) hb (i:=0) rfl w o);have r:=UW (P:=P) f e (Cell.aE (E:=E) c (i:=0) rfl w o);simp[vU,y,A,j,asAddr,q,r]
end
section
variable (E:Env)
def u5(a b:Nat):Gl prog E 280 #[.pointer (some ⟨a,0,none⟩),.pointer (some ⟨b,0,none⟩)] .returning [] (λe c H'=>c=.returning/\e=.returned (.tuple #[])/\H'=[]):=by
 refine Oi func280 rfl ntmps280 s_ sD sD (a_ ?_)
 refine L.val (v:=.bool false) sD (λ_ _=>q_) (a_ ?_)
 exact vK
def u4(P:List Ov)(s:Sv)(hg:Gd s)(B:n!)(n c:Nat)(hr:Rd E bH B n c (kA s)):G E 226 [a! s.r,.slice B n c] [aQ P] λe H'=>∃Q g,e=.returned (.tuple #[pt g,a! 0])/\H'=[cA (P++Q) g s,aQ (P++Q)]:=by
 have hr2:∀ds,Rd (E.jM ds) bH B n c (kA s):=λ_=>hr;refine VS func226 rfl ntmps226 s_ λhds=>?_;refine WJ.vV (a_ ?_);intros
 rename_i g4 g5;refine WJ.N9 ?_;refine kS.QV sD ER ?_;refine kS.defer rfl ?_;rw[hds];refine kS.nil ?_;refine WJ.TR (a_ ?_)
 refine cl sD sK aH (λM hE=>x5 M P s hg B n c ((hr2 _).sub hE)) (b_ ?_);intro Q gs
 refine Lv.one s_ ⟨_,func280,q_,rfl⟩ (Hp:=[]) .nil (λM hE=>u5 M _ _) ?_;rintro e u' H' ⟨rfl,rfl,rfl⟩;refine⟨⟨_,rfl⟩,rfl,?_⟩;simp only[jD];exact aBf (H':=[cA (P++Q) gs s,aQ (P++Q)]) rfl aJ aJ rfl rfl aV rfl rfl aV aC ⟨Q,gs,rfl,rfl⟩
end
end
section
open Go.RowKit Reg
open Mem hiding Rd
instance:iB 191 [.pointer none,.pointer none] [(0,1),(1,1)]:=⟨⟨q_,q_⟩⟩
instance:iB 181 [.pointer none,a! 0,a! 0,a! 0,a! 0,a! 0,a! 0,.pointer none] [(0,1),(1,5),(6,1),(7,1)]:=⟨⟨q_,q_⟩⟩
structure Nh where
 gm:Nat
 gl:Nat
 gs:Nat
 gd:Nat
abbrev qD(cf:bW)(r:Int)(m:p!)(gd:Nat):List p!:=[m,a! cf.eD,a! cf.nI,a! cf.cO,a! cf.base,a! cf.cap,a! r,pt gd]
abbrev gN(P:List Ov)(g:Nat)(cf:bW)(n:Nd)(k:Int)(x:Nh):List aG:=[aE g 181 (qD cf n.r (pt x.gm) x.gd),aE x.gm 191 [pt x.gl,pt x.gs],iL x.gl x.gd n.ls k,cA P x.gs n.s]
abbrev nV(g:Nat)(cf:bW)(n:Nd)(k:Int)(x:Nh):List aG:=[aE g 181 (qD cf n.r (.pointer none) x.gd),kI x.gd n.ls k]
def AH(P:List Ov)(g:Nat)(cf:bW)(n:Nd)(k:Int)(x:Nh):List aG:=match n.up with
 |true=>gN P g cf n k x
 |false=>nV g cf n k x
def bA(P:List Ov)(g:Nat)(cf:bW)(n:Nd)(k:Int):aG:=tQ (λ_:Nh=>n.ok) (AH P g cf n k)
def bA.up{n:Nd}{x:Nh}(h:n.ok)(a:n.up=true):aZ (gN P g cf n k x) [bA P g cf n k]:=by
 have:=aZ.fp (X:=Nh) (p:=λ_:Nh=>n.ok) (l:=AH P g cf n k) (x:=x) h;unfold AH at this;rw[a] at this;have e:(tQ (λ_:Nh=>n.ok) λx=>match true with|true=>gN P g cf n k x|false=>nV g cf n k x)=bA P g cf n k:=by unfold bA;congr 1;funext y;unfold AH;rw[a]
 rw[e] at this;exact this
def bA.dn{n:Nd}{x:Nh}(h:n.ok)(a:n.up=false):aZ (nV g cf n k x) [bA P g cf n k]:=by
 have:=aZ.fp (X:=Nh) (p:=λ_:Nh=>n.ok) (l:=AH P g cf n k) (x:=x) h;unfold AH at this;rw[a] at this;have e:(tQ (λ_:Nh=>n.ok) λx=>match false with|true=>gN P g cf n k x|false=>nV g cf n k x)=bA P g cf n k:=by unfold bA;congr 1;funext y;unfold AH;rw[a]
 rw[e] at this;exact this
def AI{E:Env}{f:FuncId}{args:Array p!}{n:Nd}{R:List aG}{Q:Ending->List aG->Prop}(c:∀x,n.ok->n.up=true->aF prog E f args (gN P g cf n k x++R) Q)(d:∀x,n.ok->n.up=false->aF prog E f args (nV g cf n k x++R) Q):aF prog E f args (bA P g cf n k::R) Q:=by
 refine aF.fp Has.aR λx b=>?_;unfold AH;cases a:n.up with
 |true=>exact c x b a
 |false=>exact d x b a
theorem gN.mono{Q:List Ov}{n:Nd}{k':Int}{x:Nh}(h:k<=k'):aZ (gN P g cf n k x) (gN (P++Q) g cf n k' x):=aZ.cons aZ.refl (aZ.cons aZ.refl (aZ.cons (iL.mono h) cA.mono))
theorem bA.mono{Q:List Ov}{n:Nd}{k':Int}(h:k<=k'):aZ [bA P g cf n k] [bA (P++Q) g cf n k']:=λF w l=>by
 have⟨m,o,j,r,⟨x,p,e,f,q,i,a⟩,s⟩:=l;unfold AH at a;cases c:n.up with
 |true =>
  rw[c] at a;have⟨d,k1,k2⟩:=(gN.mono (Q:=Q) h).trans (bA.up i.1 c) e w a;exact⟨d,k1,λb hb=>(j b).2 (.inl ((f b).2 (.inr (k2 b hb))))⟩
 |false =>
  rw[c] at a;have⟨d,k1,k2⟩:=(aZ.cons aZ.refl (kI.mono h)).trans (bA.dn (P:=P++Q) i.1 c) e w a;exact⟨d,k1,λb hb=>(j b).2 (.inl ((f b).2 (.inr (k2 b hb))))⟩
section
variable (E:Env) (P:List Ov) (g:Nat) (cf:bW) (n:Nd) (k:Int)
def xB(r:Int)(m gd:Nat)(hb:gX E g (qD cf r (pt m) gd)):G E 69 [pt g] [] (bL (.bool true) []):=by
 refine p_ func69 ntmps69 ?_
 exact aS
def DF(r:Int)(gd:Nat)(hb:gX E g (qD cf r (.pointer none) gd)):G E 69 [pt g] [] (bL (.bool false) []):=by
 refine p_ func69 ntmps69 ?_
 exact aS
def CB:G E 69 [pt g] [bA P g cf n k] (bL (.bool n.up) [bA P g cf n k]):=by
 refine AI (λx c a=>?_) (λx c a=>?_)
 ·rw[aY,a];refine aF.post (aF.read λM b=>xB M g cf n.r x.gm x.gd (gX.of b Has.aR)) ?_;rintro e d ⟨f,⟨rfl,rfl⟩,rfl⟩;exact⟨_,aB.eG (bA.up c a),rfl,rfl⟩
 ·rw[aY,a];refine aF.post (aF.read λM b=>DF M g cf n.r x.gd (gX.of b Has.aR)) ?_;rintro e d ⟨f,⟨rfl,rfl⟩,rfl⟩;exact⟨_,aB.eG (bA.dn c a),rfl,rfl⟩
end
end
section
open Go.RowKit Reg Oct
open Mem hiding Rd
def Lc.upto(r:Int)(z:Lc)(i:Nat):Sv:=match z.base with
 |none=>fW (xI r) (z.l.take i)
 |some s=>if i=0 then xI r else fW s (z.l.take (i - 1))
def UN{s:Sv}{l:List Rc}{i:Nat}{x:Rc}(h:l[i]?=some x):fW s (l.take (i+1))=((fW s (l.take i)).doc x).1:=Cy h
section
variable (E:Env)
def aPx(P:List Ov)(r:Int)(z:LS)(g:Lc)(hl:g.ok r)(hb:g.bs=z.bT)(D gd:Nat)(k:Int):G E 168 [a! r,pt D] [iL D gd z k,aQ P] λe X=>∃Q gs,e=.returned (pt gs)/\X=[iL D gd z k,cA (P++Q) gs (g.sv r),aQ (P++Q)]:=by
 have c1:=cS;have c2:=hl.rep;have new:=λM=>Tn M P r;rw[show fC r 0 3=r by unfold fC;rw[b! o_,b! o_]] at new;refine p_ func168 ntmps168 ?_
 refine u_ new ?_;intro a8;refine aU (λM=>Wz M D gd z k) ?_;rintro e X ⟨O,oc,s,U,b9,c5,rfl,rfl⟩;refine gk bU ?_;have b8:s.length=z.bT.length:=by rw[<-U,fB]
 have c4:z.bT.length<=maxLen:=o_;refine a_ ?_;refine C.scan (Y:=Nat×List Ov) (l:=s) b8.symm (λi y=>[(0,a! r),(5,pt y.1),(13,.slice O z.bT.length oc),(14,a! z.bT.length),(15,a! i)])
  (λi y=>[cA (P++y.2) y.1 (g.upto r i),aQ (P++y.2),own kC O z.bT.length oc s,aT jF s,iL D gd z k]) (λ_ _=>True) (a8,[]) aK (by dsimp only;rw[aY,show g.upto r 0=⟨sI,[],r⟩ by unfold Lc.upto;split;rfl;rfl];exact aC) trivial ?_ ?_
 ·rintro i ⟨gs,Q⟩ y F hi w -;dsimp only;have p:=b9 y (dG w);have o:g.bs[i]?=some y.b:=by rw[hb,<-U,mM,w];rfl
  refine C.conv (aB.out (f:=jF) (l:=s) aV w) ?_;cases a:g.base with
  |none =>
   have⟨A,m,c,b⟩:=y;dsimp only at p o;have⟨N,K⟩:=p;subst N;have d:(g.l.map Rc.b)[i]?=some b:=by have:=o;unfold Lc.bs at this;rw[a] at this;exact this
   rw[mM] at d;obtain⟨x,R,rfl⟩:∃x,g.l[i]?=some x/\x.b=b:=by
    cases h:g.l[i]? with
    |none=>rw[h] at d;cases d
    |some x=>rw[h] at d;exact⟨x,rfl,iN d⟩
   have⟨xm,W⟩:=hl.l x (dG R);have t:=NB xm W;have n:g.upto r (i+1)=((g.upto r i).doc x).1:=by unfold Lc.upto;rw[a];exact UN R
   generalize g.upto r i=sO at *;have v:=λM=>CC M (P++Q) gs sO x W;have⟨H,b2,J⟩:=x.Dq;have⟨Z,b1⟩:∃Z,x.b[0]?=some Z:=⟨_,bS H⟩
   have h5:decide ((Z.toNat:Int)=5)=false:=e! λh=>J (by rw[b1];congr 1;exact Ch.1 (show Z.toNat=5 by omega));by_cases q:i=0
   subst q;rotate_left;have b6:decide ((i:Int)=0)=false:=e! o_;all_goals
    refine a_ ?_;refine cU (λM h1=>OB M A x.b.length c x.b h1 o_) ?_;rw[t];rintro e X ⟨rfl,rfl⟩;rw[oD];refine a_ ?_;intros;refine u_ v ?_;intro B;exact⟨(gs,Q++B),aK,(by dsimp only;rw[n,<-bF];exact aB.trans (aB.nC (f:=jF) (l':=s) aH (HE w)) aC),trivial⟩
  |some s0 =>
   have⟨b5,b7⟩:=hl.base s0 a;by_cases q:i=0
   ·subst q;have⟨N,K⟩:=p;have d:y.b=5::kA s0:=by have:=o;unfold Lc.bs at this;rw[a] at this;exact(iN this).symm
    have n:g.upto r (0+1)=s0:=by unfold Lc.upto;rw[a];rfl
    have c3:y.b[0]?=some (5:UInt8):=by rw[d];rfl
    have c0:1<=y.n:=by rw[N,d];simp
    have get:∀M,Rd M bH y.A y.n y.c y.b->_:=λM hr=>u4 M (P++Q) s0 b5 (if y.c=1 then y.A else y.A.map (·.add (1*bH.size))) (y.n - 1) (y.c - 1) (by have:=hr.from_ (k:=1) c0;rw[d] at this;exact this);rw[b7] at get;refine a_ ?_
    refine C_ get ?_;intro B a9;exact⟨(a9,Q++B),aK,(by dsimp only;rw[n,<-bF];exact aB.trans (aB.nC (f:=jF) (l':=s) aH (HE w)) aC),trivial⟩
   ·have⟨A,m,c,b⟩:=y;dsimp only at p o;have⟨N,K⟩:=p;subst N;have b6:decide ((i:Int)=0)=false:=e! o_;have d:(g.l.map Rc.b)[i - 1]?=some b:=by
     have:=o;unfold Lc.bs Bd at this;rw[a] at this;obtain⟨j,rfl⟩:∃j,i=j+1:=⟨i - 1,o_⟩;exact this
    rw[mM] at d;obtain⟨x,R,rfl⟩:∃x,g.l[i - 1]?=some x/\x.b=b:=by
     cases h:g.l[i - 1]? with
     |none=>rw[h] at d;cases d
     |some x=>rw[h] at d;exact⟨x,rfl,iN d⟩
    have⟨xm,W⟩:=hl.l x (dG R);have t:=NB xm W;have n:g.upto r (i+1)=((g.upto r i).doc x).1:=by
     unfold Lc.upto;rw[a];dsimp only;rw[b! o_,b! q,show i+1 - 1=(i - 1)+1 by omega];exact UN R
    generalize g.upto r i=sO at *;have v:=λM=>CC M (P++Q) gs sO x W;have⟨H,b2,J⟩:=x.Dq;refine a_ ?_
    refine cU (λM h1=>OB M A x.b.length c x.b h1 o_) ?_;rw[t];rintro e X ⟨rfl,rfl⟩;rw[oD];refine a_ ?_;intros;refine u_ v ?_;intro B;exact⟨(gs,Q++B),aK,(by dsimp only;rw[n,<-bF];exact aB.trans (aB.nC (f:=jF) (l':=s) aH (HE w)) aC),trivial⟩
 ·rintro⟨gs,Q⟩ F -;dsimp only;have u:g.upto r z.bT.length=g.sv r:=by
   rw[<-hb];unfold Lc.upto Lc.sv Lc.bs Bd;cases a:g.base with
   |none=>dsimp only;rw[fX s_];rfl
   |some s0=>dsimp only;rw[b! s_,fX s_];rfl
  rw[u];refine a_ ?_;exact dS ⟨Q,gs,rfl,rfl⟩
end
abbrev aEh(P:List Ov)(b a gs gd:Nat)(z:LS)(k:Int)(s:Sv):List aG:=[aE b 191 [pt a,pt gs],iL a gd z k,cA P gs s]
section
variable (E:Env) (P:List Ov) (g:Nat) (cf:bW) (n:Nd) (k:Int)
def KF(r:Int)(z:LS)(c:Lc)(gd:Nat)(i:z.dead=false)(h:z.aO = -1)(j:k<=10000000000000)(l:c.ok r)(hb:c.bs=(LS.open z.N z.D (-1)).bT):G E 107 [a! r,pt gd] [kI gd z k,aQ P] λe f=>∃Q b a gs,e=.returned (pt b)/\f=aEh (P++Q) b a gs gd (LS.open z.N z.D (-1)) (k+2048) (c.sv r)++[aQ (P++Q)]:=by
 have eO:=λM=>Wo M gd z k i h j;have d:=λM a=>aPx M P r (LS.open z.N z.D (-1)) c l hb a gd (k+2048);generalize LS.open z.N z.D (-1)=m at *;refine p_ func107 ntmps107 ?_
 refine u_ eO ?_;intro a
 refine u_ (λM=>d M a) ?_;intro Q gs;intros
 rename_i b;exact dS ⟨Q,b,a,gs,rfl,rfl⟩
def EK:G E 70 [pt g] [bA P g cf n k] λe c=>if n.up then ∃a,e=.returned (pt a)/\c=[cA P a n.s,bA P g cf n k] else e=.returned (.pointer none)/\c=[bA P g cf n k]:=by
 refine AI (λx f b=>?_) (λx f b=>?_)
 ·rw[aY];simp only[b,if_true];have d:=λM=>Nm M P x.gs n.s;refine p_ func70 ntmps70 ?_
  refine z_ (λM=>xB M g cf n.r x.gm x.gd) ?_;refine u_ d ?_;intro a;exact aX (H':=[cA P a n.s,bA P g cf n k]) rfl aJ (aB.trans (aB.cC (l:=[cA P a n.s]++gN P g cf n k x) aH) (aB.eG (aZ.cons aZ.refl (bA.up f b)))) ⟨a,rfl,rfl⟩
 ·rw[aY];simp only[b,tG,if_false];refine p_ func70 ntmps70 ?_;refine z_ (λM=>DF M g cf n.r x.gd) ?_;exact aX (H':=[bA P g cf n k]) rfl aJ (aB.trans (aB.cC (l:=nV g cf n k x) aH) (aB.eG (bA.dn f b))) ⟨rfl,rfl⟩
def S9(x:Nh):G E 128 [pt g] (gN P g cf n k x) (bL (.bool true) (nV g cf n k x)):=by
 refine p_ func128 ntmps128 ?_
 refine z_ (λM=>xB M g cf n.r x.gm x.gd) ?_
 exact aX (H':=nV g cf n k x) rfl aJ (aB.trans (aB.cC (l:=[iL x.gl x.gd n.ls k,aE g 181 (qD cf n.r (.pointer none) x.gd)]) aH) (aB.trans (aB.eG iL.down) aC)) ⟨rfl,rfl⟩
def aAv:G E 128 [pt g] [bA P g cf n k] (bL (.bool n.up) [bA P g cf (if n.up then n.wO else n) k]):=by
 refine AI (λx b a=>?_) (λx b a=>?_)
 ·rw[aY,a,c! rfl];refine aF.post (S9 E P g cf n k x) ?_;rintro e c ⟨rfl,rfl⟩;exact⟨_,aB.eG (bA.dn (n:=n.wO) b.wO rfl),rfl,rfl⟩
 ·rw[aY,a,b! sD];refine p_ func128 ntmps128 ?_;refine z_ (λM=>DF M g cf n.r x.gd) ?_;exact aX (H':=[bA P g cf n k]) rfl aJ (aB.trans (aB.cC (l:=nV g cf n k x) aH) (aB.eG (bA.dn b a))) ⟨rfl,rfl⟩
def He(a:Int)(h:a≠19):G E 111 [pt g,a! a] [] (bL (a! a) []):=by
 refine p_ func111 ntmps111 ?_
 exact aS
def TA(x:Nh):G E 111 [pt g,a! 19] (gN P g cf n k x) (bL (a! 19) (nV g cf n k x)):=by
 refine p_ func111 ntmps111 ?_
 refine r_ (λM=>S9 M P g cf n k x) ?_
 exact aS
def KG(j:k<=10000000000000):G E 54 [pt g] [bA P g cf n k] (bL (a! n.sync.2) [bA P g cf n.sync.1 (k+2048)]):=by
 refine AI (λx e d=>?_) (λx e d=>?_)
 ·rw[aY];have a:=e.sync;have⟨o,m⟩:=e.inv d;have b:=aGg m;unfold Nd.sync at a⊢;rw[c! d] at a⊢;have c:=λM=>async M x.gl x.gd n.ls k j;generalize n.ls.sync=f at *;have⟨cd,h⟩:=f;dsimp only at b a c⊢;rcases b with rfl|rfl
  ·rw[c! rfl] at a⊢;refine p_ func54 ntmps54 ?_;refine z_ (λM=>xB M g cf n.r x.gm x.gd) ?_;refine r_ c ?_;refine r_ (λM=>He M g 0 (by decide)) ?_;exact aX rfl aJ (aB.trans (aB.cC (l:=gN P g cf ⟨n.r,h,true,n.lc,n.s⟩ (k+2048) x) aH) (aB.eG (bA.up a rfl))) ⟨rfl,rfl⟩
  ·rw[b! sD] at a⊢;have i:=λM=>TA M P g cf ⟨n.r,h,false,n.lc,n.s⟩ (k+2048) x;refine p_ func54 ntmps54 ?_
   refine z_ (λM=>xB M g cf n.r x.gm x.gd) ?_;refine r_ c ?_;refine r_ i ?_;exact aX rfl aJ (aB.trans (aB.cC (l:=nV g cf ⟨n.r,h,false,n.lc,n.s⟩ (k+2048) x) aH) (aB.eG (bA.dn a rfl))) ⟨rfl,rfl⟩
 ·rw[aY];unfold Nd.sync;rw[b! (by rw[d];decide)];refine p_ func54 ntmps54 ?_;refine z_ (λM=>DF M g cf n.r x.gd) ?_;exact aX rfl aJ (aB.trans (aB.cC (l:=nV g cf n k x) aH) (aB.eG ((aZ.cons aZ.refl (kI.mono o_)).trans (bA.dn e d)))) ⟨rfl,rfl⟩
end
section
variable (E:Env) (P:List Ov) (g:Nat) (cf:bW) (n:Nd) (k:Int)
def Nd.ok.NF{n:Nd}(h:n.ok):(lH n.r n.iS).ok n.r/\(lH n.r n.iS).bs=(LS.open n.ls.N n.ls.D (-1)).bT:=Fh h.iS
def TK(m:k<=10000000000000):G E 71 [pt g] [bA P g cf n k,aQ P] λe c=>∃Q j,e=.returned (pt j)/\c=[cA (P++Q) j n.stored,bA (P++Q) g cf n k,aQ (P++Q)]:=by
 refine AI (λx b f=>?_) (λx b f=>?_)
 ·have⟨h,i⟩:=b.NF;have eO:=λM a=>KF M P k n.r n.ls.AN (lH n.r n.iS) a rfl rfl m h i;simp only[show LS.open n.ls.AN.N n.ls.AN.D (-1)=LS.open n.ls.N n.ls.D (-1) from rfl] at eO;generalize LS.open n.ls.N n.ls.D (-1)=q at eO;have d:(lH n.r n.iS).sv n.r=n.stored:=rfl;rw[d] at eO;dsimp only[gN,nV,k!,l!];refine p_ func71 ntmps71 ?_
  refine u_ (λM=>Wa M x.gl x.gd n.ls k) ?_;intro a;refine r_ (λM=>L7 M a n.ls k) ?_;refine u_ (λM=>eO M a) ?_;intro Q p o gs;exact aX (H':=[cA (P++Q) gs n.stored,bA (P++Q) g cf n k,aQ (P++Q)]) rfl aJ (aB.trans (aB.cC (l:=[cA (P++Q) gs n.stored]++(gN P g cf n k x++[aQ (P++Q)])) aH) (aB.eG (aZ.cons aZ.refl (aZ.append ((gN.mono (dV k)).trans (bA.up b f)) aZ.refl)))) ⟨Q,gs,rfl,rfl⟩
 ·have⟨h,i⟩:=b.NF;have eO:=λM a=>KF M P k n.r n.ls.AN (lH n.r n.iS) a rfl rfl m h i;simp only[show LS.open n.ls.AN.N n.ls.AN.D (-1)=LS.open n.ls.N n.ls.D (-1) from rfl] at eO;generalize LS.open n.ls.N n.ls.D (-1)=q at eO;have d:(lH n.r n.iS).sv n.r=n.stored:=rfl;rw[d] at eO;dsimp only[gN,nV,k!,l!];refine p_ func71 ntmps71 ?_
  refine u_ (λM=>WZ M x.gd n.ls k) ?_;intro a;refine r_ (λM=>L7 M a n.ls k) ?_;refine u_ (λM=>eO M a) ?_;intro Q p o gs;exact aX (H':=[cA (P++Q) gs n.stored,bA (P++Q) g cf n k,aQ (P++Q)]) rfl aJ (aB.trans (aB.cC (l:=[cA (P++Q) gs n.stored]++(nV g cf n k x++[aQ (P++Q)])) aH) (aB.eG (aZ.cons aZ.refl (aZ.append (bA.dn b f) aZ.refl)))) ⟨Q,gs,rfl,rfl⟩
def aHq(j:k<=10000000000000):G E 129 [pt g] [bA P g cf n k,aQ P] λe d=>∃Q,e=.returned (a! n.qJ.2)/\d=[bA (P++Q) g cf n.qJ.1 (k+2048),aQ (P++Q)]:=by
 refine AI (λx b c=>?_) (λx b c=>?_)
 ·unfold Nd.qJ;rw[c! c];dsimp only[gN,nV,k!,l!];refine p_ func129 ntmps129 ?_;refine z_ (λM=>xB M g cf n.r x.gm x.gd) ?_;exact aX (H':=[bA (P++[]) g cf n (k+2048),aQ (P++[])]) rfl aJ (aB.trans (aB.cC (l:=gN P g cf n k x++[aQ P]) aH) (aB.eG (aZ.append ((gN.mono o_).trans (bA.up b c)) (by rw[aY];exact aZ.refl)))) ⟨[],rfl,rfl⟩
 ·unfold Nd.qJ;rw[b! (by rw[c];decide)];have⟨o,p⟩:=b.NF;have a:=b.opened;have eO:=λM=>KF M P k n.r n.ls.AN (lH n.r n.iS) x.gd rfl rfl j o p;unfold Nd.opened at a⊢;simp only[show LS.open n.ls.AN.N n.ls.AN.D (-1)=LS.open n.ls.N n.ls.D (-1) from rfl] at eO;generalize LS.open n.ls.N n.ls.D (-1)=f at eO a⊢;have m:(lH n.r n.iS).sv n.r=n.stored:=rfl;rw[m] at eO;dsimp only[gN,nV,k!,l!];refine p_ func129 ntmps129 ?_
  refine z_ (λM=>DF M g cf n.r x.gd) ?_;refine r_ (λM=>L7 M x.gd n.ls k) ?_;refine C.fL 12 (l_ [0,1,2,3,4,5,6,7,8] (g_ 9 (l_ [10,11] (g_ 12 .nil)))) ([aE g 181 (qD cf n.r (.pointer none) x.gd)]) q_ q_ aC (a_ ?_);refine B_ eO ?_;intro Q i h gs;exact aX (H':=[bA (P++Q) g cf ⟨n.r,f,true,lH n.r n.iS,n.stored⟩ (k+2048),aQ (P++Q)]) rfl aJ (aB.trans (aB.cC (l:=gN (P++Q) g cf ⟨n.r,f,true,lH n.r n.iS,n.stored⟩ (k+2048) ⟨i,h,gs,x.gd⟩++[aQ (P++Q)]) aH) (aB.eG (aZ.append (bA.up a rfl) aZ.refl))) ⟨Q,rfl,rfl⟩
def aCv(q:Int)(d:q<=9223372036854775807):G E 131 [pt g,a! q] [bA P g cf n k] (bL (.tuple #[]) [bA P g cf (n.arm q) k]):=by
 refine AI (λx c b=>?_) (λx c b=>?_)
 ·rw[aY];have a:=c.arm d;have arm:=λM=>WS M x.gl x.gd n.ls k q d;unfold Nd.arm at a⊢;rw[c! b] at a⊢;have e:n.ls.Px q=n.ls.arm q:=rfl;rw[e] at arm;generalize n.ls.arm q=f at *;refine p_ func131 ntmps131 ?_
  refine z_ (λM=>xB M g cf n.r x.gm x.gd) ?_;refine r_ arm ?_;exact gG rfl (aB.trans (aB.cC (l:=gN P g cf ⟨n.r,f,true,n.lc,n.s⟩ k x) aH) (aB.eG (bA.up a rfl))) ⟨rfl,rfl⟩
 ·rw[aY];unfold Nd.arm;rw[b! (by rw[b];decide)];refine p_ func131 ntmps131 ?_;refine z_ (λM=>DF M g cf n.r x.gd) ?_;exact gG rfl (aB.trans (aB.cC (l:=nV g cf n k x) aH) (aB.eG (bA.dn c b))) ⟨rfl,rfl⟩
def TZ(N:Nat)(a:1<=N)(b:N<=64):LS.open N (LS.new N).D (-1)=LS.new N:=by
 have h:=(TY (Inv.new a b) (-1)).2.2.2;rw[I?] at h;exact h
def aGc(r:Nat)(N:Nat)(u:r<=3)(q:cf.nI=N)(d:1<=N)(f:N<=64):G E 48 [.agg cf.cs.toArray,a! r] [aQ P] λe h=>∃Q g,e=.returned (pt g)/\h=[bA (P++Q) g cf (Nd.new r N) 2048,aQ (P++Q)]:=by
 have b:(Nd.new r N).ok:=Nd.ok.new ⟨o_,o_⟩ d f;have s:=λM=>Wj M (2*(N:Int)+1) N rfl d f;have eO:=λM a=>KF M P 0 r (LS.new N) ⟨none,[]⟩ a rfl rfl sD (Lc.KE ⟨o_,o_⟩) (by show[]=(LS.open N (LS.new N).D (-1)).bT;rw[TZ N d f];rfl);simp only[Int.zero_add] at eO;have e:LS.open (LS.new N).N (LS.new N).D (-1)=LS.new N:=TZ N d f;rw[e,show Lc.sv (r:Int) ⟨none,[]⟩=xI r from rfl] at eO;have j:fC (r:Int) 0 3=r:=by unfold fC;rw[b! o_,b! o_]
 have m:fC cf.nI 1 64=N:=by rw[q];unfold fC;rw[b! o_,b! o_]
 have v:IntKind.i64.wrap (IntKind.i64.wrap (2*(N:Int))+1)=2*(N:Int)+1:=by rw[dY (2*(N:Int)) o_,dY _ o_]
 unfold Nd.new at b⊢;generalize LS.new N=i at *;dsimp only[bW.cs];refine p_ func48 ntmps48 ?_;intros
 refine rA (l_ [0,1] (g_ 2 (n_ 3 (g_ 4 (n_ 5 .nil))))) (a_ ?_);intros
 rw[j,m];rename_i t c;refine u_ s ?_;intro a
 refine C.fL 12 (l_ [0,1,2,3,4,5,6,7,8] (g_ 9 (l_ [10,11] (g_ 12 .nil)))) ([aE c 181 (qD cf r (.pointer none) a)]) q_ q_ aC (a_ ?_)
 refine B_ (λM=>eO M a) ?_;intro Q p o gs
 exact aX (H':=[bA (P++Q) c cf ⟨r,i,true,⟨none,[]⟩,xI r⟩ 2048,aQ (P++Q)]) rfl aJ (aB.trans (aB.cC (l:=gN (P++Q) c cf ⟨r,i,true,⟨none,[]⟩,xI r⟩ 2048 ⟨p,o,gs,a⟩++[aQ (P++Q)]) aH) (aB.eG (aZ.append (bA.up b rfl) aZ.refl))) ⟨Q,c,rfl,rfl⟩
end
def Xm{l:List (o!)}:(∀x∈l,1<=x.length)->8*l.length<=(cat l).length:=by
 induction l with
 |nil=>exact λ_=>bM _
 |cons x l b =>
  intro h;have c:=b λy a=>h y (kF _ a);have d:=h x jW;rw[ML,bR,Frm.jO,gL];omega
def Inv.fK{s:LS}(h:Inv s):s.bT.length<=300:=by
 have a:=Xm λx b=>(h.xC x b).1;have c:=h.fit;have d:=h.n1;rw[JE h,bR,<-h.pos,<-h.cY] at a;omega
def Wy{s:LS}{b:o!}(h:(s.append b).1≠0):(s.append b).2=s:=by
 rcases I8 (s:=s) (b:=b) with e|⟨a,_⟩
 ·exact e
 ·exact i! a h
section
variable (E:Env) (P:List Ov) (g:Nat) (cf:bW) (n:Nd) (k:Int)
theorem NY(hu:n.up=true)(x:Rc)(hx:x.ok):G E 170 [pt g,.agg x.r.cs.toArray] [bA P g cf n k,aQ P] λe H'=>∃Q,e=.returned (.int .i64 (n.write x).2)/\H'=[bA (P++Q) g cf (n.write x).1 k,aQ (P++Q)]:=by
 refine AI (λy ho _=>?_) (λy ho hd=>by rw[hu] at hd;cases hd);have hok:=ho.write hx hu;obtain⟨i1,i2⟩:=ho.inv hu;have hfew:=i1.fK;have cln:=λM=>Nm M P y.gs n.s;have doo:=λM g2=>CC M P g2 n.s x hx;have doo2:=λM Q=>CC M (P++Q) y.gs n.s x hx;have app:=λM A c hr=>WR M y.gl y.gd n.ls k o_ A x.b.length c x.b hr;have herr:=Wy (s:=n.ls) (b:=x.b);have hmay:=Qp (s:=n.s) (x:=x);have put:=λM hm=>aOt M x hm;have hbl:=x.Dq;unfold Nd.write at hok⊢;generalize n.s.doc x=res at *;obtain⟨s2,code⟩:=res;generalize n.ls.append x.b=ap at *;obtain⟨ca,zz⟩:=ap;dsimp only at hok doo doo2 app herr hmay⊢;generalize x.b=xb at *;generalize x.r=xr at *;dsimp only[gN,fQ.cs,List.cons_append,List.nil_append] at doo doo2 put⊢;have same:∀Q:List Ov,aB E (gN P g cf n k y++[aQ (P++Q)]) [bA (P++Q) g cf n k,aQ (P++Q)]:=λQ=>aB.eG (aZ.append ((gN.mono (dV k)).trans (bA.up ho hu)) aZ.refl);by_cases hc:code=0
 ·subst hc;rw[if_pos rfl] at hok⊢;have hm:=hmay rfl;by_cases ha:ca=0
  ·subst ha;rw[if_pos rfl] at hok⊢;refine t_ func170 ntmps170 ?_;refine a_ ?_;intros
   rename_i g3;refine rB (l_ [0,1,2,3,4,5,6,8] (g_ 7 (g_ 9 (n_ 10 .nil)))) ([aE g 181 (qD cf n.r (pt y.gm) y.gd),aE y.gm 191 [pt y.gl,pt y.gs],aE g3 202 _]) ?_;refine a_ ?_
   refine eI cln ?_;rintro e H' ⟨g2,rfl,rfl⟩;refine a_ ?_
   refine eI (λM=>doo M g2) ?_;rintro e H' ⟨Q,rfl,rfl⟩;refine a_ ?_
   refine aU (λM=>put M hm) ?_;rintro e H' ⟨A,c,rfl,rfl⟩;refine a_ ?_
   refine cV (λM=>app M A c) ?_;refine a_ ?_
   refine C.conv (aB.imp (A:=[cA P y.gs n.s]) (B:=[cA (P++Q) y.gs n.s]) cA.mono aH) ?_;dsimp only[List.cons_append,List.nil_append];refine rB (l_ [0,1,2,3,4,5,6,7] (g_ 8 (n_ 9 .nil))) ([aE g 181 (qD cf n.r (pt y.gm) y.gd),aE y.gm 191 [pt y.gl,pt y.gs],aE g3 202 _]) ?_;refine a_ ?_
   refine eI (λM=>doo2 M Q) ?_;rintro e H' ⟨Q2,rfl,rfl⟩;refine a_ ?_
   exact aX (H':=[bA (P++(Q++Q2)) g cf ⟨n.r,zz,n.up,⟨n.lc.base,n.lc.l++[x]⟩,s2⟩ k,aQ (P++(Q++Q2))]) rfl aJ (by rw[<-bF];exact aB.trans (aB.cC (l:=gN (P++Q++Q2) g cf ⟨n.r,zz,n.up,⟨n.lc.base,n.lc.l++[x]⟩,s2⟩ k y++[aQ (P++Q++Q2)]) aH) (aB.eG (aZ.append (bA.up hok hu) aZ.refl))) ⟨Q++Q2,rfl,rfl⟩
  ·rw[if_neg ha] at hok⊢;have hzz:=herr ha;subst hzz;refine t_ func170 ntmps170 ?_;refine a_ ?_;intros
   rename_i g3;refine rB (l_ [0,1,2,3,4,5,6,8] (g_ 7 (g_ 9 (n_ 10 .nil)))) ([aE g 181 (qD cf n.r (pt y.gm) y.gd),aE y.gm 191 [pt y.gl,pt y.gs],aE g3 202 _]) ?_;refine a_ ?_
   refine eI cln ?_;rintro e H' ⟨g2,rfl,rfl⟩;refine a_ ?_
   refine eI (λM=>doo M g2) ?_;rintro e H' ⟨Q,rfl,rfl⟩;refine a_ ?_
   refine aU (λM=>put M hm) ?_;rintro e H' ⟨A,c,rfl,rfl⟩;refine a_ ?_
   refine cV (λM=>app M A c) ?_;refine a_ ?_
   exact aX rfl aJ (aB.trans (aB.cC (l:=gN P g cf n k y++[aQ (P++Q)]) aH) (same Q)) ⟨Q,rfl,rfl⟩
 ·rw[if_neg hc];refine t_ func170 ntmps170 ?_;refine a_ ?_;intros
  rename_i g3;refine rB (l_ [0,1,2,3,4,5,6,8] (g_ 7 (g_ 9 (n_ 10 .nil)))) ([aE g 181 (qD cf n.r (pt y.gm) y.gd),aE y.gm 191 [pt y.gl,pt y.gs],aE g3 202 _]) ?_;refine a_ ?_
  refine eI cln ?_;rintro e H' ⟨g2,rfl,rfl⟩;refine a_ ?_
  refine eI (λM=>doo M g2) ?_;rintro e H' ⟨Q,rfl,rfl⟩;refine a_ ?_
  exact aX rfl aJ (aB.trans (aB.cC (l:=gN P g cf n k y++[aQ (P++Q)]) aH) (same Q)) ⟨Q,rfl,rfl⟩
end
def EE{c:aI}(h:c.may=true)(a:bQ c.n):c.ok:=by
 have⟨b,d,e,f,i,j,l⟩:=(aI.eY c).1 h;refine⟨⟨?_,?_⟩,?_,?_,?_,?_,a,?_,?_⟩<;>unfold bQ<;>omega
def NO{s:Sv}{c:aI}(d:bQ c.n)(h:(s.make c).2=0):(s.make c).1.ok/\(s.make c).1.may=true:=by
 unfold Sv.make at h⊢;split at h
 ·cases h
 ·rename_i b;rw[b! b];split at h
  ·rename_i a;rw[c! a];exact⟨EE a d,a⟩
  ·cases h
def Nd.lV(n:Nd)(c:aI):Nd×aI×Int :=
 if n.up then
  (if (n.s.make c).2=0 then(if (n.write (.cB (n.s.make c).1)).2=0 then((n.write (.cB (n.s.make c).1)).1,(n.s.make c).1,0) else((n.write (.cB (n.s.make c).1)).1,kU,(n.write (.cB (n.s.make c).1)).2))
  else(n,kU,(n.s.make c).2))
 else(n,kU,19)
def Nd.oP(n:Nd):List Rc->Nat->Nd×Nat×Int
 | [],i=>(n,i,0)
 |x::l,i=>if (n.write x).2=0 then Nd.oP (n.write x).1 l (i+1) else((n.write x).1,i,(n.write x).2)
def Nd.take(n:Nd)(l:List Rc):Nd×Nat×Int:=if n.up then n.oP l 0 else(n,0,19)
theorem Ek(n:Nd)(x:Rc):(n.write x).1.up=n.up:=by
 unfold Nd.write;split
 ·split<;>rfl
 ·rfl
section
variable (E:Env) (P:List Ov) (g:Nat) (cf:bW) (n:Nd) (k:Int)
def aOw(c:aI)(z:bQ c.n):G E 109 [pt g,.agg c.cs.toArray] [bA P g cf n k,aQ P] λe p=>∃Q,e=.returned (.tuple #[.agg (n.lV c).2.1.cs.toArray,a! (n.lV c).2.2])/\p=[bA (P++Q) g cf (n.lV c).1 k,aQ (P++Q)]:=by
 have a:aB E [bA P g cf n k,aQ P] [bA (P++[]) g cf n k,aQ (P++[])]:=by rw[aY];exact aB.refl
 refine AI (λy q f=>?_) (λy q f=>?_)
 ·have t:∀Q:List Ov,aB E (gN P g cf n k y++[aQ P]) [bA P g cf n k,aQ P]:=λQ=>aB.eG (aZ.append (bA.up q f) aZ.refl);have mk:=λM=>aDd M P y.gs n.s c;have o:=NO (s:=n.s) (c:=c) z;have h:=λM r=>NY M P g cf n k f (.cB (n.s.make c).1) r;unfold Nd.lV;rw[c! f];generalize n.s.make c=m at *;have⟨i,b⟩:=m;dsimp only at o h mk⊢;generalize n.write (.cB i)=w at *;have⟨A,x⟩:=w;dsimp only[gN,k!,l!,aI.cs] at mk h⊢;by_cases u:b=0
  ·subst u;rw[c! rfl];have r:(Rc.cB i).ok:=(o rfl).1;refine p_ func109 ntmps109 ?_;intros;refine z_ (λM=>xB M g cf n.r y.gm y.gd) ?_;rename_i d j;refine C.cW (X:=Unit) (λ_=>[(0,pt g),(3,pt d),(4,pt j),(6,a! 0)]) (λ_=>[aE g 181 (qD cf n.r (pt y.gm) y.gd),aE y.gm 191 [pt y.gl,pt y.gs],iL y.gl y.gd n.ls k,cA P y.gs n.s,aQ P,aE j 34 kU.cs,aE d 34 i.cs]) (λ_=>True) ?_ ?_
   ·refine C.fL 12 (l_ [0,1,2,3,4,5,6,7] (g_ 8 (l_ [9,10] (.two 11 (g_ 12 (g_ 13 .nil)) 12 (g_ 11 (g_ 13 .nil)))))) ([aE g 181 (qD cf n.r (pt y.gm) y.gd),aE y.gm 191 [pt y.gl,pt y.gs],aE d 34 _]) q_ q_ aC (a_ ?_);refine y_ mk ?_;refine Dr.two ?_ ?_;all_goals
     refine h_ ?_;exact⟨(),aK,aC,trivial⟩
   rintro - F -;dsimp only[aI.cs];refine C.conv (aB.trans (aB.cC (l:=gN P g cf n k y++[aQ P,aE j 34 kU.cs,aE d 34 i.cs]) aH) (aB.eG (aZ.append (bA.up q f) aZ.refl))) ?_;dsimp only[k!,l!,aI.cs];by_cases v:x=0;subst v;rw[c! rfl];rotate_left;rw[b! v];all_goals
    refine a_ ?_;refine r_ (λM=>Fm M i) ?_;refine u_ (λM=>h M r) ?_;intro Q;exact mL (H':=[bA (P++Q) g cf A k,aQ (P++Q)]) rfl aJ rfl rfl rfl aV rfl aJ aC ⟨Q,rfl,rfl⟩
  ·rw[b! u];refine p_ func109 ntmps109 ?_;intros;refine z_ (λM=>xB M g cf n.r y.gm y.gd) ?_;rename_i d j;refine C.cW (X:=Unit) (λ_=>[(0,pt g),(3,pt d),(4,pt j),(6,a! b)]) (λ_=>[aE g 181 (qD cf n.r (pt y.gm) y.gd),aE y.gm 191 [pt y.gl,pt y.gs],iL y.gl y.gd n.ls k,cA P y.gs n.s,aQ P,aE j 34 kU.cs,aE d 34 i.cs]) (λ_=>True) ?_ ?_
   ·refine C.fL 12 (l_ [0,1,2,3,4,5,6,7] (g_ 8 (l_ [9,10] (.two 11 (g_ 12 (g_ 13 .nil)) 12 (g_ 11 (g_ 13 .nil)))))) ([aE g 181 (qD cf n.r (pt y.gm) y.gd),aE y.gm 191 [pt y.gl,pt y.gs],aE d 34 _]) q_ q_ aC (a_ ?_);refine y_ mk ?_;refine Dr.two ?_ ?_;all_goals
     refine h_ ?_;exact⟨(),aK,aC,trivial⟩
   rintro - F -;dsimp only[aI.cs];refine a_ ?_;refine mL (H':=[bA (P++[]) g cf n k,aQ (P++[])]) rfl aJ rfl rfl rfl aV rfl aJ (aB.trans (aB.cC (l:=gN P g cf n k y++[aQ P]) aH) (aB.trans (t []) a)) ⟨[],rfl,rfl⟩
 ·unfold Nd.lV;rw[b! (by rw[f];decide)];dsimp only[nV,k!,l!,aI.cs];refine p_ func109 ntmps109 ?_;intros;refine z_ (λM=>DF M g cf n.r y.gd) ?_;refine mL (H':=[bA (P++[]) g cf n k,aQ (P++[])]) rfl aJ rfl rfl rfl aV rfl aJ (aB.trans (aB.cC (l:=nV g cf n k y++[aQ P]) aH) (aB.trans (aB.eG (aZ.append (bA.dn q f) aZ.refl)) a)) ⟨[],rfl,rfl⟩
end
end
end Go.Proofs.YtmilalkjbojciaaGreat.Sep
