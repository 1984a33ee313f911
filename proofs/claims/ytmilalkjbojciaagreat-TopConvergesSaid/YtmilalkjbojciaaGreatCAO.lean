/- Part AO: what it needs. No condition. -/
import Derived.Test.YtmilalkjbojciaaGreatCAM
import Derived.Test.YtmilalkjbojciaaGreatCAK
set_option linter.all false
set_option maxRecDepth 100000
set_option maxHeartbeats 8000000
open Go.Proofs.Tryz
namespace Go.Proofs.YtmilalkjbojciaaGreat.Sep
variable{i j:Nat}{x:o!}{y:UInt8}{α:Type}{l:List α}
section
open Go.RowKit Oct
def cX:List Nat->List Nat->o!
 |w::ws,v::a=>be v w++cX ws a
 |_,_=>[]
def yO:List Nat->o!->List Nat
 | [],_=>[]
 |w::ws,l=>Oct.get (l.take w)::yO ws (l.drop w)
def Kl(ws:List Nat)(l:o!)(h:ws.sum<=l.length):cX ws (yO ws l)=l.take ws.sum:=by
 induction ws generalizing l with
 |nil=>simp[cX]
 |cons w ws a =>
  rw[List.sum_cons] at h;have hb:=I9 (l.take w);rw[show(l.take w).length=w by simp;omega] at hb;show be (Oct.get (l.take w)) w++cX ws (yO ws (l.drop w))=_
  grind
def fit:List Nat->List Nat->Prop
 |w::ws,v::a=>v<256 ^ w/\fit ws a
 | [],[]=>True
 |_,_=>False
def NX(ws vs:List Nat)(t:o!)(h:fit ws vs):yO ws (cX ws vs++t)=vs:=by
 induction ws generalizing vs with
 |nil =>
  cases vs with
  |nil=>rfl
  |cons _ _=>cases h
 |cons w ws a =>
  cases vs with
  |nil=>cases h
  |cons v vs =>
   show Oct.get (((be v w++cX ws vs)++t).take w)::yO ws (((be v w++cX ws vs)++t).drop w)=_;rw[bF,qT (eJ _ _),rQ (eJ _ _),HI,FA h.1,a vs h.2]
def Uq(ws vs:List Nat)(h:fit ws vs):(cX ws vs).length=ws.sum:=by
 induction ws generalizing vs with
 |nil =>
  cases vs with
  |nil=>rfl
  |cons _ _=>cases h
 |cons w ws a =>
  cases vs with
  |nil=>cases h
  |cons v vs =>
   show(be v w++cX ws vs).length=_;rw[bR,eJ,a vs h.2,List.sum_cons]
structure Mg where
 kind:Int
 fr:Int
 to:Int
 k0:Int
 k1:Int
 k2:Int
 k3:Int
 base:Int
 ids:List aL
 cL:List aI
 key:bV
 bD:bE
def Mg.eq_iff{x y:Mg}:x=y↔x.kind=y.kind/\x.fr=y.fr/\x.to=y.to/\x.k0=y.k0/\x.k1=y.k1/\x.k2=y.k2/\x.k3=y.k3/\x.base=y.base/\x.ids=y.ids/\x.cL=y.cL/\x.key=y.key/\x.bD=y.bD:=by
 cases x;cases y;simp
instance:DecidableEq Mg:=λ_ _=>decidable_of_iff _ Mg.eq_iff.symm
abbrev Mg.ks(m:Mg):List Int:=[m.k0,m.k1,m.k2,m.k3]
def CA:bV:=⟨⟨0,0⟩,0,false⟩
def pZ:bE:=⟨0,0,0,⟨0,0⟩⟩
def nG(n:Int):Bool:=decide (0<=n/\n<=3)
def sq(n:Int):Bool:=decide (0<=n/\n<=65535)
def bs(n:Int):Bool:=decide (0<=n/\n<=48)
def Mg.xD(m:Mg):Bool:=if m.kind=3 then nG m.fr&&decide (m.to=9) else if m.kind=4 then decide (m.fr=9)&&nG m.to else nG m.fr&&nG m.to
def Mg.dI(m:Mg):Bool :=
 if m.kind=1 then(sq m.k0&&sq m.k1&&sq m.k2&&sq m.k3)&&bs m.base
 else if m.kind=2 then((decide (m.ids.length<=16)&&m.ids.all aL.may)&&(decide (m.cL.length<=8)&&m.cL.all aI.may))&&bs m.base
 else if m.kind=3 then m.key.may&&decide (m.bD.check=0)
 else m.key.may
def Mg.bare(m:Mg):Mg :=
 if m.kind=1 then⟨m.kind,m.fr,m.to,m.k0,m.k1,m.k2,m.k3,m.base,[],[],CA,pZ⟩
 else if m.kind=2 then⟨m.kind,m.fr,m.to,0,0,0,0,m.base,m.ids,m.cL,CA,pZ⟩
 else if m.kind=3 then⟨m.kind,m.fr,m.to,0,0,0,0,0,[],[],m.key,m.bD⟩
 else if m.kind=4 then⟨m.kind,m.fr,m.to,0,0,0,0,0,[],[],m.key,pZ⟩
 else⟨m.kind,m.fr,m.to,0,0,0,0,0,[],[],CA,pZ⟩
def Mg.check(m:Mg):Int :=
 if 1<=m.kind/\m.kind<=4 then(if (m.xD&&m.dI)=true then(if m.bare=m then 0 else 16) else 4) else 12
def Mg.jZ{m:Mg}(h:m.check=0):(1<=m.kind/\m.kind<=4)/\m.xD=true/\m.dI=true/\m.bare=m:=by
 grind [Mg.check]
def Mg.ok(m:Mg):Prop:=(∀c∈m.cL,bQ c.n)/\bQ m.bD.n
def uT(b:Bool):Nat:=if b then 1 else 0
abbrev kW:List Nat:=[1,2,1,1]
def kM(k:bV):List Nat:=[k.id.rep.toNat,k.id.seq.toNat,k.ord.toNat,uT k.cJ]
def mA(a:aL):o!:=cX [1,2] [a.rep.toNat,a.seq.toNat]
def kV(l:List aL):o!:=(l.map mA).flatten
def Mg.body(m:Mg):o! :=
 cX [1,1,1] [m.kind.toNat,m.fr.toNat,m.to.toNat] ++
 (if m.kind=1 then cX [2,2,2,2,1] [m.k0.toNat,m.k1.toNat,m.k2.toNat,m.k3.toNat,m.base.toNat]
 else if m.kind=2 then cX [1,1] [m.base.toNat,m.ids.length]++(kV m.ids++jN m.cL)
 else if m.kind=3 then cX kW (kM m.key)++m.bD.put
 else cX kW (kM m.key))
def Mg.enc(m:Mg):o!:=Frm.fr m.body
theorem Sy(a:aL):(mA a).length=3:=by simp[mA,cX,eJ]
theorem D9(l:List aL):(kV l).length=3*l.length:=by
 induction l with
 |nil=>rfl
 |cons c l a =>
  grind [kV,mA,Sy]
theorem Rv(l:List aL)(a:aL):kV (l++[a])=kV l++mA a:=by simp[kV]
def EI(l:o!)(i:Nat):aL:=⟨(aW l i 1:Nat),(aW l (i+1) 2:Nat)⟩
def yH:Nat->Nat->o!->List aL
 |0,_,_=>[]
 |n+1,i,l=>yH n i l++[EI l (i+3*n)]
theorem Rw(n i:Nat)(l:o!):(yH n i l).length=n:=by
 induction n with
 |zero=>rfl
 |succ n a=>rw[yH,bR,a];rfl
theorem r8{l:o!}(h:i+3<=l.length):mA (EI l i)=(l.drop i).take 3:=by
 unfold mA EI;simp only[cX,jK,aY];rw[pX o_,pX o_,show(3:Nat)=1+2 from rfl,zO,pU]
def s6(n i:Nat)(l:o!)(h:i+3*n<=l.length):kV (yH n i l)=(l.drop i).take (3*n):=by
 induction n with
 |zero=>simp[yH,kV]
 |succ n a =>
  grind [yH,Rv,r8,List.drop_drop]
def Bp{a b:o!}{w:Nat}(h:a.length=j):aW (a++b) (j+i) w=aW b i w:=by
 grind [aW,List.drop_append,List.drop_of_length_le]
def r9{a:aL}{t:o!}(h:a.may=true)(d:x.length=i):EI (x++(mA a++t)) i=a:=by
 rw[aL.eY] at h;unfold EI;have c:=Bp (a:=x) (b:=mA a++t) (i:=0) (w:=1) d;have g:=Bp (a:=x) (b:=mA a++t) (i:=1) (w:=2) d;rw[Gg] at c;rw[c,g];have e:aW (mA a++t) 0 1=a.rep.toNat:=by
  grind [kK,be,mA,cX]
 have f:aW (mA a++t) 1 2=a.seq.toNat:=by
  grind [kK,be,eJ,mA,cX]
 rw[e,f];cases a
 grind
def s8(l:List aL)(x t:o!)(h:l.all aL.may=true):yH l.length x.length (x++(kV l++t))=l:=by
 have key:∀k,k<=l.length->yH k x.length (x++(kV l++t))=l.take k:=by
  intro k
  induction k with
  |zero=>intro _;rfl
  |succ k ih =>
   intro hk;have hm:(l[k]'hk).may=true:=by
    grind
   have q:∀(a b:List aL) (z:aL),kV (a++z::b)=kV a++(mA z++kV b):=λa b z=>by simp[kV]
   have hl:l.take k++l[k]::l.drop (k+1)=l:=by rw[<-lL hk,mE]
   have e:=q (l.take k) (l.drop (k+1)) (l[k]'hk);rw[hl] at e;rw[yH,ih o_,rS hk];congr 1;rw[show x++(kV l++t)=(x++kV (l.take k))++(mA (l[k]'hk)++(kV (l.drop (k+1))++t)) by rw[e];simp];rw[r9 hm (by rw[bR,D9,dR];omega)]
 rw[key l.length (bM _),gY]
def C9(l:o!)(i:Nat):bV:=⟨⟨(aW l i 1:Nat),(aW l (i+1) 2:Nat)⟩,(aW l (i+3) 1:Nat),decide (((aW l (i+4) 1:Nat):Int)=1)⟩
def Cq:o!->Option (List aI)
 | []=>none
 |h::t=>if t.length=22*h.toNat then pieces h.toNat t else none
def mask(x:o!):Option Mg :=
 if x.length=12 then some ⟨1,(aW x 1 1:Nat),(aW x 2 1:Nat),(aW x 3 2:Nat),(aW x 5 2:Nat),(aW x 7 2:Nat),(aW x 9 2:Nat),(aW x 11 1:Nat),[],[],CA,pZ⟩ else none
def Ha(x:o!):Option Mg :=
 if 5+3*aW x 4 1+1<=x.length then
  (Cq (x.drop (5+3*aW x 4 1))).map λcs=>⟨2,(aW x 1 1:Nat),(aW x 2 1:Nat),0,0,0,0,(aW x 3 1:Nat),yH (aW x 4 1) 5 x,cs,CA,pZ⟩
 else none
def Hb(x:o!):Option Mg :=
 if x.length=21/\aW x 7 1<=1 then(oK (x.drop 8)).map λf=>⟨3,(aW x 1 1:Nat),(aW x 2 1:Nat),0,0,0,0,0,[],[],C9 x 3,f⟩ else none
def HV(x:o!):Option Mg :=
 if x.length=8/\aW x 7 1<=1 then some ⟨4,(aW x 1 1:Nat),(aW x 2 1:Nat),0,0,0,0,0,[],[],C9 x 3,pZ⟩ else none
def AF(x:o!):Option Mg :=
 if x.length<3 then none else if aW x 0 1=1 then mask x else if aW x 0 1=2 then Ha x else if aW x 0 1=3 then Hb x else if aW x 0 1=4 then HV x else none
def EG(x:o!):Option Mg:=match AF x with
 |some m=>if m.check=0 then some m else none
 |none=>none
abbrev Rs:=Bool×o!
def EH(s:Rs):aL:=⟨(vl s 1:Nat),(vl (dW s 1) 2:Nat)⟩
def yG(s:Rs):Rs:=dW (dW s 1) 2
def qA(s:Rs):Nat->Rs
 |0=>s
 |i+1=>yG (qA s i)
def AA(s:Rs):Nat->List aL
 |0=>[]
 |i+1=>AA s i++[EH (qA s i)]
def Ry(s:Rs)(n:Nat):(AA s n).length=n:=by
 induction n with
 |zero=>rfl
 |succ n a=>rw[AA,bR,a];rfl
theorem Rq(h:j+3<=x.length):EH (false,x.drop j)=EI x j/\yG (false,x.drop j)=(false,x.drop (j+3)):=by
 grind [EH,yG,EI,sX]
def Rz{n:Nat}(h:j+3*n<=x.length):qA (false,x.drop j) n=(false,x.drop (j+3*n))/\AA (false,x.drop j) n=yH n j x:=by
 induction n with
 |zero=>exact⟨rfl,rfl⟩
 |succ n a =>
  grind [Rq,qA,AA,yH]
def Bw(s:Rs):bV:=⟨EH s,(vl (yG s) 1:Nat),decide (((vl (dW (yG s) 1) 1:Nat):Int)=1)⟩
def DB(s:Rs):Rs:=dW (dW (yG s) 1) 1
theorem SO(h:j+5<=x.length):Bw (false,x.drop j)=C9 x j/\DB (false,x.drop j)=(false,x.drop (j+5)):=by
 have⟨a,b⟩:=Rq (x:=x) (j:=j) o_;have⟨c,d,_⟩:=sX (l:=x) (i:=j+3) (w:=1) o_;have⟨e,f,_⟩:=sX (l:=x) (i:=j+4) (w:=1) o_;unfold Bw DB C9;rw[a,b,c,d,e,f];exact⟨rfl,rfl⟩
def qB(s:Rs):Nat->Rs
 |0=>s
 |i+1=>dW (qB s i) 2
def jE(s:Rs)(i:Nat):Int:=(vl (qB s i) 2:Nat)
def SJ(h:j+2*i<=x.length):qB (false,x.drop j) i=(false,x.drop (j+2*i)):=by
 induction i with
 |zero=>rfl
 |succ i a =>
  grind [qB,sX]
def Js(h:j+2*i+2<=x.length):jE (false,x.drop j) i=(aW x (j+2*i) 2:Nat):=by
 unfold jE;rw[SJ o_,(sX h).2.1]
abbrev dU:List Nat:=[1,1,1]
def Lm(x:o!)(m:Mg):Prop:=∀a,EG x=some a->m=a
def Fl{a:Mg}(h:EG x=some a):AF x=some a/\a.check=0:=by
 grind [EG]
def Fo{a:Mg}(h:AF x=some a):3<=x.length/\va dU x 0=aW x 0 1/\va dU x 1=aW x 1 1/\va dU x 2=aW x 2 1/\st dU x 3=(false,x.drop 3):=by
 grind [AF,pP,ID]
theorem Fp{a:Mg}(h:AF x=some a):(aW x 0 1=1/\mask x=some a)\/(aW x 0 1=2/\Ha x=some a)\/(aW x 0 1=3/\Hb x=some a)\/(aW x 0 1=4/\HV x=some a):=by
 grind [AF]
def yL(x:o!)(d k1 k2 k3 base:Int)(ids:List aL)(c:List aI)(a:bV)(b:bE):Mg:=⟨(va dU x 0:Nat),(va dU x 1:Nat),(va dU x 2:Nat),d,k1,k2,k3,base,ids,c,a,b⟩
theorem Lm.ask(j:va dU x 0=1):Lm x (yL x (jE (st dU x 3) 0) (jE (st dU x 3) 1) (jE (st dU x 3) 2) (jE (st dU x 3) 3) (vl (qB (st dU x 3) 4) 1:Nat) [] [] CA pZ):=by
 intro k i;have⟨a,_⟩:=Fl i;have⟨_,b,c,d,e⟩:=Fo a;rcases Fp a with⟨f,h⟩|⟨f,h⟩|⟨f,h⟩|⟨f,h⟩
 ·unfold mask at h;split at h
  ·rename_i g;injection h with h;subst h;unfold yL;rw[b,c,d,e,Js o_,Js o_,Js o_,Js o_,SJ o_,(sX o_).2.1,f];rfl
  ·cases h
 ·omega
 ·omega
 ·omega
def Lm.vJ(g:va dU x 0=4):Lm x (yL x 0 0 0 0 0 [] [] (Bw (st dU x 3)) pZ):=by
 intro h b;have⟨a,_⟩:=Fl b;have⟨_,c,d,e,f⟩:=Fo a
 grind [Fp,HV,yL,SO]
def EN(s:Rs):bE:=((nx s.1 s.2 (13:Nat)).1.bind oK).getD pZ
def Lm.CG(g:va dU x 0=3):Lm x (yL x 0 0 0 0 0 [] [] (Bw (st dU x 3)) (EN (DB (st dU x 3)))):=by
 intro h b;have⟨a,_⟩:=Fl b;have⟨_,c,d,e,f⟩:=Fo a
 grind [Fp,Hb,nx,DG,List.take_of_length_le,List.drop_of_length_le,oK,yL,SO,EN,pZ]
def wY:o!->List aI
 | []=>[]
 |h::t=>if h.toNat<=48/\t.length=22*h.toNat then(pieces h.toNat t).getD [] else[]
def Bs(s:Rs):Nat:=min (vl s 1) 16
def DD(s:Rs):o!:=if s.1 then[] else s.2
def aRs(s:Rs):(nx s.1 s.2 ((if s.1 then 0 else s.2.length:Nat):Int)).1.getD []=DD s:=by
 have⟨b,l⟩:=s;unfold DD;cases b
 ·grind [DG,List.take_length]
 ·rfl
def Lm.push(z:va dU x 0=2):Lm x (yL x 0 0 0 0 (vl (st dU x 3) 1:Nat) (AA (dW (dW (st dU x 3) 1) 1) (Bs (dW (st dU x 3) 1))) (wY (DD (qA (dW (dW (st dU x 3) 1) 1) (Bs (dW (st dU x 3) 1))))) CA pZ):=by
 intro r q;have⟨d,o⟩:=Fl q;have⟨_,e,g,j,k⟩:=Fo d;rcases Fp d with⟨f,h⟩|⟨f,h⟩|⟨f,h⟩|⟨f,h⟩
 ·omega
 ·unfold Ha at h;split at h
  ·rename_i y;cases c:Cq (x.drop (5+3*aW x 4 1)) with
   |none=>rw[c] at h;cases h
   |some cs =>
    rw[c] at h;injection h with h;have m:r.kind=2:=by rw[<-h]
    have⟨_,_,b,_⟩:=Mg.jZ o;unfold Mg.dI at b;rw[b! o_,c! m] at b;simp only[fI,h!,bs] at b;have a:aW x 4 1<=16:=by
     grind [Rw]
    have n:cs.length<=8:=by
     grind
    have⟨s,t,_⟩:=sX (l:=x) (i:=3) (w:=1) o_;have⟨u,v,_⟩:=sX (l:=x) (i:=4) (w:=1) o_;unfold yL;rw[e,g,j,k,s,t];unfold Bs;rw[u,v,nM a,(Rz o_).1,(Rz o_).2,f,<-h];unfold DD;dsimp only;rw[b! lA];have p:wY (x.drop (5+3*aW x 4 1))=cs:=by
     unfold Cq at c;grind [aW,No,wY]
    rw[p];rfl
  ·cases h
 ·omega
 ·omega
def Lm.none{m:Mg}(g:¬(1<=va dU x 0/\va dU x 0<=4)):Lm x m:=by
 intro h b;have⟨a,_⟩:=Fl b;have⟨_,c,d,e,f⟩:=Fo a
 grind [Fp]
def bQ.zero:bQ 0:=by grind [bQ]
def aOx(x:o!)(h:3<=x.length):cX [1,1,1] [aW x 0 1,aW x 1 1,aW x 2 1]=x.take 3:=by
 have:=Kl [1,1,1] x (by grind)
 grind [yO,aW,List.drop_drop]
def SK(h:8<=x.length)(a:aW x 7 1<=1):cX kW (kM (C9 x 3))=(x.drop 3).take 5:=by
 have e:=Kl kW (x.drop 3) (by simp;omega);rw[show kW.sum=5 from rfl] at e
 grind [uT,aW,kM,C9,Int.toNat_natCast,yO,List.drop_drop,Nat.reduceAdd]
def SL{k:bV}(h:k.may=true){a t:o!}(j:a.length=3):C9 (a++(cX kW (kM k)++t)) 3=k/\aW (a++(cX kW (kM k)++t)) 7 1<=1:=by
 have⟨⟨d,l,m,n⟩,o,p⟩:=(bV.eY k).1 h;have q:uT k.cJ<256:=by grind [uT]
 have hb:uT k.cJ<=1:=by grind [uT]
 have e:cX kW (kM k)++t=be k.id.rep.toNat 1++(be k.id.seq.toNat 2++(be k.ord.toNat 1++(be (uT k.cJ) 1++t))):=by grind [cX,kM]
 rw[e];have f:aW (a++(be k.id.rep.toNat 1++(be k.id.seq.toNat 2++(be k.ord.toNat 1++(be (uT k.cJ) 1++t))))) 3 1=k.id.rep.toNat:=kK j o_;have g:aW (a++(be k.id.rep.toNat 1++(be k.id.seq.toNat 2++(be k.ord.toNat 1++(be (uT k.cJ) 1++t))))) 4 2=k.id.seq.toNat:=by
  grind [kK,eJ]
 have i:aW (a++(be k.id.rep.toNat 1++(be k.id.seq.toNat 2++(be k.ord.toNat 1++(be (uT k.cJ) 1++t))))) 6 1=k.ord.toNat:=by
  grind [kK,eJ]
 have c:aW (a++(be k.id.rep.toNat 1++(be k.id.seq.toNat 2++(be k.ord.toNat 1++(be (uT k.cJ) 1++t))))) 7 1=uT k.cJ:=by
  grind [kK,eJ]
 refine⟨?_,by rw[c];exact hb⟩;unfold C9;simp only[Nat.reduceAdd];rw[f,g,i,c,pT d,pT o_,pT o_];have b:decide (((uT k.cJ:Nat):Int)=1)=k.cJ:=by cases k.cJ<;>rfl
 rw[b]
def YE{y:o!}{cs:List aI}(h:Cq y=some cs):jN cs=y/\∀c∈cs,c.ok:=by
 unfold Cq at h;cases y with
 |nil=>cases h
 |cons a t =>
  dsimp only at h;split at h
  ·rename_i f;have⟨b,d,_,e⟩:=No h f;refine⟨?_,e⟩;unfold jN;rw[b,d,UInt8.ofNat_toNat]
  ·cases h
def YD{l:List aI}(a:l.length<=48)(b:l.all aI.may=true)(d:∀c∈l,bQ c.n):Cq (jN l)=some l:=by
 have e:(UInt8.ofNat l.length).toNat=l.length:=by simp;omega
 grind [Cq,jN,Fy,Tj]
def Mg.Mn{m:Mg}(h:m.check=0)(a:m.kind=1):m.dI=true/\((0<=m.k0/\m.k0<=65535)/\(0<=m.k1/\m.k1<=65535)/\(0<=m.k2/\m.k2<=65535)/\0<=m.k3/\m.k3<=65535)/\0<=m.base/\m.base<=48:=by
 have⟨_,_,b,_⟩:=Mg.jZ h
 grind [Mg.dI,sq,bs]
theorem Mg.D4{m:Mg}(h:m.check=0)(a:m.kind=2):m.ids.length<=16/\m.ids.all aL.may=true/\m.cL.length<=8/\m.cL.all aI.may=true/\0<=m.base/\m.base<=48:=by
 have⟨_,_,b,_⟩:=Mg.jZ h
 grind [Mg.dI,bs]
def Mg.ZZ{m:Mg}(h:m.check=0)(a:m.kind=3):m.key.may=true/\m.bD.check=0:=by
 have⟨_,_,b,_⟩:=Mg.jZ h
 grind [Mg.dI]
def Mg.Za{m:Mg}(h:m.check=0)(a:m.kind=4):m.key.may=true:=by
 have⟨_,_,b,_⟩:=Mg.jZ h
 grind [Mg.dI]
def Mg.aHx{m:Mg}(h:m.check=0):0<=m.fr/\m.fr<=9/\0<=m.to/\m.to<=9:=by
 have⟨_,a,_,_⟩:=Mg.jZ h
 grind [Mg.xD,nG]
theorem aHp{m:Mg}(h:EG x=some m):m.check=0/\m.body=x/\m.ok:=by
 have⟨l,a⟩:=Fl h;refine⟨a,?_⟩;have⟨q,_⟩:=Fo l;have b:=aOx x q;have r:=mP x 0 1;rcases Fp l with⟨f,h⟩|⟨f,h⟩|⟨f,h⟩|⟨f,h⟩
 ·unfold mask at h;split at h
  ·rename_i p;injection h with h
   subst h;refine⟨?_,⟨λc a=>(cZ a).elim,bQ.zero⟩⟩;unfold Mg.body;dsimp only;rw[c! rfl,jK,jK,show(1:Int).toNat=aW x 0 1 by rw[f];rfl,b];have e:=Kl [2,2,2,2,1] (x.drop 3) (by simp;omega);rw[show([2,2,2,2,1]:List Nat).sum=9 from rfl,fX (by simp;omega)] at e;simp only[yO,pU,Nat.reduceAdd] at e;simp only[aW,jK];rw[e,mE]
  ·cases h
 ·unfold Ha at h;split at h
  ·rename_i k;cases d:Cq (x.drop (5+3*aW x 4 1)) with
   |none=>rw[d] at h;cases h
   |some cs =>
    rw[d] at h;injection h with h
    have⟨g,o⟩:=YE d;subst h;refine⟨?_,⟨λc a=>(o c a).2.2.2.2.2.1,bQ.zero⟩⟩;unfold Mg.body;dsimp only;rw[b! sD,c! rfl,jK,jK,jK,show(2:Int).toNat=aW x 0 1 by rw[f];rfl,b,s6 _ _ _ o_,g,Rw];have e:=Kl [1,1] (x.drop 3) (by simp;omega);simp only[yO,pU,Nat.reduceAdd] at e;simp only[aW];rw[e,<-aW];have s:([1,1]:List Nat).sum=2:=rfl;rw[s,<-bF,<-bF];have t:x.take 3++(x.drop 3).take 2=x.take 5:=(zO (i:=3) (j:=2)).symm;have u:x.take 5++(x.drop 5).take (3*aW x 4 1)=x.take (5+3*aW x 4 1):=zO.symm;rw[t,u,mE]
  ·cases h
 ·unfold Hb at h;split at h
  ·rename_i k;cases d:oK (x.drop 8) with
   |none=>rw[d] at h;cases h
   |some e =>
    rw[d] at h;injection h with h
    have⟨g,_⟩:=Mj d;have n:=Qz (x.drop 8);rw[<-g] at n;subst h;refine⟨?_,⟨λc a=>(cZ a).elim,n.2.2.1⟩⟩;unfold Mg.body;dsimp only;rw[b! sD,b! sD,c! rfl,jK,jK,show(3:Int).toNat=aW x 0 1 by rw[f];rfl,b,SK o_ k.2,g,Ts (by simp;omega)];rw[<-bF,<-zO (i:=3) (j:=5),mE]
  ·cases h
 ·unfold HV at h;split at h
  ·rename_i k;injection h with h
   subst h;refine⟨?_,⟨λc a=>(cZ a).elim,bQ.zero⟩⟩;unfold Mg.body;dsimp only;rw[b! sD,b! sD,b! sD,jK,jK,show(4:Int).toNat=aW x 0 1 by rw[f];rfl,b,SK o_ k.2];rw[<-zO (i:=3) (j:=5),fX o_]
  ·cases h
def aNo{m:Mg}(n:m.check=0)(H:m.ok):EG m.body=some m:=by
 have⟨hk,_,_,hb⟩:=Mg.jZ n;have⟨Z,f1,t0,t1⟩:=Mg.aHx n;have w:AF m.body=some m:=by
  have c:(cX [1,1,1] [m.kind.toNat,m.fr.toNat,m.to.toNat]).length=3:=by simp[cX,eJ]
  have r:fit [1,1,1] [m.kind.toNat,m.fr.toNat,m.to.toNat]:=⟨o_,o_,o_,trivial⟩;have z:∀t,aW (cX [1,1,1] [m.kind.toNat,m.fr.toNat,m.to.toNat]++t) 0 1=m.kind.toNat/\aW (cX [1,1,1] [m.kind.toNat,m.fr.toNat,m.to.toNat]++t) 1 1=m.fr.toNat/\aW (cX [1,1,1] [m.kind.toNat,m.fr.toNat,m.to.toNat]++t) 2 1=m.to.toNat:=by
   intro t;have e:=NX _ _ t r;simp only[yO,pU,Nat.reduceAdd] at e;injection e with x e;injection e with q e;injection e with B e;exact⟨x,q,B⟩
  rcases(show m.kind=1\/m.kind=2\/m.kind=3\/m.kind=4 by omega) with f|f|f|f
  ·have⟨_,⟨⟨P,Q⟩,⟨R,U⟩,⟨J,F⟩,W,X⟩,N,O⟩:=Mg.Mn n f;have a:m.body=cX [1,1,1] [m.kind.toNat,m.fr.toNat,m.to.toNat]++cX [2,2,2,2,1] [m.k0.toNat,m.k1.toNat,m.k2.toNat,m.k3.toNat,m.base.toNat]:=by
    grind [Mg.body]
   have g:fit [2,2,2,2,1] [m.k0.toNat,m.k1.toNat,m.k2.toNat,m.k3.toNat,m.base.toNat]:=⟨o_,o_,o_,o_,o_,trivial⟩;have u:=Uq _ _ g;have e:=NX _ _ [] g;rw[aY] at e;have⟨p,k,l⟩:=z (cX [2,2,2,2,1] [m.k0.toNat,m.k1.toNat,m.k2.toNat,m.k3.toNat,m.base.toNat]);rw[a];generalize cX [2,2,2,2,1] [m.k0.toNat,m.k1.toNat,m.k2.toNat,m.k3.toNat,m.base.toNat]=y at *;generalize cX [1,1,1] [m.kind.toNat,m.fr.toNat,m.to.toNat]=h at *;simp only[yO,pU,Nat.reduceAdd] at e;injection e with x e;injection e with q e;injection e with B e;injection e with K e;injection e with M e;have d:(h++y).length=12:=by grind
   have k1:aW (h++y) 3 2=m.k0.toNat:=(Bp (i:=0) c).trans (by grind [aW]);have k2:aW (h++y) 5 2=m.k1.toNat:=(Bp (i:=2) c).trans q;have k3:aW (h++y) 7 2=m.k2.toNat:=(Bp (i:=4) c).trans B;have k4:aW (h++y) 9 2=m.k3.toNat:=(Bp (i:=6) c).trans K;have k5:aW (h++y) 11 1=m.base.toNat:=(Bp (i:=8) c).trans M;unfold AF;rw[b! o_,c! (by grind)];unfold mask;rw[c! d,k,l,k1,k2,k3,k4,k5];unfold Mg.bare at hb;grind
  ·have⟨A,D,J,F,N,O⟩:=Mg.D4 n f;have a:m.body=cX [1,1,1] [m.kind.toNat,m.fr.toNat,m.to.toNat]++(cX [1,1] [m.base.toNat,m.ids.length]++(kV m.ids++jN m.cL)):=by
    grind [Mg.body]
   have g:fit [1,1] [m.base.toNat,m.ids.length]:=⟨o_,o_,trivial⟩;have u:(cX [1,1] [m.base.toNat,m.ids.length]).length=2:=Uq _ _ g;have e:=NX _ _ (kV m.ids++jN m.cL) g;have⟨p,k,l⟩:=z (cX [1,1] [m.base.toNat,m.ids.length]++(kV m.ids++jN m.cL));rw[a];have j:(cX [1,1,1] [m.kind.toNat,m.fr.toNat,m.to.toNat]++cX [1,1] [m.base.toNat,m.ids.length]).length=5:=by rw[bR,c,u]
   have s:=s8 m.ids (cX [1,1,1] [m.kind.toNat,m.fr.toNat,m.to.toNat]++cX [1,1] [m.base.toNat,m.ids.length]) (jN m.cL) D;rw[j,bF] at s;have o:(cX [1,1,1] [m.kind.toNat,m.fr.toNat,m.to.toNat]++(cX [1,1] [m.base.toNat,m.ids.length]++(kV m.ids++jN m.cL))).drop (5+3*m.ids.length)=jN m.cL:=by
    rw[<-bF,<-bF];exact rQ (by rw[bR,j,D9])
   have d:(cX [1,1,1] [m.kind.toNat,m.fr.toNat,m.to.toNat]++(cX [1,1] [m.base.toNat,m.ids.length]++(kV m.ids++jN m.cL))).length=5+3*m.ids.length+(1+22*m.cL.length):=by
    rw[<-bF,bR,j,bR,D9,HB];omega
   generalize cX [1,1] [m.base.toNat,m.ids.length]++(kV m.ids++jN m.cL)=y at *;generalize cX [1,1,1] [m.kind.toNat,m.fr.toNat,m.to.toNat]=h at *;simp only[yO] at e;injection e with x e;injection e with q e;have k1:aW (h++y) 3 1=m.base.toNat:=(Bp (i:=0) c).trans (by unfold aW;rw[uG];exact x);have k2:aW (h++y) 4 1=m.ids.length:=(Bp (i:=1) c).trans q;unfold AF;rw[b! o_,b! o_,c! (by rw[p];omega)];unfold Ha;rw[k1,k2,c! o_,o,YD o_ F H.1,k,l,s];unfold Mg.bare at hb;rw[b! o_,c! f] at hb;have b:=Mg.eq_iff.1 hb;show some _=some _;congr 1;rw[Mg.eq_iff];dsimp only at b⊢;refine⟨o_,o_,o_,o_,o_,o_,o_,o_,rfl,rfl,b.2.2.2.2.2.2.2.2.2.2.1,b.2.2.2.2.2.2.2.2.2.2.2⟩
  ·have⟨A,D⟩:=Mg.ZZ n f;have a:m.body=cX [1,1,1] [m.kind.toNat,m.fr.toNat,m.to.toNat]++(cX kW (kM m.key)++m.bD.put):=by
    unfold Mg.body;rw[b! o_,b! o_,c! f]
   have⟨p,k,l⟩:=z (cX kW (kM m.key)++m.bD.put);have⟨E,k1⟩:=SL A (t:=m.bD.put) c;have v:(cX [1,1,1] [m.kind.toNat,m.fr.toNat,m.to.toNat]++cX kW (kM m.key)).length=8:=by rw[bR,c];simp[cX,kM,eJ]
   have o:(cX [1,1,1] [m.kind.toNat,m.fr.toNat,m.to.toNat]++(cX kW (kM m.key)++m.bD.put)).drop 8=m.bD.put:=by
    rw[<-bF];exact rQ v
   have d:(cX [1,1,1] [m.kind.toNat,m.fr.toNat,m.to.toNat]++(cX kW (kM m.key)++m.bD.put)).length=21:=by
    rw[<-bF,bR,v,bE.iP]
   rw[a];generalize cX kW (kM m.key)++m.bD.put=y at *;generalize cX [1,1,1] [m.kind.toNat,m.fr.toNat,m.to.toNat]=h at *;unfold AF;rw[b! o_,b! o_,b! o_,c! (by rw[p];omega)];unfold Hb;rw[c! ⟨d,k1⟩,o,RN D H.2,k,l,E];unfold Mg.bare at hb;rw[b! o_,b! o_,c! f] at hb;have b:=Mg.eq_iff.1 hb;show some _=some _;congr 1;rw[Mg.eq_iff];dsimp only at b⊢;refine⟨o_,o_,o_,o_,o_,o_,o_,o_,b.2.2.2.2.2.2.2.2.1,b.2.2.2.2.2.2.2.2.2.1,rfl,rfl⟩
  ·have A:=Mg.Za n f;have a:m.body=cX [1,1,1] [m.kind.toNat,m.fr.toNat,m.to.toNat]++(cX kW (kM m.key)++[]):=by
    unfold Mg.body;rw[b! o_,b! o_,b! o_,aY]
   have⟨p,k,l⟩:=z (cX kW (kM m.key)++[]);have⟨E,k1⟩:=SL A (t:=[]) c;have d:(cX [1,1,1] [m.kind.toNat,m.fr.toNat,m.to.toNat]++(cX kW (kM m.key)++[])).length=8:=by rw[bR,c];simp[cX,kM,eJ]
   rw[a];generalize cX kW (kM m.key)++[]=y at *;generalize cX [1,1,1] [m.kind.toNat,m.fr.toNat,m.to.toNat]=h at *;unfold AF;rw[b! o_,b! o_,b! o_,b! o_,c! (by rw[p];omega)];unfold HV;rw[c! ⟨d,k1⟩,k,l,E];unfold Mg.bare at hb;rw[b! o_,b! o_,b! o_,c! f] at hb;have b:=Mg.eq_iff.1 hb;congr 1;rw[Mg.eq_iff];dsimp only at b⊢;refine⟨o_,o_,o_,o_,o_,o_,o_,o_,b.2.2.2.2.2.2.2.2.1,b.2.2.2.2.2.2.2.2.2.1,rfl,b.2.2.2.2.2.2.2.2.2.2.2⟩
 unfold EG;rw[w];exact c! n
open Frm in
def kO(b:o!):Option Mg:=match kJ b with
 |some (x,k)=>if k=b.length then EG x else none
 |none=>none
def ZS{b:o!}(h:Frm.kJ b=some (x,b.length)):Frm.fr x=b:=by
 unfold Frm.kJ at h;split at h
 ·rename_i a;injection h with h;injection h with j k;have⟨c,d,l,f,g,i⟩:=a;have e:=(Frm.Nb c d f).1 ⟨g,i⟩;grind
 ·cases h
theorem Mg.size{m:Mg}(h:m.check=0):1<=m.body.length/\m.body.length<=300:=by
 have⟨c,_,_,_⟩:=Mg.jZ h;have a:(cX [1,1,1] [m.kind.toNat,m.fr.toNat,m.to.toNat]).length=3:=by simp[cX,eJ]
 have b:(cX kW (kM m.key)).length=5:=by simp[cX,kM,eJ]
 grind [Mg.body,cX,eJ,Mg.D4,D9,HB,bE.iP]
theorem AE{b:o!}{m:Mg}(h:kO b=some m):m.check=0/\m.enc=b/\m.ok:=by
 unfold kO at h;split at h
 ·rename_i x k e;split at h
  ·rename_i f;subst f;have⟨a,c,d⟩:=aHp h;refine⟨a,?_,d⟩;unfold Mg.enc;rw[c,ZS e]
  ·cases h
 ·cases h
theorem EF{m:Mg}(a:m.check=0)(c:m.ok):kO m.enc=some m:=by
 have⟨b,d⟩:=Mg.size a;have h:=Frm.HF (t:=[]) b o_;rw[aY] at h;unfold kO Mg.enc;rw[h];dsimp only;rw[c! (Frm.jO _).symm,aNo a c]
def aRz{b:o!}{m:Mg}(c:((Frm.kJ b).map Prod.fst).getD []=x)(e:Lm x m)(j:m.ok):kO b=if m.check=0/\m.enc=b then some m else none:=by
 by_cases h:m.check=0/\m.enc=b
 ·grind [EF]
 ·rw[b! h];cases a:kO b with
  |none=>rfl
  |some l =>
   exfalso;have⟨f,g,i⟩:=AE a;unfold kO at a;split at a
   ·rename_i y k d;rw[d] at c;change y=x at c;subst c;split at a
    ·have:=e _ a;grind
    ·cases a
   ·cases a
def aEo{l:o!}(hi:i<l.length)(h:l.set i y=l):l[i]?=some y:=by
 grind
def Zq{a c:o!}(hl:a.length=c.length)(hi:i<c.length+7)(hy:(Frm.fr c)[i]?≠some y)(h:Frm.fr a=(Frm.fr c).set i y):False:=by
 have hii:i<(Frm.fr c).length:=by rw[Frm.jO];exact hi
 have e:∀z,Frm.fr z=be z.length 2++(z++(be (Crc.sum z) 4++[90])):=λz=>by unfold Frm.fr;simp only[bF]
 have hp:=eJ c.length 2;have hback:(Frm.fr c).set i y≠Frm.fr c:=λhq=>hy (aEo hii hq);rw[e a,e c,hl] at h;rw[e c] at hback;rw[List.set_append] at h hback;split at h
 ·rename_i h1;rw[c! h1] at hback;have h2:=Ij h (by rw[iM]);rw[<-h2.1] at hback;exact hback rfl
 ·rename_i h1;rw[b! h1] at hback;have h2:=List.append_cancel_left h;have hback2:=λhq=>hback (j! (be c.length 2++·) hq);rw[hp] at h2 hback2;rw[List.set_append] at h2 hback2;split at h2
  ·rename_i h3;have h4:=Ij h2 (by rw[iM,hl]);have h5:=(Ij h4.2 (by rw[eJ,eJ])).1;have h6:=XN 4 _ _ (Crc.GC a) (Crc.GC c) h5;have hs:=Lp (l:=c) (i:=i - 2) (a:=y);rw[c! h3] at hs;have hcc:c.take (i - 2)++c[i - 2]::c.drop (i - 2+1)=c:=by rw[<-lL h3,mE]
   rw[h4.1,hs] at h6;have hne:y≠c[i - 2]:=by
    intro hq;apply hback2;rw[c! h3,hs,hq,hcc]
   refine Crc.aQm (c.take (i - 2)) (c.drop (i - 2+1)) y c[i - 2] hne ?_;rw[h6,hcc]
  ·rename_i h3;rw[b! h3] at hback2;have h4:=Ij h2 hl;apply hback2;rw[<-h4.2,h4.1]
theorem aPm{m:Mg}(hi:i<m.body.length+7)(d:m.enc[i]?≠some y):kO (m.enc.set i y)=none:=by
 cases b:kO (m.enc.set i y) with
 |none=>rfl
 |some e =>
  exfalso;have⟨f,a,_⟩:=AE b;have c:e.body.length=m.body.length:=by
   have:=j! List.length a;unfold Mg.enc at this;rw[iM,Frm.jO,Frm.jO] at this;omega
  exact Zq c hi d a
end
section
open Go.RowKit Reg
open Mem hiding Rd
def aGo:Rec prog 195 [a! 0,a! 0,a! 0,a! 0,a! 0,a! 0,a! 0,a! 0,.slice none 0 0,.slice none 0 0,a! 0,a! 0,a! 0,.bool false,a! 0,a! 0,a! 0,a! 0,a! 0] [(0,1),(1,1),(2,1),(3,4),(7,1),(8,1),(9,1),(10,4),(14,5)]:=⟨q_,q_⟩
instance aTf:iB 195 [a! 0,a! 0,a! 0,a! 0,a! 0,a! 0,a! 0,a! 0,.slice none 0 0,.slice none 0 0,a! 0,a! 0,a! 0,.bool false,a! 0,a! 0,a! 0,a! 0,a! 0] [(0,1),(1,1),(2,1),(3,4),(7,1),(8,1),(9,1),(10,4),(14,5)]:=⟨aGo⟩
def aMe:Rec prog 330 [.slice none 0 0] [(0,1)]:=⟨q_,q_⟩
instance aTc:iB 330 [.slice none 0 0] [(0,1)]:=⟨aMe⟩
def aLq:Rec prog 279 [.pointer none] [(0,1)]:=⟨q_,q_⟩
instance aSw:iB 279 [.pointer none] [(0,1)]:=⟨aLq⟩
def n?{a b f g h i j b3:Int}:zF prog 98 #[a! a,a! b,a! f,a! g] #[a! h,a! i,a! j,a! b3] (decide (a=h)&&(decide (b=i)&&(decide (f=j)&&decide (g=b3)))):=zF.four (e:=3) q_ q_ q_ q_
instance aTd{a b e f g h i b3:Int}:LW 98 #[a! a,a! b,a! e,a! f] #[a! g,a! h,a! i,a! b3] (decide (a=g)&&(decide (b=h)&&(decide (e=i)&&decide (f=b3)))):=⟨n?⟩
abbrev fV(m:Mg)(A:n!)(n c:Nat)(B:n!)(k d:Nat):List p!:=[a! m.kind,a! m.fr,a! m.to,a! m.k0,a! m.k1,a! m.k2,a! m.k3,a! m.base,.slice A n c,.slice B k d,a! m.key.id.rep,a! m.key.id.seq,a! m.key.ord,.bool m.key.cJ,a! m.bD.kind,a! m.bD.a,a! m.bD.n,a! m.bD.ref.rep,a! m.bD.ref.seq]
def Ps{r:List α}{x:α}(h:l.take i=r.take i)(g:l[i]?=some x)(j:r[i]?=some x):l.take (i+1)=r.take (i+1):=by
 have⟨a,b⟩:=cH.1 g;have⟨e,f⟩:=cH.1 j;rw[rS a,rS e,h,b,f]
def Pr{r:List α}{x y:α}(e:l[i]?=some x)(a:r[i]?=some y)(h:x≠y):l≠r:=by
 intro b;subst b;rw[e] at a;injection a with a
 exact h a
def Pq{r:List α}(h:l.take i=r.take i)(a:i=l.length)(b:i=r.length):l=r:=by
 rw[fX o_,fX o_] at h;exact h
section
variable (E:Env) (A:n!) (n c:Nat) (B:n!) (k d:Nat)
def ON(l r:List aL)(w:Rd E gJ A n c l)(g:Rd E gJ B k d r):aF prog E 340 #[.slice A n c,.slice B k d] [] λe z=>e=.returned (.bool (decide (l=r)))/\z=[]:=by
 have s:=w.cap;have j:=g.cap;have v:=w.len;have t:=g.len;have u:=cS;refine t_ func340 ntmps340 ?_;by_cases f:n=k;case neg =>
  have m:¬l=r:=λh=>f (by rw[v,t,h]);rw[e! m];refine c_ ?_
  exact aS
 subst f;refine c_ ?_;refine C.loop (X:=Nat) (λi=>[(0,.slice A n c),(1,.slice B n d),(12,a! n),(13,a! i)]) (λ_=>[]) (λi=>i<=n/\l.take i=r.take i) (λi=>n - i) 0 aK aC ⟨bY _,rfl⟩ ?_;rintro i G ⟨H,b⟩;by_cases F:i<n
 ·have p:l[i]?=some l[i]:=bS o_;have q:r[i]?=some r[i]:=bS o_;generalize l[i]=x at p;generalize r[i]=y at q;by_cases a:x=y
  ·have o:=Ps b p (by rw[a];exact q);have D:(!decide ((⟨x.rep,x.seq⟩:aL)=⟨y.rep,y.seq⟩))=false:=by rw[a,d! rfl];rfl
   refine c_ ?_;refine rA (l_ [0,1,2,3,4,5,6,7,8] .nil) (c_ ?_);exact⟨i+1,aK,aC,⟨o_,o⟩,o_⟩
  ·have D:(!decide ((⟨x.rep,x.seq⟩:aL)=⟨y.rep,y.seq⟩))=true:=j! Bool.not (e! (show ¬((⟨x.rep,x.seq⟩:aL)=⟨y.rep,y.seq⟩) from a));rw[e! (Pr p q a)];refine c_ ?_;refine rA (l_ [0,1,2,3,4,5,6,7,8] .nil) (c_ ?_);exact aS
 ·obtain rfl:i=n:=o_;rw[d! (Pq b v t)];refine c_ ?_;exact aS
def vV(l r:List aI)(w:Rd E bO A n c l)(g:Rd E bO B k d r):aF prog E 80 #[.slice A n c,.slice B k d] [] λe z=>e=.returned (.bool (decide (l=r)))/\z=[]:=by
 have s:=w.cap;have j:=g.cap;have v:=w.len;have t:=g.len;have u:=cS;refine t_ func80 ntmps80 ?_;by_cases f:n=k;case neg =>
  have m:¬l=r:=λh=>f (by rw[v,t,h]);rw[e! m];refine c_ ?_
  exact aS
 subst f;refine c_ ?_;refine C.loop (X:=Nat) (λi=>[(0,.slice A n c),(1,.slice B n d),(12,a! n),(13,a! i)]) (λ_=>[]) (λi=>i<=n/\l.take i=r.take i) (λi=>n - i) 0 aK aC ⟨bY _,rfl⟩ ?_;rintro i G ⟨H,b⟩;by_cases F:i<n
 ·have p:l[i]?=some l[i]:=bS o_;have q:r[i]?=some r[i]:=bS o_;generalize l[i]=x at p;generalize r[i]=y at q;by_cases a:x=y
  ·have o:=Ps b p (by rw[a];exact q);have D:(!decide ((⟨⟨x.id.rep,x.id.seq⟩,x.time,x.kind,x.a,x.b,x.n,⟨x.ref.rep,x.ref.seq⟩⟩:aI)=⟨⟨y.id.rep,y.id.seq⟩,y.time,y.kind,y.a,y.b,y.n,⟨y.ref.rep,y.ref.seq⟩⟩))=false:=by rw[a,d! rfl];rfl
   refine c_ ?_;refine rA (l_ [0,1,2,3,4,5,6,7,8] .nil) (c_ ?_);exact⟨i+1,aK,aC,⟨o_,o⟩,o_⟩
  ·have D:(!decide ((⟨⟨x.id.rep,x.id.seq⟩,x.time,x.kind,x.a,x.b,x.n,⟨x.ref.rep,x.ref.seq⟩⟩:aI)=⟨⟨y.id.rep,y.id.seq⟩,y.time,y.kind,y.a,y.b,y.n,⟨y.ref.rep,y.ref.seq⟩⟩))=true:=j! Bool.not (e! (show ¬((⟨⟨x.id.rep,x.id.seq⟩,x.time,x.kind,x.a,x.b,x.n,⟨x.ref.rep,x.ref.seq⟩⟩:aI)=⟨⟨y.id.rep,y.id.seq⟩,y.time,y.kind,y.a,y.b,y.n,⟨y.ref.rep,y.ref.seq⟩⟩) from a));rw[e! (Pr p q a)];refine c_ ?_;refine rA (l_ [0,1,2,3,4,5,6,7,8] .nil) (c_ ?_);exact aS
 ·obtain rfl:i=n:=o_;rw[d! (Pq b v t)];refine c_ ?_;exact aS
end
section
variable (E:Env) (A:n!) (n c:Nat) (B:n!) (k d:Nat) (A2:n!) (n2 c2:Nat) (B2:n!) (k2 d2:Nat)
def aAy(a b:Mg)(x:Rd E gJ A n c a.ids)(y:Rd E bO B k d a.cL)(z:Rd E gJ A2 n2 c2 b.ids)(D:Rd E bO B2 k2 d2 b.cL):aF prog E 289 #[.agg (fV a A n c B k d).toArray,.agg (fV b A2 n2 c2 B2 k2 d2).toArray] [] λe w=>e=.returned (.bool (decide (a=b)))/\w=[]:=by
 refine t_ func289 ntmps289 ?_;by_cases p:a.kind=b.kind
 case neg =>
  have g:a≠b:=λh=>p (by rw[h]);rw[e! g];refine c_ ?_;intros
  exact aS
 by_cases q:a.fr=b.fr
 case neg =>
  have g:a≠b:=λh=>q (by rw[h]);rw[e! g];refine c_ ?_;intros
  exact aS
 by_cases r:a.to=b.to
 case neg =>
  have g:a≠b:=λh=>r (by rw[h]);rw[e! g];refine c_ ?_;intros
  exact aS
 by_cases f:a.k0=b.k0/\a.k1=b.k1/\a.k2=b.k2/\a.k3=b.k3
 case neg =>
  have g:a≠b:=λh=>f (by rw[h];exact⟨rfl,rfl,rfl,rfl⟩);have t:(decide (a.k0=b.k0)&&(decide (a.k1=b.k1)&&(decide (a.k2=b.k2)&&decide (a.k3=b.k3))))=false:=by rw[Bool.eq_false_iff];intro h;simp at h;exact f h
  rw[e! g];refine c_ ?_;intros
  exact aS
 have t:(decide (a.k0=b.k0)&&(decide (a.k1=b.k1)&&(decide (a.k2=b.k2)&&decide (a.k3=b.k3))))=true:=by simp only[fI,h!];exact f
 by_cases o:a.base=b.base
 case neg =>
  have g:a≠b:=λh=>o (by rw[h]);rw[e! g];refine c_ ?_;intros
  exact aS
 by_cases m:a.key=b.key
 case neg =>
  have g:a≠b:=λh=>m (by rw[h]);have s:decide ((⟨⟨a.key.id.rep,a.key.id.seq⟩,a.key.ord,a.key.cJ⟩:bV)=⟨⟨b.key.id.rep,b.key.id.seq⟩,b.key.ord,b.key.cJ⟩)=false:=e! (show ¬((⟨⟨a.key.id.rep,a.key.id.seq⟩,a.key.ord,a.key.cJ⟩:bV)=⟨⟨b.key.id.rep,b.key.id.seq⟩,b.key.ord,b.key.cJ⟩) from m);rw[e! g];refine c_ ?_;intros
  exact aS
 have s:decide ((⟨⟨a.key.id.rep,a.key.id.seq⟩,a.key.ord,a.key.cJ⟩:bV)=⟨⟨b.key.id.rep,b.key.id.seq⟩,b.key.ord,b.key.cJ⟩)=true:=d! (show(⟨⟨a.key.id.rep,a.key.id.seq⟩,a.key.ord,a.key.cJ⟩:bV)=⟨⟨b.key.id.rep,b.key.id.seq⟩,b.key.ord,b.key.cJ⟩ from m);by_cases i:a.bD=b.bD
 case neg =>
  have g:a≠b:=λh=>i (by rw[h]);have u:decide ((⟨a.bD.kind,a.bD.a,a.bD.n,⟨a.bD.ref.rep,a.bD.ref.seq⟩⟩:bE)=⟨b.bD.kind,b.bD.a,b.bD.n,⟨b.bD.ref.rep,b.bD.ref.seq⟩⟩)=false:=e! (show ¬((⟨a.bD.kind,a.bD.a,a.bD.n,⟨a.bD.ref.rep,a.bD.ref.seq⟩⟩:bE)=⟨b.bD.kind,b.bD.a,b.bD.n,⟨b.bD.ref.rep,b.bD.ref.seq⟩⟩) from i);rw[e! g];refine c_ ?_;intros
  exact aS
 have u:decide ((⟨a.bD.kind,a.bD.a,a.bD.n,⟨a.bD.ref.rep,a.bD.ref.seq⟩⟩:bE)=⟨b.bD.kind,b.bD.a,b.bD.n,⟨b.bD.ref.rep,b.bD.ref.seq⟩⟩)=true:=d! (show(⟨a.bD.kind,a.bD.a,a.bD.n,⟨a.bD.ref.rep,a.bD.ref.seq⟩⟩:bE)=⟨b.bD.kind,b.bD.a,b.bD.n,⟨b.bD.ref.rep,b.bD.ref.seq⟩⟩ from i);by_cases j:a.ids=b.ids
 case neg =>
  have g:a≠b:=λh=>j (by rw[h]);rw[e! g];refine c_ ?_;intros
  refine rO (λM=>ON M _ _ _ _ _ _ a.ids b.ids) ?_;rw[e! j];refine e_ ?_
  exact aS
 by_cases l:a.cL=b.cL
 case neg =>
  have g:a≠b:=λh=>l (by rw[h]);rw[e! g];refine c_ ?_;intros
  refine rO (λM=>ON M _ _ _ _ _ _ a.ids b.ids) ?_;rw[d! j];refine e_ ?_
  refine rO (λM=>vV M _ _ _ _ _ _ a.cL b.cL) ?_;rw[e! l];refine e_ ?_
  exact aS
 have v:a=b:=Mg.eq_iff.2 ⟨p,q,r,f.1,f.2.1,f.2.2.1,f.2.2.2,o,j,l,m,i⟩;rw[d! v];refine c_ ?_;intros
 refine rO (λM=>ON M _ _ _ _ _ _ a.ids b.ids) ?_;rw[d! j];refine e_ ?_
 refine rO (λM=>vV M _ _ _ _ _ _ a.cL b.cL) ?_;rw[d! l];refine e_ ?_
 exact aS
end
def Sub.arr{T:Ty α}{E M:Env}{R d:List aG}{g:Nat}{t:q!}{cs:List p!}(b:Sub E R M)(h:Has (Sep.aE g t cs) R d){m:Nat}(p:m=l.length)(a:m<=maxLen)(r:∀j u,(T.cE l)[j]?=some u->cs[i+j]?=some u):Rd M T (some ⟨g,i,none⟩) m m l:=by
 refine⟨p,bM _,a,.inr ⟨_,rfl,?_,λj u q=>?_⟩⟩
 ·have⟨F,e,f⟩:=b.fr;have⟨s,v,k,_,o,_⟩:=h.fG e;exact f _ ((k _).2 (.inl ((o.1 _).2 rfl)))
 ·rw[uJ];exact(wD.aE b h (r j u q)).2
def Bt(p:α->Bool)(l:List α):Int:=match l.findIdx? p with|some i=>i|none => -1
def Mz{p:α->Bool}(h:∀x∈l,p x=false):Bt p l = -1:=by
 unfold Bt;rw[PL.2 h]
def M0{p:α->Bool}{x:α}(f:l[i]?=some x)(e:p x=true)(h:∀j y,j<i->l[j]?=some y->p y=false):Bt p l=i:=by
 unfold Bt;have⟨b,a⟩:=cH.1 f;rw[Lj.2 ⟨b,by rw[a];exact e,λj d=>by rw[h j l[j] d (bS o_)];exact lA⟩]
def My(p:α->Bool)(l:List α):decide (0<=Bt p l)=l.any p:=by
 unfold Bt;cases h:l.findIdx? p with
 |none =>
  rw[PL] at h;rw[uB];simp;exact h
 |some i =>
  rw[Lj] at h;have⟨b,a,_⟩:=h;rw[GV.2 ⟨_,zL b,a⟩];exact d! (LZ i)
def L6(p:α->Bool)(l:List α):(!(l.any λx => !p x))=l.all p:=by
 induction l with
 |nil=>rfl
 |cons a l b=>simp[List.any_cons,List.all_cons,<-b]
section
variable (E:Env)
def Kf(n:Int):aF prog E 332 #[a! n] [] λe a=>e=.returned (.bool (nG n))/\a=[]:=by
 refine x_ func332 ntmps332 ?_
 refine A_ (λM=>lS M n 0 3) ?_
 exact aS
def aJj(n:Int):aF prog E 334 #[a! n] [] λe a=>e=.returned (.bool (!sq n))/\a=[]:=by
 refine x_ func334 ntmps334 ?_
 refine A_ (λM=>lS M n 0 65535) ?_
 exact aS
def aJi(x:aL):aF prog E 336 #[.agg x.cs.toArray] [] λe a=>e=.returned (.bool (!x.may))/\a=[]:=by
 refine x_ func336 ntmps336 ?_;intros
 refine A_ (λM=>Jp M x) ?_
 exact aS
def aAn(x:aI):aF prog E 338 #[.agg x.cs.toArray] [] λe a=>e=.returned (.bool (!x.may))/\a=[]:=by
 refine x_ func338 ntmps338 ?_;intros;refine aU (λM=>Du M x) ?_;cases b:x.may;all_goals
  rintro e a ⟨rfl,rfl⟩;refine c_ ?_;exact aS
variable (A:n!) (n c:Nat)
def y8(l:List Int)(o:Rd E yI A n c l):aF prog E 368 #[.slice A n c,.func (.func 334) #[] #[]] [] λr g=>r=.returned (a! (Bt (λx => !sq x) l))/\g=[]:=by
 have u:=o.len;have h:=o.cap;refine x_ func368 ntmps368 ?_;refine C.loop (X:=Nat) (λi=>[(0,.slice A n c),(1,.func (.func 334) #[] #[]),(7,a! n),(8,a! i)]) (λ_=>[]) (λi=>i<=n/\∀j y,j<i->l[j]?=some y->(λx => !sq x) y=false) (λi=>n - i) 0 aK aB.refl ⟨bY _,λj y e=>by omega⟩ ?_;rintro i G ⟨t,a⟩;by_cases q:i<n
 ·have b:l[i]?=some l[i]:=bS o_;generalize l[i]=x at b;have k:=cS;refine c_ ?_;refine L.step sD (S.Ds rfl rfl rfl rfl func334 q_ rfl aH (λM s=>aJj M x) ?_);rintro r g ⟨rfl,rfl⟩;refine gk bU ?_;cases m:sq x
  ·rw[M0 (p:=λx => !sq x) b (by rw[m];rfl) a];refine c_ ?_;exact aS
  ·refine c_ ?_;refine⟨i+1,aK,aB.refl,⟨o_,λj y e d=>?_⟩,o_⟩;by_cases f:j=i
   ·subst f;rw[b] at d;injection d with d;subst d;dsimp only;rw[m];rfl
   ·exact a j y o_ d
 ·obtain rfl:i=n:=o_;rw[Mz (λx b=>by obtain⟨j,e,rfl⟩:=oV b;exact a j _ o_ (bS e))];refine c_ ?_;exact aS
def Xq(l:List Int)(b:Rd E yI A n c l):aF prog E 333 #[.slice A n c,.func (.func 334) #[] #[]] [] λr a=>r=.returned (.bool (l.any λx => !sq x))/\a=[]:=by
 refine x_ func333 ntmps333 ?_
 refine cV (λM=>y8 M A n c l) ?_;refine c_ ?_
 exact aX rfl aJ aC (⟨by rw[<-My],rfl⟩)
def x9(l:List aL)(o:Rd E gJ A n c l):aF prog E 369 #[.slice A n c,.func (.func 336) #[] #[]] [] λr g=>r=.returned (a! (Bt (λx => !x.may) l))/\g=[]:=by
 have u:=o.len;have h:=o.cap;refine x_ func369 ntmps369 ?_;refine C.loop (X:=Nat) (λi=>[(0,.slice A n c),(1,.func (.func 336) #[] #[]),(7,a! n),(8,a! i)]) (λ_=>[]) (λi=>i<=n/\∀j y,j<i->l[j]?=some y->(λx => !x.may) y=false) (λi=>n - i) 0 aK aB.refl ⟨bY _,λj y e=>by omega⟩ ?_;rintro i G ⟨t,a⟩;by_cases q:i<n
 ·have b:l[i]?=some l[i]:=bS o_;generalize l[i]=x at b;have k:=cS;refine c_ ?_;refine L.step sD (S.Ds rfl rfl rfl rfl func336 q_ rfl aH (λM s=>aJi M x) ?_);rintro r g ⟨rfl,rfl⟩;refine gk bU ?_;cases m:x.may
  ·rw[M0 (p:=λx => !x.may) b (by rw[m];rfl) a];refine c_ ?_;exact aS
  ·refine c_ ?_;refine⟨i+1,aK,aB.refl,⟨o_,λj y e d=>?_⟩,o_⟩;by_cases f:j=i
   ·subst f;rw[b] at d;injection d with d;subst d;dsimp only;rw[m];rfl
   ·exact a j y o_ d
 ·obtain rfl:i=n:=o_;rw[Mz (λx b=>by obtain⟨j,e,rfl⟩:=oV b;exact a j _ o_ (bS e))];refine c_ ?_;exact aS
def Xp(l:List aL)(b:Rd E gJ A n c l):aF prog E 335 #[.slice A n c,.func (.func 336) #[] #[]] [] λr a=>r=.returned (.bool (l.any λx => !x.may))/\a=[]:=by
 refine x_ func335 ntmps335 ?_
 refine cV (λM=>x9 M A n c l) ?_;refine c_ ?_
 exact aX rfl aJ aC (⟨by rw[<-My],rfl⟩)
def x8(l:List aI)(o:Rd E bO A n c l):aF prog E 230 #[.slice A n c,.func (.func 338) #[] #[]] [] λr g=>r=.returned (a! (Bt (λx => !x.may) l))/\g=[]:=by
 have u:=o.len;have h:=o.cap;refine x_ func230 ntmps230 ?_;refine C.loop (X:=Nat) (λi=>[(0,.slice A n c),(1,.func (.func 338) #[] #[]),(7,a! n),(8,a! i)]) (λ_=>[]) (λi=>i<=n/\∀j y,j<i->l[j]?=some y->(λx => !x.may) y=false) (λi=>n - i) 0 aK aB.refl ⟨bY _,λj y e=>by omega⟩ ?_;rintro i G ⟨t,a⟩;by_cases q:i<n
 ·have b:l[i]?=some l[i]:=bS o_;generalize l[i]=x at b;have k:=cS;refine c_ ?_;refine L.step sD (S.Ds rfl rfl rfl rfl func338 q_ rfl aH (λM s=>aAn M x) ?_);rintro r g ⟨rfl,rfl⟩;refine gk bU ?_;cases m:x.may
  ·rw[M0 (p:=λx => !x.may) b (by rw[m];rfl) a];refine c_ ?_;exact aS
  ·refine c_ ?_;refine⟨i+1,aK,aB.refl,⟨o_,λj y e d=>?_⟩,o_⟩;by_cases f:j=i
   ·subst f;rw[b] at d;injection d with d;subst d;dsimp only;rw[m];rfl
   ·exact a j y o_ d
 ·obtain rfl:i=n:=o_;rw[Mz (λx b=>by obtain⟨j,e,rfl⟩:=oV b;exact a j _ o_ (bS e))];refine c_ ?_;exact aS
def QL(l:List aI)(b:Rd E bO A n c l):aF prog E 337 #[.slice A n c,.func (.func 338) #[] #[]] [] λr a=>r=.returned (.bool (l.any λx => !x.may))/\a=[]:=by
 refine x_ func337 ntmps337 ?_
 refine cV (λM=>x8 M A n c l) ?_;refine c_ ?_
 exact aX rfl aJ aC (⟨by rw[<-My],rfl⟩)
end
def SU(m:Mg)(A:n!)(n c:Nat)(B:n!)(k d:Nat):∀j u,(yI.cE [m.k0,m.k1,m.k2,m.k3])[j]?=some u->(fV m A n c B k d)[3+j]?=some u:=by
 intro j u h;have e:yI.cE [m.k0,m.k1,m.k2,m.k3]=[a! m.k0,a! m.k1,a! m.k2,a! m.k3]:=rfl;rw[e] at h
 match j,h with
 |0,h=>exact h
 |1,h=>exact h
 |2,h=>exact h
 |3,h=>exact h
 |j+4,h=>simp at h
section
variable (E:Env) (m:Mg) (A:n!) (n c:Nat) (B:n!) (k d:Nat)
def aDy:aF prog E 287 #[.agg (fV m A n c B k d).toArray] [] λe a=>e=.returned (.bool m.xD)/\a=[]:=by
 refine t_ func287 ntmps287 ?_;unfold Mg.xD;by_cases f:m.kind=3
 ·rw[c! f];refine c_ ?_;intros;refine aU (λM=>Kf M m.fr) ?_;cases b:nG m.fr;all_goals
   rintro e a ⟨rfl,rfl⟩;refine c_ ?_;exact aS
 rw[b! f];by_cases g:m.kind=4
 ·rw[c! g];by_cases b:m.fr=9
  ·rw[d! b];refine c_ ?_;intros;refine A_ (λM=>Kf M m.to) ?_;exact aS
  ·rw[e! b];refine c_ ?_;intros;exact aS
 rw[b! g];refine c_ ?_;intros;refine aU (λM=>Kf M m.fr) ?_;cases b:nG m.fr
 ·rintro e a ⟨rfl,rfl⟩;refine c_ ?_;exact aS
 ·rintro e a ⟨rfl,rfl⟩;refine c_ ?_;refine A_ (λM=>Kf M m.to) ?_;exact aS
def GO(m:Mg)(A:n!)(n c:Nat)(B:n!)(k d:Nat)(r:p!):Prop :=
 ∃a h e b g f,r=.agg (fV m.bare a h e b g f).toArray/\(∀E,Rd E gJ A n c m.ids->Rd E gJ a h e m.bare.ids)/\∀E,Rd E bO B k d m.cL->Rd E bO b g f m.bare.cL
def XH(h:m.kind=1):GO m A n c B k d (.agg #[a! m.kind,a! m.fr,a! m.to,a! m.k0,a! m.k1,a! m.k2,a! m.k3,a! m.base,.slice none 0 0,.slice none 0 0,a! 0,a! 0,a! 0,.bool false,a! 0,a! 0,a! 0,a! 0,a! 0]):=by
 have e:m.bare=⟨m.kind,m.fr,m.to,m.k0,m.k1,m.k2,m.k3,m.base,[],[],CA,pZ⟩:=c! h;refine⟨none,0,0,none,0,0,by rw[e];rfl,λE _=>by rw[e];exact Rd.nil E gJ,λE _=>by rw[e];exact Rd.nil E bO⟩
def XI(h:m.kind=2):GO m A n c B k d (.agg #[a! m.kind,a! m.fr,a! m.to,a! 0,a! 0,a! 0,a! 0,a! m.base,.slice A n c,.slice B k d,a! 0,a! 0,a! 0,.bool false,a! 0,a! 0,a! 0,a! 0,a! 0]):=by
 have e:m.bare=⟨m.kind,m.fr,m.to,0,0,0,0,m.base,m.ids,m.cL,CA,pZ⟩:=by unfold Mg.bare;rw[b! o_,c! h]
 refine⟨A,n,c,B,k,d,by rw[e];rfl,λE h=>by rw[e];exact h,λE h=>by rw[e];exact h⟩
def XJ(h:m.kind=3):GO m A n c B k d (.agg #[a! m.kind,a! m.fr,a! m.to,a! 0,a! 0,a! 0,a! 0,a! 0,.slice none 0 0,.slice none 0 0,a! m.key.id.rep,a! m.key.id.seq,a! m.key.ord,.bool m.key.cJ,a! m.bD.kind,a! m.bD.a,a! m.bD.n,a! m.bD.ref.rep,a! m.bD.ref.seq]):=by
 have e:m.bare=⟨m.kind,m.fr,m.to,0,0,0,0,0,[],[],m.key,m.bD⟩:=by unfold Mg.bare;rw[b! o_,b! o_,c! h]
 refine⟨none,0,0,none,0,0,by rw[e],λE _=>by rw[e];exact Rd.nil E gJ,λE _=>by rw[e];exact Rd.nil E bO⟩
def XK(h:m.kind=4):GO m A n c B k d (.agg #[a! m.kind,a! m.fr,a! m.to,a! 0,a! 0,a! 0,a! 0,a! 0,.slice none 0 0,.slice none 0 0,a! m.key.id.rep,a! m.key.id.seq,a! m.key.ord,.bool m.key.cJ,a! 0,a! 0,a! 0,a! 0,a! 0]):=by
 have e:m.bare=⟨m.kind,m.fr,m.to,0,0,0,0,0,[],[],m.key,pZ⟩:=by unfold Mg.bare;rw[b! o_,b! o_,b! o_,c! h]
 refine⟨none,0,0,none,0,0,by rw[e];rfl,λE _=>by rw[e];exact Rd.nil E gJ,λE _=>by rw[e];exact Rd.nil E bO⟩
def aRp(h:1<=m.kind/\m.kind<=4):aF prog E 290 #[.agg (fV m A n c B k d).toArray] [] λe j=>(∃r,e=.returned r/\GO m A n c B k d r)/\j=[]:=by
 refine t_ func290 ntmps290 ?_;rcases(show m.kind=1\/m.kind=2\/m.kind=3\/m.kind=4 by omega) with a|a|a|a
 ·have b:=XH m A n c B k d a;refine c_ ?_;intros;rename_i f i g;refine rB (l_ [0,1,2,3,4] (g_ 5 (n_ 6 (g_ 7 .nil)))) ([aE f 195 (fV m A n c B k d)]) (c_ ?_);apply eP;(· exact rfl);(· exact aJ);(· exact rfl);(· exact rfl);(· exact rfl);(· exact aV);(· exact rfl);rotate_left;(· exact(⟨⟨_,rfl,b⟩,rfl⟩));(· exact aC)
 ·have b:=XI m A n c B k d a;refine c_ ?_;intros;rename_i f i g;refine rB (l_ [0,1,2,3,4,5,6] (g_ 7 (n_ 8 (g_ 9 (n_ 10 (g_ 11 .nil)))))) ([aE f 195 (fV m A n c B k d)]) (c_ ?_);apply eP;(· exact rfl);(· exact aJ);(· exact rfl);(· exact rfl);(· exact rfl);(· exact aV);(· exact rfl);rotate_left;(· exact(⟨⟨_,rfl,b⟩,rfl⟩));(· exact aC)
 ·have b:=XJ m A n c B k d a;refine c_ ?_;intros;rename_i f i g;refine rB (l_ [0,1,2,3,4] (g_ 5 (n_ 6 (g_ 7 .nil)))) ([aE f 195 (fV m A n c B k d)]) (c_ ?_);apply eP;(· exact rfl);(· exact aJ);(· exact rfl);(· exact rfl);(· exact rfl);(· exact aV);(· exact rfl);rotate_left;(· exact(⟨⟨_,rfl,b⟩,rfl⟩));(· exact aC)
 ·have b:=XK m A n c B k d a;refine c_ ?_;intros;apply eP;(· exact rfl);(· exact aJ);(· exact rfl);(· exact rfl);(· exact rfl);(· exact aV);(· exact rfl);rotate_left;(· exact(⟨⟨_,rfl,b⟩,rfl⟩));(· exact aC)
def aIt(t:Rd E gJ A n c m.ids)(s:Rd E bO B k d m.cL)(h:1<=m.kind/\m.kind<=4):aF prog E 288 #[.agg (fV m A n c B k d).toArray] [] λe l=>e=.returned (.bool m.dI)/\l=[]:=by
 have y:=t.len;have v:=s.len;have z:=t.cap;have w:=s.cap;have p:4<=maxLen:=sD;have q:=SU m A n c B k d;refine t_ func288 ntmps288 ?_;unfold Mg.dI;rcases(show m.kind=1\/m.kind=2\/m.kind=3\/m.kind=4 by omega) with j|j|j|j
 ·rw[c! j];have a:=L6 sq [m.k0,m.k1,m.k2,m.k3];rw[show[m.k0,m.k1,m.k2,m.k3].all sq=(sq m.k0&&sq m.k1&&sq m.k2&&sq m.k3) by simp[LL]] at a;refine c_ ?_;intros;rename_i g;refine cl sD sK aH (λM u=>Xq M (some ⟨g,3,none⟩) 4 4 [m.k0,m.k1,m.k2,m.k3] (u.arr aV rfl p q)) ?_;rintro e l ⟨rfl,rfl⟩;refine gk bU ?_;rw[<-a];cases r:([m.k0,m.k1,m.k2,m.k3].any λx => !sq x)
  ·refine c_ ?_;refine A_ (λM=>lS M m.base 0 48) ?_;exact aS
  ·refine c_ ?_;exact aS
 ·rw[b! o_,c! j];rw[<-y,<-v,<-L6 aL.may,<-L6 aI.may];by_cases b:n<=16
  ·have f:decide (n<=16)=true:=d! b;rw[f];refine c_ ?_;intros;refine cV (λM=>Xp M A n c m.ids) ?_;by_cases i:k<=8
   ·have o:decide (k<=8)=true:=d! i;rw[o];refine c_ ?_;refine cV (λM=>QL M B k d m.cL) ?_;cases r:(m.ids.any λx => !x.may)
    ·cases D:(m.cL.any λx => !x.may)
     ·refine c_ ?_;refine A_ (λM=>lS M m.base 0 48) ?_;exact aS
     ·refine c_ ?_;exact aS
    ·refine c_ ?_;exact aS
   ·have o:decide (k<=8)=false:=e! i;rw[o];cases r:(m.ids.any λx => !x.may);all_goals
     refine c_ ?_;exact aS
  ·have f:decide (n<=16)=false:=e! b;rw[f];by_cases i:k<=8
   ·refine c_ ?_;intros;refine cV (λM=>QL M B k d m.cL) ?_;refine c_ ?_;exact aS
   ·refine c_ ?_;intros;exact aS
 ·rw[b! o_,b! o_,c! j];refine c_ ?_;intros;refine aU (λM=>Jq M m.key) ?_;cases r:m.key.may
  ·rintro e l ⟨rfl,rfl⟩;refine c_ ?_;exact aS
  ·rintro e l ⟨rfl,rfl⟩;refine c_ ?_;refine A_ (λM=>JW M m.bD) ?_;exact aS
 ·rw[b! o_,b! o_,b! o_];refine c_ ?_;intros;refine A_ (λM=>Jq M m.key) ?_;exact aS
def HW(v:Rd E gJ A n c m.ids)(t:Rd E bO B k d m.cL):aF prog E 235 #[.agg (fV m A n c B k d).toArray] [] λe a=>e=.returned (a! m.check)/\a=[]:=by
 refine t_ func235 ntmps235 ?_;unfold Mg.check;refine c_ ?_;intros;refine aU (λM=>lS M m.kind 1 4) ?_;by_cases h:1<=m.kind/\m.kind<=4;case neg =>
  rw[e! h,b! h];refine e_ ?_;exact aS
 rw[d! h,c! h];refine e_ ?_;refine aU (λM=>aDy M m A n c B k d) ?_;cases x:m.xD
 ·rw[b! s_];refine e_ ?_;exact aS
 rintro e a ⟨rfl,rfl⟩;refine c_ ?_;refine rO (λM o p=>aIt M m A n c B k d o p h) ?_;cases w:m.dI
 ·rw[b! s_];refine e_ ?_;exact aS
 rw[c! (by rfl)];refine e_ ?_;refine rA (l_ [0,2] (g_ 1 (g_ 3 (l_ [4,5] .nil)))) (c_ ?_);refine eI (λM=>aRp M m A n c B k d h) ?_;rintro e a ⟨⟨r,rfl,g,s,j,i,q,l,rfl,f,b⟩,rfl⟩;refine c_ ?_;refine cg rfl sD bB sK aH (λM u=>aAy M g s j i q l A n c B k d m.bare m (f _ bK) (b _ bK) bK bK) ?_;by_cases hb:m.bare=m
 ·rw[d! hb,c! hb];refine e_ ?_;exact aS
 ·rw[e! hb,b! hb];refine e_ ?_;exact aS
end
end
section
open Go.RowKit Reg Oct
open Mem hiding Rd
def wn(w:Nat)(l:List Int):o!:=(l.map λn=>be n.toNat w).flatten
def aRx(w:Nat)(l:List Int)(x:Int):wn w (l++[x])=wn w l++be x.toNat w:=by simp[wn]
def BU(w:Nat)(l:List Int):(wn w l).length=w*l.length:=by
 induction l with
 |nil=>simp[wn]
 |cons a l b =>
  have:wn w (a::l)=be a.toNat w++wn w l:=rfl;rw[this,bR,eJ,b,gL,Nat.mul_add];omega
abbrev Fs(g:Nat)(A:n!)(n c:Nat)(l:o!):List aG:=[aE g 330 [.slice A n c],own bH A n c l]
def WP(g n':Nat)(l:o!)(e:Ending)(H':List aG):Prop:=e=.returned (.tuple #[])/\∃a b,H'=[aE g 330 [.slice a n' b],own bH a n' b l]
section
variable (E:Env) (g:Nat) (A:n!) (n c:Nat) (l:o!)
def DZ(w n':Nat)(W:Int)(K:W=w)(y:1<=w/\w<=8)(B:n!)(k d:Nat)(a:List Int)(v:Rd E yI B k d a)(p:∀x∈a,0<=x/\x<=65535)(hk:k<=100)(R:n=l.length)(hn:n<=100000)(m:n+w*k=n') :
  aF prog E 236 #[.pointer (some ⟨g,0,none⟩),a! W,.slice B k d] (Fs g A n c l) (WP g n' (l++wn w a)):=by
 subst m;have s:=v.cap;have t:=v.len;have u:=cS;unfold Fs;refine x_ func236 ntmps236 ?_;refine C.loop (X:=Nat×n!×Nat) (λx=>[(0,.pointer (some ⟨g,0,none⟩)),(1,a! W),(8,.slice B k d),(9,a! k),(10,a! x.1)]) (λx=>[aE g 330 [.slice x.2.1 (n+w*x.1) x.2.2],own bH x.2.1 (n+w*x.1) x.2.2 (l++wn w (a.take x.1))]) (λx=>x.1<=k) (λx=>k - x.1) (0,A,c) aK (by simp[wn];exact aB.refl) (bY _) ?_;rintro⟨i,z,F⟩ G O;dsimp only at O⊢;by_cases Q:i<k
 ·have b:i<a.length:=o_;have hx:a[i]?=some a[i]:=bS b;have h:a.take (i+1)=a.take i++[a[i]]:=rS b;have hb:=p _ (zL b);generalize a[i]=x at hx h hb;have hz:(l++wn w (a.take i))++be x.toNat w=l++wn w (a.take (i+1)):=by rw[h,aRx,bF]
  have P:n+w*i=(l++wn w (a.take i)).length:=by rw[bR,BU,dR];congr 2;omega
  have U:w*i<=800:=iR (Nat.mul_le_mul y.2 (show i<=100 by omega)) sD;have o:n+w*i+w=n+w*(i+1):=by rw[Nat.mul_add,Nat.mul_one];omega
  have Z:=vE hb.1 o_;have r:x.toNat<18446744073709551616:=o_;have j:n+w*i<=140737488355300:=o_;generalize n+w*i=q at *;refine c_ ?_;refine cU (λM J=>CE M z q F (n+w*(i+1)) w (l++wn w (a.take i)) x.toNat W K o y J r j) ?_;rintro e H' ⟨D,H,rfl,N,rfl⟩;refine gk bU ?_;rw[hz];refine c_ ?_;exact⟨(i+1,D,H),aK,aC,by dsimp only;omega,d_⟩
 ·obtain rfl:i=k:=o_;have f:a.take i=a:=fX o_;rw[f];refine c_ ?_;exact gG rfl aC (⟨rfl,_,_,rfl⟩)
def Vm(n':Nat)(a:aL)(s:a.may=true)(d:n=l.length)(F:n<=90000)(h:n+3=n'):aF prog E 237 #[.pointer (some ⟨g,0,none⟩),.agg a.cs.toArray] (Fs g A n c l) (WP g n' (l++mA a)):=by
 subst h;have⟨H,J,s0,K⟩:=(aL.eY a).1 s;have y:1<=1/\1<=8:=o_;have z:1<=2/\2<=8:=o_;have o:∀x∈[a.rep],0<=x/\x<=65535:=λx i=>by simp at i;omega
 have p:∀x∈[a.seq],0<=x/\x<=65535:=λx i=>by simp at i;omega
 have f:n+1=(l++wn 1 [a.rep]).length:=by rw[bR,BU,d];rfl
 have b:(l++wn 1 [a.rep])++wn 2 [a.seq]=l++mA a:=by simp[wn,mA,cX]
 have j:1<=100:=o_;have t:n<=100000:=o_;have u:n+1<=100000:=o_;have v:n+1*1=n+1:=o_;have w:n+1+2*1=n+3:=o_;unfold Fs;refine x_ func237 ntmps237 ?_;intros
 refine cl sD sK aH (λM r=>DZ M g A n c l 1 (n+1) 1 rfl y _ 1 1 [a.rep] bK o j d t v) ?_;rintro e m ⟨rfl,k,q,rfl⟩;refine c_ ?_;intros
 refine cl sD sK aH (λM r=>DZ M g k (n+1) q (l++wn 1 [a.rep]) 2 (n+3) 2 rfl z _ 1 1 [a.seq] bK p j f u w) ?_;rintro e m ⟨rfl,B,D,rfl⟩;refine gk bU ?_;rw[b];refine c_ ?_
 exact gG rfl aC (⟨rfl,_,_,rfl⟩)
def Vn(n':Nat)(k:bV)(z:k.may=true)(d:n=l.length)(H:n<=80000)(h:n+5=n'):aF prog E 238 #[.pointer (some ⟨g,0,none⟩),.agg k.cs.toArray] (Fs g A n c l) (WP g n' (l++cX kW (kM k))):=by
 subst h;have⟨y,J,K⟩:=(bV.eY k).1 z;have f:k.id.may=true:=(aL.eY _).2 y;have s:1<=1/\1<=8:=o_;have u:∀x∈[k.ord,0],0<=x/\x<=65535:=λx i=>by simp at i;omega
 have v:∀x∈[k.ord,1],0<=x/\x<=65535:=λx i=>by simp at i;omega
 have b:n+3=(l++mA k.id).length:=by rw[bR,Sy,d]
 have p:2<=100:=o_;have B:n<=90000:=o_;have q:n+3<=100000:=o_;have r:n+3+1*2=n+5:=o_;unfold Fs;refine x_ func238 ntmps238 ?_;intros;refine aU (λM=>Vm M g A n c l (n+3) k.id f d B rfl) ?_;rintro e t ⟨rfl,j,m,rfl⟩;refine gk bU ?_;cases o:k.cJ;have a:(l++mA k.id)++wn 1 [k.ord,0]=l++cX kW (kM k):=by simp[wn,mA,cX,kM,uT,o]
 refine c_ ?_;intros;refine cl sD sK aH (λM w=>DZ M g j (n+3) m (l++mA k.id) 1 (n+5) 1 rfl s _ 2 2 [k.ord,0] bK u p b q r) ?_;rotate_left;have a:(l++mA k.id)++wn 1 [k.ord,1]=l++cX kW (kM k):=by simp[wn,mA,cX,kM,uT,o]
 refine c_ ?_;intros;refine cl sD sK aH (λM w=>DZ M g j (n+3) m (l++mA k.id) 1 (n+5) 1 rfl s _ 2 2 [k.ord,1] bK v p b q r) ?_;all_goals
  rintro e t ⟨rfl,D,F,rfl⟩;refine gk bU ?_;rw[a];refine c_ ?_;exact gG rfl aC (⟨rfl,_,_,rfl⟩)
end
end
end Go.Proofs.YtmilalkjbojciaaGreat.Sep
