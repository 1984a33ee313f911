/- Part AK: what it needs. No condition. -/
import Derived.Test.YtmilalkjbojciaaGreatLAA
import Derived.Test.YtmilalkjbojciaaGreatLAH
import Derived.Test.YtmilalkjbojciaaGreatLAD
import Derived.Test.YtmilalkjbojciaaGreatLAJ
import Derived.Test.YtmilalkjbojciaaGreatLAB
import Derived.WideKeyRuns
set_option maxRecDepth 100000
set_option maxHeartbeats 8000000
open Go.Proofs.Tryz
namespace Go.Proofs.YtmilalkjbojciaaGreat.Sep
section
open Oct
def fR(l:List aX):List UInt8:=(l.map aX.put).flatten
theorem jY(l:List aX):(fR l).length=22*l.length:=by
 induction l with
 |nil=>rfl
 |cons c l ih =>
  have:fR (c::l)=c.put++fR l:=rfl;rw[this,aAe,c.bD,ih,aAs];omega
theorem tL(c:aX)(l:List aX):fR (c::l)=c.put++fR l:=rfl
theorem Gj(l:List aX)(c:aX):fR (l++[c])=fR l++c.put:=by simp[fR]
def dP(l:List aX):List UInt8:=UInt8.ofNat l.length::fR l
def pieces:Nat→List UInt8→Option (List aX)
 |0,_=>some []
 |k+1,t=>match tT (t.take 22),pieces k (t.drop 22) with
  |some c,some l=>some (c::l)
  |_,_=>none
theorem tC{k:Nat}{t:List UInt8}{l:List aX}(h:pieces k t=some l)(ht:t.length=22*k):l.length=k∧fR l=t∧l.all aX.may=true∧∀c∈l,c.ok:=by
 induction k generalizing t l with
 |zero =>
  injection h with h
  subst h;exact⟨rfl,(aBi o_).symm,rfl,λ_ hc=>by cases hc⟩
 |succ k ih =>
  unfold pieces at h;split at h
  ·rename_i c l' hc hl;injection h with h
   subst h;obtain⟨h1,h2,h3,h4⟩:=ih hl (by simp;omega);obtain⟨_,hm,hp,hok⟩:=Du hc;refine⟨by simp[h1],?_,by simp[hm];simpa using h3,λx hx=>?_⟩
   ·rw[tL,hp,h2,aAx]
   ·rcases aEj.1 hx with rfl|hx
    ·exact hok
    ·exact h4 x hx
  ·cases h
theorem DH{l:List aX}(hm:l.all aX.may=true)(hn:∀c∈l,dQ c.n):pieces l.length (fR l)=some l:=by
 induction l with
 |nil=>rfl
 |cons c l ih =>
  simp at hm;rw[aAs,pieces,tL,aBj c.bD,aBu c.bD,CJ hm.1 (hn c (by simp)),ih (by simpa using hm.2) λx hx=>hn x (by simp[hx])]
theorem lZ(l:List aX):(dP l).length=1+22*l.length:=by unfold dP;rw[aAs,jY];omega
end
section
open Go.RowKit Reg Oct
open Mem hiding Rd
section
variable (E:Env) (A:Option Addr) (n c:Nat)
theorem MY(l:List aX)(hr:Rd E bE A n c l)(h:48<n):aK prog E 151 #[.slice A n c] [] λe H'=>e=.returned (.tuple #[.slice none 0 0,.int .i64 3])∧H'=[]:=by
 have hn:=hr.len;have hcap:=hr.cap;refine t_ func151 ntmps151 ?_;repeat first|refine aE ?_|intro
 exact Xs
def xI(l:List aX)(e:Ending)(H':List aL):Prop :=
 match l.all aX.may with
 |true=>∃A' c',e=.returned (.tuple #[.slice A' (1+22*l.length) c',.int .i64 0])∧H'=[own aU A' (1+22*l.length) c' (dP l)]
 |false=>e=.returned (.tuple #[.slice none 0 0,.int .i64 4])∧H'=[]
theorem F6(l:List aX)(hr:Rd E bE A n c l)(h:n≤48):aK prog E 151 #[.slice A n c] [] (xI l):=by
 have hn:=hr.len;have hcap:=hr.cap;refine t_ func151 ntmps151 ?_;repeat first|refine aE ?_|intro
 rename_i g;have hu8:UInt8.ofNat ((n:Int).toNat)=UInt8.ofNat l.length:=by rw[aAu,hn]
 rw[hu8];refine C.loop (X:=Nat×Option Addr×Nat) (λx=>[(4,.slice x.2.1 (1+22*x.1) x.2.2),(16,.slice A n c),(17,.int .i64 n),(18,.int .i64 x.1)]) (λx=>[own aU x.2.1 (1+22*x.1) x.2.2 (UInt8.ofNat l.length::fR (l.take x.1))]) (λx=>x.1≤n∧(l.take x.1).all aX.may=true) (λx=>n - x.1) (0,_,_) aD aB.refl ⟨aAh _,rfl⟩ ?_;rintro⟨i,A',c'⟩ G ⟨hi,hall⟩;dsimp only at hi hall⊢;by_cases hlt:i<n
 ·have hli:i<l.length:=o_;have g1:l[i]?=some l[i]:=aAa hli;have hstep:l.take (i+1)=l.take i++[l[i]]:=aAn hli;have hmem:l[i]∈l:=aCs hli;generalize l[i]=x at g1 hstep hmem;have e1:1+22*i+22=1+22*(i+1):=o_;cases hm:x.may
  ·have hno:l.all aX.may=false:=by
    rw[List.all_eq_false];exact⟨x,hmem,by rw[hm];simp⟩
   repeat first|refine aE ?_|intro
   refine bK (λM=>Ru M x hm) ?_;repeat first|refine aE ?_|intro
   unfold xI;rw[hno];exact Xs
  ·have e2:UInt8.ofNat l.length::fR (l.take i)++x.put=UInt8.ofNat l.length::fR (l.take (i+1)):=by rw[hstep,Gj];rfl
   repeat first|refine aE ?_|intro
   refine bW (λM=>Kq M x hm) ?_;rintro e H' ⟨A1,c1,rfl,rfl⟩;repeat first|refine aE ?_|intro
   rw[e1,e2];exact⟨(i+1,_,_),aD,aA,⟨by dsimp only;omega,by dsimp only;rw[hstep,List.all_append,hall];simp[hm]⟩,by dsimp only;omega⟩
 ·obtain rfl:i=n:=o_;have e3:l.take i=l:=aAj o_;rw[e3] at hall⊢;unfold xI;rw[hall,←hn];repeat first|refine aE ?_|intro
  exact vT rfl aF aF aA (⟨_,_,rfl,by unfold dP;rw[←hn]⟩)
end
section
variable (E:Env) (A:Option Addr) (n c:Nat)
theorem NC(l:List UInt8)(hr:Rd E aU A n c l)(hl:n≤140737488355300)(h:∀x t,l=x::t→¬(x.toNat≤48∧t.length=22*x.toNat)) :
  aK prog E 248 #[.slice A n c] [] λe H'=>e=.returned (.tuple #[.slice none 0 0,.int .i64 16])∧H'=[]:=by
 have hn:=hr.len;have hcap:=hr.cap;refine t_ func248 ntmps248 ?_;repeat first|refine aE ?_|intro
 refine dX (λM h1=>lD M A n c l h1 (by omega)) ?_;rintro e H' ⟨g,A0,c0,rfl,h5,h6,rfl⟩;repeat first|refine aE ?_|intro
 refine dX (λM=>iG M g false A0 n c0 l 1) ?_;cases l with
 |nil =>
  rw[show nx false ([]:List UInt8) (wid 1)=(none,true,[]) from rfl];rintro e H' ⟨A1,n1,c1,rfl,hal1,rfl⟩;refine gk bG ?_;simp only[tk];repeat first|refine aE ?_|intro
  refine bK (λM=>Eu M g true true A1 n1 c1) ?_;repeat first|refine aE ?_|intro
  exact Xs
 |cons x t =>
  have hx:=aEr x;rw[show nx false (x::t) (wid 1)=(some [x],false,t) from Ai (k:=1) (by simp)];rintro e H' ⟨A1,n1,c1,rfl,hal1,rfl⟩;refine gk bG ?_;have hg:Oct.get [x]=x.toNat:=by simp[Oct.get]
  simp only[tk,hg];repeat first|refine aE ?_|intro
  refine bK (λM=>Eu M g true false A1 n1 c1) ?_;by_cases h48:x.toNat≤48
  ·have ht:t.length≠22*x.toNat:=λht=>h x t rfl ⟨h48,ht⟩;simp only[aAs] at hn;repeat first|refine aE ?_|intro
   refine cl sD sK aC (λM hE=>tV M g false A1 n1 c1 t (hal1 _ dB)) ?_;rw[if_neg aAl];rintro e H' ⟨rfl,rfl⟩;repeat first|refine aE ?_|intro
   exact Xs
  ·repeat first|refine aE ?_|intro
   exact Xs
def Nk(r:Option (List aX))(e:Ending)(H':List aL):Prop :=
 match r with
 |some xs=>∃O co,e=.returned (.tuple #[.slice O xs.length co,.int .i64 0])∧H'=[own bE O xs.length co xs]
 |none=>e=.returned (.tuple #[.slice none 0 0,.int .i64 16])∧H'=[]
theorem N6(x:UInt8)(t:List UInt8)(hr:Rd E aU A n c (x::t))(h48:x.toNat≤48)(ht:t.length=22*x.toNat) :
  aK prog E 248 #[.slice A n c] [] (Nk (pieces x.toNat t)):=by
 have hn:=hr.len;have hcap:=hr.cap;simp only[aAs] at hn;have hg:Oct.get [x]=x.toNat:=by simp[Oct.get]
 refine t_ func248 ntmps248 ?_;repeat first|refine aE ?_|intro
 refine dX (λM h1=>lD M A n c (x::t) h1 (by omega)) ?_;rintro e H' ⟨g,A0,c0,rfl,h5,h6,rfl⟩;repeat first|refine aE ?_|intro
 refine dX (λM=>iG M g false A0 n c0 (x::t) 1) ?_;rw[show nx false (x::t) (wid 1)=(some [x],false,t) from Ai (k:=1) (by simp)];rintro e H' ⟨A1,n1,c1,rfl,hal1,rfl⟩;refine gk bG ?_;simp only[tk,hg];generalize x.toNat=k at *;repeat first|refine aE ?_|intro
 refine bK (λM=>Eu M g true false A1 n1 c1) ?_;repeat first|refine aE ?_|intro
 refine cl sD sK aC (λM hE=>tV M g false A1 n1 c1 t (hal1 _ dB)) ?_;rw[if_neg aAl];rintro e H' ⟨rfl,rfl⟩;repeat first|refine aE ?_|intro
 unfold Bs;refine C.loop (X:=List aX×(Option Addr×Nat)×Option Addr×Nat×Nat) (λq=>[(4,.pointer (some ⟨g,0,none⟩)),(7,.slice q.2.1.1 q.1.length q.2.1.2),(33,.int .u64 k),(34,.int .u64 q.1.length)])
  (λq=>[pC g true false q.2.2.1 q.2.2.2.1 q.2.2.2.2,own aU A0 n c0 (x::t),own bE q.2.1.1 q.1.length q.2.1.2 q.1]) (λq=>q.1.length≤k∧pieces k t=(pieces (k - q.1.length) (t.drop (22*q.1.length))).map (q.1++·)∧nS A0 n c0 (x::t) q.2.2.1 q.2.2.2.1 q.2.2.2.2 (t.drop (22*q.1.length)))
  (λq=>k - q.1.length) ([],(none,0),A1,n1,c1) aD (by simp only[aDh];exact(aB.nil bE).trans aA) ⟨aAh _,by simp,hal1⟩ ?_
 rintro⟨xs,⟨O,co⟩,A2,n2,c2⟩ G ⟨hk,hp,hal⟩;dsimp only at hk hp hal⊢;by_cases hlt:xs.length<k
 ·have hl22:((t.drop (22*xs.length)).take 22).length=22:=by simp;omega
  have hnx:nx false (t.drop (22*xs.length)) 22=(some ((t.drop (22*xs.length)).take 22),false,(t.drop (22*xs.length)).drop 22):=Ai (k:=22) (by simp;omega);have hdd:(t.drop (22*xs.length)).drop 22=t.drop (22*(xs.length+1)):=by rw[aBt];congr 1
  have hlen:(t.drop (22*xs.length)).length≤140737488355328:=by simp;omega
  have hpk:k - xs.length=(k - (xs.length+1))+1:=o_;rw[hpk,pieces,hdd] at hp;repeat first|refine aE ?_|intro
  refine cl sD sK aC (λM hE=>kR M g false A2 n2 c2 (t.drop (22*xs.length)) 22 (hal _ dB) hlen) ?_;rw[hnx,hdd];rintro e H' ⟨A3,n3,c3,B,d,rfl,hal3,hmd,hd3,rfl⟩;dsimp only[Option.getD,Option.isSome] at hmd⊢;rw[hl22] at hmd⊢;refine gk bG ?_;cases hc:tT ((t.drop (22*xs.length)).take 22) with
  |none =>
   rw[hc] at hp;repeat first|refine aE ?_|intro
   refine cl sD sK aC (λM hE=>xS M B 22 d _ none hc dB sD) ?_;rintro e H' ⟨rfl,rfl⟩;refine gk bG ?_;dsimp only[Option.getD,Option.isSome];rw[if_neg aAl];repeat first|refine aE ?_|intro
   rw[hp];exact Xs
  |some y =>
   rw[hc] at hp;repeat first|refine aE ?_|intro
   refine cl sD sK aC (λM hE=>xS M B 22 d _ (some y) hc dB sD) ?_;rintro e H' ⟨rfl,rfl⟩;refine gk bG ?_;dsimp only[Option.getD,Option.isSome];rw[if_pos rfl];repeat first|refine aE ?_|intro
   rename_i O' co' _ _;refine⟨(xs++[y],(O',co'),A3,n3,c3),?_,?_,⟨by simp;omega,?_,?_⟩,by simp;omega⟩
   ·dsimp only;rw[show(xs++[y]).length=xs.length+1 by simp];exact aD
   ·dsimp only;rw[show(xs++[y]).length=xs.length+1 by simp];exact aA
   ·dsimp only;rw[show(xs++[y]).length=xs.length+1 by simp,hp];cases pieces (k - (xs.length+1)) (t.drop (22*(xs.length+1)))<;>simp
   ·dsimp only;rw[show(xs++[y]).length=xs.length+1 by simp];exact hal.trans hal3
 ·have hkk:xs.length=k:=o_;rw[hkk,aEi] at hp;have hp:pieces k t=some xs:=by rw[hp];simp[pieces]
  rw[hp];repeat first|refine aE ?_|intro
  exact Cz ⟨_,_,rfl,rfl⟩
end
end
section
open Go.RowKit Oct
def fI:List Nat→List Nat→List UInt8
 |w::ws,v::vs=>be v w++fI ws vs
 |_,_=>[]
def Ay:List Nat→List UInt8→List Nat
 | [],_=>[]
 |w::ws,l=>Oct.get (l.take w)::Ay ws (l.drop w)
theorem yO(ws:List Nat)(l:List UInt8)(h:ws.sum≤l.length):fI ws (Ay ws l)=l.take ws.sum:=by
 induction ws generalizing l with
 |nil=>simp[fI]
 |cons w ws ih =>
  rw[List.sum_cons] at h;have hb:=Ec (l.take w);rw[show(l.take w).length=w by simp;omega] at hb;show be (Oct.get (l.take w)) w++fI ws (Ay ws (l.drop w))=_;rw[ih (l.drop w) (by simp;omega),hb,List.sum_cons,aDd]
def fit:List Nat→List Nat→Prop
 |w::ws,v::vs=>v<256 ^ w∧fit ws vs
 | [],[]=>True
 |_,_=>False
theorem Ca(ws vs:List Nat)(t:List UInt8)(h:fit ws vs):Ay ws (fI ws vs++t)=vs:=by
 induction ws generalizing vs with
 |nil =>
  cases vs with
  |nil=>rfl
  |cons _ _=>cases h
 |cons w ws ih =>
  cases vs with
  |nil=>cases h
  |cons v vs =>
   show Oct.get (((be v w++fI ws vs)++t).take w)::Ay ws (((be v w++fI ws vs)++t).drop w)=_;rw[aAb,aBj (aP _ _),aBu (aP _ _),FD,aEc h.1,ih vs h.2]
theorem Bx(ws vs:List Nat)(h:fit ws vs):(fI ws vs).length=ws.sum:=by
 induction ws generalizing vs with
 |nil =>
  cases vs with
  |nil=>rfl
  |cons _ _=>cases h
 |cons w ws ih =>
  cases vs with
  |nil=>cases h
  |cons v vs =>
   show(be v w++fI ws vs).length=_;rw[aAe,aP,ih vs h.2,List.sum_cons]
structure Mg where
 kind:Int
 fr:Int
 to:Int
 k0:Int
 k1:Int
 k2:Int
 k3:Int
 base:Int
 ids:List bJ
 iS:List aX
 key:bP
 bC:cQ
theorem Mg.eq_iff{x y:Mg}:x=y↔x.kind=y.kind∧x.fr=y.fr∧x.to=y.to∧x.k0=y.k0∧x.k1=y.k1∧x.k2=y.k2∧x.k3=y.k3∧x.base=y.base∧x.ids=y.ids∧x.iS=y.iS∧x.key=y.key∧x.bC=y.bC:=by
 cases x;cases y;simp
instance:DecidableEq Mg:=λ_ _=>decidable_of_iff _ Mg.eq_iff.symm
abbrev Mg.ks(m:Mg):List Int:=[m.k0,m.k1,m.k2,m.k3]
def xX:bP:=⟨⟨0,0⟩,0,false⟩
def rZ:cQ:=⟨0,0,0,⟨0,0⟩⟩
def wV(n:Int):Bool:=decide (0≤n∧n≤3)
def sq(n:Int):Bool:=decide (0≤n∧n≤65535)
def bs(n:Int):Bool:=decide (0≤n∧n≤48)
def Mg.nT(m:Mg):Bool:=if m.kind=3 then wV m.fr&&decide (m.to=9) else if m.kind=4 then decide (m.fr=9)&&wV m.to else wV m.fr&&wV m.to
def Mg.cV(m:Mg):Bool :=
 if m.kind=1 then(sq m.k0&&sq m.k1&&sq m.k2&&sq m.k3)&&bs m.base
 else if m.kind=2 then((decide (m.ids.length≤16)&&m.ids.all bJ.may)&&(decide (m.iS.length≤8)&&m.iS.all aX.may))&&bs m.base
 else if m.kind=3 then m.key.may&&decide (m.bC.check=0)
 else m.key.may
def Mg.bare(m:Mg):Mg :=
 if m.kind=1 then⟨m.kind,m.fr,m.to,m.k0,m.k1,m.k2,m.k3,m.base,[],[],xX,rZ⟩
 else if m.kind=2 then⟨m.kind,m.fr,m.to,0,0,0,0,m.base,m.ids,m.iS,xX,rZ⟩
 else if m.kind=3 then⟨m.kind,m.fr,m.to,0,0,0,0,0,[],[],m.key,m.bC⟩
 else if m.kind=4 then⟨m.kind,m.fr,m.to,0,0,0,0,0,[],[],m.key,rZ⟩
 else⟨m.kind,m.fr,m.to,0,0,0,0,0,[],[],xX,rZ⟩
def Mg.check(m:Mg):Int :=
 if 1≤m.kind∧m.kind≤4 then(if (m.nT&&m.cV)=true then(if m.bare=m then 0 else 16) else 4) else 12
theorem Mg.bR{m:Mg}(h:m.check=0):(1≤m.kind∧m.kind≤4)∧m.nT=true∧m.cV=true∧m.bare=m:=by
 unfold Mg.check at h;split at h
 ·rename_i h1;split at h
  ·rename_i h2;split at h
   ·rename_i h3;simp at h2;exact⟨h1,h2.1,h2.2,h3⟩
   ·cases h
  ·cases h
 ·cases h
def Mg.ok(m:Mg):Prop:=(∀c∈m.iS,dQ c.n)∧dQ m.bC.n
def jS(b:Bool):Nat:=if b then 1 else 0
abbrev kW:List Nat:=[1,2,1,1]
def kK(k:bP):List Nat:=[k.id.rep.toNat,k.id.seq.toNat,k.ord.toNat,jS k.cD]
def gM(a:bJ):List UInt8:=fI [1,2] [a.rep.toNat,a.seq.toNat]
def kH(l:List bJ):List UInt8:=(l.map gM).flatten
def Mg.body(m:Mg):List UInt8 :=
 fI [1,1,1] [m.kind.toNat,m.fr.toNat,m.to.toNat] ++
 (if m.kind=1 then fI [2,2,2,2,1] [m.k0.toNat,m.k1.toNat,m.k2.toNat,m.k3.toNat,m.base.toNat]
 else if m.kind=2 then fI [1,1] [m.base.toNat,m.ids.length]++(kH m.ids++dP m.iS)
 else if m.kind=3 then fI kW (kK m.key)++m.bC.put
 else fI kW (kK m.key))
def Mg.enc(m:Mg):List UInt8:=Frm.fr m.body
theorem xF(a:bJ):(gM a).length=3:=by simp[gM,fI,aP]
theorem jC(l:List bJ):(kH l).length=3*l.length:=by
 induction l with
 |nil=>rfl
 |cons c l ih =>
  have:kH (c::l)=gM c++kH l:=rfl;rw[this,aAe,xF,ih,aAs];omega
theorem DR(l:List bJ)(a:bJ):kH (l++[a])=kH l++gM a:=by simp[kH]
def vS(l:List UInt8)(i:Nat):bJ:=⟨(bX l i 1:Nat),(bX l (i+1) 2:Nat)⟩
def sR:Nat→Nat→List UInt8→List bJ
 |0,_,_=>[]
 |n+1,i,l=>sR n i l++[vS l (i+3*n)]
theorem yF(n i:Nat)(l:List UInt8):(sR n i l).length=n:=by
 induction n with
 |zero=>rfl
 |succ n ih=>rw[sR,aAe,ih];rfl
theorem Iy{l:List UInt8}{i:Nat}(h:i+3≤l.length):gM (vS l i)=(l.drop i).take 3:=by
 unfold gM vS;simp only[fI,aAu,aAc];rw[dY o_,dY o_,show(3:Nat)=1+2 from rfl,aDd,aBt]
theorem Hz(n i:Nat)(l:List UInt8)(h:i+3*n≤l.length):kH (sR n i l)=(l.drop i).take (3*n):=by
 induction n with
 |zero=>simp[sR,kH]
 |succ n ih =>
  rw[sR,DR,ih o_,Iy o_,show 3*(n+1)=3*n+3 by omega,aDd,aBt]
theorem jK{a b:List UInt8}{i w j:Nat}(h:a.length=j):bX (a++b) (j+i) w=bX b i w:=by
 unfold bX;rw[←h,aGj,aCn o_,aBq,show a.length+i - a.length=i by omega]
theorem I4{a:bJ}{x t:List UInt8}{i:Nat}(h:a.may=true)(hx:x.length=i):vS (x++(gM a++t)) i=a:=by
 rw[bJ.bY] at h;unfold vS;have h1:=jK (a:=x) (b:=gM a++t) (i:=0) (w:=1) hx;have h2:=jK (a:=x) (b:=gM a++t) (i:=1) (w:=2) hx;rw[aFb] at h1;rw[h1,h2];have e0:bX (gM a++t) 0 1=a.rep.toNat:=by
  have:=dL (a:=[]) (b:=be a.seq.toNat 2++t) (i:=0) (w:=1) (n:=a.rep.toNat) rfl o_;simpa [gM,fI,aAb] using this
 have e1:bX (gM a++t) 1 2=a.seq.toNat:=by
  have:=dL (a:=be a.rep.toNat 1) (b:=t) (i:=1) (w:=2) (n:=a.seq.toNat) (by simp[aP]) o_;simpa [gM,fI,aAb] using this
 rw[e0,e1];cases a;simp only[bJ.eq_iff];simp at h⊢;omega
theorem Hw(l:List bJ)(x t:List UInt8)(h:l.all bJ.may=true):sR l.length x.length (x++(kH l++t))=l:=by
 have key:∀k,k≤l.length→sR k x.length (x++(kH l++t))=l.take k:=by
  intro k
  induction k with
  |zero=>intro _;rfl
  |succ k ih =>
   intro hk;have hm:(l[k]'hk).may=true:=by
    rw[aDm] at h;exact h _ (aCs _)
   have q:∀(a b:List bJ) (z:bJ),kH (a++z::b)=kH a++(gM z++kH b):=λa b z=>by simp[kH]
   have hl:l.take k++l[k]::l.drop (k+1)=l:=by rw[←aAm hk,aAx]
   have e:=q (l.take k) (l.drop (k+1)) (l[k]'hk);rw[hl] at e;rw[sR,ih o_,aAn hk];congr 1;rw[show x++(kH l++t)=(x++kH (l.take k))++(gM (l[k]'hk)++(kH (l.drop (k+1))++t)) by rw[e];simp];rw[I4 hm (by rw[aAe,jC,aAg];omega)]
 rw[key l.length (aAf _),aAo]
def aLk(l:List UInt8)(i:Nat):bP:=⟨⟨(bX l i 1:Nat),(bX l (i+1) 2:Nat)⟩,(bX l (i+3) 1:Nat),decide (((bX l (i+4) 1:Nat):Int)=1)⟩
def tF:List UInt8→Option (List aX)
 | []=>none
 |h::t=>if t.length=22*h.toNat then pieces h.toNat t else none
def mask(x:List UInt8):Option Mg :=
 if x.length=12 then some ⟨1,(bX x 1 1:Nat),(bX x 2 1:Nat),(bX x 3 2:Nat),(bX x 5 2:Nat),(bX x 7 2:Nat),(bX x 9 2:Nat),(bX x 11 1:Nat),[],[],xX,rZ⟩ else none
def GG(x:List UInt8):Option Mg :=
 if 5+3*bX x 4 1+1≤x.length then
  (tF (x.drop (5+3*bX x 4 1))).map λcs=>⟨2,(bX x 1 1:Nat),(bX x 2 1:Nat),0,0,0,0,(bX x 3 1:Nat),sR (bX x 4 1) 5 x,cs,xX,rZ⟩
 else none
def PI(x:List UInt8):Option Mg :=
 if x.length=21∧bX x 7 1≤1 then(eY (x.drop 8)).map λf=>⟨3,(bX x 1 1:Nat),(bX x 2 1:Nat),0,0,0,0,0,[],[],aLk x 3,f⟩ else none
def OR(x:List UInt8):Option Mg :=
 if x.length=8∧bX x 7 1≤1 then some ⟨4,(bX x 1 1:Nat),(bX x 2 1:Nat),0,0,0,0,0,[],[],aLk x 3,rZ⟩ else none
def B9(x:List UInt8):Option Mg :=
 if x.length<3 then none else if bX x 0 1=1 then mask x else if bX x 0 1=2 then GG x else if bX x 0 1=3 then PI x else if bX x 0 1=4 then OR x else none
def Iw(x:List UInt8):Option Mg:=match B9 x with
 |some m=>if m.check=0 then some m else none
 |none=>none
abbrev Rs:=Bool×List UInt8
def CG(s:Rs):bJ:=⟨(vl s 1:Nat),(vl (jV s 1) 2:Nat)⟩
def Ar(s:Rs):Rs:=jV (jV s 1) 2
def lC(s:Rs):Nat→Rs
 |0=>s
 |i+1=>Ar (lC s i)
def tH(s:Rs):Nat→List bJ
 |0=>[]
 |i+1=>tH s i++[CG (lC s i)]
theorem yU(s:Rs)(n:Nat):(tH s n).length=n:=by
 induction n with
 |zero=>rfl
 |succ n ih=>rw[tH,aAe,ih];rfl
theorem KX{x:List UInt8}{j:Nat}(h:j+3≤x.length):CG (false,x.drop j)=vS x j∧Ar (false,x.drop j)=(false,x.drop (j+3)):=by
 unfold CG Ar vS;obtain⟨h1,h2,_⟩:=iL (l:=x) (i:=j) (w:=1) o_;obtain⟨h3,h4,_⟩:=iL (l:=x) (i:=j+1) (w:=2) o_;rw[h1,h2,h3,h4];exact⟨rfl,rfl⟩
theorem Fu{x:List UInt8}{j n:Nat}(h:j+3*n≤x.length):lC (false,x.drop j) n=(false,x.drop (j+3*n))∧tH (false,x.drop j) n=sR n j x:=by
 induction n with
 |zero=>exact⟨rfl,rfl⟩
 |succ n ih =>
  obtain⟨h1,h2⟩:=ih o_;obtain⟨h3,h4⟩:=KX (x:=x) (j:=j+3*n) o_;rw[lC,tH,sR,h1,h2,h3,h4];exact⟨rfl,rfl⟩
def xP(s:Rs):bP:=⟨CG s,(vl (Ar s) 1:Nat),decide (((vl (jV (Ar s) 1) 1:Nat):Int)=1)⟩
def An(s:Rs):Rs:=jV (jV (Ar s) 1) 1
theorem CS{x:List UInt8}{j:Nat}(h:j+5≤x.length):xP (false,x.drop j)=aLk x j∧An (false,x.drop j)=(false,x.drop (j+5)):=by
 obtain⟨h1,h2⟩:=KX (x:=x) (j:=j) o_;obtain⟨h3,h4,_⟩:=iL (l:=x) (i:=j+3) (w:=1) o_;obtain⟨h5,h6,_⟩:=iL (l:=x) (i:=j+4) (w:=1) o_;unfold xP An aLk;rw[h1,h2,h3,h4,h5,h6];exact⟨rfl,rfl⟩
def FO(s:Rs):Nat→Rs
 |0=>s
 |i+1=>jV (FO s i) 2
def vA(s:Rs)(i:Nat):Int:=(vl (FO s i) 2:Nat)
theorem Pb{x:List UInt8}{j i:Nat}(h:j+2*i≤x.length):FO (false,x.drop j) i=(false,x.drop (j+2*i)):=by
 induction i with
 |zero=>rfl
 |succ i ih =>
  rw[FO,ih o_,(iL o_).1];rfl
theorem zA{x:List UInt8}{j i:Nat}(h:j+2*i+2≤x.length):vA (false,x.drop j) i=(bX x (j+2*i) 2:Nat):=by
 unfold vA;rw[Pb o_,(iL h).2.1]
abbrev jO:List Nat:=[1,1,1]
def Lm(x:List UInt8)(m:Mg):Prop:=∀m0,Iw x=some m0→m=m0
theorem qT{x:List UInt8}{m0:Mg}(h:Iw x=some m0):B9 x=some m0∧m0.check=0:=by
 unfold Iw at h;split at h
 ·rename_i m hm;split at h
  ·rename_i hc;injection h with h
   subst h;exact⟨hm,hc⟩
  ·cases h
 ·cases h
theorem vB{x:List UInt8}{m0:Mg}(h:B9 x=some m0):3≤x.length∧va jO x 0=bX x 0 1∧va jO x 1=bX x 1 1∧va jO x 2=bX x 2 1∧st jO x 3=(false,x.drop 3):=by
 unfold B9 at h;split at h
 ·cases h
 ·have h3:3≤x.length:=o_;exact⟨h3,dN rfl rfl sD o_,dN rfl rfl sD o_,dN rfl rfl sD o_,yX sD (by simpa using h3)⟩
theorem oA{x:List UInt8}{m0:Mg}(h:B9 x=some m0):(bX x 0 1=1∧mask x=some m0)∨(bX x 0 1=2∧GG x=some m0)∨(bX x 0 1=3∧PI x=some m0)∨(bX x 0 1=4∧OR x=some m0):=by
 unfold B9 at h;split at h
 ·cases h
 split at h
 ·exact .inl ⟨by assumption,h⟩
 split at h
 ·exact .inr (.inl ⟨by assumption,h⟩)
 split at h
 ·exact .inr (.inr (.inl ⟨by assumption,h⟩))
 split at h
 ·exact .inr (.inr (.inr ⟨by assumption,h⟩))
 ·cases h
def NN(x:List UInt8)(k0 k1 k2 k3 base:Int)(ids:List bJ)(iS:List aX)(key:bP)(bC:cQ):Mg:=⟨(va jO x 0:Nat),(va jO x 1:Nat),(va jO x 2:Nat),k0,k1,k2,k3,base,ids,iS,key,bC⟩
theorem Lm.ask{x:List UInt8}(hk:va jO x 0=1):Lm x (NN x (vA (st jO x 3) 0) (vA (st jO x 3) 1) (vA (st jO x 3) 2) (vA (st jO x 3) 3) (vl (FO (st jO x 3) 4) 1:Nat) [] [] xX rZ):=by
 intro m0 hm;obtain⟨h1,_⟩:=qT hm;obtain⟨_,e0,e1,e2,e3⟩:=vB h1;rcases oA h1 with⟨f,h⟩|⟨f,h⟩|⟨f,h⟩|⟨f,h⟩
 ·unfold mask at h;split at h
  ·rename_i h12;injection h with h
   subst h;unfold NN;rw[e0,e1,e2,e3,zA o_,zA o_,zA o_,zA o_,Pb o_,(iL o_).2.1,f];rfl
  ·cases h
 ·omega
 ·omega
 ·omega
theorem Lm.QV{x:List UInt8}(hk:va jO x 0=4):Lm x (NN x 0 0 0 0 0 [] [] (xP (st jO x 3)) rZ):=by
 intro m0 hm;obtain⟨h1,_⟩:=qT hm;obtain⟨_,e0,e1,e2,e3⟩:=vB h1;rcases oA h1 with⟨f,h⟩|⟨f,h⟩|⟨f,h⟩|⟨f,h⟩
 ·omega
 ·omega
 ·omega
 ·unfold OR at h;split at h
  ·rename_i h8;injection h with h
   subst h;unfold NN;rw[e0,e1,e2,e3,(CS o_).1,f];rfl
  ·cases h
def IJ(s:Rs):cQ:=((nx s.1 s.2 (13:Nat)).1.bind eY).getD rZ
theorem Lm.u5{x:List UInt8}(hk:va jO x 0=3):Lm x (NN x 0 0 0 0 0 [] [] (xP (st jO x 3)) (IJ (An (st jO x 3)))):=by
 intro m0 hm;obtain⟨h1,_⟩:=qT hm;obtain⟨_,e0,e1,e2,e3⟩:=vB h1;rcases oA h1 with⟨f,h⟩|⟨f,h⟩|⟨f,h⟩|⟨f,h⟩
 ·omega
 ·omega
 ·unfold PI at h;split at h
  ·rename_i h8;have hlen:(x.drop 8).length=13:=by simp;omega
   have hnx:nx false (x.drop 8) (13:Nat)=(some (x.drop 8),false,[]):=by
    have h13:=Ai (l:=x.drop 8) (k:=13) o_;generalize x.drop 8=y at *;rw[aAj o_,aCn (l:=y) o_] at h13;exact h13
   cases hg:eY (x.drop 8) with
   |none=>rw[hg] at h;cases h
   |some e =>
    rw[hg] at h;injection h with h
    subst h;unfold NN;rw[e0,e1,e2,e3,(CS o_).1,(CS o_).2,f];unfold IJ;dsimp only;rw[hnx];show(Mg.mk _ _ _ _ _ _ _ _ _ _ _ ((eY (x.drop 8)).getD rZ))=_;rw[hg];rfl
  ·cases h
 ·omega
def MP:List UInt8→List aX
 | []=>[]
 |h::t=>if h.toNat≤48∧t.length=22*h.toNat then(pieces h.toNat t).getD [] else[]
def Rx(s:Rs):Nat:=min (vl s 1) 16
def T6(s:Rs):List UInt8:=if s.1 then[] else s.2
theorem Uc(s:Rs):(nx s.1 s.2 ((if s.1 then 0 else s.2.length:Nat):Int)).1.getD []=T6 s:=by
 obtain⟨b,l⟩:=s;unfold T6;cases b
 ·dsimp only;rw[if_neg aAl,if_neg aAl,Ai (aAf _),aAo];rfl
 ·rfl
theorem Lm.push{x:List UInt8}(hk:va jO x 0=2):Lm x (NN x 0 0 0 0 (vl (st jO x 3) 1:Nat) (tH (jV (jV (st jO x 3) 1) 1) (Rx (jV (st jO x 3) 1))) (MP (T6 (lC (jV (jV (st jO x 3) 1) 1) (Rx (jV (st jO x 3) 1))))) xX rZ):=by
 intro m0 hm;obtain⟨h1,hc⟩:=qT hm;obtain⟨_,e0,e1,e2,e3⟩:=vB h1;rcases oA h1 with⟨f,h⟩|⟨f,h⟩|⟨f,h⟩|⟨f,h⟩
 ·omega
 ·unfold GG at h;split at h
  ·rename_i h8;cases hg:tF (x.drop (5+3*bX x 4 1)) with
   |none=>rw[hg] at h;cases h
   |some cs =>
    rw[hg] at h;injection h with h
    have h2:m0.kind=2:=by rw[←h]
    obtain⟨_,_,hf,_⟩:=Mg.bR hc;unfold Mg.cV at hf;rw[if_neg o_,if_pos h2] at hf;simp only[aAv,decide_eq_true_eq,bs] at hf;have h16:bX x 4 1≤16:=by
     have:=hf.1.1.1;rw[←h] at this;dsimp only at this
     rwa [yF] at this
    have h88:cs.length≤8:=by
     have:=hf.1.2.1;rw[←h] at this;exact this
    obtain⟨s1,s2,_⟩:=iL (l:=x) (i:=3) (w:=1) o_;obtain⟨s3,s4,_⟩:=iL (l:=x) (i:=4) (w:=1) o_;unfold NN;rw[e0,e1,e2,e3,s1,s2];unfold Rx;rw[s3,s4,aBr h16,(Fu o_).1,(Fu o_).2,f,←h];unfold T6;dsimp only;rw[if_neg aAl];have hl:MP (x.drop (5+3*bX x 4 1))=cs:=by
     unfold tF at hg;cases hd:x.drop (5+3*bX x 4 1) with
     |nil=>rw[hd] at hg;cases hg
     |cons y t =>
      rw[hd] at hg;dsimp only at hg;split at hg
      ·rename_i ht;have hpl:=(tC hg ht).1;unfold MP;dsimp only;rw[if_pos ⟨by omega,ht⟩,hg];rfl
      ·cases hg
    rw[hl];rfl
  ·cases h
 ·omega
 ·omega
theorem Lm.none{x:List UInt8}{m:Mg}(hk:¬(1≤va jO x 0∧va jO x 0≤4)):Lm x m:=by
 intro m0 hm;obtain⟨h1,_⟩:=qT hm;obtain⟨_,e0,e1,e2,e3⟩:=vB h1;rcases oA h1 with⟨f,h⟩|⟨f,h⟩|⟨f,h⟩|⟨f,h⟩
 ·omega
 ·omega
 ·omega
 ·omega
end
section
open Go.RowKit Reg
open Mem hiding Rd
theorem TM:Rec prog 195 [.int .i64 0,.int .i64 0,.int .i64 0,.int .i64 0,.int .i64 0,.int .i64 0,.int .i64 0,.int .i64 0,.slice none 0 0,.slice none 0 0,.int .i64 0,.int .i64 0,.int .i64 0,.bool false,.int .i64 0,.int .i64 0,.int .i64 0,.int .i64 0,.int .i64 0] [(0,1),(1,1),(2,1),(3,4),(7,1),(8,1),(9,1),(10,4),(14,5)]:=⟨q_,q_⟩
instance WY:cL 195 [.int .i64 0,.int .i64 0,.int .i64 0,.int .i64 0,.int .i64 0,.int .i64 0,.int .i64 0,.int .i64 0,.slice none 0 0,.slice none 0 0,.int .i64 0,.int .i64 0,.int .i64 0,.bool false,.int .i64 0,.int .i64 0,.int .i64 0,.int .i64 0,.int .i64 0] [(0,1),(1,1),(2,1),(3,4),(7,1),(8,1),(9,1),(10,4),(14,5)]:=⟨TM⟩
theorem SL:Rec prog 330 [.slice none 0 0] [(0,1)]:=⟨q_,q_⟩
instance WV:cL 330 [.slice none 0 0] [(0,1)]:=⟨SL⟩
theorem Su:Rec prog 279 [.pointer none] [(0,1)]:=⟨q_,q_⟩
instance WW:cL 279 [.pointer none] [(0,1)]:=⟨Su⟩
theorem UD{a0 a1 a2 a3 b0 b1 b2 b3:Int}:VP prog 98 #[.int .i64 a0,.int .i64 a1,.int .i64 a2,.int .i64 a3] #[.int .i64 b0,.int .i64 b1,.int .i64 b2,.int .i64 b3] (decide (a0=b0)&&(decide (a1=b1)&&(decide (a2=b2)&&decide (a3=b3)))):=VP.four (e:=3) q_ q_ q_ q_
instance X5{a0 a1 a2 a3 b0 b1 b2 b3:Int}:QG 98 #[.int .i64 a0,.int .i64 a1,.int .i64 a2,.int .i64 a3] #[.int .i64 b0,.int .i64 b1,.int .i64 b2,.int .i64 b3] (decide (a0=b0)&&(decide (a1=b1)&&(decide (a2=b2)&&decide (a3=b3)))):=⟨UD⟩
abbrev oK(m:Mg)(A:Option Addr)(n c:Nat)(B:Option Addr)(k d:Nat):List Value:=[.int .i64 m.kind,.int .i64 m.fr,.int .i64 m.to,.int .i64 m.k0,.int .i64 m.k1,.int .i64 m.k2,.int .i64 m.k3,.int .i64 m.base,.slice A n c,.slice B k d,.int .i64 m.key.id.rep,.int .i64 m.key.id.seq,.int .i64 m.key.ord,.bool m.key.cD,.int .i64 m.bC.kind,.int .i64 m.bC.a,.int .i64 m.bC.n,.int .i64 m.bC.ref.rep,.int .i64 m.bC.ref.seq]
theorem Bt{α:Type}{l r:List α}{i:Nat}{x:α}(h:l.take i=r.take i)(hx:l[i]?=some x)(hy:r[i]?=some x):l.take (i+1)=r.take (i+1):=by
 obtain⟨h1,h2⟩:=aAd.1 hx;obtain⟨h3,h4⟩:=aAd.1 hy;rw[aAn h1,aAn h3,h,h2,h4]
theorem GS{α:Type}{l r:List α}{i:Nat}{x y:α}(hx:l[i]?=some x)(hy:r[i]?=some y)(h:x≠y):l≠r:=by
 intro he;subst he;rw[hx] at hy;injection hy with hy
 exact h hy
theorem Dx{α:Type}{l r:List α}{i:Nat}(h:l.take i=r.take i)(h1:i=l.length)(h2:i=r.length):l=r:=by
 rw[aAj o_,aAj o_] at h;exact h
section
variable (E:Env) (A:Option Addr) (n c:Nat) (B:Option Addr) (k d:Nat)
theorem U9(l r:List bJ)(hr:Rd E fN A n c l)(hr2:Rd E fN B k d r):aK prog E 340 #[.slice A n c,.slice B k d] [] λe H'=>e=.returned (.bool (decide (l=r)))∧H'=[]:=by
 have hcap:=hr.cap;have hcap2:=hr2.cap;have hn:=hr.len;have hm:=hr2.len;have hmax:=fX;refine t_ func340 ntmps340 ?_;by_cases hnk:n=k
 case neg =>
  have hne:¬l=r:=λh=>hnk (by rw[hn,hm,h]);rw[decide_eq_false hne];repeat first|refine aE ?_|intro
  exact B7
 subst hnk;repeat first|refine aE ?_|intro
 refine C.loop (X:=Nat) (λi=>[(0,.slice A n c),(1,.slice B n d),(12,.int .i64 n),(13,.int .i64 i)]) (λ_=>[]) (λi=>i≤n∧l.take i=r.take i) (λi=>n - i) 0 aD aA ⟨aAh _,rfl⟩ ?_;rintro i G ⟨hi,hall⟩;by_cases hlt:i<n
 ·have hx:l[i]?=some l[i]:=aAa o_;have hy:r[i]?=some r[i]:=aAa o_;generalize l[i]=x at hx;generalize r[i]=y at hy;by_cases hxy:x=y
  ·have hst:=Bt hall hx (by rw[hxy];exact hy);have hd:(!decide ((⟨x.rep,x.seq⟩:bJ)=⟨y.rep,y.seq⟩))=false:=by rw[hxy,decide_eq_true rfl];rfl
   repeat first|refine aE ?_|intro
   refine rA (l_ [0,1,2,3,4,5,6,7,8] .nil) ?_;repeat first|refine aE ?_|intro
   exact⟨i+1,aD,aA,⟨by omega,hst⟩,by omega⟩
  ·have hd:(!decide ((⟨x.rep,x.seq⟩:bJ)=⟨y.rep,y.seq⟩))=true:=congrArg Bool.not (decide_eq_false (show ¬((⟨x.rep,x.seq⟩:bJ)=⟨y.rep,y.seq⟩) from hxy));rw[decide_eq_false (GS hx hy hxy)];repeat first|refine aE ?_|intro
   refine rA (l_ [0,1,2,3,4,5,6,7,8] .nil) ?_;repeat first|refine aE ?_|intro
   exact B7
 ·obtain rfl:i=n:=o_;rw[decide_eq_true (Dx hall hn hm)];repeat first|refine aE ?_|intro
  exact B7
theorem yR(l r:List aX)(hr:Rd E bE A n c l)(hr2:Rd E bE B k d r):aK prog E 80 #[.slice A n c,.slice B k d] [] λe H'=>e=.returned (.bool (decide (l=r)))∧H'=[]:=by
 have hcap:=hr.cap;have hcap2:=hr2.cap;have hn:=hr.len;have hm:=hr2.len;have hmax:=fX;refine t_ func80 ntmps80 ?_;by_cases hnk:n=k
 case neg =>
  have hne:¬l=r:=λh=>hnk (by rw[hn,hm,h]);rw[decide_eq_false hne];repeat first|refine aE ?_|intro
  exact B7
 subst hnk;repeat first|refine aE ?_|intro
 refine C.loop (X:=Nat) (λi=>[(0,.slice A n c),(1,.slice B n d),(12,.int .i64 n),(13,.int .i64 i)]) (λ_=>[]) (λi=>i≤n∧l.take i=r.take i) (λi=>n - i) 0 aD aA ⟨aAh _,rfl⟩ ?_;rintro i G ⟨hi,hall⟩;by_cases hlt:i<n
 ·have hx:l[i]?=some l[i]:=aAa o_;have hy:r[i]?=some r[i]:=aAa o_;generalize l[i]=x at hx;generalize r[i]=y at hy;by_cases hxy:x=y
  ·have hst:=Bt hall hx (by rw[hxy];exact hy);have hd:(!decide ((⟨⟨x.id.rep,x.id.seq⟩,x.time,x.kind,x.a,x.b,x.n,⟨x.ref.rep,x.ref.seq⟩⟩:aX)=⟨⟨y.id.rep,y.id.seq⟩,y.time,y.kind,y.a,y.b,y.n,⟨y.ref.rep,y.ref.seq⟩⟩))=false:=by rw[hxy,decide_eq_true rfl];rfl
   repeat first|refine aE ?_|intro
   refine rA (l_ [0,1,2,3,4,5,6,7,8] .nil) ?_;repeat first|refine aE ?_|intro
   exact⟨i+1,aD,aA,⟨by omega,hst⟩,by omega⟩
  ·have hd:(!decide ((⟨⟨x.id.rep,x.id.seq⟩,x.time,x.kind,x.a,x.b,x.n,⟨x.ref.rep,x.ref.seq⟩⟩:aX)=⟨⟨y.id.rep,y.id.seq⟩,y.time,y.kind,y.a,y.b,y.n,⟨y.ref.rep,y.ref.seq⟩⟩))=true:=congrArg Bool.not (decide_eq_false (show ¬((⟨⟨x.id.rep,x.id.seq⟩,x.time,x.kind,x.a,x.b,x.n,⟨x.ref.rep,x.ref.seq⟩⟩:aX)=⟨⟨y.id.rep,y.id.seq⟩,y.time,y.kind,y.a,y.b,y.n,⟨y.ref.rep,y.ref.seq⟩⟩) from hxy));rw[decide_eq_false (GS hx hy hxy)];repeat first|refine aE ?_|intro
   refine rA (l_ [0,1,2,3,4,5,6,7,8] .nil) ?_;repeat first|refine aE ?_|intro
   exact B7
 ·obtain rfl:i=n:=o_;rw[decide_eq_true (Dx hall hn hm)];repeat first|refine aE ?_|intro
  exact B7
end
section
variable (E:Env) (A:Option Addr) (n c:Nat) (B:Option Addr) (k d:Nat) (A2:Option Addr) (n2 c2:Nat) (B2:Option Addr) (k2 d2:Nat)
theorem YH(a b:Mg)(h1:Rd E fN A n c a.ids)(h2:Rd E bE B k d a.iS)(h3:Rd E fN A2 n2 c2 b.ids)(h4:Rd E bE B2 k2 d2 b.iS):aK prog E 289 #[.agg (oK a A n c B k d).toArray,.agg (oK b A2 n2 c2 B2 k2 d2).toArray] [] λe H'=>e=.returned (.bool (decide (a=b)))∧H'=[]:=by
 refine t_ func289 ntmps289 ?_;by_cases q_kind:a.kind=b.kind
 case neg =>
  have hne:a≠b:=λh=>q_kind (by rw[h]);rw[decide_eq_false hne];repeat first|refine aE ?_|intro
  exact B7
 by_cases q_fr:a.fr=b.fr
 case neg =>
  have hne:a≠b:=λh=>q_fr (by rw[h]);rw[decide_eq_false hne];repeat first|refine aE ?_|intro
  exact B7
 by_cases q_to:a.to=b.to
 case neg =>
  have hne:a≠b:=λh=>q_to (by rw[h]);rw[decide_eq_false hne];repeat first|refine aE ?_|intro
  exact B7
 by_cases q_known:a.k0=b.k0∧a.k1=b.k1∧a.k2=b.k2∧a.k3=b.k3
 case neg =>
  have hne:a≠b:=λh=>q_known (by rw[h];exact⟨rfl,rfl,rfl,rfl⟩);have hdn:(decide (a.k0=b.k0)&&(decide (a.k1=b.k1)&&(decide (a.k2=b.k2)&&decide (a.k3=b.k3))))=false:=by rw[Bool.eq_false_iff];intro h;simp at h;exact q_known h
  rw[decide_eq_false hne];repeat first|refine aE ?_|intro
  exact B7
 have hdn:(decide (a.k0=b.k0)&&(decide (a.k1=b.k1)&&(decide (a.k2=b.k2)&&decide (a.k3=b.k3))))=true:=by simp only[aAv,decide_eq_true_eq];exact q_known
 by_cases q_base:a.base=b.base
 case neg =>
  have hne:a≠b:=λh=>q_base (by rw[h]);rw[decide_eq_false hne];repeat first|refine aE ?_|intro
  exact B7
 by_cases q_key:a.key=b.key
 case neg =>
  have hne:a≠b:=λh=>q_key (by rw[h]);have hdk:decide ((⟨⟨a.key.id.rep,a.key.id.seq⟩,a.key.ord,a.key.cD⟩:bP)=⟨⟨b.key.id.rep,b.key.id.seq⟩,b.key.ord,b.key.cD⟩)=false:=decide_eq_false (show ¬((⟨⟨a.key.id.rep,a.key.id.seq⟩,a.key.ord,a.key.cD⟩:bP)=⟨⟨b.key.id.rep,b.key.id.seq⟩,b.key.ord,b.key.cD⟩) from q_key);rw[decide_eq_false hne];repeat first|refine aE ?_|intro
  exact B7
 have hdk:decide ((⟨⟨a.key.id.rep,a.key.id.seq⟩,a.key.ord,a.key.cD⟩:bP)=⟨⟨b.key.id.rep,b.key.id.seq⟩,b.key.ord,b.key.cD⟩)=true:=decide_eq_true (show(⟨⟨a.key.id.rep,a.key.id.seq⟩,a.key.ord,a.key.cD⟩:bP)=⟨⟨b.key.id.rep,b.key.id.seq⟩,b.key.ord,b.key.cD⟩ from q_key);by_cases q_what:a.bC=b.bC
 case neg =>
  have hne:a≠b:=λh=>q_what (by rw[h]);have hdw:decide ((⟨a.bC.kind,a.bC.a,a.bC.n,⟨a.bC.ref.rep,a.bC.ref.seq⟩⟩:cQ)=⟨b.bC.kind,b.bC.a,b.bC.n,⟨b.bC.ref.rep,b.bC.ref.seq⟩⟩)=false:=decide_eq_false (show ¬((⟨a.bC.kind,a.bC.a,a.bC.n,⟨a.bC.ref.rep,a.bC.ref.seq⟩⟩:cQ)=⟨b.bC.kind,b.bC.a,b.bC.n,⟨b.bC.ref.rep,b.bC.ref.seq⟩⟩) from q_what);rw[decide_eq_false hne];repeat first|refine aE ?_|intro
  exact B7
 have hdw:decide ((⟨a.bC.kind,a.bC.a,a.bC.n,⟨a.bC.ref.rep,a.bC.ref.seq⟩⟩:cQ)=⟨b.bC.kind,b.bC.a,b.bC.n,⟨b.bC.ref.rep,b.bC.ref.seq⟩⟩)=true:=decide_eq_true (show(⟨a.bC.kind,a.bC.a,a.bC.n,⟨a.bC.ref.rep,a.bC.ref.seq⟩⟩:cQ)=⟨b.bC.kind,b.bC.a,b.bC.n,⟨b.bC.ref.rep,b.bC.ref.seq⟩⟩ from q_what);by_cases q_ids:a.ids=b.ids
 case neg =>
  have hne:a≠b:=λh=>q_ids (by rw[h]);rw[decide_eq_false hne];repeat first|refine aE ?_|intro
  refine C1 (λM=>U9 M _ _ _ _ _ _ a.ids b.ids) ?_;rw[decide_eq_false q_ids];rintro e H' ⟨rfl,rfl⟩;repeat first|refine aE ?_|intro
  exact B7
 by_cases q_chs:a.iS=b.iS
 case neg =>
  have hne:a≠b:=λh=>q_chs (by rw[h]);rw[decide_eq_false hne];repeat first|refine aE ?_|intro
  refine C1 (λM=>U9 M _ _ _ _ _ _ a.ids b.ids) ?_;rw[decide_eq_true q_ids];rintro e H' ⟨rfl,rfl⟩;repeat first|refine aE ?_|intro
  refine C1 (λM=>yR M _ _ _ _ _ _ a.iS b.iS) ?_;rw[decide_eq_false q_chs];rintro e H' ⟨rfl,rfl⟩;repeat first|refine aE ?_|intro
  exact B7
 have hee:a=b:=Mg.eq_iff.2 ⟨q_kind,q_fr,q_to,q_known.1,q_known.2.1,q_known.2.2.1,q_known.2.2.2,q_base,q_ids,q_chs,q_key,q_what⟩;rw[decide_eq_true hee];repeat first|refine aE ?_|intro
 refine C1 (λM=>U9 M _ _ _ _ _ _ a.ids b.ids) ?_;rw[decide_eq_true q_ids];rintro e H' ⟨rfl,rfl⟩;repeat first|refine aE ?_|intro
 refine C1 (λM=>yR M _ _ _ _ _ _ a.iS b.iS) ?_;rw[decide_eq_true q_chs];rintro e H' ⟨rfl,rfl⟩;repeat first|refine aE ?_|intro
 exact B7
end
def nW:Nat→List bP→List MapEntry
 |_,[]=>[]
 |i,k::ks=>{ key:=.agg k.cs.toArray,val:=.bool true,born:=i }::nW (i+1) ks
abbrev SR(ks:List bP):Array MapEntry:=(nW 0 ks).toArray
theorem FQ(i:Nat)(ks:List bP)(k:bP):nW i ks++[{ key:=.agg k.cs.toArray,val:=.bool true,born:=i+ks.length }]=nW i (ks++[k]):=by
 induction ks generalizing i with
 |nil=>rfl
 |cons x ks ih =>
  have:=ih (i+1);rw[aCj,nW,nW,aCj,←this,aAs,show i+1+ks.length=i+(ks.length+1) by omega]
def Dq(m:Option Nat)(ks:List bP):aL where
 holds F w:=match m with
  |none=>ks=[]∧∀b,¬F b
  |some g=>(∀b,F b↔b=g)∧w.heap[g]?=some (.map (SR ks) ks.length)
 loc:=by
  intro F w w' h hk;cases m with
  |none=>exact h
  |some g=>exact⟨h.1,(hk _ ((h.1 _).2 rfl)).trans h.2⟩
 lt:=by
  intro F w b h hb;cases m with
  |none=>exact absurd hb (h.2 b)
  |some g=>rw[(h.1 _).1 hb];exact(aBv.1 h.2).1
section
variable {E:Env} {H H' R:List aL} {N:Nat} {F:Nat→Value} {o:Oper} {ρ:Operand→Value} {m:Option Nat} {ks:List bP}
theorem aB.l6:aB E H (Dq none []::H):=λw hw =>
 hw.conv λF h=>⟨F,⟨λ_=>False,F,λb=>by simp,λb h=>h.elim,⟨rfl,λ_ h=>h⟩,h⟩,λ_ h=>h⟩
theorem lY(k:bP)(em:Bool)(w:World):(Instr.checkKey em 10000 75 (.agg k.cs.toArray)).run prog w=.ok () w:=by
 have hu:=underlying75;have hv:=underlying32;have hi:=underlying3;have hb:=underlying4;rw[show(10000:Nat)=9999+1 from rfl,Instr.checkKey];simp only[aAy,run_underlying hu,aAr];rw[←Array.forIn_toList];obtain⟨ti,hti,_,hts,_⟩:=fN.jA;have p0:(part 32 k.cs.toArray 0).run prog w=.ok (.agg #[.int .i64 k.id.rep,.int .i64 k.id.seq]) w:=by
  have hti':prog.info? 32=some ti:=hti;have hts':ti.size=2:=hts;simp[part,isAgg,sizeOf,typeInfo,run_underlying hv,hti',hts',bP.cs]
 have p1:(part 3 k.cs.toArray 2).run prog w=.ok (.int .i64 k.ord) w:=by simp[part,isAgg,run_underlying hi,bP.cs]
 have p2:(part 4 k.cs.toArray 3).run prog w=.ok (.bool k.cD) w:=by simp[part,isAgg,run_underlying hb,bP.cs]
 have q0:∀(x:Int) n,(Instr.checkKey em (n+1) 3 (.int .i64 x)).run prog w=.ok () w:=λx n=>by simp[Instr.checkKey,run_underlying hi]
 have q1:∀(x:Bool) n,(Instr.checkKey em (n+1) 4 (.bool x)).run prog w=.ok () w:=λx n=>by simp[Instr.checkKey,run_underlying hb]
 have r0:(part 3 #[.int .i64 k.id.rep,.int .i64 k.id.seq] 0).run prog w=.ok (.int .i64 k.id.rep) w:=by simp[part,isAgg,run_underlying hi]
 have r1:(part 3 #[.int .i64 k.id.rep,.int .i64 k.id.seq] 1).run prog w=.ok (.int .i64 k.id.seq) w:=by simp[part,isAgg,run_underlying hi]
 have c0:(Instr.checkKey em 9999 32 (.agg #[.int .i64 k.id.rep,.int .i64 k.id.seq])).run prog w=.ok () w:=by
  rw[show(9999:Nat)=9998+1 from rfl,Instr.checkKey];simp only[aAy,run_underlying hv,aAr];rw[←Array.forIn_toList];simp only[List.forIn_cons,List.forIn_nil,aAy,ne_eq,String.reduceEq,not_false_eq_true,if_true,aAr,r0,r1,aCc,show(9998:Nat)=9997+1 from rfl,q0]
 have q2:=q0 k.ord 9998;have q3:=q1 k.cD 9998;simp only[List.forIn_cons,List.forIn_nil,aAy,ne_eq,String.reduceEq,not_false_eq_true,if_true,aAr,p0,p1,p2,c0,aCc,q2,q3]
theorem B8:(match prog.underlying 75 with|some (.array _ _)|some (.struct _)=>true|_=>false)=true:=q_
theorem Bn(k:bP)(w:World):∀(ks:List bP) (i:Nat) (j:Nat),∃r,(Instr.findAsking 75 (.agg k.cs.toArray) (nW j ks) i).run prog w=.ok r w∧(k∈ks→∃q,r=some (q,.bool true))∧(k∉ks→r=none)
 | [],i,j=>⟨none,rfl,λh=>(aAk h).elim,λ_=>rfl⟩
 |x::ks,i,j=>by
  have h1:(Op.equalIn 10000 75 (.agg k.cs.toArray) (.agg x.cs.toArray)).run prog w=.ok (decide (k=x)) w:=(TD (t:=75) (xs:=#[.int .i64 k.id.rep,.int .i64 k.id.seq,.int .i64 k.ord,.bool k.cD]) (ys:=#[.int .i64 x.id.rep,.int .i64 x.id.seq,.int .i64 x.ord,.bool x.cD]) (r:=decide ((⟨⟨k.id.rep,k.id.seq⟩,k.ord,k.cD⟩:bP)=⟨⟨x.id.rep,x.id.seq⟩,x.ord,x.cD⟩))).run w;have h2:(Op.equal 75 (.agg k.cs.toArray) (.agg x.cs.toArray)).run prog w=.ok (decide (k=x)) w:=h1;obtain⟨r,h3,h4,h5⟩:=Bn k w ks (i+1) (j+1);by_cases hkx:k=x
  ·refine⟨some (i,.bool true),?_,λ_=>⟨_,rfl⟩,λh=>absurd (by rw[hkx];exact aBo ..) h⟩;rw[nW,Instr.findAsking];simp only[aAy,h2,aAr,decide_eq_true hkx,if_true,aCc]
  ·refine⟨r,?_,λh=>h4 (by rcases aEj.1 h with h|h;exact absurd h hkx;exact h),λh=>h5 λh'=>h (aBl _ h')⟩;rw[nW,Instr.findAsking];simp only[aAy,h2,aAr,decide_eq_false hkx,aCb,if_false,h3]
theorem Y.Qq{t:TypeId}{x i:Operand}{k:bP}(ho:o.op=.lookup t x i false)(hx:ρ x=.map m)(hi:ρ i=.agg k.cs.toArray)(ht:prog.underlying t=some (.map 75 4))(hm:Has (Dq m ks) H R):qB prog E H ρ o (.bool (decide (k∈ks))):=by
 intro u hu;obtain⟨F,h1,_⟩:=hu.has hm;have hz:∀w,(zeroValue 4).run prog w=.ok (.bool false) w:=λw=>q_;unfold execOp;simp only[ho,hx,hi,Instr.lookup,aAy,run_underlying ht,aAr];cases m with
 |none =>
  obtain⟨rfl,_⟩:=h1;have hc:=lY k (#[]:Array MapEntry).isEmpty u;have hf:(Instr.findKey 75 (.agg k.cs.toArray) (#[]:Array MapEntry).toList).run prog u=.ok none u:=by rw[run_findKey_eq u B8];rfl
  simp only[aCc,aAr,aAy,hc,hf,hz];simp
 |some g =>
  obtain⟨_,hb⟩:=h1;have hc:=lY k (SR ks).isEmpty u;obtain⟨r,hr,hyes,hno⟩:=Bn k u ks 0 0;have hf:(Instr.findKey 75 (.agg k.cs.toArray) (SR ks).toList).run prog u=.ok r u:=by rw[run_findKey_eq u B8];exact hr
  simp only[aEa hb,aCc,aAr,aAy,hc,hf];by_cases hk:k∈ks
  ·obtain⟨q,rfl⟩:=hyes hk;simp[hk]
  ·rw[hno hk];simp[hk,hz]
theorem S.H8{t:TypeId}{x i v:Operand}{g:Nat}{k:bP}(ho:o.op=.mapUpdate t x i v)(hx:ev F x=.map (some g))(hi:ev F i=.agg k.cs.toArray)(hv:ev F v=.bool true)(ht:prog.underlying t=some (.map 75 4))(hk:k∉ks){ks':List bP}(hl:ks++[k]=ks')(hr:dT (Dq (some g) ks) [Dq (some g) ks'] H H') :
  gK prog N E F H o λr H1=>r=undef∧H1=H':=by
 subst hl;intro a u ha hu Kw Q' hK;obtain⟨R,hhas,F0,h0⟩:=hu.xO hr;obtain⟨h1,hb⟩:=h0;have hc:=lY k false u;obtain⟨r,hr2,hyes,hno⟩:=Bn k u ks 0 0;have hf:(Instr.findKey 75 (.agg k.cs.toArray) (SR ks).toList).run prog u=.ok none u:=by rw[run_findKey_eq u B8,←hno hk];exact hr2
 have hpush:(SR ks).push { key:=.agg k.cs.toArray,val:=.bool true,born:=ks.length }=SR (ks++[k]):=by
  apply Array.ext';have:=FQ 0 ks k;rw[aCa] at this;simpa using this
 have hrun:(execOp (ev F) o).run prog u=.ok .skip { u with heap:=u.heap.setIfInBounds g (.map (SR (ks++[k])) (ks++[k]).length) }:=by
  unfold execOp;simp only[ho,hx,hi,hv,Instr.mapUpdate,aAy,run_underlying ht,aAr,aEa hb,hc,hf,hpush,aEz _ hb];simp
 unfold Oper.wp;rw[ha.eval,hrun];refine hK undef _ _ ⟨rfl,rfl⟩ ?_;have hlt:g<u.heap.size:=(aBv.1 hb).1;refine hu.jX hr rfl rfl rfl (by simp) (G:=λb=>b=g) (λb _ hb=>?_) λF1 k1=>?_
 ·show(u.heap.setIfInBounds g _)[b]?=_;rw[aEv (aFh hb)]
 ·refine⟨F1,⟨F1,λ_=>False,λb=>by simp,λ_ _ h=>h,⟨k1.1,?_⟩,λ_ h=>h⟩,λb hb=>.inl hb,λb _ hb=>(k1.1 b).2 hb⟩;show(u.heap.setIfInBounds g _)[g]?=_;simp[hlt]
theorem S.Oy{t:TypeId}(ho:o.op=.makeMap t none):gK prog N E F H o λr H1=>∃g,r=.map (some g)∧H1=Dq (some g) []::H:=by
 intro a u ha hu Kw Q' hK;have hrun:(execOp (ev F) o).run prog u=.ok (.value (.map (some u.heap.size))) (u.alloc (.map #[] 0)):=by
  unfold execOp;simp only[ho,Option.map_none,run_makeMap,aAy,aAr,aCc]
 unfold Oper.wp;rw[ha.eval,hrun];refine hK _ _ _ ⟨_,rfl,rfl⟩ ?_;refine hu.grow (l:=[Dq (some u.heap.size) []]) rfl rfl rfl (by simp) (λb hb=>aDu _ _ _ hb) (F1:=λb=>b=u.heap.size) ⟨_,λ_=>False,λb=>by simp,λb _ h=>h,⟨λb=>aDl,heap_alloc_new _ _⟩,λb h=>h⟩ (λb hb=>by omega)
theorem V.Zn{x y:Operand}{t t' k e:TypeId}{p:Option Nat}{u:World}(ho:o.op=.binOp .eql t x y t')(ht:prog.underlying t=some (.map k e))(hx:ρ x=.map p)(hy:ρ y=.map none):(execOp ρ o).run prog u=.ok (.value (.bool p.isNone)) u:=by
 have h:∀d,(Op.equalIn (d+1) t (.map p) (.map none)).run prog u=.ok p.isNone u:=λd=>by cases p<;>simp[Op.equalIn,run_underlying ht]
 have h2:(binOp .eql t (.map p) (.map none)).run prog u=.ok (.bool p.isNone) u:=by
  simp only[binOp];simp[show Op.equal t (.map p) (.map none)=Op.equalIn (9999+1) t (.map p) (.map none) from rfl,h]
 simp[execOp,ho,hx,hy,eqGuard,h2]
end
theorem ZQ{P:Program}{E:Env}{H:List aL}{ρ:Operand→Value}{o:Oper}{v:Value}(h:qB P E H ρ o v:=by first|(intro _ _;apply V.funcF;exact rfl;exact eS)|(intro _ _;apply V.Zn;exact rfl;exact rfl;exact rfl;exact rfl)|(apply Y.Qq;exact rfl;exact rfl;exact rfl;exact rfl;exact aS)):qB P E H ρ o v:=h
theorem WX{P:Program}{N:Nat}{E:Env}{F:Nat→Value}{H:List aL}{o:Oper}{K:Value→List aL→Prop}(h:gK P N E F H o K:=by first|exact Sy|(apply S.Oy;exact rfl)|(apply S.H8;exact rfl;exact eS;exact eS;exact eS;exact rfl;exact nD;exact ZK;exact dH)):gK P N E F H o K:=h
theorem p7{p q:Prop}(hq:q)(h:wA q→p:=by intro h;first|(apply L.fQ;decide;exact WX;(first|exact x0 h.out|exact x1 h.out|exact x2 h.out))|(apply L.pX;exact WX;(first|exact x0 h.out|exact x1 h.out|exact x2 h.out))|(apply Dr.WZ;exact rfl;(· rintro k ⟨⟩<;>decide);exact bA;exact WX;(first|exact x0 h.out|exact x1 h.out|exact x2 h.out))|(apply Dr.Iq;exact rfl;(· rintro k ⟨⟩<;>decide);exact bA;exact WX;(first|exact x0 h.out|exact x1 h.out|exact x2 h.out))|(apply zL.Aw;exact rfl;(· rintro k ⟨⟩<;>decide);exact bA;exact WX;(first|(refine y0 ?_ ?_;exact aA;exact h.out)|(refine y1 ?_ ?_;(· intro _;exact aA);exact h.out)|(refine y2 ?_ ?_;(· intro _ _;exact aA);exact h.out)))|(apply Dr.Aw;exact rfl;(· rintro k ⟨⟩<;>decide);exact bA;exact WX;(first|(refine y0 ?_ ?_;exact aA;exact h.out)|(refine y1 ?_ ?_;(· intro _;exact aA);exact h.out)|(refine y2 ?_ ?_;(· intro _ _;exact aA);exact h.out)))):p:=h ⟨hq⟩
theorem qI{p q:Prop}(hq:q)(h:wA q→p:=by intro h;first|exact w_ h.out|(apply L.val;decide;exact ZQ;exact h.out)|(apply FU.take;exact rfl;decide;exact bA;exact ZQ;exact h.out)|(apply Dr.take;exact rfl;decide;exact bA;exact ZQ;exact h.out)|exact p7 h.out|(apply gd;exact bG;exact aA;exact h.out)|(apply gk;exact bG;exact h.out)):p:=h ⟨hq⟩
theorem PN:Rec prog 116 [.map none,.slice none 0 0,.int .i64 0] [(0,1),(1,1),(2,1)]:=⟨q_,q_⟩
instance UB:cL 116 [.map none,.slice none 0 0,.int .i64 0] [(0,1),(1,1),(2,1)]:=⟨PN⟩
abbrev gt(g:Nat)(m:Option Nat)(A:Option Addr)(n c:Nat)(r:Int):aL:=aJ g 116 [.map m,.slice A n c,.int .i64 r]
def bP.other(k:bP):bP:=⟨k.id,k.ord,!k.cD⟩
section
variable (E:Env)
theorem TL(k:bP):aK prog E 147 #[.agg k.cs.toArray] [] λr H'=>r=.returned (.agg k.other.cs.toArray)∧H'=[]:=by
 refine t_ func147 ntmps147 ?_;repeat first|refine qI ?_|intro
 exact e7_
theorem R7(n lo hi:Int)(f:FuncId)(hf:f=65):aK prog E f #[.int .i64 n,.int .i64 lo,.int .i64 hi] [] λe H'=>e=.returned (.int .i64 (if n<lo then lo else if hi<n then hi else n))∧H'=[]:=by
 subst hf;refine t_ func65 ntmps65 ?_;by_cases h1:n<lo
 ·rw[if_pos h1];repeat first|refine qI ?_|intro
  exact B7
 rw[if_neg h1];by_cases h2:hi<n
 ·rw[if_pos h2];repeat first|refine qI ?_|intro
  exact B7
 rw[if_neg h2];repeat first|refine qI ?_|intro
 exact B7
variable (g:Nat) (m:Option Nat) (A:Option Addr) (n c:Nat) (r:Int) (ks:List bP)
theorem Sr(k:bP):aK prog E 93 #[.pointer (some ⟨g,0,none⟩),.agg k.cs.toArray] [gt g m A n c r,Dq m ks] λe H'=>e=.returned (.bool (decide (k∈ks)))∧H'=[gt g m A n c r,Dq m ks]:=by
 refine t_ func93 ntmps93 ?_;repeat first|refine qI ?_|intro
 refine rA (l_ [0,1,2,3,4,5,6,7,8,9,10] .nil) ?_;repeat first|refine qI ?_|intro
 exact B7
end
section
variable (E:Env)
theorem OG(A:Option Addr)(n c:Nat)(l:List dK)(hr:Rd E cP A n c l)(hl:n≤1000000000):aK prog E 85 #[.slice A n c] [] λr H'=>∃A' c',r=.returned (.slice A' n c')∧(n≤c'∧c'≤maxLen)∧H'=[own cP A' n c' l]:=by
 refine t_ func85 ntmps85 ?_;cases A with
 |none =>
  obtain⟨rfl,rfl⟩:=hr.none;repeat first|refine qI ?_|intro
  exact aR rfl aF (aB.nil cP) ⟨_,_,rfl,⟨aAf _,aAh _⟩,rfl⟩
 |some a =>
  repeat first|refine qI ?_|intro
  exact aR rfl aF aA (⟨_,_,rfl,⟨by assumption,by assumption⟩,rfl⟩)
variable (g:Nat) (m:Option Nat) (A:Option Addr) (n c:Nat) (r:Int) (l:List dK)
abbrev HN(g:Nat)(m:Option Nat)(A:Option Addr)(n c:Nat)(r:Int)(l:List dK):List aL:=[gt g m A n c r,Dq m (l.map dK.key),own cP A n c l]
structure Qd(m:Option Nat)(n c:Nat)(r:Int)(l:List dK):Prop where
 hn:n=l.length
 hc:n≤c∧c≤maxLen
 hm:m=none→l=[]
 hr:0≤r∧r≤255
theorem SE(x:Int):aK prog E 127 #[.pointer (some ⟨g,0,none⟩),.int .i64 x] [gt g m A n c r] λe H'=>e=.returned (.tuple #[])∧H'=[gt g m A n c (if x<0 then 0 else if 255<x then 255 else x)]:=by
 refine t_ func127 ntmps127 ?_;repeat first|refine qI ?_|intro
 refine cl sD sK aC (λM hE=>R7 M x 0 255 _ rfl) ?_;rintro e H' ⟨rfl,rfl⟩;repeat first|refine qI ?_|intro
 exact r4
theorem GV(hr:Rd E cP A n c l)(hl:n≤1000000000):aK prog E 22 #[.pointer (some ⟨g,0,none⟩)] [gt g m A n c r] λe H'=>∃A' c',e=.returned (.slice A' n c')∧(n≤c'∧c'≤maxLen)∧H'=[gt g m A n c r,own cP A' n c' l]:=by
 refine t_ func22 ntmps22 ?_;repeat first|refine qI ?_|intro
 refine cl sD sK aC (λM hE=>OG M A n c l (hr.sub hE) hl) ?_;rintro e H' ⟨A',c',rfl,h1,rfl⟩;repeat first|refine qI ?_|intro
 exact jQ ⟨_,_,rfl,h1,rfl⟩
theorem RQ(q:dK)(hq:q.key∈l.map dK.key):aK prog E 29 #[.pointer (some ⟨g,0,none⟩),.agg q.cs.toArray] (HN g m A n c r l) λe H'=>e=.returned (.bool true)∧H'=HN g m A n c r l:=by
 have hd:decide (q.key∈l.map dK.key)=true:=decide_eq_true hq;unfold HN;refine t_ func29 ntmps29 ?_;repeat first|refine qI ?_|intro
 refine bK (λM=>Sr M g m A n c r (l.map dK.key) q.key) ?_;repeat first|refine qI ?_|intro
 exact B7
theorem WA(q:dK)(hq:q.key∉l.map dK.key)(hr:0<r∧r≤255):aK prog E 29 #[.pointer (some ⟨g,0,none⟩),.agg q.cs.toArray] (HN g m A n c r l) λe H'=>e=.returned (.bool false)∧H'=HN g m A n c (r - 1) l:=by
 have hd:decide (q.key∈l.map dK.key)=false:=decide_eq_false hq;obtain⟨hr1,hr2⟩:=hr;unfold HN;refine t_ func29 ntmps29 ?_;repeat first|refine qI ?_|intro
 refine bK (λM=>Sr M g m A n c r (l.map dK.key) q.key) ?_;repeat first|refine qI ?_|intro
 exact B7
theorem RC(hs:Qd m n c r l)(q:dK)(hq:q.key∉l.map dK.key)(hr:r≤0)(hl:n≤1000000000):aK prog E 29 #[.pointer (some ⟨g,0,none⟩),.agg q.cs.toArray] (HN g m A n c r l) λe H'=>∃m' A' c',e=.returned (.bool true)∧Qd m' (n+1) c' r (l++[q])∧H'=HN g m' A' (n+1) c' r (l++[q]):=by
 have hd:decide (q.key∈l.map dK.key)=false:=decide_eq_false hq;have hmap:(l++[q]).map dK.key=l.map dK.key++[q.key]:=by rw[aBk];rfl
 have hnew:∀m' c',m'≠none→(n+1≤c'∧c'≤maxLen)→Qd m' (n+1) c' r (l++[q]):=λm' c' h1 h2=>⟨by rw[aAe,←hs.hn];rfl,h2,λh=>absurd h h1,hs.hr⟩
 unfold HN;rw[hmap];refine t_ func29 ntmps29 ?_;cases m with
 |none =>
  obtain rfl:=hs.hm rfl;have hq0:q.key∉([]:List bP):=λh=>(aAk h).elim;simp only[aDo,aBq] at hnew hd⊢;repeat first|refine qI ?_|intro
  refine bK (λM=>Sr M g none A n c r [] q.key) ?_;repeat first|refine qI ?_|intro
  rename_i g5 g2;refine C.bL 6 (l_ [0,1,2,3,4,5] (g_ 6 .nil)) _ q_ q_ aB.refl ?_;repeat first|refine qI ?_|intro
  refine C.bL 10 (l_ [0,1,2,3,4,5] (g_ 6 (g_ 7 (l_ [8,9] (g_ 10 .nil))))) ([gt g (some g2) A n c r,aJ g5 79 q.cs]) q_ q_ aA ?_;repeat first|refine qI ?_|intro
  rename_i A' c' h1 h2;exact aR rfl aF aA (⟨some g2,A',c',rfl,hnew _ _ (λh=>by cases h) ⟨h1,h2⟩,rfl⟩)
 |some g2 =>
  repeat first|refine qI ?_|intro
  refine bK (λM=>Sr M g (some g2) A n c r (l.map dK.key) q.key) ?_;repeat first|refine qI ?_|intro
  rename_i g5;refine C.bL 6 (l_ [0,1,2,3,4,5] (g_ 6 .nil)) _ q_ q_ aB.refl ?_;repeat first|refine qI ?_|intro
  refine C.bL 10 (l_ [0,1,2,3,4,5] (g_ 6 (g_ 7 (l_ [8,9] (g_ 10 .nil))))) ([gt g (some g2) A n c r,aJ g5 79 q.cs]) q_ q_ aA ?_;repeat first|refine qI ?_|intro
  rename_i A' c' h1 h2;exact aR rfl aF aA (⟨some g2,A',c',rfl,hnew _ _ (λh=>by cases h) ⟨h1,h2⟩,rfl⟩)
end
def jH:Nat→List (bJ×Int)→List MapEntry
 |_,[]=>[]
 |i,k::ks=>{ key:=.agg k.1.cs.toArray,val:=.int .i64 k.2,born:=i }::jH (i+1) ks
abbrev Bz(ks:List (bJ×Int)):Array MapEntry:=(jH 0 ks).toArray
theorem Fs(i:Nat)(ks:List (bJ×Int))(k:bJ×Int):jH i ks++[{ key:=.agg k.1.cs.toArray,val:=.int .i64 k.2,born:=i+ks.length }]=jH i (ks++[k]):=by
 induction ks generalizing i with
 |nil=>rfl
 |cons x ks ih =>
  have:=ih (i+1);rw[aCj,jH,jH,aCj,←this,aAs,show i+1+ks.length=i+(ks.length+1) by omega]
theorem sB(j:Nat)(ks:List (bJ×Int))(q:Nat):(jH j ks)[q]?=(ks[q]?).map λk=>{ key:=.agg k.1.cs.toArray,val:=.int .i64 k.2,born:=j+q }:=by
 induction ks generalizing j q with
 |nil=>rfl
 |cons x ks ih =>
  cases q with
  |zero=>rfl
  |succ q=>rw[jH,aFr,aFr,ih,show j+1+q=j+(q+1) by omega]
theorem IB(j:Nat)(ks:List (bJ×Int)):(jH j ks).length=ks.length:=by
 induction ks generalizing j with
 |nil=>rfl
 |cons x ks ih=>rw[jH,aAs,aAs,ih]
def eT:List (bJ×Int)→bJ→Option (Nat×Int)
 | [],_=>none
 |x::ks,k=>if k=x.1 then some (0,x.2) else(eT ks k).map λq=>(q.1+1,q.2)
theorem wO{ks:List (bJ×Int)}{k:bJ}{q:Nat}{v:Int}(h:eT ks k=some (q,v)):ks[q]?=some (k,v):=by
 induction ks generalizing q with
 |nil=>cases h
 |cons x ks ih =>
  unfold eT at h;split at h
  ·rename_i hk;injection h with h
   injection h with h1 h2
   subst h1 h2 hk;rfl
  ·cases hf:eT ks k with
   |none=>rw[hf] at h;cases h
   |some z =>
    rw[hf] at h;injection h with h
    injection h with h1 h2
    subst h1 h2;rw[aFr];exact ih hf
def QW(g:Nat)(ks:List (bJ×Int)):aL where
 holds F w:=(∀b,F b↔b=g)∧w.heap[g]?=some (.map (Bz ks) ks.length)
 loc:=λh hk=>⟨h.1,(hk _ ((h.1 _).2 rfl)).trans h.2⟩
 lt:=λh hb=>by rw[(h.1 _).1 hb];exact(aBv.1 h.2).1
theorem sP(k:bJ)(em:Bool)(w:World):(Instr.checkKey em 10000 32 (.agg k.cs.toArray)).run prog w=.ok () w:=by
 have hv:=underlying32;have hi:=underlying3;have q0:∀(x:Int) n,(Instr.checkKey em (n+1) 3 (.int .i64 x)).run prog w=.ok () w:=λx n=>by simp[Instr.checkKey,run_underlying hi]
 have r0:(part 3 #[.int .i64 k.rep,.int .i64 k.seq] 0).run prog w=.ok (.int .i64 k.rep) w:=by simp[part,isAgg,run_underlying hi]
 have r1:(part 3 #[.int .i64 k.rep,.int .i64 k.seq] 1).run prog w=.ok (.int .i64 k.seq) w:=by simp[part,isAgg,run_underlying hi]
 rw[show(10000:Nat)=9999+1 from rfl,Instr.checkKey];simp only[aAy,run_underlying hv,aAr];rw[←Array.forIn_toList];have e:k.cs.toArray=#[.int .i64 k.rep,.int .i64 k.seq]:=rfl;rw[e];simp only[List.forIn_cons,List.forIn_nil,aAy,ne_eq,String.reduceEq,not_false_eq_true,if_true,aAr,r0,r1,aCc,show(9999:Nat)=9998+1 from rfl,q0]
theorem RP:(match prog.underlying 32 with|some (.array _ _)|some (.struct _)=>true|_=>false)=true:=q_
theorem D6(k:bJ)(w:World):∀(ks:List (bJ×Int)) (i j:Nat),(Instr.findAsking 32 (.agg k.cs.toArray) (jH j ks) i).run prog w=.ok ((eT ks k).map λq=>(i+q.1,.int .i64 q.2)) w
 | [],i,j=>rfl
 |x::ks,i,j=>by
  have h1:(Op.equalIn 10000 32 (.agg k.cs.toArray) (.agg x.1.cs.toArray)).run prog w=.ok (decide (k=x.1)) w:=(TD (t:=32) (xs:=#[.int .i64 k.rep,.int .i64 k.seq]) (ys:=#[.int .i64 x.1.rep,.int .i64 x.1.seq]) (r:=decide ((⟨k.rep,k.seq⟩:bJ)=⟨x.1.rep,x.1.seq⟩))).run w;have h2:(Op.equal 32 (.agg k.cs.toArray) (.agg x.1.cs.toArray)).run prog w=.ok (decide (k=x.1)) w:=h1;have h3:=D6 k w ks (i+1) (j+1);rw[jH,Instr.findAsking];by_cases hkx:k=x.1
  ·rw[show eT (x::ks) k=some (0,x.2) from if_pos hkx];simp only[aAy,h2,aAr,decide_eq_true hkx,if_true,aCc];rfl
  ·rw[show eT (x::ks) k=(eT ks k).map λq=>(q.1+1,q.2) from if_neg hkx];simp only[aAy,h2,aAr,decide_eq_false hkx,aCb,if_false,h3];cases eT ks k with
   |none=>rfl
   |some q=>simp only[aDi];rw[show i+1+q.1=i+(q.1+1) by omega]
theorem xR(k:bJ)(w:World)(ks:List (bJ×Int)):(Instr.findKey 32 (.agg k.cs.toArray) (Bz ks).toList).run prog w=.ok ((eT ks k).map λq=>(q.1,.int .i64 q.2)) w:=by
 rw[run_findKey_eq w RP];have:=D6 k w ks 0 0;simp only[aCa] at this;exact this
def lO(ks:List (bJ×Int))(k:bJ):Int:=((eT ks k).map Prod.snd).getD 0
def iM(ks:List (bJ×Int))(k:bJ):List (bJ×Int):=match eT ks k with
 |some _=>ks
 |none=>ks++[(k,0)]
def DA(ks:List (bJ×Int))(k:bJ):Nat:=match eT ks k with
 |some q=>q.1
 |none=>ks.length
def yH(ks:List (bJ×Int))(k:bJ):List (bJ×Int):=(iM ks k).set (DA ks k) (k,lO ks k+1)
theorem Oq(ks:List (bJ×Int))(k:bJ):(iM ks k)[DA ks k]?=some (k,lO ks k):=by
 unfold iM DA lO;cases h:eT ks k with
 |none=>simp
 |some q=>obtain⟨q,v⟩:=q;exact wO h
section
variable {E:Env} {H H' R:List aL} {N:Nat} {F:Nat→Value} {o:Oper} {ρ:Operand→Value} {g:Nat} {ks:List (bJ×Int)}
theorem Y.E7{t:TypeId}{x i:Operand}{k:bJ}(ho:o.op=.lookup t x i false)(hx:ρ x=.map (some g))(hi:ρ i=.agg k.cs.toArray)(ht:prog.underlying t=some (.map 32 3))(hm:Has (QW g ks) H R):qB prog E H ρ o (.int .i64 (lO ks k)):=by
 intro u hu;obtain⟨F,h1,_⟩:=hu.has hm;have hz:∀w,(zeroValue 3).run prog w=.ok (.int .i64 0) w:=λw=>q_;unfold execOp;simp only[ho,hx,hi,Instr.lookup,aAy,run_underlying ht,aAr];obtain⟨_,hb⟩:=h1;have hc:=sP k (Bz ks).isEmpty u;have hf:=xR k u ks;simp only[aEa hb,aCc,aAr,aAy,hc,hf];unfold lO;cases h:eT ks k with
 |none=>simp[hz]
 |some q=>simp
theorem Ln(a b:Int):Instr.sameBits 10000 (.agg #[.int .i64 a,.int .i64 b]) (.agg #[.int .i64 a,.int .i64 b])=true:=by simp[Instr.sameBits]
theorem S.EI{t:TypeId}{x i:Operand}{k:bJ}(ho:o.op=.mapEntry t x i)(hx:ev F x=.map (some g))(hi:ev F i=.agg k.cs.toArray)(ht:prog.underlying t=some (.map 32 3))(hr:dT (QW g ks) [QW g (iM ks k)] H H') :
  gK prog N E F H o λr H1=>r=.tuple #[.int .i64 (lO ks k),.int .i64 (DA ks k:Nat)]∧H1=H':=by
 intro a u ha hu Kw Q' hK;obtain⟨R,hhas,F0,h0⟩:=hu.xO hr;obtain⟨h1,hb⟩:=h0;have hc:=sP k false u;have hf:=xR k u ks;have hz:∀w,(zeroValue 3).run prog w=.ok (.int .i64 0) w:=λw=>q_;have hrun:(execOp (ev F) o).run prog u=.ok (.value (.tuple #[.int .i64 (lO ks k),.int .i64 (DA ks k:Nat)])) { u with heap:=u.heap.setIfInBounds g (.map (Bz (iM ks k)) (iM ks k).length) }:=by
  unfold execOp;simp only[ho,hx,hi,Instr.mapEntry,aAy,run_underlying ht,aAr,aEa hb,hc,hf];cases h:eT ks k with
  |none =>
   have hpush:(Bz ks).push { key:=.agg k.cs.toArray,val:=.int .i64 0,born:=ks.length }=Bz (ks++[(k,0)]):=by
    apply Array.ext';have:=Fs 0 ks (k,0);rw[aCa] at this;simpa using this
   simp only[Option.map_none,aAy,hz,aAr,hpush,aEz _ hb,aCc];unfold iM lO DA;rw[h];simp[goInt]
  |some q =>
   obtain⟨q,v⟩:=q;have hq:=wO h;have hes:(Bz ks)[q]?=some { key:=.agg k.cs.toArray,val:=.int .i64 v,born:=q }:=by
    show(jH 0 ks).toArray[q]?=_;rw[List.getElem?_toArray,sB,hq];simp
   have hsame:(Instr.keyThatStays (.agg k.cs.toArray) (.agg k.cs.toArray)).run prog u=.ok (.agg k.cs.toArray) u:=by
    unfold Instr.keyThatStays;rw[if_pos (Ln k.rep k.seq)];rfl
   have hmod:((Bz ks).modify q λe=>{ e with key:=.agg k.cs.toArray })=Bz ks:=by
    apply Array.ext
    ·simp
    ·intro i hi1 hi2;rw[Array.getElem_modify];split
     ·rename_i hqi;subst hqi;have:=(aBv.1 hes).2;rw[this]
     ·rfl
   simp only[aDi,aAy,hes,aBe,hsame,aAr,hmod,aEz _ hb,aCc];unfold iM lO DA;rw[h];simp[goInt]
 unfold Oper.wp;rw[ha.eval,hrun];refine hK _ _ _ ⟨rfl,rfl⟩ ?_;have hlt:g<u.heap.size:=(aBv.1 hb).1;refine hu.jX hr rfl rfl rfl (by simp) (G:=λb=>b=g) (λb _ hb=>?_) λF1 k1=>?_
 ·show(u.heap.setIfInBounds g _)[b]?=_;rw[aEv (aFh hb)]
 ·refine⟨F1,⟨F1,λ_=>False,λb=>by simp,λ_ _ h=>h,⟨k1.1,?_⟩,λ_ h=>h⟩,λb hb=>.inl hb,λb _ hb=>(k1.1 b).2 hb⟩;show(u.heap.setIfInBounds g _)[g]?=_;simp[hlt]
theorem S.AN{t:TypeId}{x i v:Operand}{q:Nat}{n:Int}{k:bJ×Int}(ho:o.op=.entryStore t x i v)(hx:ev F x=.map (some g))(hi:ev F i=.int .i64 (q:Nat))(hv:ev F v=.int .i64 n)(hq:ks[q]?=some k)(hr:dT (QW g ks) [QW g (ks.set q (k.1,n))] H H') :
  gK prog N E F H o λr H1=>r=undef∧H1=H':=by
 intro a u ha hu Kw Q' hK;obtain⟨R,hhas,F0,h0⟩:=hu.xO hr;obtain⟨h1,hb⟩:=h0;have hql:=(aAd.1 hq).1;have hlen:=IB 0 ks;have hborn:∀j (hj:j<(Bz ks).size),((Bz ks)[j]'hj).born=j:=λj hj=>by
  have h2:j<(jH 0 ks).length:=by simpa using hj
  have h3:=sB 0 ks j;rw[aAa h2] at h3;have h4:(Bz ks)[j]'hj=(jH 0 ks)[j]'h2:=by simp[Bz]
  rw[h4];cases hk:ks[j]? with
  |none=>rw[hk] at h3;cases h3
  |some z=>rw[hk] at h3;injection h3 with h3;rw[h3];simp
 have hidx:(Bz ks).findIdx? (λe=>(e.born:Int) == (q:Int))=some q:=by
  rw[Array.findIdx?_eq_some_iff_getElem];refine⟨by simp[Bz];omega,?_,λj hj=>?_⟩
  ·rw[hborn];simp
  ·rw[hborn];simp;omega
 have hmod:((Bz ks).modify q λe=>{ e with val:=.int .i64 n })=Bz (ks.set q (k.1,n)):=by
  apply Array.ext';refine aCk λj=>?_;have e1:((Bz ks).modify q λe=>{ e with val:=.int .i64 n }).toList[j]?=if q=j then((Bz ks)[j]?).map (λe=>{ e with val:=.int .i64 n }) else(Bz ks)[j]?:=by
   rw[←aEe,Array.toList_modify,List.getElem?_modify];split
   ·rename_i h;subst h;simp
   ·simp
  rw[e1];show _=(jH 0 (ks.set q (k.1,n)))[j]?;have e2:(Bz ks)[j]?=(jH 0 ks)[j]?:=by simp[Bz]
  rw[e2,sB,sB,aDr];by_cases hqj:q=j
  ·subst hqj;rw[if_pos rfl,if_pos rfl,if_pos hql,hq];rfl
  ·rw[if_neg hqj,if_neg hqj]
 have hrun:(execOp (ev F) o).run prog u=.ok .skip { u with heap:=u.heap.setIfInBounds g (.map (Bz (ks.set q (k.1,n))) (ks.set q (k.1,n)).length) }:=by
  unfold execOp;simp only[ho,hx,hi,hv,Instr.entryStore,aAy,aCc,aAr,aEa hb,asInt,asIntOf,hidx,hmod,aEz _ hb,aAt]
 unfold Oper.wp;rw[ha.eval,hrun];refine hK undef _ _ ⟨rfl,rfl⟩ ?_;have hlt:g<u.heap.size:=(aBv.1 hb).1;refine hu.jX hr rfl rfl rfl (by simp) (G:=λb=>b=g) (λb _ hb=>?_) λF1 k1=>?_
 ·show(u.heap.setIfInBounds g _)[b]?=_;rw[aEv (aFh hb)]
 ·refine⟨F1,⟨F1,λ_=>False,λb=>by simp,λ_ _ h=>h,⟨k1.1,?_⟩,λ_ h=>h⟩,λb hb=>.inl hb,λb _ hb=>(k1.1 b).2 hb⟩;show(u.heap.setIfInBounds g _)[g]?=_;simp[hlt]
theorem S.Nb{t:TypeId}(ho:o.op=.makeMap t none):gK prog N E F H o λr H1=>∃g,r=.map (some g)∧H1=QW g []::H:=by
 intro a u ha hu Kw Q' hK;have hrun:(execOp (ev F) o).run prog u=.ok (.value (.map (some u.heap.size))) (u.alloc (.map #[] 0)):=by
  unfold execOp;simp only[ho,Option.map_none,run_makeMap,aAy,aAr,aCc]
 unfold Oper.wp;rw[ha.eval,hrun];refine hK _ _ _ ⟨_,rfl,rfl⟩ ?_;refine hu.grow (l:=[QW u.heap.size []]) rfl rfl rfl (by simp) (λb hb=>aDu _ _ _ hb) (F1:=λb=>b=u.heap.size) ⟨_,λ_=>False,λb=>by simp,λb _ h=>h,⟨λb=>aDl,heap_alloc_new _ _⟩,λb h=>h⟩ (λb hb=>by omega)
end
end
end Go.Proofs.YtmilalkjbojciaaGreat.Sep
