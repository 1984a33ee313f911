/- Part AN: what it needs. No condition. -/
import Derived.Test.YtmilalkjbojciaaGreatRAA
import Derived.Test.YtmilalkjbojciaaGreatRAJ
import Derived.Test.YtmilalkjbojciaaGreatRAE
import Derived.Test.YtmilalkjbojciaaGreatRAL
import Derived.Test.YtmilalkjbojciaaGreatRAH
import Derived.Test.YtmilalkjbojciaaGreatRAM
set_option maxRecDepth 100000
set_option maxHeartbeats 8000000
open Go.Proofs.Tryz
namespace Go.Proofs.YtmilalkjbojciaaGreat.Sep
open Go.RowKit Oct
abbrev Rs:=Bool×List UInt8
def CG(s:Rs):bJ:=⟨(vl s 1:Nat),(vl (jV s 1) 2:Nat)⟩
def Ar(s:Rs):Rs:=jV (jV s 1) 2
def lC(s:Rs):Nat→Rs
 |0=>s
 |i+1=>Ar (lC s i)
def tH(s:Rs):Nat→List bJ
 |0=>[]
 |i+1=>tH s i++[CG (lC s i)]
theorem yU(s:Rs)(n:Nat):(tH s n).length=n:=by
 induction n with
 |zero=>rfl
 |succ n ih=>rw[tH,aAe,ih];rfl
theorem KX{x:List UInt8}{j:Nat}(h:j+3≤x.length):CG (false,x.drop j)=vS x j∧Ar (false,x.drop j)=(false,x.drop (j+3)):=by
 unfold CG Ar vS;obtain⟨h1,h2,_⟩:=iL (l:=x) (i:=j) (w:=1) o_;obtain⟨h3,h4,_⟩:=iL (l:=x) (i:=j+1) (w:=2) o_;rw[h1,h2,h3,h4];exact⟨rfl,rfl⟩
theorem Fu{x:List UInt8}{j n:Nat}(h:j+3*n≤x.length):lC (false,x.drop j) n=(false,x.drop (j+3*n))∧tH (false,x.drop j) n=sR n j x:=by
 induction n with
 |zero=>exact⟨rfl,rfl⟩
 |succ n ih =>
  obtain⟨h1,h2⟩:=ih o_;obtain⟨h3,h4⟩:=KX (x:=x) (j:=j+3*n) o_;rw[lC,tH,sR,h1,h2,h3,h4];exact⟨rfl,rfl⟩
def xP(s:Rs):bP:=⟨CG s,(vl (Ar s) 1:Nat),decide (((vl (jV (Ar s) 1) 1:Nat):Int)=1)⟩
def An(s:Rs):Rs:=jV (jV (Ar s) 1) 1
theorem CS{x:List UInt8}{j:Nat}(h:j+5≤x.length):xP (false,x.drop j)=Al x j∧An (false,x.drop j)=(false,x.drop (j+5)):=by
 obtain⟨h1,h2⟩:=KX (x:=x) (j:=j) o_;obtain⟨h3,h4,_⟩:=iL (l:=x) (i:=j+3) (w:=1) o_;obtain⟨h5,h6,_⟩:=iL (l:=x) (i:=j+4) (w:=1) o_;unfold xP An Al;rw[h1,h2,h3,h4,h5,h6];exact⟨rfl,rfl⟩
def FO(s:Rs):Nat→Rs
 |0=>s
 |i+1=>jV (FO s i) 2
def vA(s:Rs)(i:Nat):Int:=(vl (FO s i) 2:Nat)
theorem Pb{x:List UInt8}{j i:Nat}(h:j+2*i≤x.length):FO (false,x.drop j) i=(false,x.drop (j+2*i)):=by
 induction i with
 |zero=>rfl
 |succ i ih =>
  rw[FO,ih o_,(iL o_).1];rfl
theorem zA{x:List UInt8}{j i:Nat}(h:j+2*i+2≤x.length):vA (false,x.drop j) i=(bX x (j+2*i) 2:Nat):=by
 unfold vA;rw[Pb o_,(iL h).2.1]
abbrev jO:List Nat:=[1,1,1]
def Lm(x:List UInt8)(m:Mg):Prop:=∀m0,Iw x=some m0→m=m0
theorem qT{x:List UInt8}{m0:Mg}(h:Iw x=some m0):B9 x=some m0∧m0.check=0:=by
 unfold Iw at h;split at h
 ·rename_i m hm;split at h
  ·rename_i hc;injection h with h
   subst h;exact⟨hm,hc⟩
  ·cases h
 ·cases h
theorem vB{x:List UInt8}{m0:Mg}(h:B9 x=some m0):3≤x.length∧va jO x 0=bX x 0 1∧va jO x 1=bX x 1 1∧va jO x 2=bX x 2 1∧st jO x 3=(false,x.drop 3):=by
 unfold B9 at h;split at h
 ·cases h
 ·have h3:3≤x.length:=o_;exact⟨h3,dN rfl rfl sD o_,dN rfl rfl sD o_,dN rfl rfl sD o_,yX sD (by simpa using h3)⟩
theorem oA{x:List UInt8}{m0:Mg}(h:B9 x=some m0):(bX x 0 1=1∧mask x=some m0)∨(bX x 0 1=2∧GG x=some m0)∨(bX x 0 1=3∧PI x=some m0)∨(bX x 0 1=4∧OR x=some m0):=by
 unfold B9 at h;split at h
 ·cases h
 split at h
 ·exact .inl ⟨by assumption,h⟩
 split at h
 ·exact .inr (.inl ⟨by assumption,h⟩)
 split at h
 ·exact .inr (.inr (.inl ⟨by assumption,h⟩))
 split at h
 ·exact .inr (.inr (.inr ⟨by assumption,h⟩))
 ·cases h
def NN(x:List UInt8)(k0 k1 k2 k3 base:Int)(ids:List bJ)(iS:List aX)(key:bP)(bC:cQ):Mg:=⟨(va jO x 0:Nat),(va jO x 1:Nat),(va jO x 2:Nat),k0,k1,k2,k3,base,ids,iS,key,bC⟩
theorem Lm.ask{x:List UInt8}(hk:va jO x 0=1):Lm x (NN x (vA (st jO x 3) 0) (vA (st jO x 3) 1) (vA (st jO x 3) 2) (vA (st jO x 3) 3) (vl (FO (st jO x 3) 4) 1:Nat) [] [] xX rZ):=by
 intro m0 hm;obtain⟨h1,_⟩:=qT hm;obtain⟨_,e0,e1,e2,e3⟩:=vB h1;rcases oA h1 with⟨f,h⟩|⟨f,h⟩|⟨f,h⟩|⟨f,h⟩
 ·unfold mask at h;split at h
  ·rename_i h12;injection h with h
   subst h;unfold NN;rw[e0,e1,e2,e3,zA o_,zA o_,zA o_,zA o_,Pb o_,(iL o_).2.1,f];rfl
  ·cases h
 ·omega
 ·omega
 ·omega
theorem Lm.QV{x:List UInt8}(hk:va jO x 0=4):Lm x (NN x 0 0 0 0 0 [] [] (xP (st jO x 3)) rZ):=by
 intro m0 hm;obtain⟨h1,_⟩:=qT hm;obtain⟨_,e0,e1,e2,e3⟩:=vB h1;rcases oA h1 with⟨f,h⟩|⟨f,h⟩|⟨f,h⟩|⟨f,h⟩
 ·omega
 ·omega
 ·omega
 ·unfold OR at h;split at h
  ·rename_i h8;injection h with h
   subst h;unfold NN;rw[e0,e1,e2,e3,(CS o_).1,f];rfl
  ·cases h
def IJ(s:Rs):cQ:=((nx s.1 s.2 (13:Nat)).1.bind eY).getD rZ
theorem Lm.u5{x:List UInt8}(hk:va jO x 0=3):Lm x (NN x 0 0 0 0 0 [] [] (xP (st jO x 3)) (IJ (An (st jO x 3)))):=by
 intro m0 hm;obtain⟨h1,_⟩:=qT hm;obtain⟨_,e0,e1,e2,e3⟩:=vB h1;rcases oA h1 with⟨f,h⟩|⟨f,h⟩|⟨f,h⟩|⟨f,h⟩
 ·omega
 ·omega
 ·unfold PI at h;split at h
  ·rename_i h8;have hlen:(x.drop 8).length=13:=by simp;omega
   have hnx:nx false (x.drop 8) (13:Nat)=(some (x.drop 8),false,[]):=by
    have h13:=Ai (l:=x.drop 8) (k:=13) o_;generalize x.drop 8=y at *;rw[aAj o_,aCn (l:=y) o_] at h13;exact h13
   cases hg:eY (x.drop 8) with
   |none=>rw[hg] at h;cases h
   |some e =>
    rw[hg] at h;injection h with h
    subst h;unfold NN;rw[e0,e1,e2,e3,(CS o_).1,(CS o_).2,f];unfold IJ;dsimp only;rw[hnx];show(Mg.mk _ _ _ _ _ _ _ _ _ _ _ ((eY (x.drop 8)).getD rZ))=_;rw[hg];rfl
  ·cases h
 ·omega
def MP:List UInt8→List aX
 | []=>[]
 |h::t=>if h.toNat≤48∧t.length=22*h.toNat then(pieces h.toNat t).getD [] else[]
def Rx(s:Rs):Nat:=min (vl s 1) 16
def T6(s:Rs):List UInt8:=if s.1 then[] else s.2
theorem Uc(s:Rs):(nx s.1 s.2 ((if s.1 then 0 else s.2.length:Nat):Int)).1.getD []=T6 s:=by
 obtain⟨b,l⟩:=s;unfold T6;cases b
 ·dsimp only;rw[if_neg aAl,if_neg aAl,Ai (aAf _),aAo];rfl
 ·rfl
theorem Lm.push{x:List UInt8}(hk:va jO x 0=2):Lm x (NN x 0 0 0 0 (vl (st jO x 3) 1:Nat) (tH (jV (jV (st jO x 3) 1) 1) (Rx (jV (st jO x 3) 1))) (MP (T6 (lC (jV (jV (st jO x 3) 1) 1) (Rx (jV (st jO x 3) 1))))) xX rZ):=by
 intro m0 hm;obtain⟨h1,hc⟩:=qT hm;obtain⟨_,e0,e1,e2,e3⟩:=vB h1;rcases oA h1 with⟨f,h⟩|⟨f,h⟩|⟨f,h⟩|⟨f,h⟩
 ·omega
 ·unfold GG at h;split at h
  ·rename_i h8;cases hg:tF (x.drop (5+3*bX x 4 1)) with
   |none=>rw[hg] at h;cases h
   |some cs =>
    rw[hg] at h;injection h with h
    have h2:m0.kind=2:=by rw[←h]
    obtain⟨_,_,hf,_⟩:=Mg.bR hc;unfold Mg.cV at hf;rw[if_neg o_,if_pos h2] at hf;simp only[aAv,decide_eq_true_eq,bs] at hf;have h16:bX x 4 1≤16:=by
     have:=hf.1.1.1;rw[←h] at this;dsimp only at this
     rwa [yF] at this
    have h88:cs.length≤8:=by
     have:=hf.1.2.1;rw[←h] at this;exact this
    obtain⟨s1,s2,_⟩:=iL (l:=x) (i:=3) (w:=1) o_;obtain⟨s3,s4,_⟩:=iL (l:=x) (i:=4) (w:=1) o_;unfold NN;rw[e0,e1,e2,e3,s1,s2];unfold Rx;rw[s3,s4,aBr h16,(Fu o_).1,(Fu o_).2,f,←h];unfold T6;dsimp only;rw[if_neg aAl];have hl:MP (x.drop (5+3*bX x 4 1))=cs:=by
     unfold tF at hg;cases hd:x.drop (5+3*bX x 4 1) with
     |nil=>rw[hd] at hg;cases hg
     |cons y t =>
      rw[hd] at hg;dsimp only at hg;split at hg
      ·rename_i ht;have hpl:=(tC hg ht).1;unfold MP;dsimp only;rw[if_pos ⟨by omega,ht⟩,hg];rfl
      ·cases hg
    rw[hl];rfl
  ·cases h
 ·omega
 ·omega
theorem Lm.none{x:List UInt8}{m:Mg}(hk:¬(1≤va jO x 0∧va jO x 0≤4)):Lm x m:=by
 intro m0 hm;obtain⟨h1,_⟩:=qT hm;obtain⟨_,e0,e1,e2,e3⟩:=vB h1;rcases oA h1 with⟨f,h⟩|⟨f,h⟩|⟨f,h⟩|⟨f,h⟩
 ·omega
 ·omega
 ·omega
 ·omega
theorem dQ.zero:dQ 0:=by unfold dQ;decide
theorem Ny(x:List UInt8)(h:3≤x.length):fI [1,1,1] [bX x 0 1,bX x 1 1,bX x 2 1]=x.take 3:=by
 have:=yO [1,1,1] x (by simpa using h);rw[←show([1,1,1]:List Nat).sum=3 from rfl,←this];simp only[Ay,bX,aBt,aCh]
theorem yS{x:List UInt8}(h:8≤x.length)(h1:bX x 7 1≤1):fI kW (kK (Al x 3))=(x.drop 3).take 5:=by
 have e:=yO kW (x.drop 3) (by simp;omega);rw[show kW.sum=5 from rfl] at e;rw[←e];congr 1;have hu:jS (decide (((bX x 7 1:Nat):Int)=1))=bX x 7 1:=by
  unfold jS;by_cases hq:bX x 7 1=1
  ·rw[hq];rfl
  ·rw[decide_eq_false o_,if_neg aAl];omega
 unfold kK Al;dsimp only;rw[hu];simp only[aAu,Ay,bX,aBt,Nat.reduceAdd]
theorem D3{k:bP}(h:k.may=true){a t:List UInt8}(ha:a.length=3):Al (a++(fI kW (kK k)++t)) 3=k∧bX (a++(fI kW (kK k)++t)) 7 1≤1:=by
 obtain⟨⟨a0,a1,b0,b1⟩,c0,c1⟩:=(bP.bY k).1 h;have hu:jS k.cD<256:=by unfold jS;split<;>omega
 have hb:jS k.cD≤1:=by unfold jS;split<;>omega
 have e:fI kW (kK k)++t=be k.id.rep.toNat 1++(be k.id.seq.toNat 2++(be k.ord.toNat 1++(be (jS k.cD) 1++t))):=by simp[fI,kK]
 rw[e];have f0:bX (a++(be k.id.rep.toNat 1++(be k.id.seq.toNat 2++(be k.ord.toNat 1++(be (jS k.cD) 1++t))))) 3 1=k.id.rep.toNat:=dL ha o_;have f1:bX (a++(be k.id.rep.toNat 1++(be k.id.seq.toNat 2++(be k.ord.toNat 1++(be (jS k.cD) 1++t))))) 4 2=k.id.seq.toNat:=by
  rw[←aAb];exact dL (by simp[aP,ha]) o_
 have f2:bX (a++(be k.id.rep.toNat 1++(be k.id.seq.toNat 2++(be k.ord.toNat 1++(be (jS k.cD) 1++t))))) 6 1=k.ord.toNat:=by
  rw[←aAb,←aAb];exact dL (by simp[aP,ha]) o_
 have f3:bX (a++(be k.id.rep.toNat 1++(be k.id.seq.toNat 2++(be k.ord.toNat 1++(be (jS k.cD) 1++t))))) 7 1=jS k.cD:=by
  rw[←aAb,←aAb,←aAb];exact dL (by simp[aP,ha]) o_
 refine⟨?_,by rw[f3];exact hb⟩;unfold Al;simp only[Nat.reduceAdd];rw[f0,f1,f2,f3,aBn a0,aBn o_,aBn o_];have hun:decide (((jS k.cD:Nat):Int)=1)=k.cD:=by cases k.cD<;>rfl
 rw[hun]
theorem G6{y:List UInt8}{cs:List aX}(h:tF y=some cs):dP cs=y∧∀c∈cs,c.ok:=by
 unfold tF at h;cases y with
 |nil=>cases h
 |cons a t =>
  dsimp only at h;split at h
  ·rename_i ht;obtain⟨h1,h2,_,h4⟩:=tC h ht;refine⟨?_,h4⟩;unfold dP;rw[h1,h2,UInt8.ofNat_toNat]
  ·cases h
theorem Je{l:List aX}(h48:l.length≤48)(hm:l.all aX.may=true)(hn:∀c∈l,dQ c.n):tF (dP l)=some l:=by
 have e:(UInt8.ofNat l.length).toNat=l.length:=by simp;omega
 unfold tF dP;dsimp only;rw[e,if_pos (jY l),DH hm hn]
theorem Mg.Nj{m:Mg}(h:m.check=0)(h1:m.kind=1):m.cV=true∧((0≤m.k0∧m.k0≤65535)∧(0≤m.k1∧m.k1≤65535)∧(0≤m.k2∧m.k2≤65535)∧0≤m.k3∧m.k3≤65535)∧0≤m.base∧m.base≤48:=by
 obtain⟨_,_,hf,_⟩:=Mg.bR h;have hq:=hf;unfold Mg.cV at hf;rw[if_pos h1] at hf;simp only[aAv,decide_eq_true_eq,sq,bs] at hf;exact⟨hq,⟨hf.1.1.1.1,hf.1.1.1.2,hf.1.1.2,hf.1.2⟩,hf.2⟩
theorem Mg.Ei{m:Mg}(h:m.check=0)(h1:m.kind=2):m.ids.length≤16∧m.ids.all bJ.may=true∧m.iS.length≤8∧m.iS.all aX.may=true∧0≤m.base∧m.base≤48:=by
 obtain⟨_,_,hf,_⟩:=Mg.bR h;unfold Mg.cV at hf;rw[if_neg o_,if_pos h1] at hf;simp only[aAv,decide_eq_true_eq,bs] at hf;exact⟨hf.1.1.1,hf.1.1.2,hf.1.2.1,hf.1.2.2,hf.2⟩
theorem Mg.UU{m:Mg}(h:m.check=0)(h1:m.kind=3):m.key.may=true∧m.bC.check=0:=by
 obtain⟨_,_,hf,_⟩:=Mg.bR h;unfold Mg.cV at hf;rw[if_neg o_,if_neg o_,if_pos h1] at hf;simpa using hf
theorem Mg.aGu{m:Mg}(h:m.check=0)(h1:m.kind=4):m.key.may=true:=by
 obtain⟨_,_,hf,_⟩:=Mg.bR h;unfold Mg.cV at hf
 rwa [if_neg o_,if_neg o_,if_neg o_] at hf
theorem Mg.ZZ{m:Mg}(h:m.check=0):0≤m.fr∧m.fr≤9∧0≤m.to∧m.to≤9:=by
 obtain⟨_,hp,_,_⟩:=Mg.bR h;unfold Mg.nT at hp;split at hp
 ·simp[wV] at hp;omega
 ·split at hp
  ·simp[wV] at hp;omega
  ·simp[wV] at hp;omega
theorem ID{x:List UInt8}{m:Mg}(h:Iw x=some m):m.check=0∧m.body=x∧m.ok:=by
 obtain⟨h1,hc⟩:=qT h;refine⟨hc,?_⟩;obtain⟨h3,_⟩:=vB h1;have hhd:=Ny x h3;have hl0:=eM x 0 1;rcases oA h1 with⟨f,h⟩|⟨f,h⟩|⟨f,h⟩|⟨f,h⟩
 ·unfold mask at h;split at h
  ·rename_i h12;injection h with h
   subst h;refine⟨?_,⟨λc hc=>(aAk hc).elim,dQ.zero⟩⟩;unfold Mg.body;dsimp only;rw[if_pos rfl,aAu,aAu,show(1:Int).toNat=bX x 0 1 by rw[f];rfl,hhd];have e:=yO [2,2,2,2,1] (x.drop 3) (by simp;omega);rw[show([2,2,2,2,1]:List Nat).sum=9 from rfl,aAj (by simp;omega)] at e;simp only[Ay,aBt,Nat.reduceAdd] at e;simp only[bX,aAu];rw[e,aAx]
  ·cases h
 ·unfold GG at h;split at h
  ·rename_i h8;cases hg:tF (x.drop (5+3*bX x 4 1)) with
   |none=>rw[hg] at h;cases h
   |some cs =>
    rw[hg] at h;injection h with h
    obtain⟨e1,e2⟩:=G6 hg;subst h;refine⟨?_,⟨λc hc=>(e2 c hc).2.2.2.2.2.1,dQ.zero⟩⟩;unfold Mg.body;dsimp only;rw[if_neg sD,if_pos rfl,aAu,aAu,aAu,show(2:Int).toNat=bX x 0 1 by rw[f];rfl,hhd,Hz _ _ _ o_,e1,yF];have e:=yO [1,1] (x.drop 3) (by simp;omega);simp only[Ay,aBt,Nat.reduceAdd] at e;simp only[bX];rw[e,←bX];have t1:([1,1]:List Nat).sum=2:=rfl;rw[t1,←aAb,←aAb];have t2:x.take 3++(x.drop 3).take 2=x.take 5:=(aDd (i:=3) (j:=2)).symm;have t3:x.take 5++(x.drop 5).take (3*bX x 4 1)=x.take (5+3*bX x 4 1):=aDd.symm;rw[t2,t3,aAx]
  ·cases h
 ·unfold PI at h;split at h
  ·rename_i h8;cases hg:eY (x.drop 8) with
   |none=>rw[hg] at h;cases h
   |some e =>
    rw[hg] at h;injection h with h
    obtain⟨e1,_⟩:=uE hg;have ho:=FX (x.drop 8);rw[←e1] at ho;subst h;refine⟨?_,⟨λc hc=>(aAk hc).elim,ho.2.2.1⟩⟩;unfold Mg.body;dsimp only;rw[if_neg sD,if_neg sD,if_pos rfl,aAu,aAu,show(3:Int).toNat=bX x 0 1 by rw[f];rfl,hhd,yS o_ h8.2,e1,DX (by simp;omega)];rw[←aAb,←aDd (i:=3) (j:=5),aAx]
  ·cases h
 ·unfold OR at h;split at h
  ·rename_i h8;injection h with h
   subst h;refine⟨?_,⟨λc hc=>(aAk hc).elim,dQ.zero⟩⟩;unfold Mg.body;dsimp only;rw[if_neg sD,if_neg sD,if_neg sD,aAu,aAu,show(4:Int).toNat=bX x 0 1 by rw[f];rfl,hhd,yS o_ h8.2];rw[←aDd (i:=3) (j:=5),aAj o_]
  ·cases h
theorem MS{m:Mg}(hc:m.check=0)(hn:m.ok):Iw m.body=some m:=by
 obtain⟨hk,_,_,hb⟩:=Mg.bR hc;obtain⟨f0,f1,t0,t1⟩:=Mg.ZZ hc;have hraw:B9 m.body=some m:=by
  have hl3:(fI [1,1,1] [m.kind.toNat,m.fr.toNat,m.to.toNat]).length=3:=by simp[fI,aP]
  have hfit:fit [1,1,1] [m.kind.toNat,m.fr.toNat,m.to.toNat]:=⟨by omega,by omega,by omega,trivial⟩
  have hd:∀t,bX (fI [1,1,1] [m.kind.toNat,m.fr.toNat,m.to.toNat]++t) 0 1=m.kind.toNat∧bX (fI [1,1,1] [m.kind.toNat,m.fr.toNat,m.to.toNat]++t) 1 1=m.fr.toNat∧bX (fI [1,1,1] [m.kind.toNat,m.fr.toNat,m.to.toNat]++t) 2 1=m.to.toNat:=by
   intro t;have e:=Ca _ _ t hfit;simp only[Ay,aBt,Nat.reduceAdd] at e;injection e with e1 e
   injection e with e2 e
   injection e with e3 e
   exact⟨e1,e2,e3⟩
  rcases(show m.kind=1∨m.kind=2∨m.kind=3∨m.kind=4 by omega) with h1|h1|h1|h1
  ·obtain⟨_,⟨⟨a0,a1⟩,⟨b0,b1⟩,⟨c0,c1⟩,d0,d1⟩,q0,q1⟩:=Mg.Nj hc h1;have hbody:m.body=fI [1,1,1] [m.kind.toNat,m.fr.toNat,m.to.toNat]++fI [2,2,2,2,1] [m.k0.toNat,m.k1.toNat,m.k2.toNat,m.k3.toNat,m.base.toNat]:=by
    unfold Mg.body;rw[if_pos h1]
   have hf2:fit [2,2,2,2,1] [m.k0.toNat,m.k1.toNat,m.k2.toNat,m.k3.toNat,m.base.toNat]:=⟨by omega,by omega,by omega,by omega,by omega,trivial⟩
   have hl2:=Bx _ _ hf2;have e:=Ca _ _ [] hf2;rw[aAc] at e;obtain⟨g0,g1,g2⟩:=hd (fI [2,2,2,2,1] [m.k0.toNat,m.k1.toNat,m.k2.toNat,m.k3.toNat,m.base.toNat]);rw[hbody];generalize fI [2,2,2,2,1] [m.k0.toNat,m.k1.toNat,m.k2.toNat,m.k3.toNat,m.base.toNat]=y at *;generalize fI [1,1,1] [m.kind.toNat,m.fr.toNat,m.to.toNat]=h at *;simp only[Ay,aBt,Nat.reduceAdd] at e;injection e with e1 e
   injection e with e2 e
   injection e with e3 e
   injection e with e4 e
   injection e with e5 e
   have hlen:(h++y).length=12:=by rw[aAe,hl3,hl2];rfl
   have k1:bX (h++y) 3 2=m.k0.toNat:=(jK (i:=0) hl3).trans (by unfold bX;rw[aCh];exact e1);have k2:bX (h++y) 5 2=m.k1.toNat:=(jK (i:=2) hl3).trans e2;have k3:bX (h++y) 7 2=m.k2.toNat:=(jK (i:=4) hl3).trans e3;have k4:bX (h++y) 9 2=m.k3.toNat:=(jK (i:=6) hl3).trans e4;have k5:bX (h++y) 11 1=m.base.toNat:=(jK (i:=8) hl3).trans e5;unfold B9;rw[if_neg o_,if_pos (by rw[g0];omega)];unfold mask;rw[if_pos hlen,g1,g2,k1,k2,k3,k4,k5];unfold Mg.bare at hb;rw[if_pos h1] at hb;have hb2:=Mg.eq_iff.1 hb;congr 1;rw[Mg.eq_iff];dsimp only at hb2⊢;refine⟨by omega,by omega,by omega,by omega,by omega,by omega,by omega,by omega,hb2.2.2.2.2.2.2.2.2.1,hb2.2.2.2.2.2.2.2.2.2.1,hb2.2.2.2.2.2.2.2.2.2.2.1,hb2.2.2.2.2.2.2.2.2.2.2.2⟩
  ·obtain⟨i0,i1,c0,c1,q0,q1⟩:=Mg.Ei hc h1;have hbody:m.body=fI [1,1,1] [m.kind.toNat,m.fr.toNat,m.to.toNat]++(fI [1,1] [m.base.toNat,m.ids.length]++(kH m.ids++dP m.iS)):=by
    unfold Mg.body;rw[if_neg o_,if_pos h1]
   have hf2:fit [1,1] [m.base.toNat,m.ids.length]:=⟨by omega,by omega,trivial⟩
   have hl2:(fI [1,1] [m.base.toNat,m.ids.length]).length=2:=Bx _ _ hf2;have e:=Ca _ _ (kH m.ids++dP m.iS) hf2;obtain⟨g0,g1,g2⟩:=hd (fI [1,1] [m.base.toNat,m.ids.length]++(kH m.ids++dP m.iS));rw[hbody];have hpre:(fI [1,1,1] [m.kind.toNat,m.fr.toNat,m.to.toNat]++fI [1,1] [m.base.toNat,m.ids.length]).length=5:=by rw[aAe,hl3,hl2]
   have hio:=Hw m.ids (fI [1,1,1] [m.kind.toNat,m.fr.toNat,m.to.toNat]++fI [1,1] [m.base.toNat,m.ids.length]) (dP m.iS) i1;rw[hpre,aAb] at hio;have hdr:(fI [1,1,1] [m.kind.toNat,m.fr.toNat,m.to.toNat]++(fI [1,1] [m.base.toNat,m.ids.length]++(kH m.ids++dP m.iS))).drop (5+3*m.ids.length)=dP m.iS:=by
    rw[←aAb,←aAb];exact aBu (by rw[aAe,hpre,jC])
   have hlen:(fI [1,1,1] [m.kind.toNat,m.fr.toNat,m.to.toNat]++(fI [1,1] [m.base.toNat,m.ids.length]++(kH m.ids++dP m.iS))).length=5+3*m.ids.length+(1+22*m.iS.length):=by
    rw[←aAb,aAe,hpre,aAe,jC,lZ];omega
   generalize fI [1,1] [m.base.toNat,m.ids.length]++(kH m.ids++dP m.iS)=y at *;generalize fI [1,1,1] [m.kind.toNat,m.fr.toNat,m.to.toNat]=h at *;simp only[Ay] at e;injection e with e1 e
   injection e with e2 e
   have k1:bX (h++y) 3 1=m.base.toNat:=(jK (i:=0) hl3).trans (by unfold bX;rw[aCh];exact e1);have k2:bX (h++y) 4 1=m.ids.length:=(jK (i:=1) hl3).trans e2;unfold B9;rw[if_neg o_,if_neg o_,if_pos (by rw[g0];omega)];unfold GG;rw[k1,k2,if_pos o_,hdr,Je o_ c1 hn.1,g1,g2,hio];unfold Mg.bare at hb;rw[if_neg o_,if_pos h1] at hb;have hb2:=Mg.eq_iff.1 hb;show some _=some _;congr 1;rw[Mg.eq_iff];dsimp only at hb2⊢;refine⟨by omega,by omega,by omega,by omega,by omega,by omega,by omega,by omega,rfl,rfl,hb2.2.2.2.2.2.2.2.2.2.2.1,hb2.2.2.2.2.2.2.2.2.2.2.2⟩
  ·obtain⟨i0,i1⟩:=Mg.UU hc h1;have hbody:m.body=fI [1,1,1] [m.kind.toNat,m.fr.toNat,m.to.toNat]++(fI kW (kK m.key)++m.bC.put):=by
    unfold Mg.body;rw[if_neg o_,if_neg o_,if_pos h1]
   obtain⟨g0,g1,g2⟩:=hd (fI kW (kK m.key)++m.bC.put);obtain⟨k0,k1⟩:=D3 i0 (t:=m.bC.put) hl3;have hlk:(fI [1,1,1] [m.kind.toNat,m.fr.toNat,m.to.toNat]++fI kW (kK m.key)).length=8:=by rw[aAe,hl3];simp[fI,kK,aP]
   have hdr:(fI [1,1,1] [m.kind.toNat,m.fr.toNat,m.to.toNat]++(fI kW (kK m.key)++m.bC.put)).drop 8=m.bC.put:=by
    rw[←aAb];exact aBu hlk
   have hlen:(fI [1,1,1] [m.kind.toNat,m.fr.toNat,m.to.toNat]++(fI kW (kK m.key)++m.bC.put)).length=21:=by
    rw[←aAb,aAe,hlk,cQ.bD]
   rw[hbody];generalize fI kW (kK m.key)++m.bC.put=y at *;generalize fI [1,1,1] [m.kind.toNat,m.fr.toNat,m.to.toNat]=h at *;unfold B9;rw[if_neg o_,if_neg o_,if_neg o_,if_pos (by rw[g0];omega)];unfold PI;rw[if_pos ⟨hlen,k1⟩,hdr,Cg i1 hn.2,g1,g2,k0];unfold Mg.bare at hb;rw[if_neg o_,if_neg o_,if_pos h1] at hb;have hb2:=Mg.eq_iff.1 hb;show some _=some _;congr 1;rw[Mg.eq_iff];dsimp only at hb2⊢;refine⟨by omega,by omega,by omega,by omega,by omega,by omega,by omega,by omega,hb2.2.2.2.2.2.2.2.2.1,hb2.2.2.2.2.2.2.2.2.2.1,rfl,rfl⟩
  ·have i0:=Mg.aGu hc h1;have hbody:m.body=fI [1,1,1] [m.kind.toNat,m.fr.toNat,m.to.toNat]++(fI kW (kK m.key)++[]):=by
    unfold Mg.body;rw[if_neg o_,if_neg o_,if_neg o_,aAc]
   obtain⟨g0,g1,g2⟩:=hd (fI kW (kK m.key)++[]);obtain⟨k0,k1⟩:=D3 i0 (t:=[]) hl3;have hlen:(fI [1,1,1] [m.kind.toNat,m.fr.toNat,m.to.toNat]++(fI kW (kK m.key)++[])).length=8:=by rw[aAe,hl3];simp[fI,kK,aP]
   rw[hbody];generalize fI kW (kK m.key)++[]=y at *;generalize fI [1,1,1] [m.kind.toNat,m.fr.toNat,m.to.toNat]=h at *;unfold B9;rw[if_neg o_,if_neg o_,if_neg o_,if_neg o_,if_pos (by rw[g0];omega)];unfold OR;rw[if_pos ⟨hlen,k1⟩,g1,g2,k0];unfold Mg.bare at hb;rw[if_neg o_,if_neg o_,if_neg o_,if_pos h1] at hb;have hb2:=Mg.eq_iff.1 hb;congr 1;rw[Mg.eq_iff];dsimp only at hb2⊢;refine⟨by omega,by omega,by omega,by omega,by omega,by omega,by omega,by omega,hb2.2.2.2.2.2.2.2.2.1,hb2.2.2.2.2.2.2.2.2.2.1,rfl,hb2.2.2.2.2.2.2.2.2.2.2.2⟩
 unfold Iw;rw[hraw];exact if_pos hc
open Frm in
def mM(b:List UInt8):Option Mg:=match kG b with
 |some (x,k)=>if k=b.length then Iw x else none
 |none=>none
theorem IG{b x:List UInt8}(h:Frm.kG b=some (x,b.length)):Frm.fr x=b:=by
 unfold Frm.kG at h;split at h
 ·rename_i ho;injection h with h
  injection h with h1 h2
  obtain⟨q1,q2,q3,q4,q5,q6⟩:=ho;have e:=(Frm.Hf q1 q2 q4).1 ⟨q5,q6⟩;rw[h1,aAj o_] at e;exact e
 ·cases h
theorem Mg.size{m:Mg}(h:m.check=0):1≤m.body.length∧m.body.length≤300:=by
 obtain⟨hk,_,_,_⟩:=Mg.bR h;have h3:(fI [1,1,1] [m.kind.toNat,m.fr.toNat,m.to.toNat]).length=3:=by simp[fI,aP]
 have h5:(fI kW (kK m.key)).length=5:=by simp[fI,kK,aP]
 unfold Mg.body;rw[aAe,h3];split
 ·simp[fI,aP]
 ·split
  ·rename_i h2;obtain⟨i0,_,c0,_⟩:=Mg.Ei h h2;simp only[aAe,jC,lZ,fI,aP,aDh];omega
  ·split
   ·rw[aAe,h5,cQ.bD];omega
   ·rw[h5];omega
theorem tU{b:List UInt8}{m:Mg}(h:mM b=some m):m.check=0∧m.enc=b∧m.ok:=by
 unfold mM at h;split at h
 ·rename_i x k hf;split at h
  ·rename_i hk;subst hk;obtain⟨h1,h2,h3⟩:=ID h;refine⟨h1,?_,h3⟩;unfold Mg.enc;rw[h2,IG hf]
  ·cases h
 ·cases h
theorem MR{m:Mg}(hc:m.check=0)(hn:m.ok):mM m.enc=some m:=by
 obtain⟨h1,h2⟩:=Mg.size hc;have h:=Frm.yY (t:=[]) h1 o_;rw[aAc] at h;unfold mM Mg.enc;rw[h];dsimp only;rw[if_pos (Frm.bO _).symm,MS hc hn]
theorem M7{b x:List UInt8}{m:Mg}(hx:((Frm.kG b).map Prod.fst).getD []=x)(hm:Lm x m)(hn:m.ok):mM b=if m.check=0∧m.enc=b then some m else none:=by
 by_cases h:m.check=0∧m.enc=b
 ·rw[if_pos h,←h.2,MR h.1 hn]
 ·rw[if_neg h];cases hf:mM b with
  |none=>rfl
  |some m0 =>
   exfalso;obtain⟨h1,h2,h3⟩:=tU hf;unfold mM at hf;split at hf
   ·rename_i y k hg;rw[hg] at hx;change y=x at hx;subst hx;split at hf
    ·have:=hm _ hf;subst this;exact h ⟨h1,h2⟩
    ·cases hf
   ·cases hf
theorem aJd{l:List UInt8}{i:Nat}{y:UInt8}(hi:i<l.length)(h:l.set i y=l):l[i]?=some y:=by
 rw[←h,aGh hi]
theorem aIt{a c:List UInt8}{i:Nat}{y:UInt8}(hl:a.length=c.length)(hi:i<c.length+7)(hy:(Frm.fr c)[i]?≠some y)(h:Frm.fr a=(Frm.fr c).set i y):False:=by
 have hii:i<(Frm.fr c).length:=by rw[Frm.bO];exact hi
 have e:∀z,Frm.fr z=be z.length 2++(z++(be (Crc.sum z) 4++[90])):=λz=>by unfold Frm.fr;simp only[aAb]
 have hp:=aP c.length 2;have hback:(Frm.fr c).set i y≠Frm.fr c:=λhq=>hy (aJd hii hq);rw[e a,e c,hl] at h;rw[e c] at hback;rw[List.set_append] at h hback;split at h
 ·rename_i h1;rw[if_pos h1] at hback;have h2:=aGc h (by rw[aAt]);rw[←h2.1] at hback;exact hback rfl
 ·rename_i h1;rw[if_neg h1] at hback;have h2:=List.append_cancel_left h;have hback2:=λhq=>hback (congrArg (be c.length 2++·) hq);rw[hp] at h2 hback2;rw[List.set_append] at h2 hback2;split at h2
  ·rename_i h3;have h4:=aGc h2 (by rw[aAt,hl]);have h5:=(aGc h4.2 (by rw[aP,aP])).1;have h6:=aJg 4 _ _ (Crc.EW a) (Crc.EW c) h5;have hs:=aDg (l:=c) (i:=i - 2) (a:=y);rw[if_pos h3] at hs;have hcc:c.take (i - 2)++c[i - 2]::c.drop (i - 2+1)=c:=by rw[←aAm h3,aAx]
   rw[h4.1,hs] at h6;have hne:y≠c[i - 2]:=by
    intro hq;apply hback2;rw[if_pos h3,hs,hq,hcc]
   refine Crc.aJc (c.take (i - 2)) (c.drop (i - 2+1)) y c[i - 2] hne ?_;rw[h6,hcc]
  ·rename_i h3;rw[if_neg h3] at hback2;have h4:=aGc h2 hl;apply hback2;rw[←h4.2,h4.1]
theorem aHr{m:Mg}{i:Nat}{y:UInt8}(hi:i<m.body.length+7)(hy:m.enc[i]?≠some y):mM (m.enc.set i y)=none:=by
 cases hf:mM (m.enc.set i y) with
 |none=>rfl
 |some m0 =>
  exfalso;obtain⟨h1,h2,_⟩:=tU hf;have hl:m0.body.length=m.body.length:=by
   have:=congrArg List.length h2;unfold Mg.enc at this;rw[aAt,Frm.bO,Frm.bO] at this;omega
  exact aIt hl hi hy h2
end Go.Proofs.YtmilalkjbojciaaGreat.Sep
namespace Go.Proofs.YtmilalkjbojciaaGreat.Sep
open Go.RowKit Reg Oct
open Mem hiding Rd
def MT(g:Nat)(A:Option Addr)(n c:Nat)(l:List UInt8)(s:Rs)(v:Value)(e:Ending)(H':List aL):Prop:=∃A' n' c',e=.returned v∧nS A n c l A' n' c' s.2∧H'=[pC g true s.1 A' n' c']
abbrev rv(g:Nat):Value:=.agg #[.pointer (some ⟨g,0,none⟩)]
section
variable (E:Env) (g:Nat) (A:Option Addr) (n c:Nat)
theorem kO(s s':Rs)(w:Nat)(v:Int)(hs:jV s w=s')(hv:((vl s w:Nat):Int)=v)(W:Int)(hW:W=w)(hw:w=1∨w=2)(hr:Rd E aU A n c s.2) :
  aK prog E 186 #[rv g,.int .i64 W] [pC g true s.1 A n c] (MT g A n c s.2 s' (.int .i64 v)):=by
 subst hs hv;have hwid:wid W=(w:Int):=by unfold wid;rw[if_neg o_];exact hW
 have hlt:=jR s w;have hlt3:256 ^ w≤65536:=by rcases hw with rfl|rfl<;>decide
 have hlt2:vl s w<18446744073709551616:=o_;have hc:IntKind.i64.wrap ((vl s w:Nat):Int)=((vl s w:Nat):Int):=(qZ hlt2).trans (cN o_);refine t_ func186 ntmps186 ?_;repeat first|refine aE ?_|intro
 refine dX (λM=>iG M g s.1 A n c s.2 W) ?_;obtain⟨o,ho⟩:∃o,nx s.1 s.2 (w:Int)=(o,jV s w):=⟨_,rfl⟩
 have htk:=Gl s w;rw[ho] at htk;rw[hwid,ho];rintro e H' ⟨A',n',c',rfl,hal,rfl⟩;dsimp only at htk hal⊢;rw[htk];repeat first|refine aE ?_|intro
 exact jQ ⟨_,_,_,rfl,hal,rfl⟩
theorem BI(s:Rs)(hr:Rd E aU A n c s.2):aK prog E 246 #[rv g] [pC g true s.1 A n c] (MT g A n c s.2 (Ar s) (.agg (CG s).cs.toArray)):=by
 refine t_ func246 ntmps246 ?_;repeat first|refine aE ?_|intro
 rename_i gb gr;refine rB (l_ [0,2] (g_ 1 (g_ 3 (n_ 4 (g_ 5 .nil))))) ([aJ gb 279 [.pointer (some ⟨g,0,none⟩)]]) ?_;repeat first|refine aE ?_|intro
 refine cg rfl sD bA sK aC (λM hE=>kO M g A n c s (jV s 1) 1 _ rfl rfl 1 rfl (.inl rfl) dB) ?_;rintro e H' ⟨A1,n1,c1,rfl,hal1,rfl⟩;repeat first|refine aE ?_|intro
 refine cg rfl sD bA sK aC (λM hE=>kO M g A1 n1 c1 (jV s 1) (Ar s) 2 _ rfl rfl 2 rfl (.inr rfl) (hal1 _ dB)) ?_;rintro e H' ⟨A2,n2,c2,rfl,hal2,rfl⟩;repeat first|refine aE ?_|intro
 apply cI;(· exact rfl);(· exact aF);(· exact rfl);(· exact rfl);(· exact rfl);(· exact aS);(· exact rfl);rotate_left;(· exact(⟨_,_,_,rfl,hal1.trans hal2,rfl⟩));(· exact aA)
theorem Wp(s:Rs)(hr:Rd E aU A n c s.2):aK prog E 249 #[rv g] [pC g true s.1 A n c] (MT g A n c s.2 (An s) (.agg (xP s).cs.toArray)):=by
 refine t_ func249 ntmps249 ?_;repeat first|refine aE ?_|intro
 rename_i gb gr;refine rB (l_ [0,2,4] (g_ 1 (g_ 3 (g_ 5 (l_ [6,7] (g_ 8 .nil)))))) ([aJ gb 279 [.pointer (some ⟨g,0,none⟩)]]) ?_;repeat first|refine aE ?_|intro
 refine C2 (λM=>BI M g A n c s) ?_;rintro e H' ⟨A1,n1,c1,rfl,hal1,rfl⟩;repeat first|refine aE ?_|intro
 refine cg rfl sD bA sK aC (λM hE=>kO M g A1 n1 c1 (Ar s) (jV (Ar s) 1) 1 _ rfl rfl 1 rfl (.inl rfl) (hal1 _ dB)) ?_;rintro e H' ⟨A2,n2,c2,rfl,hal2,rfl⟩;repeat first|refine aE ?_|intro
 refine cg rfl sD bA sK aC (λM hE=>kO M g A2 n2 c2 (jV (Ar s) 1) (An s) 1 _ rfl rfl 1 rfl (.inl rfl) (hal2 _ (hal1 _ dB))) ?_;rintro e H' ⟨A3,n3,c3,rfl,hal3,rfl⟩;repeat first|refine aE ?_|intro
 apply cI;(· exact rfl);(· exact aF);(· exact rfl);(· exact rfl);(· exact rfl);(· exact aS);(· exact rfl);rotate_left;(· exact(⟨_,_,_,rfl,(hal1.trans hal2).trans hal3,rfl⟩));(· exact aA)
end
theorem aK.NV{P:Program}{E:Env}{f:FuncId}{args:Array Value}{H:List aL}{Q Q':Ending→List aL→Prop}(h:aK P E f args H Q)(hq:∀e H',Q e H'→∃H'',Q' e H''∧aB E H' H''):aK P E f args H Q':=by
 exact λhds w hw=>(h hds w hw).mono λ_ _ ⟨H',h1,h2⟩=>(hq _ _ h2).elim λH'' h3=>⟨H'',h3.2 _ h1,h3.1⟩
theorem pM{P:Program}{E:Env}{fn:Func}{R:Ending→List aL→Prop}{F:Nat→Value}{H H1:List aL}{e:Ex}(hc:aB E H H1)(h:gF P E fn R e F H1)(hp:∀c,e≠.panic c:=by intro c h;cases h):gF P E fn R e F H:=by
 cases e with
 |panic c=>exact absurd rfl (hp c)
 |normal=>obtain⟨v,H',h1,h2,h3⟩:=h;exact⟨v,H',λw hw=>h1 w (hc w hw),hc.trans h2,h3⟩
 |ret=>obtain⟨v,H',h1,h2,h3⟩:=h;exact⟨v,H',λw hw=>h1 w (hc w hw),hc.trans h2,h3⟩
 |exit id=>exact h
theorem kZ(s:Rs)(w:Nat):(jV s w).2.length≤s.2.length:=by
 unfold jV nx;split
 ·exact aAf _
 ·split
  ·exact aAf _
  ·simp
theorem EJ(s:Rs)(i:Nat):(lC s i).2.length≤s.2.length:=by
 induction i with
 |zero=>exact aAf _
 |succ i ih=>exact aBw (aBw (kZ _ _) (kZ _ _)) ih
def M6(s:Rs):Nat→Int×Int×Int×Int
 |0=>(0,0,0,0)
 |1=>(vA s 0,0,0,0)
 |2=>(vA s 0,vA s 1,0,0)
 |3=>(vA s 0,vA s 1,vA s 2,0)
 |_=>(vA s 0,vA s 1,vA s 2,vA s 3)
section
variable (E:Env) (A:Option Addr) (n c:Nat)
theorem Wi(l:List UInt8)(hr:Rd E aU A n c l)(hl:n≤140737488355300):aK prog E 248 #[.slice A n c] [] λe H'=>∃O co ek,e=.returned (.tuple #[.slice O (MP l).length co,.int .i64 ek])∧H'=[own bE O (MP l).length co (MP l)]:=by
 by_cases h:∃x t,l=x::t∧x.toNat≤48∧t.length=22*x.toNat
 ·obtain⟨x,t,rfl,h1,h2⟩:=h;refine aK.NV (N6 E A n c x t hr h1 h2) ?_;have hl:MP (x::t)=(pieces x.toNat t).getD []:=if_pos ⟨h1,h2⟩;rw[hl];cases pieces x.toNat t with
  |none =>
   rintro e H' ⟨rfl,rfl⟩;exact⟨_,⟨none,0,16,rfl,rfl⟩,aB.nil bE⟩
  |some xs =>
   rintro e H' ⟨O,co,rfl,rfl⟩;exact⟨_,⟨O,co,0,rfl,rfl⟩,aB.refl⟩
 ·refine aK.NV (NC E A n c l hr hl λx t he hq=>h ⟨x,t,he,hq⟩) ?_;have hl:MP l=[]:=by
   unfold MP;split
   ·rfl
   ·exact if_neg λhq=>h ⟨_,_,rfl,hq⟩
  rw[hl];rintro e H' ⟨rfl,rfl⟩;exact⟨_,⟨none,0,16,rfl,rfl⟩,aB.nil bE⟩
theorem P1(hr:Rd E aU A n c []):aK prog E 250 #[.slice A n c] [] λe H'=>e=.returned (.tuple #[.agg rZ.cs.toArray,.int .i64 16])∧H'=[]:=by
 have hn:=hr.len;have hcap:=hr.cap;have o1:1≤1∧1≤8:=o_;have o2:1≤2∧2≤8:=o_;have o8:1≤8∧8≤8:=o_;have hst:st fK [] 5=(true,[]):=rfl;have v0:va fK [] 0=0:=rfl;have v1:va fK [] 1=0:=rfl;have v2:va fK [] 2=0:=rfl;have v3:va fK [] 3=0:=rfl;have v4:va fK [] 4=0:=rfl;refine t_ func250 ntmps250 ?_;repeat first|refine aE ?_|intro
 refine dX (λM h1=>lD M A n c [] h1 (by simp at hn;omega)) ?_;rintro e H' ⟨g,A0,c0,rfl,h5,h6,rfl⟩;refine gk bG ?_;unfold Bs;repeat first|refine aE ?_|intro
 rename_i gres gr;refine L.step sD (S.cW rfl eS rfl rfl func297 q_ rfl aC (λM hE=>iK M gr g (false,[]) (st fK [] 1) 1 0 rfl v0 A0 n c0 1 rfl o1 dB) ?_);rintro e H' ⟨A1,n1,c1,rfl,hal1,rfl⟩;repeat first|refine aE ?_|intro
 refine L.step sD (S.cW rfl eS rfl rfl func297 q_ rfl aC (λM hE=>iK M gr g (st fK [] 1) (st fK [] 2) 1 0 rfl v1 A1 n1 c1 1 rfl o1 (hal1 _ dB)) ?_);rintro e H' ⟨A2,n2,c2,rfl,hal2,rfl⟩;repeat first|refine aE ?_|intro
 refine L.step sD (S.cW rfl eS rfl rfl func297 q_ rfl aC (λM hE=>iK M gr g (st fK [] 2) (st fK [] 3) 8 0 rfl v2 A2 n2 c2 8 rfl o8 (hal2 _ (hal1 _ dB))) ?_);rintro e H' ⟨A3,n3,c3,rfl,hal3,rfl⟩;repeat first|refine aE ?_|intro
 refine L.step sD (S.cW rfl eS rfl rfl func297 q_ rfl aC (λM hE=>iK M gr g (st fK [] 3) (st fK [] 4) 1 0 rfl v3 A3 n3 c3 1 rfl o1 (hal3 _ (hal2 _ (hal1 _ dB)))) ?_);rintro e H' ⟨A4,n4,c4,rfl,hal4,rfl⟩;repeat first|refine aE ?_|intro
 refine L.step sD (S.cW rfl eS rfl rfl func297 q_ rfl aC (λM hE=>iK M gr g (st fK [] 4) (st fK [] 5) 2 0 rfl v4 A4 n4 c4 2 rfl o2 (hal4 _ (hal3 _ (hal2 _ (hal1 _ dB))))) ?_);rintro e H' ⟨A5,n5,c5,rfl,hal5,rfl⟩;repeat first|refine aE ?_|intro
 rw[hst] at hal5⊢;dsimp only at hal5⊢;refine cl sD sK aC (λM hE=>xV M g true A5 n5 c5 [] (hal5 _ (hal4 _ (hal3 _ (hal2 _ (hal1 _ dB)))))) ?_;rintro e H' ⟨rfl,rfl⟩;repeat first|refine aE ?_|intro
 exact Qv
theorem Wa(o:Option (List UInt8))(ho:∀y,o=some y→y.length=13)(hr:Rd E aU A n c (o.getD [])):aK prog E 250 #[.slice A n c] [] λe H'=>∃ek,e=.returned (.tuple #[.agg ((o.bind eY).getD rZ).cs.toArray,.int .i64 ek])∧H'=[]:=by
 cases o with
 |none =>
  refine aK.mono (P1 E A n c hr) ?_;rintro e H' ⟨rfl,rfl⟩;exact⟨16,rfl,rfl⟩
 |some y =>
  have hl:=hr.len;refine aK.mono (HO E A n c y _ rfl hr (hl.trans (ho y rfl))) ?_;rintro e H' ⟨rfl,rfl⟩;exact⟨_,rfl,rfl⟩
end
abbrev kz:bP:=⟨⟨0,0⟩,0,false⟩
abbrev ez:cQ:=⟨0,0,0,⟨0,0⟩⟩
abbrev QY(kd fr to:Int):Mg:=⟨kd,fr,to,0,0,0,0,0,[],[],kz,ez⟩
section
variable (E:Env) (g gm:Nat) (A:Option Addr) (n c:Nat) (s:Rs) (fr to:Int)
def MB(g gm:Nat)(m:Mg)(e:Ending)(H':List aL):Prop:=∃O p q B k d s' A' n' c',e=.returned (.tuple #[])∧H'=[aJ gm 195 (oK m O p q B k d),own fN O p q m.ids,own bE B k d m.iS,pC g true s' A' n' c']
theorem y8(hr:Rd E aU A n c s.2):aK prog E 187 #[rv g,.pointer (some ⟨gm,0,none⟩)] [aJ gm 195 (oK (QY 1 fr to) none 0 0 none 0 0),pC g true s.1 A n c] (MB g gm ⟨1,fr,to,vA s 0,vA s 1,vA s 2,vA s 3,(vl (FO s 4) 1:Nat),[],[],kz,ez⟩):=by
 refine t_ func187 ntmps187 ?_;repeat first|refine aE ?_|intro
 rename_i gb;refine C.loop (X:=Nat×(Int×Int×Int×Int)×Option Addr×Nat×Nat) (λx=>[(1,.pointer (some ⟨gm,0,none⟩)),(2,.pointer (some ⟨gb,0,none⟩)),(12,.int .i64 1),(15,.int .i64 x.1)]) (λx=>[aJ gb 279 [.pointer (some ⟨g,0,none⟩)],aJ gm 195 (oK ⟨1,fr,to,x.2.1.1,x.2.1.2.1,x.2.1.2.2.1,x.2.1.2.2.2,0,[],[],kz,ez⟩ none 0 0 none 0 0),pC g true (FO s x.1).1 x.2.2.1 x.2.2.2.1 x.2.2.2.2]) (λx=>x.1≤4∧x.2.1=M6 s x.1∧nS A n c s.2 x.2.2.1 x.2.2.2.1 x.2.2.2.2 (FO s x.1).2) (λx=>4 - x.1) (0,(0,0,0,0),A,n,c) aD aA ⟨aAh _,rfl,nS.refl⟩ ?_;rintro⟨i,t,A1,n1,c1⟩ G ⟨hi,ht,hal⟩;dsimp only at hi ht hal⊢;subst ht;rcases(show i=0∨i=1∨i=2∨i=3∨i=4 by omega) with rfl|rfl|rfl|rfl|rfl
 ·dsimp only[M6];repeat first|refine aE ?_|intro
  refine rB (l_ [0,1,2,4,5] (g_ 3 (n_ 6 (g_ 7 .nil)))) ([aJ gb 279 [.pointer (some ⟨g,0,none⟩)]]) ?_;repeat first|refine aE ?_|intro
  refine cg rfl sD bA sK aC (λM hE=>kO M g A1 n1 c1 (FO s 0) (FO s 1) 2 (vA s 0) rfl rfl 2 rfl (.inr rfl) (hal _ dB)) ?_;rintro e H' ⟨A2,n2,c2,rfl,hal2,rfl⟩;repeat first|refine aE ?_|intro
  exact⟨(1,(vA s 0,0,0,0),A2,n2,c2),aD,aA,⟨by dsimp only;omega,rfl,hal.trans hal2⟩,by dsimp only;omega⟩
 ·dsimp only[M6];repeat first|refine aE ?_|intro
  refine rB (l_ [0,1,2,4,5] (g_ 3 (n_ 6 (g_ 7 .nil)))) ([aJ gb 279 [.pointer (some ⟨g,0,none⟩)]]) ?_;repeat first|refine aE ?_|intro
  refine cg rfl sD bA sK aC (λM hE=>kO M g A1 n1 c1 (FO s 1) (FO s 2) 2 (vA s 1) rfl rfl 2 rfl (.inr rfl) (hal _ dB)) ?_;rintro e H' ⟨A2,n2,c2,rfl,hal2,rfl⟩;repeat first|refine aE ?_|intro
  exact⟨(2,(vA s 0,vA s 1,0,0),A2,n2,c2),aD,aA,⟨by dsimp only;omega,rfl,hal.trans hal2⟩,by dsimp only;omega⟩
 ·dsimp only[M6];repeat first|refine aE ?_|intro
  refine rB (l_ [0,1,2,4,5] (g_ 3 (n_ 6 (g_ 7 .nil)))) ([aJ gb 279 [.pointer (some ⟨g,0,none⟩)]]) ?_;repeat first|refine aE ?_|intro
  refine cg rfl sD bA sK aC (λM hE=>kO M g A1 n1 c1 (FO s 2) (FO s 3) 2 (vA s 2) rfl rfl 2 rfl (.inr rfl) (hal _ dB)) ?_;rintro e H' ⟨A2,n2,c2,rfl,hal2,rfl⟩;repeat first|refine aE ?_|intro
  exact⟨(3,(vA s 0,vA s 1,vA s 2,0),A2,n2,c2),aD,aA,⟨by dsimp only;omega,rfl,hal.trans hal2⟩,by dsimp only;omega⟩
 ·dsimp only[M6];repeat first|refine aE ?_|intro
  refine rB (l_ [0,1,2,4,5] (g_ 3 (n_ 6 (g_ 7 .nil)))) ([aJ gb 279 [.pointer (some ⟨g,0,none⟩)]]) ?_;repeat first|refine aE ?_|intro
  refine cg rfl sD bA sK aC (λM hE=>kO M g A1 n1 c1 (FO s 3) (FO s 4) 2 (vA s 3) rfl rfl 2 rfl (.inr rfl) (hal _ dB)) ?_;rintro e H' ⟨A2,n2,c2,rfl,hal2,rfl⟩;repeat first|refine aE ?_|intro
  exact⟨(4,(vA s 0,vA s 1,vA s 2,vA s 3),A2,n2,c2),aD,aA,⟨by dsimp only;omega,rfl,hal.trans hal2⟩,by dsimp only;omega⟩
 ·dsimp only[M6];repeat first|refine aE ?_|intro
  refine cl sD sK aC (λM hE=>kO M g A1 n1 c1 (FO s 4) (jV (FO s 4) 1) 1 (vl (FO s 4) 1:Nat) rfl rfl 1 rfl (.inl rfl) (hal _ dB)) ?_;rintro e H' ⟨A2,n2,c2,rfl,hal2,rfl⟩;repeat first|refine aE ?_|intro
  refine pM ((aB.nil bE).trans (aB.nil fN)) ?_;exact gO rfl aA (⟨none,0,0,none,0,0,_,_,_,_,rfl,rfl⟩)
theorem u4(hr:Rd E aU A n c s.2):aK prog E 187 #[rv g,.pointer (some ⟨gm,0,none⟩)] [aJ gm 195 (oK (QY 4 fr to) none 0 0 none 0 0),pC g true s.1 A n c] (MB g gm ⟨4,fr,to,0,0,0,0,0,[],[],xP s,ez⟩):=by
 refine t_ func187 ntmps187 ?_;repeat first|refine aE ?_|intro
 refine dX (λM=>Wp M g A n c s) ?_;rintro e H' ⟨A2,n2,c2,rfl,hal2,rfl⟩;refine gk bG ?_;generalize xP s=ky at *;repeat first|refine aE ?_|intro
 refine pM ((aB.nil bE).trans (aB.nil fN)) ?_;exact gO rfl aA (⟨none,0,0,none,0,0,_,_,_,_,rfl,rfl⟩)
theorem mb0(kd:Int)(hk:¬(1≤kd∧kd≤4)):aK prog E 187 #[rv g,.pointer (some ⟨gm,0,none⟩)] [aJ gm 195 (oK (QY kd fr to) none 0 0 none 0 0),pC g true s.1 A n c] (MB g gm (QY kd fr to)):=by
 have k1:decide (kd=1)=false:=decide_eq_false o_;have k2:decide (kd=2)=false:=decide_eq_false o_;have k3:decide (kd=3)=false:=decide_eq_false o_;have k4:decide (kd=4)=false:=decide_eq_false o_;refine t_ func187 ntmps187 ?_;repeat first|refine aE ?_|intro
 refine pM ((aB.nil bE).trans (aB.nil fN)) ?_;exact gO rfl aA (⟨none,0,0,none,0,0,_,_,_,_,rfl,rfl⟩)
theorem x8(hr:Rd E aU A n c s.2)(hl:s.2.length≤140737488355300):aK prog E 187 #[rv g,.pointer (some ⟨gm,0,none⟩)] [aJ gm 195 (oK (QY 3 fr to) none 0 0 none 0 0),pC g true s.1 A n c] (MB g gm ⟨3,fr,to,0,0,0,0,0,[],[],xP s,IJ (An s)⟩):=by
 have hl2:(An s).2.length≤140737488355328:=aBw (aBw (aBw (kZ _ _) (kZ _ _)) (aBw (kZ _ _) (kZ _ _))) (aBw hl sD);refine t_ func187 ntmps187 ?_;repeat first|refine aE ?_|intro
 refine dX (λM=>Wp M g A n c s) ?_;rintro e H' ⟨A2,n2,c2,rfl,hal2,rfl⟩;refine gk bG ?_;generalize xP s=ky at *;generalize An s=s2 at *;repeat first|refine aE ?_|intro
 refine cl sD sK aC (λM hE=>kR M g s2.1 A2 n2 c2 s2.2 13 (hal2 _ dB) hl2) ?_;have ho:∀y,(nx s2.1 s2.2 13).1=some y→y.length=13:=λy hy=>by have:=(Fw hy).2;omega
 have he:IJ s2=((nx s2.1 s2.2 13).1.bind eY).getD rZ:=rfl;generalize nx s2.1 s2.2 13=o at *;rintro e H' ⟨A3,n3,c3,B,d,rfl,hal3,hmd,hd3,rfl⟩;repeat first|refine aE ?_|intro
 refine dX (λM=>Wa M B _ d o.1 ho) ?_;rw[←he];generalize IJ s2=f at *;rintro e H' ⟨ek,rfl,rfl⟩;repeat first|refine aE ?_|intro
 refine pM ((aB.nil bE).trans (aB.nil fN)) ?_;exact gO rfl aA (⟨none,0,0,none,0,0,_,_,_,_,rfl,rfl⟩)
theorem x7(hr:Rd E aU A n c s.2)(hl:s.2.length≤140737488355300):aK prog E 187 #[rv g,.pointer (some ⟨gm,0,none⟩)] [aJ gm 195 (oK (QY 2 fr to) none 0 0 none 0 0),pC g true s.1 A n c] (MB g gm ⟨2,fr,to,0,0,0,0,(vl s 1:Nat),tH (jV (jV s 1) 1) (Rx (jV s 1)),MP (T6 (lC (jV (jV s 1) 1) (Rx (jV s 1)))),kz,ez⟩):=by
 refine t_ func187 ntmps187 ?_;repeat first|refine aE ?_|intro
 refine dX (λM=>kO M g A n c s (jV s 1) 1 (vl s 1:Nat) rfl rfl 1 rfl (.inl rfl)) ?_;rintro e H' ⟨A1,n1,c1,rfl,hal1,rfl⟩;repeat first|refine aE ?_|intro
 refine cl sD sK aC (λM hE=>kO M g A1 n1 c1 (jV s 1) (jV (jV s 1) 1) 1 (vl (jV s 1) 1:Nat) rfl rfl 1 rfl (.inl rfl) (hal1 _ dB)) ?_;rintro e H' ⟨A2,n2,c2,rfl,hal2,rfl⟩;refine gk bG ?_;have hmin:min (vl (jV s 1) 1:Int) 16=(Rx (jV s 1):Nat):=by unfold Rx;omega
 have hsl:(jV (jV s 1) 1).2.length≤140737488355300:=aBw (aBw (kZ _ _) (kZ _ _)) hl;have hN:Rx (jV s 1)≤16:=Nat.min_le_right _ _;have hal:nS A n c s.2 A2 n2 c2 (jV (jV s 1) 1).2:=hal1.trans hal2;generalize Rx (jV s 1)=N at *;generalize jV (jV s 1) 1=s2 at *;generalize vl s 1=base at *;repeat first|refine aE ?_|intro
 rw[hmin];rename_i gb;refine C.loop (X:=Nat×(Option Addr×Nat)×Option Addr×Nat×Nat) (λx=>[(1,.pointer (some ⟨gm,0,none⟩)),(2,.pointer (some ⟨gb,0,none⟩)),(12,.int .i64 2),(40,.int .i64 N),(41,.int .i64 x.1)]) (λx=>[aJ gb 279 [.pointer (some ⟨g,0,none⟩)],aJ gm 195 (oK ⟨2,fr,to,0,0,0,0,base,[],[],kz,ez⟩ x.2.1.1 x.1 x.2.1.2 none 0 0),own fN x.2.1.1 x.1 x.2.1.2 (tH s2 x.1),pC g true (lC s2 x.1).1 x.2.2.1 x.2.2.2.1 x.2.2.2.2]) (λx=>x.1≤N∧nS A n c s.2 x.2.2.1 x.2.2.2.1 x.2.2.2.2 (lC s2 x.1).2) (λx=>N - x.1) (0,(none,0),A2,n2,c2) aD (by simp only[tH,lC];exact(aB.nil fN).trans aA) ⟨aAh _,hal⟩ ?_;rintro⟨i,⟨O,co⟩,A3,n3,c3⟩ G ⟨hi,hal3⟩;dsimp only at hi hal3⊢;by_cases hlt:i<N
 ·repeat first|refine aE ?_|intro
  refine C.bL 11 (l_ [0,1,2,3,4,5] (g_ 6 (g_ 7 (g_ 8 (l_ [9,10] (g_ 11 .nil)))))) ([aJ gb 279 [.pointer (some ⟨g,0,none⟩)],aJ gm 195 (oK ⟨2,fr,to,0,0,0,0,base,[],[],kz,ez⟩ O i co none 0 0)]) q_ q_ aA ?_;repeat first|refine aE ?_|intro
  refine cg rfl sD bA sK aC (λM hE=>BI M g A3 n3 c3 (lC s2 i) (hal3 _ dB)) ?_;rintro e H' ⟨A4,n4,c4,rfl,hal4,rfl⟩;refine gd bG aA ?_;have hq:Ar (lC s2 i)=lC s2 (i+1):=rfl;rw[hq] at hal4⊢;have hz:tH s2 i++[CG (lC s2 i)]=tH s2 (i+1):=rfl;have hlv:=yU s2 i;generalize CG (lC s2 i)=a at *;repeat first|refine aE ?_|intro
  rename_i O' co' _ _;rw[hz];exact⟨(i+1,(O',co'),A4,n4,c4),aD,aA,⟨by dsimp only;omega,hal3.trans hal4⟩,by dsimp only;omega⟩
 ·obtain rfl:i=N:=o_;have hlv:=yU s2 i;have hsl3:(lC s2 i).2.length≤140737488355328:=aBw (EJ _ _) (aBw hsl sD);have hnl:=Uc (lC s2 i);have hll:(T6 (lC s2 i)).length≤140737488355300:=by unfold T6;split;(· exact aAh _);(· exact aBw (EJ _ _) hsl)
  generalize lC s2 i=s3 at *;repeat first|refine aE ?_|intro
  refine rB (l_ [0,1,2,3] (g_ 4 (g_ 5 (l_ [6,7,8,9,10] .nil)))) ([aJ gb 279 [.pointer (some ⟨g,0,none⟩)]]) ?_;repeat first|refine aE ?_|intro
  refine cg rfl sD bA sK aC (λM hE=>tV M g s3.1 A3 n3 c3 s3.2 (hal3 _ dB)) ?_;rintro e H' ⟨rfl,rfl⟩;repeat first|refine aE ?_|intro
  refine cg rfl sD bA sK aC (λM hE=>kR M g s3.1 A3 n3 c3 s3.2 _ (hal3 _ dB) hsl3) ?_;generalize nx s3.1 s3.2 _=o at *;rintro e H' ⟨A4,n4,c4,B,d,rfl,hal4,hmd,hd3,rfl⟩;refine gd bG aA ?_;rw[hnl];generalize T6 s3=y at *;repeat first|refine aE ?_|intro
  refine dX (λM h1=>Wi M B y.length d y h1 hll) ?_;rintro e H' ⟨Q,cq,ek,rfl,rfl⟩;refine gk bG ?_;generalize MP y=ch at *;repeat first|refine aE ?_|intro
  exact gO rfl aA (⟨_,_,_,_,_,_,_,_,_,_,rfl,rfl⟩)
end
theorem Vy(l:List UInt8):∀c∈MP l,dQ c.n:=by
 intro c hc;unfold MP at hc;split at hc
 ·exact absurd hc aAk
 ·rename_i h t;split at hc
  ·rename_i hq;cases hp:pieces h.toNat t with
   |none=>rw[hp] at hc;exact absurd hc aAk
   |some xs =>
    rw[hp] at hc;exact((tC hp hq.2).2.2.2 c hc).2.2.2.2.2.1
  ·exact absurd hc aAk
theorem R8(s:Rs):dQ (IJ s).n:=by
 unfold IJ;cases(nx s.1 s.2 (13:Nat)).1 with
 |none=>exact dQ.zero
 |some y =>
  show dQ ((eY y).getD rZ).n;cases h:eY y with
  |none=>exact dQ.zero
  |some f =>
   have:=FX y;rw[←(uE h).1] at this;exact this.2.2.1
section
variable (E:Env) (g gm:Nat) (A:Option Addr) (n c:Nat)
theorem Wd(x:List UInt8)(hr:Rd E aU A n c (st jO x 3).2)(hl:(st jO x 3).2.length≤140737488355300):aK prog E 187 #[rv g,.pointer (some ⟨gm,0,none⟩)] [aJ gm 195 (oK (QY (va jO x 0:Nat) (va jO x 1:Nat) (va jO x 2:Nat)) none 0 0 none 0 0),pC g true (st jO x 3).1 A n c] λe H'=>∃m,Lm x m∧m.ok∧MB g gm m e H':=by
 by_cases h1:va jO x 0=1
 ·have hL:=Lm.ask h1;unfold NN at hL;rw[h1] at hL⊢;exact aK.mono (y8 E g gm A n c _ _ _ hr) λe H' h=>⟨_,hL,⟨λc hc=>absurd hc aAk,dQ.zero⟩,h⟩
 by_cases h2:va jO x 0=2
 ·have hL:=Lm.push h2;unfold NN at hL;rw[h2] at hL⊢;exact aK.mono (x7 E g gm A n c _ _ _ hr hl) λe H' h=>⟨_,hL,⟨Vy _,dQ.zero⟩,h⟩
 by_cases h3:va jO x 0=3
 ·have hL:=Lm.u5 h3;unfold NN at hL;rw[h3] at hL⊢;exact aK.mono (x8 E g gm A n c _ _ _ hr hl) λe H' h=>⟨_,hL,⟨λc hc=>absurd hc aAk,R8 _⟩,h⟩
 by_cases h4:va jO x 0=4
 ·have hL:=Lm.QV h4;unfold NN at hL;rw[h4] at hL⊢;exact aK.mono (u4 E g gm A n c _ _ _ hr) λe H' h=>⟨_,hL,⟨λc hc=>absurd hc aAk,dQ.zero⟩,h⟩
 ·exact aK.mono (mb0 E g gm A n c _ _ _ _ o_) λe H' h=>⟨_,Lm.none o_,⟨λc hc=>absurd hc aAk,dQ.zero⟩,h⟩
theorem mframe(l:List UInt8)(hr:Rd E aU A n c l)(hl:n≤140737488355200)(x:List UInt8)(hx:((Frm.kG l).map Prod.fst).getD []=x):aK prog E 184 #[.slice A n c] [] λe H'=>∃B d k f,e=.returned (.tuple #[.slice B x.length d,.int .i64 k,.bool f])∧H'=[own aU B x.length d x]:=by
 cases hf:Frm.kG l with
 |none =>
  rw[hf] at hx;subst hx;refine aK.NV (Ka E A n c l hr hl hf) ?_;rintro e H' ⟨rfl,rfl⟩;exact⟨_,⟨none,0,0,false,rfl,rfl⟩,aB.nil aU⟩
 |some p =>
  obtain⟨y,k⟩:=p;rw[hf] at hx;change y=x at hx;subst hx;refine aK.mono (Ha E A n c l hr hl y k hf) ?_;rintro e H' ⟨B,d,rfl,rfl⟩;exact⟨B,d,k,true,rfl,rfl⟩
def GP(o:Option Mg)(e:Ending)(H':List aL):Prop :=
 match o with
 |some m=>∃O p q B k d,e=.returned (.tuple #[.agg (oK m O p q B k d).toArray,.int .i64 0])∧H'=[own fN O p q m.ids,own bE B k d m.iS]
 |none=>e=.returned (.tuple #[.agg (oK (QY 0 0 0) none 0 0 none 0 0).toArray,.int .i64 16])∧H'=[]
theorem Gv(b:List UInt8)(hr:Rd E aU A n c b)(hl:n≤140737488355200):aK prog E 121 #[.slice A n c] [] (GP (mM b)):=by
 have hn:=hr.len;obtain⟨x,hx⟩:∃x,((Frm.kG b).map Prod.fst).getD []=x:=⟨_,rfl⟩
 have hxl:x.length≤140737488355200:=by
  cases hf:Frm.kG b with
  |none=>rw[hf] at hx;subst hx;exact aAh _
  |some p =>
   obtain⟨y,k⟩:=p;rw[hf] at hx;change y=x at hx;subst hx;have:=Frm.lW hf;omega
 have hxl2:x.length≤140737488355300:=o_;have hs0:st jO x 0=(false,x):=rfl;have hsl:(st jO x 3).2.length≤140737488355300:=aBw (aBw (kZ _ _) (aBw (kZ _ _) (kZ (false,x) 1))) hxl2;refine t_ func121 ntmps121 ?_;repeat first|refine aE ?_|refine Dr.two ?_ ?_|intro
 refine dX (λM h1=>mframe M A n c b h1 hl x hx) ?_;rintro e H' ⟨B,d,k,f,rfl,rfl⟩;repeat first|refine aE ?_|refine Dr.two ?_ ?_|intro
 refine dX (λM h1=>lD M B x.length d x h1 hxl2) ?_;rintro e H' ⟨g,A0,c0,rfl,h5,h6,rfl⟩;refine gk bG ?_;unfold Bs;repeat ((fail_if_success (refine C.seq (x:=Code.region 3 _ _) ?_));first|refine Cx ?_|refine He ?_|intro _|refine Dr.two ?_ ?_)
 rename_i g2 g7;refine C.cut (X:=Nat×Option Addr×Nat×Nat) (λy=>[(0,.slice A n c),(2,.pointer (some ⟨g2,0,none⟩)),(7,.pointer (some ⟨g7,0,none⟩)),(8,.pointer (some ⟨y.1,0,none⟩))]) (λy=>[aJ g7 279 [.pointer (some ⟨g,0,none⟩)],aJ y.1 195 (oK (QY (va jO x 0:Nat) (va jO x 1:Nat) (va jO x 2:Nat)) none 0 0 none 0 0),pC g true (st jO x 3).1 y.2.1 y.2.2.1 y.2.2.2,aJ g2 195 (oK (QY 0 0 0) none 0 0 none 0 0),own aU A0 x.length c0 x]) (λy=>nS A0 x.length c0 x y.2.1 y.2.2.1 y.2.2.2 (st jO x 3).2) ?_ ?_
 ·refine rB (l_ [0,2,4] (.two 1 (.two 3 (.two 5 (n_ 6 (g_ 7 (g_ 8 .nil))) 7 (g_ 5 (n_ 6 (g_ 8 .nil)))) 7 (g_ 3 (g_ 5 (n_ 6 (g_ 8 .nil))))) 7 (g_ 1 (g_ 3 (g_ 5 (n_ 6 (g_ 8 .nil))))))) ([aJ g7 279 [.pointer (some ⟨g,0,none⟩)]]) ?_;repeat first|refine aE ?_|intro
  refine Dr.two ?_ ?_
  ·refine yB rfl sD bA sK aC (λM hE=>kO M g A0 x.length c0 (false,x) (st jO x 1) 1 (va jO x 0:Nat) rfl rfl 1 rfl (.inl rfl) dB) ?_;rintro e H' ⟨A1,n1,c1,rfl,hal1,rfl⟩;repeat first|refine aE ?_|intro
   refine Dr.two ?_ ?_
   ·refine yB rfl sD bA sK aC (λM hE=>kO M g A1 n1 c1 (st jO x 1) (st jO x 2) 1 (va jO x 1:Nat) rfl rfl 1 rfl (.inl rfl) (hal1 _ dB)) ?_;rintro e H' ⟨A2,n2,c2,rfl,hal2,rfl⟩;repeat first|refine aE ?_|intro
    refine Dr.two ?_ ?_
    ·refine yB rfl sD bA sK aC (λM hE=>kO M g A2 n2 c2 (st jO x 2) (st jO x 3) 1 (va jO x 2:Nat) rfl rfl 1 rfl (.inl rfl) (hal2 _ (hal1 _ dB))) ?_;rintro e H' ⟨A3,n3,c3,rfl,hal3,rfl⟩;repeat first|refine aE ?_|refine Dr.two ?_ ?_|intro
     exact⟨(_,_,_,_),aD,aA,(hal1.trans hal2).trans hal3⟩
    ·repeat first|refine aE ?_|intro
     refine cg rfl sD bA sK aC (λM hE=>kO M g A2 n2 c2 (st jO x 2) (st jO x 3) 1 (va jO x 2:Nat) rfl rfl 1 rfl (.inl rfl) (hal2 _ (hal1 _ dB))) ?_;rintro e H' ⟨A3,n3,c3,rfl,hal3,rfl⟩;repeat first|refine aE ?_|refine Dr.two ?_ ?_|intro
     exact⟨(_,_,_,_),aD,aA,(hal1.trans hal2).trans hal3⟩
   ·repeat first|refine aE ?_|intro
    refine cg rfl sD bA sK aC (λM hE=>kO M g A1 n1 c1 (st jO x 1) (st jO x 2) 1 (va jO x 1:Nat) rfl rfl 1 rfl (.inl rfl) (hal1 _ dB)) ?_;rintro e H' ⟨A2,n2,c2,rfl,hal2,rfl⟩;repeat first|refine aE ?_|intro
    refine cg rfl sD bA sK aC (λM hE=>kO M g A2 n2 c2 (st jO x 2) (st jO x 3) 1 (va jO x 2:Nat) rfl rfl 1 rfl (.inl rfl) (hal2 _ (hal1 _ dB))) ?_;rintro e H' ⟨A3,n3,c3,rfl,hal3,rfl⟩;repeat first|refine aE ?_|refine Dr.two ?_ ?_|intro
    exact⟨(_,_,_,_),aD,aA,(hal1.trans hal2).trans hal3⟩
  ·repeat first|refine aE ?_|intro
   refine C2 (λM=>kO M g A0 x.length c0 (false,x) (st jO x 1) 1 (va jO x 0:Nat) rfl rfl 1 rfl (.inl rfl)) ?_;rintro e H' ⟨A1,n1,c1,rfl,hal1,rfl⟩;repeat first|refine aE ?_|intro
   refine cg rfl sD bA sK aC (λM hE=>kO M g A1 n1 c1 (st jO x 1) (st jO x 2) 1 (va jO x 1:Nat) rfl rfl 1 rfl (.inl rfl) (hal1 _ dB)) ?_;rintro e H' ⟨A2,n2,c2,rfl,hal2,rfl⟩;repeat first|refine aE ?_|intro
   refine cg rfl sD bA sK aC (λM hE=>kO M g A2 n2 c2 (st jO x 2) (st jO x 3) 1 (va jO x 2:Nat) rfl rfl 1 rfl (.inl rfl) (hal2 _ (hal1 _ dB))) ?_;rintro e H' ⟨A3,n3,c3,rfl,hal3,rfl⟩;repeat first|refine aE ?_|refine Dr.two ?_ ?_|intro
   exact⟨(_,_,_,_),aD,aA,(hal1.trans hal2).trans hal3⟩
 rintro⟨g8,A3,n3,c3⟩ G hal;dsimp only at hal⊢;repeat first|refine aE ?_|refine Dr.two ?_ ?_|intro
 refine cl sD sK aC (λM hE=>Wd M g g8 A3 n3 c3 x (hal _ dB) hsl) ?_;rintro e H' ⟨m,hL,hok,O,p,q,Q,k2,d2,s',A4,n4,c4,rfl,rfl⟩;refine gk bG ?_;rw[M7 hx hL hok];by_cases hc:m.check=0
 ·repeat first|refine aE ?_|refine Dr.two ?_ ?_|intro
  refine C1 (λM h1 h2=>KQ M m O p q Q k2 d2 h1 h2 hc) ?_;rintro e H' ⟨A5,c5,rfl,rfl⟩;refine gk bG ?_;by_cases he:m.enc=b
  ·rw[if_pos ⟨hc,he⟩];rw[he];have hd:decide (b≠b)=false:=decide_eq_false λh=>h rfl;repeat first|refine aE ?_|refine Dr.two ?_ ?_|intro
   apply gS;(· exact rfl);(· exact aF);(· exact rfl);(· exact rfl);(· exact rfl);(· exact aS);(· exact rfl);(· exact aF);rotate_left;(· exact(⟨_,_,_,_,_,_,rfl,rfl⟩));(· exact aA)
  ·rw[if_neg λh=>he h.2];have hd:decide (m.enc≠b)=true:=decide_eq_true he;repeat first|refine aE ?_|refine Dr.two ?_ ?_|intro
   exact Qv
 ·rw[if_neg λh=>hc h.1];repeat first|refine aE ?_|refine Dr.two ?_ ?_|intro
  refine C1 (λM h1 h2=>Ks M m O p q Q k2 d2 h1 h2 hc) ?_;generalize m.check=ck at *;rintro e H' ⟨rfl,rfl⟩;repeat first|refine aE ?_|refine Dr.two ?_ ?_|intro
  exact Qv
end
end Go.Proofs.YtmilalkjbojciaaGreat.Sep
