/- Part AS: what it needs. No condition. -/
import Derived.Test.YtmilalkjbojciaaGreatLAA
import Derived.Test.YtmilalkjbojciaaGreatLAK
import Derived.Test.YtmilalkjbojciaaGreatLAD
import Derived.Test.YtmilalkjbojciaaGreatLAQ
import Derived.Test.YtmilalkjbojciaaGreatLAP
import Derived.Test.YtmilalkjbojciaaGreatLAJ
import Derived.Test.YtmilalkjbojciaaGreatLAO
set_option maxRecDepth 100000
set_option maxHeartbeats 8000000
open Go.Proofs.Tryz
namespace Go.Proofs.YtmilalkjbojciaaGreat.Sep
section
open Go.RowKit Oct
theorem dQ.zero:dQ 0:=by unfold dQ;decide
theorem Ny(x:List UInt8)(h:3≤x.length):fI [1,1,1] [bX x 0 1,bX x 1 1,bX x 2 1]=x.take 3:=by
 have:=yO [1,1,1] x (by simpa using h);rw[←show([1,1,1]:List Nat).sum=3 from rfl,←this];simp only[Ay,bX,aBt,aCh]
theorem yS{x:List UInt8}(h:8≤x.length)(h1:bX x 7 1≤1):fI kW (kK (aLk x 3))=(x.drop 3).take 5:=by
 have e:=yO kW (x.drop 3) (by simp;omega);rw[show kW.sum=5 from rfl] at e;rw[←e];congr 1;have hu:jS (decide (((bX x 7 1:Nat):Int)=1))=bX x 7 1:=by
  unfold jS;by_cases hq:bX x 7 1=1
  ·rw[hq];rfl
  ·rw[decide_eq_false o_,if_neg aAl];omega
 unfold kK aLk;dsimp only;rw[hu];simp only[aAu,Ay,bX,aBt,Nat.reduceAdd]
theorem aMi{k:bP}(h:k.may=true){a t:List UInt8}(ha:a.length=3):aLk (a++(fI kW (kK k)++t)) 3=k∧bX (a++(fI kW (kK k)++t)) 7 1≤1:=by
 obtain⟨⟨a0,a1,b0,b1⟩,c0,c1⟩:=(bP.bY k).1 h;have hu:jS k.cD<256:=by unfold jS;split<;>omega
 have hb:jS k.cD≤1:=by unfold jS;split<;>omega
 have e:fI kW (kK k)++t=be k.id.rep.toNat 1++(be k.id.seq.toNat 2++(be k.ord.toNat 1++(be (jS k.cD) 1++t))):=by simp[fI,kK]
 rw[e];have f0:bX (a++(be k.id.rep.toNat 1++(be k.id.seq.toNat 2++(be k.ord.toNat 1++(be (jS k.cD) 1++t))))) 3 1=k.id.rep.toNat:=dL ha o_;have f1:bX (a++(be k.id.rep.toNat 1++(be k.id.seq.toNat 2++(be k.ord.toNat 1++(be (jS k.cD) 1++t))))) 4 2=k.id.seq.toNat:=by
  rw[←aAb];exact dL (by simp[aP,ha]) o_
 have f2:bX (a++(be k.id.rep.toNat 1++(be k.id.seq.toNat 2++(be k.ord.toNat 1++(be (jS k.cD) 1++t))))) 6 1=k.ord.toNat:=by
  rw[←aAb,←aAb];exact dL (by simp[aP,ha]) o_
 have f3:bX (a++(be k.id.rep.toNat 1++(be k.id.seq.toNat 2++(be k.ord.toNat 1++(be (jS k.cD) 1++t))))) 7 1=jS k.cD:=by
  rw[←aAb,←aAb,←aAb];exact dL (by simp[aP,ha]) o_
 refine⟨?_,by rw[f3];exact hb⟩;unfold aLk;simp only[Nat.reduceAdd];rw[f0,f1,f2,f3,aBn a0,aBn o_,aBn o_];have hun:decide (((jS k.cD:Nat):Int)=1)=k.cD:=by cases k.cD<;>rfl
 rw[hun]
theorem G6{y:List UInt8}{cs:List aX}(h:tF y=some cs):dP cs=y∧∀c∈cs,c.ok:=by
 unfold tF at h;cases y with
 |nil=>cases h
 |cons a t =>
  dsimp only at h;split at h
  ·rename_i ht;obtain⟨h1,h2,_,h4⟩:=tC h ht;refine⟨?_,h4⟩;unfold dP;rw[h1,h2,UInt8.ofNat_toNat]
  ·cases h
theorem Je{l:List aX}(h48:l.length≤48)(hm:l.all aX.may=true)(hn:∀c∈l,dQ c.n):tF (dP l)=some l:=by
 have e:(UInt8.ofNat l.length).toNat=l.length:=by simp;omega
 unfold tF dP;dsimp only;rw[e,if_pos (jY l),DH hm hn]
theorem Mg.Nj{m:Mg}(h:m.check=0)(h1:m.kind=1):m.cV=true∧((0≤m.k0∧m.k0≤65535)∧(0≤m.k1∧m.k1≤65535)∧(0≤m.k2∧m.k2≤65535)∧0≤m.k3∧m.k3≤65535)∧0≤m.base∧m.base≤48:=by
 obtain⟨_,_,hf,_⟩:=Mg.bR h;have hq:=hf;unfold Mg.cV at hf;rw[if_pos h1] at hf;simp only[aAv,decide_eq_true_eq,sq,bs] at hf;exact⟨hq,⟨hf.1.1.1.1,hf.1.1.1.2,hf.1.1.2,hf.1.2⟩,hf.2⟩
theorem Mg.Ei{m:Mg}(h:m.check=0)(h1:m.kind=2):m.ids.length≤16∧m.ids.all bJ.may=true∧m.iS.length≤8∧m.iS.all aX.may=true∧0≤m.base∧m.base≤48:=by
 obtain⟨_,_,hf,_⟩:=Mg.bR h;unfold Mg.cV at hf;rw[if_neg o_,if_pos h1] at hf;simp only[aAv,decide_eq_true_eq,bs] at hf;exact⟨hf.1.1.1,hf.1.1.2,hf.1.2.1,hf.1.2.2,hf.2⟩
theorem Mg.UU{m:Mg}(h:m.check=0)(h1:m.kind=3):m.key.may=true∧m.bC.check=0:=by
 obtain⟨_,_,hf,_⟩:=Mg.bR h;unfold Mg.cV at hf;rw[if_neg o_,if_neg o_,if_pos h1] at hf;simpa using hf
theorem Mg.aGu{m:Mg}(h:m.check=0)(h1:m.kind=4):m.key.may=true:=by
 obtain⟨_,_,hf,_⟩:=Mg.bR h;unfold Mg.cV at hf
 rwa [if_neg o_,if_neg o_,if_neg o_] at hf
theorem Mg.ZZ{m:Mg}(h:m.check=0):0≤m.fr∧m.fr≤9∧0≤m.to∧m.to≤9:=by
 obtain⟨_,hp,_,_⟩:=Mg.bR h;unfold Mg.nT at hp;split at hp
 ·simp[wV] at hp;omega
 ·split at hp
  ·simp[wV] at hp;omega
  ·simp[wV] at hp;omega
theorem ID{x:List UInt8}{m:Mg}(h:Iw x=some m):m.check=0∧m.body=x∧m.ok:=by
 obtain⟨h1,hc⟩:=qT h;refine⟨hc,?_⟩;obtain⟨h3,_⟩:=vB h1;have hhd:=Ny x h3;have hl0:=eM x 0 1;rcases oA h1 with⟨f,h⟩|⟨f,h⟩|⟨f,h⟩|⟨f,h⟩
 ·unfold mask at h;split at h
  ·rename_i h12;injection h with h
   subst h;refine⟨?_,⟨λc hc=>(aAk hc).elim,dQ.zero⟩⟩;unfold Mg.body;dsimp only;rw[if_pos rfl,aAu,aAu,show(1:Int).toNat=bX x 0 1 by rw[f];rfl,hhd];have e:=yO [2,2,2,2,1] (x.drop 3) (by simp;omega);rw[show([2,2,2,2,1]:List Nat).sum=9 from rfl,aAj (by simp;omega)] at e;simp only[Ay,aBt,Nat.reduceAdd] at e;simp only[bX,aAu];rw[e,aAx]
  ·cases h
 ·unfold GG at h;split at h
  ·rename_i h8;cases hg:tF (x.drop (5+3*bX x 4 1)) with
   |none=>rw[hg] at h;cases h
   |some cs =>
    rw[hg] at h;injection h with h
    obtain⟨e1,e2⟩:=G6 hg;subst h;refine⟨?_,⟨λc hc=>(e2 c hc).2.2.2.2.2.1,dQ.zero⟩⟩;unfold Mg.body;dsimp only;rw[if_neg sD,if_pos rfl,aAu,aAu,aAu,show(2:Int).toNat=bX x 0 1 by rw[f];rfl,hhd,Hz _ _ _ o_,e1,yF];have e:=yO [1,1] (x.drop 3) (by simp;omega);simp only[Ay,aBt,Nat.reduceAdd] at e;simp only[bX];rw[e,←bX];have t1:([1,1]:List Nat).sum=2:=rfl;rw[t1,←aAb,←aAb];have t2:x.take 3++(x.drop 3).take 2=x.take 5:=(aDd (i:=3) (j:=2)).symm;have t3:x.take 5++(x.drop 5).take (3*bX x 4 1)=x.take (5+3*bX x 4 1):=aDd.symm;rw[t2,t3,aAx]
  ·cases h
 ·unfold PI at h;split at h
  ·rename_i h8;cases hg:eY (x.drop 8) with
   |none=>rw[hg] at h;cases h
   |some e =>
    rw[hg] at h;injection h with h
    obtain⟨e1,_⟩:=uE hg;have ho:=FX (x.drop 8);rw[←e1] at ho;subst h;refine⟨?_,⟨λc hc=>(aAk hc).elim,ho.2.2.1⟩⟩;unfold Mg.body;dsimp only;rw[if_neg sD,if_neg sD,if_pos rfl,aAu,aAu,show(3:Int).toNat=bX x 0 1 by rw[f];rfl,hhd,yS o_ h8.2,e1,DX (by simp;omega)];rw[←aAb,←aDd (i:=3) (j:=5),aAx]
  ·cases h
 ·unfold OR at h;split at h
  ·rename_i h8;injection h with h
   subst h;refine⟨?_,⟨λc hc=>(aAk hc).elim,dQ.zero⟩⟩;unfold Mg.body;dsimp only;rw[if_neg sD,if_neg sD,if_neg sD,aAu,aAu,show(4:Int).toNat=bX x 0 1 by rw[f];rfl,hhd,yS o_ h8.2];rw[←aDd (i:=3) (j:=5),aAj o_]
  ·cases h
theorem MS{m:Mg}(hc:m.check=0)(hn:m.ok):Iw m.body=some m:=by
 obtain⟨hk,_,_,hb⟩:=Mg.bR hc;obtain⟨f0,f1,t0,t1⟩:=Mg.ZZ hc;have hraw:B9 m.body=some m:=by
  have hl3:(fI [1,1,1] [m.kind.toNat,m.fr.toNat,m.to.toNat]).length=3:=by simp[fI,aP]
  have hfit:fit [1,1,1] [m.kind.toNat,m.fr.toNat,m.to.toNat]:=⟨by omega,by omega,by omega,trivial⟩
  have hd:∀t,bX (fI [1,1,1] [m.kind.toNat,m.fr.toNat,m.to.toNat]++t) 0 1=m.kind.toNat∧bX (fI [1,1,1] [m.kind.toNat,m.fr.toNat,m.to.toNat]++t) 1 1=m.fr.toNat∧bX (fI [1,1,1] [m.kind.toNat,m.fr.toNat,m.to.toNat]++t) 2 1=m.to.toNat:=by
   intro t;have e:=Ca _ _ t hfit;simp only[Ay,aBt,Nat.reduceAdd] at e;injection e with e1 e
   injection e with e2 e
   injection e with e3 e
   exact⟨e1,e2,e3⟩
  rcases(show m.kind=1∨m.kind=2∨m.kind=3∨m.kind=4 by omega) with h1|h1|h1|h1
  ·obtain⟨_,⟨⟨a0,a1⟩,⟨b0,b1⟩,⟨c0,c1⟩,d0,d1⟩,q0,q1⟩:=Mg.Nj hc h1;have hbody:m.body=fI [1,1,1] [m.kind.toNat,m.fr.toNat,m.to.toNat]++fI [2,2,2,2,1] [m.k0.toNat,m.k1.toNat,m.k2.toNat,m.k3.toNat,m.base.toNat]:=by
    unfold Mg.body;rw[if_pos h1]
   have hf2:fit [2,2,2,2,1] [m.k0.toNat,m.k1.toNat,m.k2.toNat,m.k3.toNat,m.base.toNat]:=⟨by omega,by omega,by omega,by omega,by omega,trivial⟩
   have hl2:=Bx _ _ hf2;have e:=Ca _ _ [] hf2;rw[aAc] at e;obtain⟨g0,g1,g2⟩:=hd (fI [2,2,2,2,1] [m.k0.toNat,m.k1.toNat,m.k2.toNat,m.k3.toNat,m.base.toNat]);rw[hbody];generalize fI [2,2,2,2,1] [m.k0.toNat,m.k1.toNat,m.k2.toNat,m.k3.toNat,m.base.toNat]=y at *;generalize fI [1,1,1] [m.kind.toNat,m.fr.toNat,m.to.toNat]=h at *;simp only[Ay,aBt,Nat.reduceAdd] at e;injection e with e1 e
   injection e with e2 e
   injection e with e3 e
   injection e with e4 e
   injection e with e5 e
   have hlen:(h++y).length=12:=by rw[aAe,hl3,hl2];rfl
   have k1:bX (h++y) 3 2=m.k0.toNat:=(jK (i:=0) hl3).trans (by unfold bX;rw[aCh];exact e1);have k2:bX (h++y) 5 2=m.k1.toNat:=(jK (i:=2) hl3).trans e2;have k3:bX (h++y) 7 2=m.k2.toNat:=(jK (i:=4) hl3).trans e3;have k4:bX (h++y) 9 2=m.k3.toNat:=(jK (i:=6) hl3).trans e4;have k5:bX (h++y) 11 1=m.base.toNat:=(jK (i:=8) hl3).trans e5;unfold B9;rw[if_neg o_,if_pos (by rw[g0];omega)];unfold mask;rw[if_pos hlen,g1,g2,k1,k2,k3,k4,k5];unfold Mg.bare at hb;rw[if_pos h1] at hb;have hb2:=Mg.eq_iff.1 hb;congr 1;rw[Mg.eq_iff];dsimp only at hb2⊢;refine⟨by omega,by omega,by omega,by omega,by omega,by omega,by omega,by omega,hb2.2.2.2.2.2.2.2.2.1,hb2.2.2.2.2.2.2.2.2.2.1,hb2.2.2.2.2.2.2.2.2.2.2.1,hb2.2.2.2.2.2.2.2.2.2.2.2⟩
  ·obtain⟨i0,i1,c0,c1,q0,q1⟩:=Mg.Ei hc h1;have hbody:m.body=fI [1,1,1] [m.kind.toNat,m.fr.toNat,m.to.toNat]++(fI [1,1] [m.base.toNat,m.ids.length]++(kH m.ids++dP m.iS)):=by
    unfold Mg.body;rw[if_neg o_,if_pos h1]
   have hf2:fit [1,1] [m.base.toNat,m.ids.length]:=⟨by omega,by omega,trivial⟩
   have hl2:(fI [1,1] [m.base.toNat,m.ids.length]).length=2:=Bx _ _ hf2;have e:=Ca _ _ (kH m.ids++dP m.iS) hf2;obtain⟨g0,g1,g2⟩:=hd (fI [1,1] [m.base.toNat,m.ids.length]++(kH m.ids++dP m.iS));rw[hbody];have hpre:(fI [1,1,1] [m.kind.toNat,m.fr.toNat,m.to.toNat]++fI [1,1] [m.base.toNat,m.ids.length]).length=5:=by rw[aAe,hl3,hl2]
   have hio:=Hw m.ids (fI [1,1,1] [m.kind.toNat,m.fr.toNat,m.to.toNat]++fI [1,1] [m.base.toNat,m.ids.length]) (dP m.iS) i1;rw[hpre,aAb] at hio;have hdr:(fI [1,1,1] [m.kind.toNat,m.fr.toNat,m.to.toNat]++(fI [1,1] [m.base.toNat,m.ids.length]++(kH m.ids++dP m.iS))).drop (5+3*m.ids.length)=dP m.iS:=by
    rw[←aAb,←aAb];exact aBu (by rw[aAe,hpre,jC])
   have hlen:(fI [1,1,1] [m.kind.toNat,m.fr.toNat,m.to.toNat]++(fI [1,1] [m.base.toNat,m.ids.length]++(kH m.ids++dP m.iS))).length=5+3*m.ids.length+(1+22*m.iS.length):=by
    rw[←aAb,aAe,hpre,aAe,jC,lZ];omega
   generalize fI [1,1] [m.base.toNat,m.ids.length]++(kH m.ids++dP m.iS)=y at *;generalize fI [1,1,1] [m.kind.toNat,m.fr.toNat,m.to.toNat]=h at *;simp only[Ay] at e;injection e with e1 e
   injection e with e2 e
   have k1:bX (h++y) 3 1=m.base.toNat:=(jK (i:=0) hl3).trans (by unfold bX;rw[aCh];exact e1);have k2:bX (h++y) 4 1=m.ids.length:=(jK (i:=1) hl3).trans e2;unfold B9;rw[if_neg o_,if_neg o_,if_pos (by rw[g0];omega)];unfold GG;rw[k1,k2,if_pos o_,hdr,Je o_ c1 hn.1,g1,g2,hio];unfold Mg.bare at hb;rw[if_neg o_,if_pos h1] at hb;have hb2:=Mg.eq_iff.1 hb;show some _=some _;congr 1;rw[Mg.eq_iff];dsimp only at hb2⊢;refine⟨by omega,by omega,by omega,by omega,by omega,by omega,by omega,by omega,rfl,rfl,hb2.2.2.2.2.2.2.2.2.2.2.1,hb2.2.2.2.2.2.2.2.2.2.2.2⟩
  ·obtain⟨i0,i1⟩:=Mg.UU hc h1;have hbody:m.body=fI [1,1,1] [m.kind.toNat,m.fr.toNat,m.to.toNat]++(fI kW (kK m.key)++m.bC.put):=by
    unfold Mg.body;rw[if_neg o_,if_neg o_,if_pos h1]
   obtain⟨g0,g1,g2⟩:=hd (fI kW (kK m.key)++m.bC.put);obtain⟨k0,k1⟩:=aMi i0 (t:=m.bC.put) hl3;have hlk:(fI [1,1,1] [m.kind.toNat,m.fr.toNat,m.to.toNat]++fI kW (kK m.key)).length=8:=by rw[aAe,hl3];simp[fI,kK,aP]
   have hdr:(fI [1,1,1] [m.kind.toNat,m.fr.toNat,m.to.toNat]++(fI kW (kK m.key)++m.bC.put)).drop 8=m.bC.put:=by
    rw[←aAb];exact aBu hlk
   have hlen:(fI [1,1,1] [m.kind.toNat,m.fr.toNat,m.to.toNat]++(fI kW (kK m.key)++m.bC.put)).length=21:=by
    rw[←aAb,aAe,hlk,cQ.bD]
   rw[hbody];generalize fI kW (kK m.key)++m.bC.put=y at *;generalize fI [1,1,1] [m.kind.toNat,m.fr.toNat,m.to.toNat]=h at *;unfold B9;rw[if_neg o_,if_neg o_,if_neg o_,if_pos (by rw[g0];omega)];unfold PI;rw[if_pos ⟨hlen,k1⟩,hdr,Cg i1 hn.2,g1,g2,k0];unfold Mg.bare at hb;rw[if_neg o_,if_neg o_,if_pos h1] at hb;have hb2:=Mg.eq_iff.1 hb;show some _=some _;congr 1;rw[Mg.eq_iff];dsimp only at hb2⊢;refine⟨by omega,by omega,by omega,by omega,by omega,by omega,by omega,by omega,hb2.2.2.2.2.2.2.2.2.1,hb2.2.2.2.2.2.2.2.2.2.1,rfl,rfl⟩
  ·have i0:=Mg.aGu hc h1;have hbody:m.body=fI [1,1,1] [m.kind.toNat,m.fr.toNat,m.to.toNat]++(fI kW (kK m.key)++[]):=by
    unfold Mg.body;rw[if_neg o_,if_neg o_,if_neg o_,aAc]
   obtain⟨g0,g1,g2⟩:=hd (fI kW (kK m.key)++[]);obtain⟨k0,k1⟩:=aMi i0 (t:=[]) hl3;have hlen:(fI [1,1,1] [m.kind.toNat,m.fr.toNat,m.to.toNat]++(fI kW (kK m.key)++[])).length=8:=by rw[aAe,hl3];simp[fI,kK,aP]
   rw[hbody];generalize fI kW (kK m.key)++[]=y at *;generalize fI [1,1,1] [m.kind.toNat,m.fr.toNat,m.to.toNat]=h at *;unfold B9;rw[if_neg o_,if_neg o_,if_neg o_,if_neg o_,if_pos (by rw[g0];omega)];unfold OR;rw[if_pos ⟨hlen,k1⟩,g1,g2,k0];unfold Mg.bare at hb;rw[if_neg o_,if_neg o_,if_neg o_,if_pos h1] at hb;have hb2:=Mg.eq_iff.1 hb;congr 1;rw[Mg.eq_iff];dsimp only at hb2⊢;refine⟨by omega,by omega,by omega,by omega,by omega,by omega,by omega,by omega,hb2.2.2.2.2.2.2.2.2.1,hb2.2.2.2.2.2.2.2.2.2.1,rfl,hb2.2.2.2.2.2.2.2.2.2.2.2⟩
 unfold Iw;rw[hraw];exact if_pos hc
open Frm in
def mM(b:List UInt8):Option Mg:=match kG b with
 |some (x,k)=>if k=b.length then Iw x else none
 |none=>none
theorem IG{b x:List UInt8}(h:Frm.kG b=some (x,b.length)):Frm.fr x=b:=by
 unfold Frm.kG at h;split at h
 ·rename_i ho;injection h with h
  injection h with h1 h2
  obtain⟨q1,q2,q3,q4,q5,q6⟩:=ho;have e:=(Frm.Hf q1 q2 q4).1 ⟨q5,q6⟩;rw[h1,aAj o_] at e;exact e
 ·cases h
theorem Mg.size{m:Mg}(h:m.check=0):1≤m.body.length∧m.body.length≤300:=by
 obtain⟨hk,_,_,_⟩:=Mg.bR h;have h3:(fI [1,1,1] [m.kind.toNat,m.fr.toNat,m.to.toNat]).length=3:=by simp[fI,aP]
 have h5:(fI kW (kK m.key)).length=5:=by simp[fI,kK,aP]
 unfold Mg.body;rw[aAe,h3];split
 ·simp[fI,aP]
 ·split
  ·rename_i h2;obtain⟨i0,_,c0,_⟩:=Mg.Ei h h2;simp only[aAe,jC,lZ,fI,aP,aDh];omega
  ·split
   ·rw[aAe,h5,cQ.bD];omega
   ·rw[h5];omega
theorem tU{b:List UInt8}{m:Mg}(h:mM b=some m):m.check=0∧m.enc=b∧m.ok:=by
 unfold mM at h;split at h
 ·rename_i x k hf;split at h
  ·rename_i hk;subst hk;obtain⟨h1,h2,h3⟩:=ID h;refine⟨h1,?_,h3⟩;unfold Mg.enc;rw[h2,IG hf]
  ·cases h
 ·cases h
theorem MR{m:Mg}(hc:m.check=0)(hn:m.ok):mM m.enc=some m:=by
 obtain⟨h1,h2⟩:=Mg.size hc;have h:=Frm.yY (t:=[]) h1 o_;rw[aAc] at h;unfold mM Mg.enc;rw[h];dsimp only;rw[if_pos (Frm.bO _).symm,MS hc hn]
theorem M7{b x:List UInt8}{m:Mg}(hx:((Frm.kG b).map Prod.fst).getD []=x)(hm:Lm x m)(hn:m.ok):mM b=if m.check=0∧m.enc=b then some m else none:=by
 by_cases h:m.check=0∧m.enc=b
 ·rw[if_pos h,←h.2,MR h.1 hn]
 ·rw[if_neg h];cases hf:mM b with
  |none=>rfl
  |some m0 =>
   exfalso;obtain⟨h1,h2,h3⟩:=tU hf;unfold mM at hf;split at hf
   ·rename_i y k hg;rw[hg] at hx;change y=x at hx;subst hx;split at hf
    ·have:=hm _ hf;subst this;exact h ⟨h1,h2⟩
    ·cases hf
   ·cases hf
end
section
open Go.RowKit Reg Oct
open Mem hiding Rd
theorem Vy(l:List UInt8):∀c∈MP l,dQ c.n:=by
 intro c hc;unfold MP at hc;split at hc
 ·exact absurd hc aAk
 ·rename_i h t;split at hc
  ·rename_i hq;cases hp:pieces h.toNat t with
   |none=>rw[hp] at hc;exact absurd hc aAk
   |some xs =>
    rw[hp] at hc;exact((tC hp hq.2).2.2.2 c hc).2.2.2.2.2.1
  ·exact absurd hc aAk
theorem R8(s:Rs):dQ (IJ s).n:=by
 unfold IJ;cases(nx s.1 s.2 (13:Nat)).1 with
 |none=>exact dQ.zero
 |some y =>
  show dQ ((eY y).getD rZ).n;cases h:eY y with
  |none=>exact dQ.zero
  |some f =>
   have:=FX y;rw[←(uE h).1] at this;exact this.2.2.1
section
variable (E:Env) (g gm:Nat) (A:Option Addr) (n c:Nat)
theorem Wd(x:List UInt8)(hr:Rd E aU A n c (st jO x 3).2)(hl:(st jO x 3).2.length≤140737488355300):aK prog E 187 #[rv g,.pointer (some ⟨gm,0,none⟩)] [aJ gm 195 (oK (QY (va jO x 0:Nat) (va jO x 1:Nat) (va jO x 2:Nat)) none 0 0 none 0 0),pC g true (st jO x 3).1 A n c] λe H'=>∃m,Lm x m∧m.ok∧MB g gm m e H':=by
 by_cases h1:va jO x 0=1
 ·have hL:=Lm.ask h1;unfold NN at hL;rw[h1] at hL⊢;exact aK.mono (y8 E g gm A n c _ _ _ hr) λe H' h=>⟨_,hL,⟨λc hc=>absurd hc aAk,dQ.zero⟩,h⟩
 by_cases h2:va jO x 0=2
 ·have hL:=Lm.push h2;unfold NN at hL;rw[h2] at hL⊢;exact aK.mono (x7 E g gm A n c _ _ _ hr hl) λe H' h=>⟨_,hL,⟨Vy _,dQ.zero⟩,h⟩
 by_cases h3:va jO x 0=3
 ·have hL:=Lm.u5 h3;unfold NN at hL;rw[h3] at hL⊢;exact aK.mono (x8 E g gm A n c _ _ _ hr hl) λe H' h=>⟨_,hL,⟨λc hc=>absurd hc aAk,R8 _⟩,h⟩
 by_cases h4:va jO x 0=4
 ·have hL:=Lm.QV h4;unfold NN at hL;rw[h4] at hL⊢;exact aK.mono (u4 E g gm A n c _ _ _ hr) λe H' h=>⟨_,hL,⟨λc hc=>absurd hc aAk,dQ.zero⟩,h⟩
 ·exact aK.mono (O3 E g gm A n c _ _ _ _ o_) λe H' h=>⟨_,Lm.none o_,⟨λc hc=>absurd hc aAk,dQ.zero⟩,h⟩
theorem mframe(l:List UInt8)(hr:Rd E aU A n c l)(hl:n≤140737488355200)(x:List UInt8)(hx:((Frm.kG l).map Prod.fst).getD []=x):aK prog E 184 #[.slice A n c] [] λe H'=>∃B d k f,e=.returned (.tuple #[.slice B x.length d,.int .i64 k,.bool f])∧H'=[own aU B x.length d x]:=by
 cases hf:Frm.kG l with
 |none =>
  rw[hf] at hx;subst hx;refine aK.NV (Ka E A n c l hr hl hf) ?_;rintro e H' ⟨rfl,rfl⟩;exact⟨_,⟨none,0,0,false,rfl,rfl⟩,aB.nil aU⟩
 |some p =>
  obtain⟨y,k⟩:=p;rw[hf] at hx;change y=x at hx;subst hx;refine aK.mono (Ha E A n c l hr hl y k hf) ?_;rintro e H' ⟨B,d,rfl,rfl⟩;exact⟨B,d,k,true,rfl,rfl⟩
def GP(o:Option Mg)(e:Ending)(H':List aL):Prop :=
 match o with
 |some m=>∃O p q B k d,e=.returned (.tuple #[.agg (oK m O p q B k d).toArray,.int .i64 0])∧H'=[own fN O p q m.ids,own bE B k d m.iS]
 |none=>e=.returned (.tuple #[.agg (oK (QY 0 0 0) none 0 0 none 0 0).toArray,.int .i64 16])∧H'=[]
theorem Gv(b:List UInt8)(hr:Rd E aU A n c b)(hl:n≤140737488355200):aK prog E 121 #[.slice A n c] [] (GP (mM b)):=by
 have hn:=hr.len;obtain⟨x,hx⟩:∃x,((Frm.kG b).map Prod.fst).getD []=x:=⟨_,rfl⟩
 have hxl:x.length≤140737488355200:=by
  cases hf:Frm.kG b with
  |none=>rw[hf] at hx;subst hx;exact aAh _
  |some p =>
   obtain⟨y,k⟩:=p;rw[hf] at hx;change y=x at hx;subst hx;have:=Frm.lW hf;omega
 have hxl2:x.length≤140737488355300:=o_;have hs0:st jO x 0=(false,x):=rfl;have hsl:(st jO x 3).2.length≤140737488355300:=aBw (aBw (kZ _ _) (aBw (kZ _ _) (kZ (false,x) 1))) hxl2;refine t_ func121 ntmps121 ?_;repeat first|refine aE ?_|refine Dr.two ?_ ?_|intro
 refine dX (λM h1=>mframe M A n c b h1 hl x hx) ?_;rintro e H' ⟨B,d,k,f,rfl,rfl⟩;repeat first|refine aE ?_|refine Dr.two ?_ ?_|intro
 refine dX (λM h1=>lD M B x.length d x h1 hxl2) ?_;rintro e H' ⟨g,A0,c0,rfl,h5,h6,rfl⟩;refine gk bG ?_;unfold Bs;repeat ((fail_if_success (refine C.seq (x:=Code.region 3 _ _) ?_));first|refine Cx ?_|refine He ?_|intro _|refine Dr.two ?_ ?_)
 rename_i g2 g7;refine C.cut (X:=Nat×Option Addr×Nat×Nat) (λy=>[(0,.slice A n c),(2,.pointer (some ⟨g2,0,none⟩)),(7,.pointer (some ⟨g7,0,none⟩)),(8,.pointer (some ⟨y.1,0,none⟩))]) (λy=>[aJ g7 279 [.pointer (some ⟨g,0,none⟩)],aJ y.1 195 (oK (QY (va jO x 0:Nat) (va jO x 1:Nat) (va jO x 2:Nat)) none 0 0 none 0 0),pC g true (st jO x 3).1 y.2.1 y.2.2.1 y.2.2.2,aJ g2 195 (oK (QY 0 0 0) none 0 0 none 0 0),own aU A0 x.length c0 x]) (λy=>nS A0 x.length c0 x y.2.1 y.2.2.1 y.2.2.2 (st jO x 3).2) ?_ ?_
 ·refine rB (l_ [0,2,4] (.two 1 (.two 3 (.two 5 (n_ 6 (g_ 7 (g_ 8 .nil))) 7 (g_ 5 (n_ 6 (g_ 8 .nil)))) 7 (g_ 3 (g_ 5 (n_ 6 (g_ 8 .nil))))) 7 (g_ 1 (g_ 3 (g_ 5 (n_ 6 (g_ 8 .nil))))))) ([aJ g7 279 [.pointer (some ⟨g,0,none⟩)]]) ?_;repeat first|refine aE ?_|intro
  refine Dr.two ?_ ?_
  ·refine yB rfl sD bA sK aC (λM hE=>kO M g A0 x.length c0 (false,x) (st jO x 1) 1 (va jO x 0:Nat) rfl rfl 1 rfl (.inl rfl) dB) ?_;rintro e H' ⟨A1,n1,c1,rfl,hal1,rfl⟩;repeat first|refine aE ?_|intro
   refine Dr.two ?_ ?_
   ·refine yB rfl sD bA sK aC (λM hE=>kO M g A1 n1 c1 (st jO x 1) (st jO x 2) 1 (va jO x 1:Nat) rfl rfl 1 rfl (.inl rfl) (hal1 _ dB)) ?_;rintro e H' ⟨A2,n2,c2,rfl,hal2,rfl⟩;repeat first|refine aE ?_|intro
    refine Dr.two ?_ ?_
    ·refine yB rfl sD bA sK aC (λM hE=>kO M g A2 n2 c2 (st jO x 2) (st jO x 3) 1 (va jO x 2:Nat) rfl rfl 1 rfl (.inl rfl) (hal2 _ (hal1 _ dB))) ?_;rintro e H' ⟨A3,n3,c3,rfl,hal3,rfl⟩;repeat first|refine aE ?_|refine Dr.two ?_ ?_|intro
     exact⟨(_,_,_,_),aD,aA,(hal1.trans hal2).trans hal3⟩
    ·repeat first|refine aE ?_|intro
     refine cg rfl sD bA sK aC (λM hE=>kO M g A2 n2 c2 (st jO x 2) (st jO x 3) 1 (va jO x 2:Nat) rfl rfl 1 rfl (.inl rfl) (hal2 _ (hal1 _ dB))) ?_;rintro e H' ⟨A3,n3,c3,rfl,hal3,rfl⟩;repeat first|refine aE ?_|refine Dr.two ?_ ?_|intro
     exact⟨(_,_,_,_),aD,aA,(hal1.trans hal2).trans hal3⟩
   ·repeat first|refine aE ?_|intro
    refine cg rfl sD bA sK aC (λM hE=>kO M g A1 n1 c1 (st jO x 1) (st jO x 2) 1 (va jO x 1:Nat) rfl rfl 1 rfl (.inl rfl) (hal1 _ dB)) ?_;rintro e H' ⟨A2,n2,c2,rfl,hal2,rfl⟩;repeat first|refine aE ?_|intro
    refine cg rfl sD bA sK aC (λM hE=>kO M g A2 n2 c2 (st jO x 2) (st jO x 3) 1 (va jO x 2:Nat) rfl rfl 1 rfl (.inl rfl) (hal2 _ (hal1 _ dB))) ?_;rintro e H' ⟨A3,n3,c3,rfl,hal3,rfl⟩;repeat first|refine aE ?_|refine Dr.two ?_ ?_|intro
    exact⟨(_,_,_,_),aD,aA,(hal1.trans hal2).trans hal3⟩
  ·repeat first|refine aE ?_|intro
   refine C2 (λM=>kO M g A0 x.length c0 (false,x) (st jO x 1) 1 (va jO x 0:Nat) rfl rfl 1 rfl (.inl rfl)) ?_;rintro e H' ⟨A1,n1,c1,rfl,hal1,rfl⟩;repeat first|refine aE ?_|intro
   refine cg rfl sD bA sK aC (λM hE=>kO M g A1 n1 c1 (st jO x 1) (st jO x 2) 1 (va jO x 1:Nat) rfl rfl 1 rfl (.inl rfl) (hal1 _ dB)) ?_;rintro e H' ⟨A2,n2,c2,rfl,hal2,rfl⟩;repeat first|refine aE ?_|intro
   refine cg rfl sD bA sK aC (λM hE=>kO M g A2 n2 c2 (st jO x 2) (st jO x 3) 1 (va jO x 2:Nat) rfl rfl 1 rfl (.inl rfl) (hal2 _ (hal1 _ dB))) ?_;rintro e H' ⟨A3,n3,c3,rfl,hal3,rfl⟩;repeat first|refine aE ?_|refine Dr.two ?_ ?_|intro
   exact⟨(_,_,_,_),aD,aA,(hal1.trans hal2).trans hal3⟩
 rintro⟨g8,A3,n3,c3⟩ G hal;dsimp only at hal⊢;repeat first|refine aE ?_|refine Dr.two ?_ ?_|intro
 refine cl sD sK aC (λM hE=>Wd M g g8 A3 n3 c3 x (hal _ dB) hsl) ?_;rintro e H' ⟨m,hL,hok,O,p,q,Q,k2,d2,s',A4,n4,c4,rfl,rfl⟩;refine gk bG ?_;rw[M7 hx hL hok];by_cases hc:m.check=0
 ·repeat first|refine aE ?_|refine Dr.two ?_ ?_|intro
  refine C1 (λM h1 h2=>KQ M m O p q Q k2 d2 h1 h2 hc) ?_;rintro e H' ⟨A5,c5,rfl,rfl⟩;refine gk bG ?_;by_cases he:m.enc=b
  ·rw[if_pos ⟨hc,he⟩];rw[he];have hd:decide (b≠b)=false:=decide_eq_false λh=>h rfl;repeat first|refine aE ?_|refine Dr.two ?_ ?_|intro
   apply gS;(· exact rfl);(· exact aF);(· exact rfl);(· exact rfl);(· exact rfl);(· exact aS);(· exact rfl);(· exact aF);rotate_left;(· exact(⟨_,_,_,_,_,_,rfl,rfl⟩));(· exact aA)
  ·rw[if_neg λh=>he h.2];have hd:decide (m.enc≠b)=true:=decide_eq_true he;repeat first|refine aE ?_|refine Dr.two ?_ ?_|intro
   exact Qv
 ·rw[if_neg λh=>hc h.1];repeat first|refine aE ?_|refine Dr.two ?_ ?_|intro
  refine C1 (λM h1 h2=>Ks M m O p q Q k2 d2 h1 h2 hc) ?_;generalize m.check=ck at *;rintro e H' ⟨rfl,rfl⟩;repeat first|refine aE ?_|refine Dr.two ?_ ?_|intro
  exact Qv
end
abbrev EM(s:Sv):V4:=L0 (s.v.l++s.v.t)
def Ll(s:Sv)(to:Int):Mg:=⟨1,s.r,to,(EM s).a,(EM s).b,(EM s).c,(EM s).d,s.v.l.length,[],[],kz,ez⟩
section
variable (E:Env) (P:List Ov) (g:Nat) (s:Sv)
theorem Jo{f:FuncId}{args:Array Value}{Q:Ending→List aL→Prop}{R:List aL}(h:Gd s→aK prog E f args (dI P g s::R) Q):aK prog E f args (dI P g s::R) Q:=aK.Y1 Has.aN λ⟨_,hx⟩=>h hx.2
theorem Zf(to:Int):G E 114 [pt g,.int .i64 to] [dI P g s] (cM (.agg (oK (Ll s to) none 0 0 none 0 0).toArray) [dI P g s]):=by
 refine Jo E P g s λhg=>?_;have h0:=hg.rep;have hlen:=hg.v.len;have hml:s.v.l.length≤maxLen:=by unfold maxLen;omega
 have rep:=λM=>qR M P g s;have mC:=λM=>qQ M P g s;unfold Ll;refine t_ func114 ntmps114 ?_;repeat first|refine v_ ?_|intro
 refine bK rep ?_;repeat first|refine v_ ?_|intro
 refine bW mC ?_;rintro e H' ⟨g2,rfl,rfl⟩;repeat first|refine v_ ?_|intro
 refine bK rep ?_;repeat first|refine v_ ?_|intro
 refine bK (λM=>Uk M P g2 s.v) ?_;repeat first|refine v_ ?_|intro
 refine bW (λM=>iV M P g2 s.v) ?_;rintro e H' ⟨B,k,hk,rfl,rfl⟩;repeat first|refine v_ ?_|intro
 exact Kz
theorem IF(A:Option Addr)(n c:Nat)(l:List bJ)(k:Nat)(hr:Rd E fN A n c l)(hn:n≤1000000)(hk:k≤1000000):G E 251 [.slice A n c,.int .i64 k] [] (cM (.slice A (min n k) (min n k)) []):=by
 have hcap:=hr.cap;have hm:n≤maxLen:=o_;have hmin:(min (n:Int) (k:Int)).toNat=min n k:=o_;refine t_ func251 ntmps251 ?_;repeat first|refine v_ ?_|intro
 exact aR rfl aF aA (⟨by rw[hmin],rfl⟩)
theorem Ji(A:Option Addr)(n c:Nat)(l:List aX)(k:Nat)(hr:Rd E bE A n c l)(hn:n≤1000000)(hk:k≤1000000):G E 252 [.slice A n c,.int .i64 k] [] (cM (.slice A (min n k) (min n k)) []):=by
 have hcap:=hr.cap;have hm:n≤maxLen:=o_;have hmin:(min (n:Int) (k:Int)).toNat=min n k:=o_;refine t_ func252 ntmps252 ?_;repeat first|refine v_ ?_|intro
 exact aR rfl aF aA (⟨by rw[hmin],rfl⟩)
theorem Z9(A:Option Addr)(n c:Nat)(l:List pD)(x:Rc)(hx:x.ok)(hn:n≤1000000):G E 254 [pt g,.slice A n c,.agg x.r.cs.toArray] [dI P g s,aI P,own jE A n c l] λe H'=>∃Q A' c',(if (s.doc x).2=0 then n+1 else n)≤c'∧c'≤maxLen∧e=.returned (.tuple #[.slice A' (if (s.doc x).2=0 then n+1 else n) c',.bool (decide ((s.doc x).2=0))])∧H'=[dI (P++Q) g (s.doc x).1,aI (P++Q),own jE A' (if (s.doc x).2=0 then n+1 else n) c' (if (s.doc x).2=0 then l++[x.r] else l)]:=by
 have doo:=λM=>Sz M P g s x hx;generalize s.doc x=res at *;obtain⟨s2,cd⟩:=res;dsimp only at doo⊢;generalize x.r=xr at *;dsimp only[pD.cs] at doo⊢;refine aK.fact (p:=n≤c∧c≤maxLen) (λw hw=>by obtain⟨F,h1,_⟩:=hw.has (a:=own jE A n c l) aS;have:=qE h1;exact⟨this.2.1,this.2.2.1⟩) λhcap=>?_;by_cases h:cd=0
 ·subst h;simp only[if_true,decide_true];refine t_ func254 ntmps254 ?_;repeat first|refine v_ ?_|intro
  refine bW doo ?_;rintro e H' ⟨Q,rfl,rfl⟩;repeat first|refine v_ ?_|intro
  rename_i A' c' h1 h2;exact Cz ⟨Q,A',c',h1,h2,rfl,rfl⟩
 ·simp only[h,if_false,decide_false];refine t_ func254 ntmps254 ?_;repeat first|refine v_ ?_|intro
  refine bW doo ?_;rintro e H' ⟨Q,rfl,rfl⟩;repeat first|refine v_ ?_|intro
  exact Cz ⟨Q,A,c,hcap.1,hcap.2,rfl,rfl⟩
end
def eE(z:Sv×List Rc)(x:Rc):Sv×List Rc:=((z.1.doc x).1,if (z.1.doc x).2=0 then z.2++[x] else z.2)
def comms:Sv→List Rc→List bJ→List Rc
 |_,out,[]=>out
 |s,out,a::l=>if (s.doc (.rI a)).2=0 then comms (s.doc (.rI a)).1 (out++[.rI a]) l else out
def tryAll(s:Sv)(l:List aX):Sv×List Rc:=l.foldl (λz c=>eE z (.lI c)) (s,[])
def kL(s:Sv)(m:Mg):List Rc :=
 if m.check=0∧m.kind=2∧m.to=s.r then
  (if ((tryAll s m.iS).1.v.l.length:Int) - m.base<0 then(tryAll s m.iS).2 else comms (tryAll s m.iS).1 (tryAll s m.iS).2 (m.ids.drop (min ((tryAll s m.iS).1.v.l.length - m.base.toNat) m.ids.length)))
 else[]
theorem HB{s:Sv}{l:List aX}{i:Nat}{x:aX}(h:l[i]?=some x):tryAll s (l.take (i+1))=eE (tryAll s (l.take i)) (.lI x):=iX (f:=λz c=>eE z (.lI c)) h
theorem Fv(z:Sv×List Rc)(x:Rc):(eE z x).2.length≤z.2.length+1:=by
 unfold eE;dsimp only;split
 ·simp
 ·omega
theorem CZ(s:Sv)(l:List aX):(tryAll s l).2.length≤l.length:=by
 have:∀(l:List aX) (z:Sv×List Rc),(l.foldl (λz c=>eE z (.lI c)) z).2.length≤z.2.length+l.length:=by
  intro l
  induction l with
  |nil=>exact λz=>aAf _
  |cons c l ih =>
   intro z;have h1:=ih (eE z (.lI c));have h2:=Fv z (.lI c);rw[aFj,aAs];omega
 have h:=this l (s,[]);simpa [tryAll] using h
theorem Mh{s:Sv}(h:Gd s){l:List aX}(hl:∀c∈l,c.ok):Gd (tryAll s l).1:=by
 have:∀(l:List aX) (z:Sv×List Rc),(∀c∈l,c.ok)→Gd z.1→Gd (l.foldl (λz c=>eE z (.lI c)) z).1:=by
  intro l
  induction l with
  |nil=>exact λz _ h=>h
  |cons c l ih=>exact λz hl h=>ih _ (λx hx=>hl x (aBl _ hx)) (h.doc (x:=.lI c) (hl c aBo))
 exact this l (s,[]) hl h
section
variable (E:Env) (P:List Ov) (g:Nat) (s:Sv)
theorem Th(A:Option Addr)(c:Nat)(l:List Rc)(x:Rc)(hx:x.ok)(hn:l.length≤1000000):G E 254 [pt g,.slice A l.length c,.agg x.r.cs.toArray] [dI P g s,aI P,own jE A l.length c (l.map Rc.r)] λe H'=>∃Q A' c',(eE (s,l) x).2.length≤c'∧c'≤maxLen∧e=.returned (.tuple #[.slice A' (eE (s,l) x).2.length c',.bool (decide ((s.doc x).2=0))])∧H'=[dI (P++Q) g (s.doc x).1,aI (P++Q),own jE A' (eE (s,l) x).2.length c' ((eE (s,l) x).2.map Rc.r)]:=by
 refine aK.post (Z9 E P g s A l.length c (l.map Rc.r) x hx hn) ?_;rintro e H' ⟨Q,A',c',h1,h2,rfl,rfl⟩;have e1:(if (s.doc x).2=0 then l.length+1 else l.length)=(eE (s,l) x).2.length:=by unfold eE;dsimp only;split<;>simp
 have e2:(if (s.doc x).2=0 then l.map Rc.r++[x.r] else l.map Rc.r)=(eE (s,l) x).2.map Rc.r:=by unfold eE;dsimp only;split<;>simp
 rw[e1] at h1;rw[e1,e2];exact⟨_,aB.refl,Q,A',c',h1,h2,rfl,rfl⟩
theorem Xg(m:Mg)(A:Option Addr)(n c:Nat)(B:Option Addr)(k d:Nat)(hI:Rd E fN A n c m.ids)(hC:Rd E bE B k d m.iS)(hok:m.ok):G E 189 [pt g,.agg (oK m A n c B k d).toArray] [dI P g s,aI P] λe H'=>∃Q X qc,((kL s m).length≤qc∧qc≤maxLen)∧(kL s m).length≤100∧e=.returned (.slice X (kL s m).length qc)∧H'=[own jE X (kL s m).length qc ((kL s m).map Rc.r),dI (P++Q) g s,aI (P++Q)]:=by
 refine Jo E P g s λhg=>?_;have hmax:=fX;have h0:=hg.rep;have rep:=λM=>qR M P g s;have sO:=λM hI hC=>Cr M m A n c B k d hI hC;have cln:=λM=>Ij M P g s;have hnl:=hI.len;have hkl:=hC.len;unfold kL;by_cases hc:m.check=0
 ·by_cases hk:m.kind=2
  ·by_cases ht:m.to=s.r
   ·rw[if_pos ⟨hc,hk,ht⟩];obtain⟨f1,f2,f3,f4,f5⟩:=Mg.Ei hc hk;rw[hc] at sO;refine t_ func189 ntmps189 ?_;repeat first|refine v_ ?_|intro
    rename_i g3;refine rA (n_ 0 (g_ 1 (l_ [2,3,4] (g_ 5 (l_ [6,7,8,9,10,11,12,13,14,15,16] (g_ 17 (l_ [18,19] .nil))))))) ?_;repeat first|refine v_ ?_|intro
    refine eJ rep ?_;repeat first|refine v_ ?_|intro
    refine Ju sO ?_;repeat first|refine v_ ?_|intro
    refine eJ rep ?_;repeat first|refine v_ ?_|intro
    refine bW cln ?_;rintro e H' ⟨g2,rfl,rfl⟩;repeat first|refine v_ ?_|intro
    have hkm:k≤maxLen:=o_;have hch:∀c∈m.iS,c.ok:=λc hc=>Jj (aDm.1 f4 c hc) (hok.1 c hc);refine C.scan (Y:=List Ov×Option Addr×Nat) (l:=m.iS) hkl (λi y=>[(0,pt g2),(3,pt g3),(5,.slice y.2.1 (tryAll s (m.iS.take i)).2.length y.2.2),(35,.slice B k d),(36,.int .i64 k),(37,.int .i64 i)])
     (λi y=>[dI (P++y.1) g2 (tryAll s (m.iS.take i)).1,aI (P++y.1),own jE y.2.1 (tryAll s (m.iS.take i)).2.length y.2.2 ((tryAll s (m.iS.take i)).2.map Rc.r),aJ g3 195 (oK m A n c B k d),dI P g s]) (λi y=>(tryAll s (m.iS.take i)).2.length≤y.2.2∧y.2.2≤maxLen) ([],none,0) aD (by dsimp only;rw[aAc];exact(show aB _ _ [dI P g2 s,aI P,own jE none 0 0 [],aJ g3 195 (oK m A n c B k d),dI P g s] from aB.trans (aB.nil jE) aA)) ⟨aAf _,aAh _⟩ ?_ ?_
    ·rintro i ⟨Q,X,qc⟩ x F hi hx ⟨h1,h2⟩;dsimp only at h1 h2⊢;have hzl:=CZ s (m.iS.take i);rw[aAg] at hzl;rw[HB hx];generalize tryAll s (m.iS.take i)=z at *;obtain⟨s1,out⟩:=z;dsimp only at h1 hzl⊢;have law:=λM=>Th M (P++Q) g2 s1 X qc out (.lI x) (hch x (aAi hx)) o_;have e1:(eE (s1,out) (.lI x)).1=(s1.doc (.lI x)).1:=rfl;rw[e1];generalize (eE (s1,out) (.lI x)).2=out2 at *;generalize s1.doc (.lI x)=w at *;repeat first|refine v_ ?_|intro
     refine bK (λM=>qM M x) ?_;repeat first|refine v_ ?_|intro
     refine bW law ?_;rintro e H' ⟨Q2,X2,q2,h3,h4,rfl,rfl⟩;repeat first|refine v_ ?_|intro
     exact⟨(Q++Q2,X2,q2),aD,(by dsimp only;rw[←aAb];exact aA),h3,h4⟩
    ·rintro⟨Q,X,qc⟩ F ⟨h1,h2⟩;dsimp only at h1 h2⊢;rw[hkl,aAo] at h1⊢;have hzl:=CZ s m.iS;have hzg:=Mh hg hch;generalize tryAll s m.iS=z at *;obtain⟨s1,out⟩:=z;dsimp only at h1 hzl hzg⊢;have hln:=hzg.v.len;have hlm:s1.v.l.length≤maxLen:=o_;have mC:=λM=>qQ M (P++Q) g2 s1;have hb0:0≤m.base∧m.base≤48:=f5;have bak:aB E [own jE X out.length qc (out.map Rc.r),dI P g s,aI (P++Q)] [own jE X out.length qc (out.map Rc.r),dI (P++Q) g s,aI (P++Q)]:=aB.cF (cA.cons cA.refl (cA.cons dI.mono cA.refl));by_cases hneg:(s1.v.l.length:Int) - m.base<0
     ·rw[if_pos hneg];repeat first|refine v_ ?_|intro
      refine rB (l_ [0,4,5] (g_ 1 (g_ 2 (l_ [3,6,7] .nil)))) ([aJ g3 195 _]) ?_;repeat first|refine v_ ?_|intro
      refine iO mC ?_;rintro e H' ⟨g5,rfl,rfl⟩;repeat first|refine v_ ?_|intro
      refine iO (λM=>iV M (P++Q) g5 s1.v) ?_;rintro e H' ⟨O,oc,hoc,rfl,rfl⟩;repeat first|refine v_ ?_|intro
      exact aR (H':=[own jE X out.length qc (out.map Rc.r),dI (P++Q) g s,aI (P++Q)]) rfl aF (aB.trans (aB.aV (l:=[own jE X out.length qc (out.map Rc.r),dI P g s,aI (P++Q)]) aC) bak) ⟨Q,X,qc,⟨h1,h2⟩,by omega,rfl,rfl⟩
     ·rw[if_neg hneg];have hJ:(min ((s1.v.l.length:Int) - m.base) (n:Int)).toNat=min (s1.v.l.length - m.base.toNat) m.ids.length:=by rw[←hnl];omega
      have hr2:=hI.from_ (k:=(min ((s1.v.l.length:Int) - m.base) (n:Int)).toNat) o_;rw[←hJ];have hnm:n≤maxLen:=o_;repeat first|refine v_ ?_|intro
      refine rB (l_ [0,4,5] (g_ 1 (g_ 2 (l_ [3,6,7] .nil)))) ([aJ g3 195 _]) ?_;repeat first|refine v_ ?_|intro
      refine iO mC ?_;rintro e H' ⟨g5,rfl,rfl⟩;repeat first|refine v_ ?_|intro
      refine iO (λM=>iV M (P++Q) g5 s1.v) ?_;rintro e H' ⟨O,oc,hoc,rfl,rfl⟩;repeat first|refine v_ ?_|intro
      generalize (min ((s1.v.l.length:Int) - m.base) (n:Int)).toNat=J at *;refine C.scan (Y:=Sv×List Rc×List Ov×Option Addr×Nat) (l:=m.ids.drop J) hr2.len (λi y=>[(0,pt g2),(5,.slice y.2.2.2.1 y.2.1.length y.2.2.2.2),(67,.slice (if c=J then A else A.map (·.add (J*fN.size))) (n - J) (c - J)),(68,.int .i64 ((n - J:Nat):Int)),(69,.int .i64 i)])
       (λi y=>[dI (P++y.2.2.1) g2 y.1,aI (P++y.2.2.1),own jE y.2.2.2.1 y.2.1.length y.2.2.2.2 (y.2.1.map Rc.r),dI P g s]) (λi y=>comms s1 out (m.ids.drop J)=comms y.1 y.2.1 ((m.ids.drop J).drop i)∧y.2.1.length≤8+i∧y.2.1.length≤y.2.2.2.2∧y.2.2.2.2≤maxLen) (s1,out,Q,X,qc) aD aA ⟨rfl,by dsimp only;omega,h1,h2⟩ ?_ ?_
      ·rintro i ⟨s2,out2,Q2,X2,q2⟩ a F hi ha ⟨hcm,h3,h4,h5⟩;dsimp only at hcm h3 h4 h5⊢;have hlt:=(aAd.1 ha).1;have e1:(m.ids.drop J).drop i=a::(m.ids.drop J).drop (i+1):=by rw[aAm hlt,(aAd.1 ha).2]
       rw[e1,comms] at hcm;have hid:(m.ids.drop J).length≤16:=by rw[aBd];omega
       have law:=λM=>Th M (P++Q2) g2 s2 X2 q2 out2 (.rI a) trivial o_;unfold eE at law;dsimp only at law;generalize s2.doc (.rI a)=w at *;obtain⟨s3,cd⟩:=w;dsimp only at law hcm;by_cases he:cd=0
       ·subst he;rw[if_pos rfl] at hcm;simp only[if_true,decide_true] at law;repeat first|refine v_ ?_|intro
        refine bK (λM=>oS M a) ?_;repeat first|refine v_ ?_|intro
        refine bW law ?_;rintro e H' ⟨Q3,X3,q3,h6,h7,rfl,rfl⟩;repeat first|refine v_ ?_|intro
        exact⟨(s3,out2++[.rI a],Q2++Q3,X3,q3),aD,(by dsimp only;rw[←aAb];exact aA),hcm,by dsimp only;rw[aAe];simp;omega,h6,h7⟩
       ·rw[if_neg he] at hcm;simp only[he,if_false,decide_false] at law;rw[hcm];repeat first|refine v_ ?_|intro
        refine bK (λM=>oS M a) ?_;repeat first|refine v_ ?_|intro
        refine bW law ?_;rintro e H' ⟨Q3,X3,q3,h6,h7,rfl,rfl⟩;repeat first|refine v_ ?_|intro
        exact aR (H':=[own jE X3 out2.length q3 (out2.map Rc.r),dI (P++(Q2++Q3)) g s,aI (P++(Q2++Q3))]) rfl aF (by rw[←aAb];exact aB.trans (aB.aV (l:=[own jE X3 out2.length q3 (out2.map Rc.r),dI P g s,aI (P++Q2++Q3)]) aC) (aB.cF (cA.cons cA.refl (cA.cons (by rw[aAb];exact dI.mono) cA.refl)))) ⟨Q2++Q3,X3,q3,⟨h6,h7⟩,by omega,rfl,rfl⟩
      ·rintro⟨s2,out2,Q2,X2,q2⟩ F ⟨hcm,h3,h4,h5⟩;dsimp only at hcm h3 h4 h5⊢;have hid:(m.ids.drop J).length≤16:=by rw[aBd];omega
       have hnj:=hr2.len;rw[show(m.ids.drop J).drop (n - J)=[] from aCn o_,comms] at hcm;rw[hcm];repeat first|refine v_ ?_|intro
       exact aR (H':=[own jE X2 out2.length q2 (out2.map Rc.r),dI (P++Q2) g s,aI (P++Q2)]) rfl aF (aB.trans (aB.aV (l:=[own jE X2 out2.length q2 (out2.map Rc.r),dI P g s,aI (P++Q2)]) aC) (aB.cF (cA.cons cA.refl (cA.cons dI.mono cA.refl)))) ⟨Q2,X2,q2,⟨h4,h5⟩,by omega,rfl,rfl⟩
   ·rw[if_neg λh=>ht h.2.2];rw[hc] at sO;refine t_ func189 ntmps189 ?_;repeat first|refine v_ ?_|intro
    rename_i g3;refine rA (n_ 0 (g_ 1 (l_ [2,3,4] (g_ 5 (l_ [6,7,8,9,10,11,12,13,14,15,16] (g_ 17 (l_ [18,19] .nil))))))) ?_;repeat first|refine v_ ?_|intro
    refine eJ rep ?_;repeat first|refine v_ ?_|intro
    refine Ju sO ?_;repeat first|refine v_ ?_|intro
    refine eJ rep ?_;repeat first|refine v_ ?_|intro
    exact aR (H':=[own jE none 0 0 [],dI (P++[]) g s,aI (P++[])]) rfl aF (by rw[aAc];exact aB.trans (aB.nil jE) (aB.aV (l:=[own jE none 0 0 [],dI P g s,aI P]) aC)) ⟨[],none,0,⟨aAf _,aAh _⟩,aAh _,rfl,rfl⟩
  ·rw[if_neg λh=>hk h.2.1];rw[hc] at sO;refine t_ func189 ntmps189 ?_;repeat first|refine v_ ?_|intro
   rename_i g3;refine rA (n_ 0 (g_ 1 (l_ [2,3,4] (g_ 5 (l_ [6,7,8,9,10,11,12,13,14,15,16] (g_ 17 (l_ [18,19] .nil))))))) ?_;repeat first|refine v_ ?_|intro
   refine eJ rep ?_;repeat first|refine v_ ?_|intro
   refine Ju sO ?_;repeat first|refine v_ ?_|intro
   exact aR (H':=[own jE none 0 0 [],dI (P++[]) g s,aI (P++[])]) rfl aF (by rw[aAc];exact aB.trans (aB.nil jE) (aB.aV (l:=[own jE none 0 0 [],dI P g s,aI P]) aC)) ⟨[],none,0,⟨aAf _,aAh _⟩,aAh _,rfl,rfl⟩
 ·rw[if_neg λh=>hc h.1];refine t_ func189 ntmps189 ?_;repeat first|refine v_ ?_|intro
  rename_i g3;refine rA (n_ 0 (g_ 1 (l_ [2,3,4] (g_ 5 (l_ [6,7,8,9,10,11,12,13,14,15,16] (g_ 17 (l_ [18,19] .nil))))))) ?_;repeat first|refine v_ ?_|intro
  refine eJ rep ?_;repeat first|refine v_ ?_|intro
  refine Ju sO ?_;repeat first|refine v_ ?_|intro
  exact aR (H':=[own jE none 0 0 [],dI (P++[]) g s,aI (P++[])]) rfl aF (by rw[aAc];exact aB.trans (aB.nil jE) (aB.aV (l:=[own jE none 0 0 [],dI P g s,aI P]) aC)) ⟨[],none,0,⟨aAf _,aAh _⟩,aAh _,rfl,rfl⟩
end
def oX(s:Sv)(m:Mg):List bJ:=(s.v.l.drop (min m.base.toNat s.v.l.length)).map (·.id)
def E8(s:Sv)(m:Mg):List aX:=(s.v.l++s.v.t).filter λx => !yN ⟨m.k0,m.k1,m.k2,m.k3⟩ x.id
def uN(s:Sv)(m:Mg):Mg:=⟨2,s.r,m.fr,0,0,0,0,m.base,(oX s m).take 16,(E8 s m).take 8,kz,ez⟩
def answers(s:Sv)(m:Mg):Prop:=m.check=0∧m.kind=1∧m.to=s.r
instance (s:Sv)(m:Mg):Decidable (answers s m):=by unfold answers;infer_instance
def mz:Mg:=⟨0,0,0,0,0,0,0,0,[],[],kz,ez⟩
theorem XY:oK mz none 0 0 none 0 0=[.int .i64 0,.int .i64 0,.int .i64 0,.int .i64 0,.int .i64 0,.int .i64 0,.int .i64 0,.int .i64 0,.slice none 0 0,.slice none 0 0,.int .i64 0,.int .i64 0,.int .i64 0,.bool false,.int .i64 0,.int .i64 0,.int .i64 0,.int .i64 0,.int .i64 0]:=rfl
section
variable (E:Env) (P:List Ov) (g:Nat) (s:Sv)
theorem Hq(m:Mg)(A:Option Addr)(n c:Nat)(B:Option Addr)(k d:Nat)(hI:Rd E fN A n c m.ids)(hC:Rd E bE B k d m.iS)(hno:¬answers s m):G E 188 [pt g,.agg (oK m A n c B k d).toArray] [dI P g s] λe H'=>e=.returned (.tuple #[.agg (oK mz none 0 0 none 0 0).toArray,.bool false])∧H'=[dI P g s]:=by
 refine Jo E P g s λhg=>?_;have h0:=hg.rep;have rep:=λM=>qR M P g s;have sO:=λM hI hC=>Cr M m A n c B k d hI hC;unfold answers at hno;rw[XY];by_cases hc:m.check=0
 ·by_cases hk:m.kind=1
  ·have ht:m.to≠s.r:=λh=>hno ⟨hc,hk,h⟩;rw[hc] at sO;refine t_ func188 ntmps188 ?_;repeat first|refine v_ ?_|intro
   rename_i g3 g4;refine rA (n_ 0 (g_ 1 (l_ [2,3,4] (g_ 5 (l_ [6,7,8,9,10,11,12,13,14,15,16] (g_ 17 (l_ [18,19] .nil))))))) ?_;repeat first|refine v_ ?_|intro
   refine eJ rep ?_;repeat first|refine v_ ?_|intro
   refine Ju sO ?_;repeat first|refine v_ ?_|intro
   refine eJ rep ?_;repeat first|refine v_ ?_|intro
   exact Sa
  ·rw[hc] at sO;refine t_ func188 ntmps188 ?_;repeat first|refine v_ ?_|intro
   rename_i g3 g4;refine rA (n_ 0 (g_ 1 (l_ [2,3,4] (g_ 5 (l_ [6,7,8,9,10,11,12,13,14,15,16] (g_ 17 (l_ [18,19] .nil))))))) ?_;repeat first|refine v_ ?_|intro
   refine eJ rep ?_;repeat first|refine v_ ?_|intro
   refine Ju sO ?_;repeat first|refine v_ ?_|intro
   exact Sa
 ·refine t_ func188 ntmps188 ?_;repeat first|refine v_ ?_|intro
  rename_i g3 g4;refine rA (n_ 0 (g_ 1 (l_ [2,3,4] (g_ 5 (l_ [6,7,8,9,10,11,12,13,14,15,16] (g_ 17 (l_ [18,19] .nil))))))) ?_;repeat first|refine v_ ?_|intro
  refine eJ rep ?_;repeat first|refine v_ ?_|intro
  refine Ju sO ?_;repeat first|refine v_ ?_|intro
  exact Sa
theorem RF(m:Mg)(A:Option Addr)(n c:Nat)(B:Option Addr)(k d:Nat)(hI:Rd E fN A n c m.ids)(hC:Rd E bE B k d m.iS)(hyes:answers s m):G E 188 [pt g,.agg (oK m A n c B k d).toArray] [dI P g s] λe H'=>∃X a x Y b y,a=(oX s m).length∧e=.returned (.tuple #[.agg (oK (uN s m) X (min a 16) (min a 16) Y (min b 8) (min b 8)).toArray,.bool true])∧H'=[own fN X a x (oX s m),own bE Y b y (E8 s m),dI P g s]:=by
 refine Jo E P g s λhg=>?_;have h0:=hg.rep;have hmax:=fX;have rep:=λM=>qR M P g s;have mC:=λM=>qQ M P g s;have sO:=λM hI hC=>Cr M m A n c B k d hI hC;obtain⟨hc,hk,ht⟩:=hyes;obtain⟨f1,f2,hb0⟩:=Mg.Nj hc hk;have hlen:=hg.v.len;rw[hc] at sO;refine t_ func188 ntmps188 ?_;repeat first|refine v_ ?_|refine Dr.two ?_ ?_|intro
 rename_i g3 g4;refine rA (n_ 0 (g_ 1 (l_ [2,3,4] (g_ 5 (l_ [6,7,8,9,10,11,12,13,14,15,16] (g_ 17 (l_ [18,19] .nil))))))) ?_;repeat first|refine v_ ?_|refine Dr.two ?_ ?_|intro
 refine eJ rep ?_;repeat first|refine v_ ?_|refine Dr.two ?_ ?_|intro
 refine Ju sO ?_;repeat first|refine v_ ?_|refine Dr.two ?_ ?_|intro
 refine eJ rep ?_;repeat first|refine v_ ?_|refine Dr.two ?_ ?_|intro
 refine bW mC ?_;rintro e H' ⟨g5,rfl,rfl⟩;repeat first|refine v_ ?_|refine Dr.two ?_ ?_|intro
 refine bW (λM=>iV M P g5 s.v) ?_;rintro e H' ⟨O,oc,hoc,rfl,rfl⟩;repeat first|refine v_ ?_|refine Dr.two ?_ ?_|intro
 refine C.BI (X:=Nat) (λg8=>[(3,pt g3),(4,pt g4),(6,pt g5),(7,.slice O s.v.l.length oc),(8,pt g8)]) (λg8=>[aJ g8 195 ([.int .i64 2,.int .i64 s.r,.int .i64 m.fr,.int .i64 0,.int .i64 0,.int .i64 0,.int .i64 0,.int .i64 m.base,.slice none 0 0,.slice none 0 0,.int .i64 0,.int .i64 0,.int .i64 0,.bool false,.int .i64 0,.int .i64 0,.int .i64 0,.int .i64 0,.int .i64 0]:List Value),aJ g3 195 (oK m A n c B k d),aJ g4 195 ([.int .i64 0,.int .i64 0,.int .i64 0,.int .i64 0,.int .i64 0,.int .i64 0,.int .i64 0,.int .i64 0,.slice none 0 0,.slice none 0 0,.int .i64 0,.int .i64 0,.int .i64 0,.bool false,.int .i64 0,.int .i64 0,.int .i64 0,.int .i64 0,.int .i64 0]:List Value),own bE O s.v.l.length oc s.v.l,AT P g5 s.v,dI P g s]) (λ_=>True) ?_ ?_
 ·refine rB (l_ [0,2,3,4,5] (.two 1 (n_ 6 (g_ 7 (g_ 8 .nil))) 7 (g_ 1 (n_ 6 (g_ 8 .nil))))) ([aJ g3 195 _]) ?_;repeat first|refine v_ ?_|intro
  refine Dr.two ?_ ?_
  ·refine yB rfl sD bA sK aC (λM hE=>rep M) ?_;rintro e H' ⟨rfl,rfl⟩;repeat first|refine cY ?_|intro
   rename_i g8;exact⟨g8,aD,aA,trivial⟩
  ·repeat first|refine cY ?_|intro
   refine eJ rep ?_;repeat first|refine cY ?_|intro
   rename_i g8;exact⟨g8,aD,aA,trivial⟩
 ·rintro g8 F -;have hJ:(min m.base (s.v.l.length:Int)).toNat=min m.base.toNat s.v.l.length:=o_;repeat first|refine v_ ?_|refine Dr.two ?_ ?_|intro
  rw[hJ];generalize hJ':min m.base.toNat s.v.l.length=J at *;have hJl:J≤s.v.l.length:=o_;have hld:s.v.l.length - J=(s.v.l.drop J).length:=by rw[aBd]
  have hids:oX s m=(s.v.l.drop J).map (·.id):=by unfold oX;rw[hJ']
  have hca:s.v.l.length≤48:=o_;refine C.scan (Y:=Option Addr×Nat) (l:=s.v.l.drop J) hld (λi y=>[(3,pt g3),(4,pt g4),(6,pt g5),(7,.slice O s.v.l.length oc),(8,pt g8),(49,.slice (if oc=J then O else O.map (·.add (J*bE.size))) (s.v.l.length - J) (oc - J)),(50,.int .i64 ((s.v.l.length - J:Nat):Int)),(51,.int .i64 i)])
   (λi y=>[own fN y.1 i y.2 (((s.v.l.drop J).take i).map (·.id)),aJ g8 195 ([.int .i64 2,.int .i64 s.r,.int .i64 m.fr,.int .i64 0,.int .i64 0,.int .i64 0,.int .i64 0,.int .i64 m.base,.slice y.1 i y.2,.slice none 0 0,.int .i64 0,.int .i64 0,.int .i64 0,.bool false,.int .i64 0,.int .i64 0,.int .i64 0,.int .i64 0,.int .i64 0]:List Value),aJ g3 195 (oK m A n c B k d),aJ g4 195 ([.int .i64 0,.int .i64 0,.int .i64 0,.int .i64 0,.int .i64 0,.int .i64 0,.int .i64 0,.int .i64 0,.slice none 0 0,.slice none 0 0,.int .i64 0,.int .i64 0,.int .i64 0,.bool false,.int .i64 0,.int .i64 0,.int .i64 0,.int .i64 0,.int .i64 0]:List Value),own bE O s.v.l.length oc s.v.l,AT P g5 s.v,dI P g s]) (λi y=>i≤y.2∧y.2≤maxLen) (none,0) aD (aB.nil fN) ⟨aAh _,aAh _⟩ ?_ ?_
  ·rintro i ⟨X,x⟩ c F hi hc' ⟨h1,h2⟩;dsimp only at h1 h2⊢;have hsucc:((s.v.l.drop J).take (i+1)).map (·.id)=((s.v.l.drop J).take i).map (·.id)++[c.id]:=by rw[take_succ hc',aBk];rfl
   rw[hsucc];repeat first|refine v_ ?_|refine Dr.two ?_ ?_|intro
   rename_i X' x' h3 h4;exact⟨(X',x'),aD,aA,h3,h4⟩
  ·rintro⟨X,x⟩ F ⟨h1,h2⟩;dsimp only at h1 h2⊢;have hal:(oX s m).length=s.v.l.length - J:=by rw[hids,aAw,aBd]
   rw[show((s.v.l.drop J).take (s.v.l.length - J)).map (·.id)=oX s m by rw[hids,aAj (by rw[aBd];exact aAf _)]];have ha48:s.v.l.length - J≤48:=o_;generalize s.v.l.length - J=a at *;repeat first|refine v_ ?_|refine Dr.two ?_ ?_|intro
   refine eV (λM h1=>IF M X a x (oX s m) 16 h1 (by omega) (by omega)) ?_;repeat first|refine v_ ?_|refine Dr.two ?_ ?_|intro
   refine rB (l_ [0,1,2,3] (g_ 4 (g_ 5 (g_ 6 (g_ 7 (n_ 8 (g_ 9 .nil))))))) ([aJ g3 195 _]) ?_;repeat first|refine v_ ?_|refine Dr.two ?_ ?_|intro
   refine iO (λM=>IZ M P g5 s.v) ?_;rintro e H' ⟨U,uc,huc,rfl,rfl⟩;repeat first|refine v_ ?_|refine Dr.two ?_ ?_|intro
   rename_i W w1 hw1 hw2;refine cg rfl sD bA sK aC (λM hE=>Mc M ⟨m.k0,m.k1,m.k2,m.k3⟩ W _ w1 (s.v.l++s.v.t) dB o_) ?_;rintro e H' ⟨K2,b,y,hb,rfl,rfl⟩;repeat first|refine v_ ?_|refine Dr.two ?_ ?_|intro
   refine cg rfl sD bA sK aC (λM hE=>Ji M K2 b y _ 8 dB o_ o_) ?_;rintro e H' ⟨rfl,rfl⟩;repeat first|refine v_ ?_|refine Dr.two ?_ ?_|intro
   exact gS (cs:=([.int .i64 2,.int .i64 s.r,.int .i64 m.fr,.int .i64 0,.int .i64 0,.int .i64 0,.int .i64 0,.int .i64 m.base,.slice X (min a 16) (min a 16),.slice K2 (min b 8) (min b 8),.int .i64 0,.int .i64 0,.int .i64 0,.bool false,.int .i64 0,.int .i64 0,.int .i64 0,.int .i64 0,.int .i64 0]:List Value)) (H':=[own fN X a x (oX s m),own bE K2 b y ((s.v.l++s.v.t).filter λx => !yN ⟨m.k0,m.k1,m.k2,m.k3⟩ x.id),dI P g s]) rfl aF rfl rfl rfl aS rfl aF aA ⟨X,a,x,K2,b,y,hal.symm,rfl,rfl⟩
end
def Xa(i:Nat)(ks:List (bJ×Int)):Prop:=∀z∈ks,0≤z.2∧z.2≤i
theorem Jy{i:Nat}{ks:List (bJ×Int)}(h:Xa i ks)(k:bJ):0≤lO ks k∧lO ks k≤i:=by
 unfold lO;cases hf:eT ks k with
 |none=>exact⟨aCd _,by show(0:Int)≤i;omega⟩
 |some q=>obtain⟨q,v⟩:=q;exact h _ (aAi (wO hf))
theorem Ob{i:Nat}{ks:List (bJ×Int)}(h:Xa i ks)(k:bJ):Xa (i+1) (yH ks k):=by
 have hg:=Jy h k;intro z hz;unfold yH at hz;rcases aCr hz with hz|hz
 ·unfold iM at hz;cases hf:eT ks k with
  |none =>
   rw[hf] at hz;rcases aBg.1 hz with hz|hz
   ·have:=h z hz;omega
   ·rw[aAp.1 hz];exact⟨aCd _,by show(0:Int)≤_;omega⟩
  |some q=>rw[hf] at hz;have:=h z hz;omega
 ·rw[hz];exact⟨by show 0≤lO ks k+1;omega,by show lO ks k+1≤_;omega⟩
theorem EB{ks:List (bJ×Int)}{k:bJ}(h:eT ks k=none)(v:Int):eT (ks++[(k,v)]) k=some (ks.length,v):=by
 induction ks with
 |nil=>exact if_pos rfl
 |cons x ks ih =>
  unfold eT at h;split at h
  ·cases h
  ·rename_i hk;have h':eT ks k=none:=by
    cases hf:eT ks k with
    |none=>rfl
    |some z=>rw[hf] at h;cases h
   show(if k=x.1 then _ else _)=_;rw[if_neg hk];show(eT (ks++[(k,v)]) k).map _=_;rw[ih h'];rfl
theorem GN(ks:List (bJ×Int))(k:bJ):lO (iM ks k) k=lO ks k:=by
 unfold iM;cases hf:eT ks k with
 |none =>
  show lO (ks++[(k,0)]) k=_;unfold lO;rw[EB hf,hf];rfl
 |some z=>rfl
theorem Ky{ks:List (bJ×Int)}{k:bJ}{q:Nat}{v:Int}(h:eT ks k=some (q,v))(w:Int):eT (ks.set q (k,w)) k=some (q,w):=by
 induction ks generalizing q with
 |nil=>cases h
 |cons x ks ih =>
  unfold eT at h;split at h
  ·injection h with h
   injection h with h1 h2
   subst h1;exact if_pos rfl
  ·rename_i hk;cases hf:eT ks k with
   |none=>rw[hf] at h;cases h
   |some z =>
    obtain⟨q',v'⟩:=z;rw[hf] at h;injection h with h
    injection h with h1 h2
    subst h1 h2;show(if k=x.1 then _ else(eT (ks.set q' (k,w)) k).map _)=_;rw[if_neg hk,ih hf];rfl
theorem Mz(ks:List (bJ×Int))(k:bJ):lO (yH ks k) k=lO ks k+1:=by
 unfold yH;have h:eT (iM ks k) k=some (DA ks k,lO ks k):=by
  unfold iM DA lO;cases hf:eT ks k with
  |none=>exact EB hf 0
  |some z=>exact hf
 unfold lO;rw[Ky h];rfl
theorem Jc{l:List dK}{i:Nat}{q:dK}(h:l[i]?=some q)(s:List (bJ×Int)×List dK):sI (l.drop i) s=sI (l.drop (i+1)) (EZ (l.drop (i+1)) s q):=by
 obtain⟨hi,rfl⟩:=aAd.1 h;rw[aAm hi];rfl
theorem ZS(E:Env)(A:Option Addr)(n c:Nat)(l:List dK)(hr:Rd E cP A n c l)(hn:n≤100000)(hb:BK (sI l ([],[]))):G E 82 [.slice A n c] [] λe H'=>∃B k,e=.returned (.slice B (FP l).length k)∧H'=[own cP B (FP l).length k (FP l)]:=by
 have kf:xA 146=true:=q_;have hln:=hr.len;have hcap:=hr.cap;have hmax:=fX;have hNl:∀s,mB 0 (sI l s).length (sI l s)=mB 0 (sI l s).length (sI l s):=λ_=>rfl;have hnp:(FP l).length=(sI l ([],[])).length:=by unfold FP mB;rw[zN]
 rw[hnp];unfold FP;generalize hG:sI l ([],[])=out at *;clear hNl hnp;refine t_ func82 ntmps82 ?_;repeat first|refine v_ ?_|refine Dr.two ?_ ?_|intro
 refine L.fQ sD (S.Nb rfl) ?_;rintro _ _ ⟨gm,rfl,rfl⟩;repeat first|refine v_ ?_|refine Dr.two ?_ ?_|intro
 refine C.scan (Y:=List (bJ×Int)×Option Addr×Nat×List dK) (l:=l) (n:=n) hln (λi y=>[(0,.slice A n c),(3,.map (some gm)),(4,.slice y.2.1 y.2.2.2.length y.2.2.1),(9,.slice A n c),(10,.int .i64 n),(11,.int .i64 i)])
  (λi y=>[QW gm y.1,own cP y.2.1 y.2.2.2.length y.2.2.1 y.2.2.2]) (λi y=>sI (l.drop i) (y.1,y.2.2.2)=out∧y.2.2.2.length≤i∧Xa i y.1) ([],none,0,[]) aD (by show aB E _ [QW gm [],own cP none 0 0 []];exact aB.trans (aB.nil cP) aA) ⟨hG,aAf _,λz hz=>(aAk hz).elim⟩ ?_ ?_
 ·rintro i ⟨ks,B,k,o⟩ q F hi hq ⟨h1,h2,h3⟩;dsimp only at h1 h2 h3⊢;rw[Jc hq] at h1;unfold EZ at h1;dsimp only at h1;have hJ:((i:Int)+1).toNat=i+1:=o_;have hfr:Rd E cP (if c=((i:Int)+1).toNat then A else A.map (λx=>x.add (((i:Int)+1).toNat*cP.size))) (n - ((i:Int)+1).toNat) (c - ((i:Int)+1).toNat) (l.drop (i+1)):=by
   have:=hr.from_ (k:=((i:Int)+1).toNat) o_;rw[hJ] at this⊢;exact this
  have kg:=Jy h3 q.key.id;repeat first|refine v_ ?_|refine Dr.two ?_ ?_|intro
  rename_i g6;refine cl sD sK aC (λM hE=>RS M _ _ _ (l.drop (i+1)) (hfr.sub hE) 146 [pt g6] (λx=>decide (x.key=q.key.other)) kf (λE2 R2 hE2 x=>ZU E2 g6 q ((gE.of hE aS).sub hE2) x)) ?_;rintro e H' ⟨rfl,rfl⟩;refine gk bG ?_;generalize (l.drop (i+1)).any (λx=>decide (x.key=q.key.other))=lost at *;have hmore:Xa (i+1) ks:=λz hz=>⟨(h3 z hz).1,by have:=(h3 z hz).2;omega⟩
  rcases aBh q.key.cD with hu|hu
  ·rw[if_pos (by rw[hu];rfl)] at h1;repeat first|refine v_ ?_|refine Dr.two ?_ ?_|intro
   exact⟨(ks,B,k,o),aD,aA,h1,by dsimp only;omega,hmore⟩
  cases lost with
  |true =>
   rw[if_pos (by rw[hu];rfl)] at h1;repeat first|refine v_ ?_|refine Dr.two ?_ ?_|intro
   exact⟨(ks,B,k,o),aD,aA,h1,by dsimp only;omega,hmore⟩
  |false =>
   rw[if_neg (by rw[hu];decide)] at h1;have hb:=Ob h3 q.key.id;have hke:=Oq ks q.key.id;have hge:=GN ks q.key.id;have hgb:=Mz ks q.key.id;have hbm:(iM ks q.key.id).set (DA ks q.key.id) (q.key.id,lO ks q.key.id+1)=yH ks q.key.id:=rfl;repeat ((fail_if_success (refine C.seq (x:=Code.region 8 _ _) ?_));first|refine Cx ?_|refine k_ ?_|intro _|refine Dr.two ?_ ?_)
   refine T.n ?_;refine C.seq ?_;refine C.BI (X:=Unit) (λ_=>[(0,.slice A n c),(3,.map (some gm)),(4,.slice B o.length k),(6,pt g6),(9,.slice A n c),(10,.int .i64 n),(11,.int .i64 i)]) (λ_=>[QW gm (yH ks q.key.id),aJ g6 79 q.cs,own cP B o.length k o]) (λ_=>True) ?_ ?_
   ·refine C.bL 8 (l_ [0,1,2,3] (.two 4 (n_ 5 (g_ 6 (n_ 7 (g_ 8 .nil)))) 6 (n_ 7 (g_ 4 (n_ 5 (g_ 8 .nil)))))) ([aJ g6 79 _]) q_ q_ aA ?_;repeat first|refine v_ ?_|intro
    refine Dr.two ?_ ?_
    ·refine zL.val rfl sD bA (Y.E7 (k:=q.key.id) rfl rfl rfl q_ aS) aA ?_;repeat first|refine v_ ?_|intro
     refine Dr.Aw rfl (by rintro k ⟨⟩<;>decide) bA (S.EI (k:=q.key.id) rfl rfl rfl q_ dH) ?_;rintro _ _ ⟨rfl,rfl⟩;refine⟨aA,?_⟩;repeat first|refine v_ ?_|intro
     refine Dr.WZ rfl (by rintro k ⟨⟩) bA (S.AN rfl rfl rfl rfl hke dH) ?_;rintro _ _ ⟨rfl,rfl⟩;dsimp only;rw[hbm];exact⟨(),aD,aA,trivial⟩
    ·refine zL.Aw rfl (by rintro k ⟨⟩<;>decide) bA (S.EI (k:=q.key.id) rfl rfl rfl q_ dH) ?_;rintro _ _ ⟨rfl,rfl⟩;refine⟨aA,?_⟩;repeat first|refine v_ ?_|intro
     refine Dr.val rfl sD bA (Y.E7 (k:=q.key.id) rfl rfl rfl q_ aS) aA ?_;rw[hge];repeat first|refine v_ ?_|intro
     refine Dr.WZ rfl (by rintro k ⟨⟩) bA (S.AN rfl rfl rfl rfl hke dH) ?_;rintro _ _ ⟨rfl,rfl⟩;dsimp only;rw[hbm];exact⟨(),aD,aA,trivial⟩
   ·rintro⟨⟩ G2 -;generalize yH ks q.key.id=ks2 at *;repeat first|refine v_ ?_|refine Dr.two ?_ ?_|intro
    refine L.val sD (Y.E7 (k:=q.key.id) rfl rfl rfl q_ aS) ?_;repeat first|refine v_ ?_|refine Dr.two ?_ ?_|intro
    refine L.fQ sD (S.QZ (T:=cP) (e1:=(⟨⟨q.key.id,lO ks2 q.key.id,q.key.cD⟩,q.bC⟩:dK)) rfl eS rfl FV (by rfl) sD) ?_;rintro _ _ ⟨_,rfl,rfl⟩;repeat first|refine v_ ?_|refine Dr.two ?_ ?_|intro
    rename_i B2 k2 hc1 hc2;refine⟨(ks2,B2,k2,o++[⟨⟨q.key.id,lO ks2 q.key.id,q.key.cD⟩,q.bC⟩]),?_⟩;dsimp only;rw[aAe,aDa];exact⟨aD,aA,h1,by omega,hb⟩
 ·rintro⟨ks,B,k,o⟩ F ⟨h1,h2,h3⟩;dsimp only at h1 h2 h3⊢;rw[show l.drop n=[] by rw[hln];exact aCy] at h1;have h1:o=out:=h1;subst h1;have by1:=λM=>hb M B k;repeat first|refine v_ ?_|refine Dr.two ?_ ?_|intro
  refine bK by1 ?_;repeat first|refine v_ ?_|refine Dr.two ?_ ?_|intro
  exact jQ ⟨B,k,rfl,rfl⟩
def vJ:Ty (Sl cQ) where
 val x:=.slice x.A x.n x.c
 size:=1
 bytes:=24
 tid:=139
 zero:=.slice none 0 0
 hlen _:=rfl
 lJ a u h:=by simp[Value.cells] at h;subst h;rfl
 gL:=sD
 hzero:=rfl
 fW:=q_
 nR:=.inr ⟨q_,λ_=>rfl⟩
instance:lL vJ 24:=⟨rfl⟩
abbrev NP(s:Sl cQ):aL:=own eG s.A s.n s.c s.l
theorem Vw(E:Env)(A:Option Addr)(n c:Nat)(l:List aX)(hr:Rd E bE A n c l)(hok:∀c∈l,c.ok)(hn:n≤1000):G E 149 [.slice A n c,.int .i64 n] [] λe H'=>∃O k,∃ws:List (Sl cQ),ws.map Sl.l=(gH sY l).2.map (λo=>mU o true)∧e=.returned (.slice O ws.length k)∧H'=[own vJ O ws.length k ws,aO NP ws]:=by
 have hln:=hr.len;have hcap:=hr.cap;have hmax:=fX;have run:=λM hr=>BM M ⟨sY,none,0,0⟩ (Rd.nil _ _) pS A n c l hr hok o_;have hfit:=(mG pS hok).2;have hrl:=lF (b:=sY) (l:=l);dsimp only at run;refine t_ func149 ntmps149 ?_;repeat first|refine v_ ?_|intro
 refine dX run ?_;rintro e H' ⟨y,O,k,os,h1,h2,rfl,rfl⟩;rw[←h1] at hfit hrl⊢;have hol:os.length=n:=by rw[aAw] at hrl;omega
 repeat first|refine v_ ?_|intro
 refine C.scan (Y:=Option Addr×Nat×List (Sl cQ)) (l:=os) (n:=os.length) rfl (λi z=>[(1,.int .i64 n),(7,.slice z.1 z.2.2.length z.2.1),(16,.slice O os.length k),(17,.int .i64 os.length),(18,.int .i64 i)])
  (λi z=>[own rM O os.length k os,aO dM os,own vJ z.1 z.2.2.length z.2.1 z.2.2,aO NP z.2.2]) (λi z=>z.2.2.map Sl.l=(os.take i).map (λo=>mU o.d true)) (none,0,[]) aD (by show aB E _ [own rM O os.length k os,aO dM os,own vJ none 0 0 [],aO NP []];exact aB.trans (aB.nil vJ) (aB.trans (aB.kP NP) aA)) rfl ?_ ?_
 ·rintro i ⟨B,d,ws⟩ o F hi ho h3;dsimp only at h3⊢;have hm:=aAi ho;have hof:=hfit o.d (aFn.2 ⟨o,hm,rfl⟩);have hwl:ws.length≤1000:=by have:=congrArg List.length h3;rw[aAw,aAw,aAg] at this;omega
  have hg:decide ((i:Int)<(n:Int))=true:=decide_eq_true o_;have wn:=λM hr=>GL M o (decide ((i:Int)<(n:Int))) hr (by have:=hr.len;have:=hof.len;unfold Ov.d at this;dsimp only at this;omega);dsimp only[Ov.cs] at wn;repeat first|refine v_ ?_|intro
  refine cl sD sK aC (λM hE=>wn M (Bw.aO hE aS o hm)) ?_;rintro e H' ⟨Y,m,q,rfl,rfl⟩;rw[hg];repeat first|refine v_ ?_|intro
  refine L.fQ sD (S.cB (T:=vJ) (e:=(⟨Y,m,q,mU o.d true⟩:Sl cQ)) rfl rfl rfl rfl sD) ?_;rintro _ _ ⟨_,rfl,rfl⟩;repeat first|refine v_ ?_|intro
  rename_i B2 d2 hc1 hc2;refine⟨(B2,d2,ws++[⟨Y,m,q,mU o.d true⟩]),?_⟩;dsimp only;rw[aAe,aDa];exact⟨aD,aB.trans (aB.push (f:=NP) (x:=(⟨Y,m,q,mU o.d true⟩:Sl cQ)) aC) aA,by rw[aBk,h3,take_succ ho,aBk];rfl⟩
 ·rintro⟨B,d,ws⟩ F h3;dsimp only at h3⊢;rw[aAo] at h3;repeat first|refine v_ ?_|intro
  exact aR rfl aF aA (⟨B,d,ws,by rw[h3,List.map_map];rfl,rfl,rfl⟩)
def AZ(a:bJ):Nat→List cQ→List dK
 |_,[]=>[]
 |k,e::es=>⟨⟨a,(k:Int)+1,false⟩,e⟩::AZ a (k+1) es
def tW:List aX→List (List cQ)→List dK
 |c::l,w::ws=>AZ c.id 0 w++tW l ws
 |_,_=>[]
def GJ(l:List aX):List dK:=tW l ((gH sY l).2.map (λo=>mU o true))
def Ep(l:List aX):List dK:=mB 0 (GJ l).length (GJ l)
theorem Dj(a:bJ):∀(w:List cQ) (k:Nat),(AZ a k w).length=w.length
 | [],_=>rfl
 |e::w,k=>by show(AZ a (k+1) w).length+1=_;rw[Dj a w];rfl
theorem C.Vz{α:Type}{T:Ty α}{P:Program}{N:Nat}{E:Env}{cd:Code}{Q:QF}{F:Nat→Value}{H R:List aL}{A:Option Addr}{n c:Nat}{l:List α}(hh:Has (own T A n c l) H R)(h:n=l.length→C P N E cd Q F H):C P N E cd Q F H:=⟨λa w ha hw=>by
 obtain⟨_,h1,_⟩:=hw.has hh;exact(h h1.1).get a w ha hw⟩
theorem IX{a:bJ}{w:List cQ}{k:Nat}{e:cQ}(h:w[k]?=some e):AZ a k (w.drop k)=⟨⟨a,(k:Int)+1,false⟩,e⟩::AZ a (k+1) (w.drop (k+1)):=by
 obtain⟨hk,rfl⟩:=aAd.1 h;rw[aAm hk];rfl
theorem Fh{l:List aX}{W:List (List cQ)}{i:Nat}{c:aX}{w:List cQ}(h:l[i]?=some c)(h2:W[i]?=some w):tW (l.drop i) (W.drop i)=AZ c.id 0 w++tW (l.drop (i+1)) (W.drop (i+1)):=by
 obtain⟨hi,rfl⟩:=aAd.1 h;obtain⟨hj,rfl⟩:=aAd.1 h2;rw[aAm hi,aAm hj];rfl
theorem Ct{α:Type}{l:List α}{i:Nat}(h:i<l.length):(l.drop i).eraseIdx 0=l.drop (i+1):=by
 rw[aAm h];rfl
theorem R0(E:Env)(A:Option Addr)(n c:Nat)(l:List aX)(hr:Rd E bE A n c l)(hok:∀c∈l,c.ok)(hn:n≤1000)(hfew:(GJ l).length≤100000)(hb:BK (GJ l)):G E 83 [.slice A n c] [] λe H'=>∃B k,e=.returned (.slice B (Ep l).length k)∧H'=[own cP B (Ep l).length k (Ep l)]:=by
 have hln:=hr.len;have hcap:=hr.cap;have hmax:=fX;have wnt:=λM hr=>Vw M A n c l hr hok hn;have hpl:(Ep l).length=(GJ l).length:=by unfold Ep mB;rw[zN]
 have hrl:=lF (b:=sY) (l:=l);rw[hpl];unfold Ep;have hR:[]++tW (l.drop 0) (((gH sY l).2.map (λo=>mU o true)).drop 0)=GJ l:=rfl;generalize GJ l=R at *;clear hpl;refine t_ func83 ntmps83 ?_;repeat first|refine v_ ?_|intro
 refine dX wnt ?_;rintro e H' ⟨O,q,ws,h1,rfl,rfl⟩;rw[←h1] at hR;have hwl:ws.length=n:=by have:=congrArg List.length h1;rw[aAw,aAw] at this;omega
 repeat first|refine v_ ?_|intro
 refine C.scan (Y:=Option Addr×Nat×List dK) (l:=ws) (n:=ws.length) rfl (λi z=>[(0,.slice A n c),(3,.slice z.1 z.2.2.length z.2.1),(11,.slice O ws.length q),(12,.int .i64 ws.length),(13,.int .i64 i)])
  (λi z=>[own vJ O ws.length q ws,aO NP (ws.drop i),own cP z.1 z.2.2.length z.2.1 z.2.2]) (λi z=>z.2.2++tW (l.drop i) ((ws.map Sl.l).drop i)=R) (none,0,[]) aD (by show aB E _ [own vJ O ws.length q ws,aO NP ws,own cP none 0 0 []];exact aB.trans (aB.nil cP) aA) hR ?_ ?_
 ·rintro i ⟨B,d,o⟩ s F hi hs h3;dsimp only at h3⊢;obtain⟨ch,hch⟩:∃ch,l[i]?=some ch:=⟨_,aAa o_⟩
  rw[Fh hch (show(ws.map Sl.l)[i]?=some s.l by rw[aBf,hs];rfl)] at h3;have hd0:(ws.drop i)[0]?=some s:=by rw[aCv];exact hs
  refine C.conv (H':=NP s::aO NP ((ws.drop i).eraseIdx 0)::[own vJ O ws.length q ws,own cP B o.length d o]) (aB.out (f:=NP) (.aM .aN) hd0) ?_;rw[Ct hi];generalize hT:tW (l.drop (i+1)) ((ws.map Sl.l).drop (i+1))=T at *;generalize ws.drop (i+1)=wr at *;obtain⟨Ya,m,b,w⟩:=s;dsimp only[NP] at h3⊢;refine C.Vz (T:=eG) (A:=Ya) (n:=m) (c:=b) (l:=w) .aN λhml=>?_;have hms:m≤100000:=by have:=congrArg List.length h3;rw[aAe,aAe,Dj] at this;omega
  repeat first|refine v_ ?_|intro
  refine C.scan (Y:=Option Addr×Nat×List dK) (l:=w) (n:=m) hml (λk z=>[(0,.slice A n c),(3,.slice z.1 z.2.2.length z.2.1),(4,.int .i64 i),(11,.slice O ws.length q),(12,.int .i64 ws.length),(13,.int .i64 i),(18,.slice Ya m b),(19,.int .i64 m),(20,.int .i64 k)])
   (λk z=>[own vJ O ws.length q ws,own eG Ya m b w,aO NP wr,own cP z.1 z.2.2.length z.2.1 z.2.2]) (λk z=>z.2.2++(AZ ch.id k (w.drop k)++T)=R) (B,d,o) aD aA h3 ?_ ?_
  ·rintro k ⟨B,d,o⟩ e F2 hk he h4;dsimp only at h4⊢;rw[IX he] at h4;have hol:o.length≤100000:=by have:=congrArg List.length h4;rw[aAe] at this;omega
   repeat first|refine v_ ?_|intro
   rename_i g7;refine rB (l_ [0,1,2,3,4,5,6,7,8,9,10] (g_ 11 (g_ 12 (n_ 13 .nil)))) ([aJ g7 77 _]) ?_;repeat first|refine v_ ?_|intro
   refine Dr.Aw rfl (by rintro k ⟨⟩<;>decide) bA (S.QZ (T:=cP) (e1:=(⟨⟨ch.id,(k:Int)+1,false⟩,e⟩:dK)) rfl eS rfl FV (by rfl) sD) ?_;rintro _ _ ⟨_,rfl,rfl⟩;refine⟨aA,?_⟩;repeat first|refine v_ ?_|intro
   rename_i B2 d2 hc1 hc2;refine⟨(B2,d2,o++[⟨⟨ch.id,(k:Int)+1,false⟩,e⟩]),?_⟩;dsimp only;rw[aAe,aDa];exact⟨aD,aA,by rw[←h4];simp⟩
  ·rintro⟨B,d,o⟩ F2 h4;dsimp only at h4⊢;rw[show w.drop m=[] by rw[hml];exact aCy] at h4;repeat first|refine v_ ?_|intro
   exact⟨(B,d,o),aD,aA,h4⟩
 ·rintro⟨B,d,o⟩ F h3;dsimp only at h3⊢;rw[show l.drop ws.length=[] by rw[hwl,hln];exact aCy,show tW [] ((ws.map Sl.l).drop ws.length)=[] from rfl,aAc] at h3;subst h3;have by1:=λM=>hb M B d;repeat first|refine v_ ?_|intro
  refine bK by1 ?_;repeat first|refine v_ ?_|intro
  exact jQ ⟨B,d,rfl,rfl⟩
theorem QR(E:Env)(X:Option Addr)(m d:Nat)(q:List dK)(hq:Rd E cP X m d q)(hm:m≤100000)(hb1:BK (sI q ([],[])))(A:Option Addr)(n c:Nat)(l:List aX)(hr:Rd E bE A n c l)(hok:∀c∈l,c.ok)(hn:n≤1000)(hfew:(GJ l).length≤100000)(hb2:BK (GJ l)):G E 20 [.slice X m d,.slice A n c] [] (cM (.bool (decide (FP q=Ep l))) []):=by
 have nt:=λM hq=>ZS M X m d q hq hm hb1;have ex:=λM hr=>R0 M A n c l hr hok hn hfew hb2;generalize FP q=u at *;generalize Ep l=v at *;refine t_ func20 ntmps20 ?_;repeat first|refine v_ ?_|intro
 refine dX nt ?_;rintro e H' ⟨B1,k1,rfl,rfl⟩;repeat first|refine v_ ?_|intro
 refine dX ex ?_;rintro e H' ⟨B2,k2,rfl,rfl⟩;repeat first|refine v_ ?_|intro
 refine DY (λM=>SH M _ _ _ _ _ _ u v) ?_;repeat first|refine v_ ?_|intro
 exact B7
end
section
open Go.RowKit Reg
open Mem hiding Rd
section
variable (E:Env) (g:Nat) (A:Option Addr) (n c:Nat) (ls:List gN)
theorem RU(i:Nat)(hn:n≤128)(hl:n=ls.length)(hi:i<n)(hc:n≤c)(hcm:c≤maxLen) :
  aK prog E 183 #[.slice A n c,.int .i64 i,.int .i64 ((i+1:Nat):Int)] [own iC A n c ls] λr H'=>r=.returned (.slice A (n - 1) c)∧H'=[own iC A (n - 1) c (ls.eraseIdx i)]:=by
 have hmax:=fX;have hm1:n≤maxLen:=o_;have hm2:n - 1≤maxLen:=o_;have herase:ls.take i++ls.drop (i+1)=ls.eraseIdx i:=(aDp ..).symm;refine t_ func183 ntmps183 ?_;repeat first|refine aE ?_|intro
 refine L.val sD (Y.slice3 (q:=n) rfl rfl rfl rfl rfl rfl rfl rfl rfl rfl o_ o_ hc) ?_;repeat first|refine aE ?_|intro
 refine rB (l_ [0,1,2,3,4,5] (g_ 6 (n_ 7 .nil))) ([]) ?_;repeat first|refine aE ?_|intro
 refine Dr.take rfl sD bA (λ_ _=>V.slice rfl rfl rfl (S.upto (j:=i) rfl rfl rfl o_)) ?_;repeat first|refine aE ?_|intro
 refine Dr.take rfl sD bA (λ_ _=>V.slice rfl rfl rfl (S.from_ (j:=i+1) rfl rfl rfl o_ hc)) ?_;repeat first|refine aE ?_|intro
 refine Dr.Aw rfl (by rintro k ⟨⟩<;>decide) bA (S.Oi (T:=iC) (m:=n) (n':=n - 1) (l:=ls) (l2:=ls.drop (i+1)) (l':=ls.eraseIdx i) (by_:=40) rfl rfl rfl o_ o_ dH (kV.from_ (kV.own aS) o_) herase rfl rfl o_ o_ o_ o_) ?_;rintro _ _ ⟨rfl,rfl⟩;refine⟨aA,?_⟩;repeat first|refine aE ?_|intro
 refine L.val sD (λ_ _=>V.slice rfl rfl rfl (S.both (j:=n - 1) (m:=n) rfl rfl rfl rfl o_ hc)) ?_;refine L.pX (S.VU (T:=iC) (z:=V1) (j:=n - 1) (k:=n - (n - 1)) rfl rfl rfl rfl (aAf _) o_ o_ dH) ?_;rintro _ _ ⟨rfl,rfl⟩;repeat first|refine aE ?_|intro
 exact B7
theorem Pc(i:Int)(hn:n≤128)(h:i<0∨n≤i):aK prog E 120 #[.pointer (some ⟨g,0,none⟩),.int .i64 i] [wr g A n c] λr H'=>r=.returned (.tuple #[.slice none 0 0,.bool false])∧H'=[wr g A n c]:=by
 refine t_ func120 ntmps120 ?_;repeat first|refine aE ?_|intro
 refine bK (λM=>CN M g A n c i hn h) ?_;repeat first|refine aE ?_|intro
 exact Xs
theorem XI(i:Nat)(hn:n≤128)(hl:n=ls.length)(hc:n≤c)(hcm:c≤maxLen){e:gN}(he:ls[i]?=some e) :
  aK prog E 120 #[.pointer (some ⟨g,0,none⟩),.int .i64 i] [wr g A n c,own iC A n c ls,aO DD ls] λr H'=>r=.returned (.tuple #[.slice e.A e.n e.c,.bool true])∧H'=[own aU e.A e.n e.c e.b,wr g A (n - 1) c,own iC A (n - 1) c (ls.eraseIdx i),aO DD (ls.eraseIdx i)]:=by
 have hi:i<n:=by have:=(aAd.1 he).1;omega
 have hmax:=fX;have hs:IntKind.i64.wrap ((i:Int)+1)=((i+1:Nat):Int):=by rw[aAq _ o_];omega
 refine t_ func120 ntmps120 ?_;repeat first|refine aE ?_|intro
 refine bK (λM=>sG M g A n c ls i hn hi he hl) ?_;repeat first|refine aE ?_|intro
 refine bK (λM=>RU M A n c ls i hn hl hi hc hcm) ?_;repeat first|refine aE ?_|intro
 refine vX (aB.out (f:=DD) (l:=ls) aS he) ?_;exact Xs
def Dg(b:UInt8)(k:Nat):UInt8:=UInt8.ofNat (b.toNat ^^^ 2 ^ k)
def tJ(b:List UInt8)(k:Nat):List UInt8:=b.set (k / 8) (Dg (b.getD (k / 8) 0) (k % 8))
end
def gN.p(x:gN):fD:=⟨x.to,x.b,x.broken⟩
def Qa(ls:List gN):Prop:=∀e∈ls,e.n=e.b.length∧e.n≤140737488355300
theorem Qa.add{ls:List gN}(h:Qa ls){e:gN}(h1:e.n=e.b.length)(h2:e.n≤140737488355300):Qa (ls++[e]):=by
 intro x hx;rcases aBg.1 hx with hx|hx
 ·exact h x hx
 ·rw[aAp] at hx;subst hx;exact⟨h1,h2⟩
theorem E1{X:Type}{l:List X}{i:Nat}{e:X}{Z:Type}{f:X→Z}(he:l[i]?=some e):(l.take (i+1)).map f=(l.take i).map f++[f e]:=by
 obtain⟨h,rfl⟩:=aAd.1 he;rw[aAn h,aBk];rfl
section
variable (E:Env) (g:Nat) (A:Option Addr) (n c:Nat) (ls:List gN)
structure s8(E:Env)(g:Nat)(A:Option Addr)(n c:Nat)(ls:List gN):Prop where
 k:qP E ⟨g,0,none⟩ (.slice A n c)
 r:Rd E iC A n c ls
 q:∀e∈ls,Rd E aU e.A e.n e.c e.b
def EK(n:Nat)(ls:List gN):Ending→List aL→Prop:=λr H' =>
 ∃g' A' c' ls',r=.returned (.pointer (some ⟨g',0,none⟩))∧ls'.map gN.p=ls.map gN.p∧Qa ls'∧(n≤c'∧c'≤maxLen)∧H'=[wr g' A' n c',own iC A' n c' ls',aO DD ls']
theorem VM(hW:s8 E g A n c ls)(hn:n≤128)(hok:Qa ls):aK prog E 88 #[.pointer (some ⟨g,0,none⟩)] [] (EK n ls):=by
 obtain⟨hk,hr,hq⟩:=hW;have hl:=hr.len;have hmax:=fX;unfold EK;refine t_ func88 ntmps88 ?_;repeat ((fail_if_success (refine C.seq (x:=Code.region 4 _ _) ?_));first|refine Cx ?_|refine He ?_|intro _|refine Dr.two ?_ ?_)
 rename_i g3;refine C.conv ((aB.oR iC none).trans (aB.kP DD)) ?_;repeat first|refine aE ?_|intro
 refine C.loop (X:=Nat×Option Addr×Nat×List gN) (λx=>[(3,.pointer (some ⟨g3,0,none⟩)),(13,.slice A n c),(14,.int .i64 n),(15,.int .i64 x.1)])
  (λx=>[wr g3 x.2.1 x.1 x.2.2.1,own iC x.2.1 x.1 x.2.2.1 x.2.2.2,aO DD x.2.2.2]) (λx=>x.1≤n∧x.2.2.2.map gN.p=(ls.take x.1).map gN.p∧x.1=x.2.2.2.length∧Qa x.2.2.2∧x.1≤x.2.2.1∧x.2.2.1≤maxLen) (λx=>n - x.1) (0,none,0,[]) aD aA ⟨aAh _,rfl,rfl,λ_ h=>(aAk h).elim,aAf _,aAh _⟩ ?_
 rintro⟨i,B,d,l2⟩ F ⟨hi,hp,h2,h3,h4,h5⟩;dsimp only at hi hp h2 h3 h4 h5⊢;by_cases hlt:i<n
 ·obtain⟨e,he⟩:∃e,ls[i]?=some e:=⟨_,aAa o_⟩
  have hmem:=aAi he;obtain⟨e1,e2⟩:=hok e hmem;have hi128:i<128:=o_;repeat first|refine aE ?_|intro
  refine cl sD sK aC (λM hE=>QA M g3 B i d l2 e.A e.n e.c e.to e.broken e.b hi128 h2 (AS.rd ((hq e hmem).sub hE)) e2) ?_;unfold wI;rintro r H' ⟨B',d',O,co,rfl,⟨j1,j2⟩,rfl⟩;repeat first|refine aE ?_|intro
  exact⟨(i+1,B',d',l2++[⟨e.to,O,e.n,co,e.b,e.broken⟩]),aD,aA,⟨by dsimp only;omega,by dsimp only;rw[E1 he,aBk,hp];rfl,by dsimp only;rw[aAe,←h2];rfl,h3.add e1 e2,j1,j2⟩,by dsimp only;omega⟩
 ·have hin:i=n:=o_;subst hin;repeat first|refine aE ?_|intro
  exact aR rfl aF aA (⟨_,_,_,_,rfl,by rw[hp,aAj o_],h3,⟨h4,h5⟩,rfl⟩)
end
theorem Lr{X Y:Type}{f:X→Y}{l:List X}{k:Nat}:(l.eraseIdx k).map f=(l.map f).eraseIdx k:=by
 rw[aDp,aDp,aBk,aGi,List.map_drop]
structure Wh where
 A:Option Addr
 c:Nat
 ls:List gN
structure Wf(x:Wh)(ws:List fD):Prop where
 p:x.ls.map gN.p=ws
 ok:Qa x.ls
 len:ws.length≤128
 cap:ws.length≤x.c∧x.c≤maxLen
abbrev Ku(g:Nat)(x:Wh):List aL:=[wr g x.A x.ls.length x.c,own iC x.A x.ls.length x.c x.ls,aO DD x.ls]
def aZ(g:Nat)(ws:List fD):aL:=pack λ(x:Wh)=>iE (Wf x ws)::Ku g x
theorem aZ.mk{E:Env}{R:List aL}{g:Nat}{ws:List fD}{x:Wh}(f:Wf x ws):aB E (Ku g x++R) (aZ g ws::R):=λw hw=>by
 have h1:St E (iE (Wf x ws)::Ku g x++R) w:=aB.lH f w hw;exact h1.conv λF hs=>by
  obtain⟨F1,F2,k1,k2,k3,k4⟩:=aY.1 hs;exact⟨F,⟨F1,F2,k1,k2,⟨x,k3⟩,k4⟩,λ_ h=>h⟩
theorem aZ.out{E:Env}{R:List aL}{g:Nat}{ws:List fD}{w:World}(hw:St E (aZ g ws::R) w):∃x:Wh,Wf x ws∧St E (Ku g x++R) w:=by
 obtain⟨x,hs⟩:=hw.unpack (l:=λ(x:Wh)=>iE (Wf x ws)::Ku g x) Has.aN;have hp:=St.lH (H:=_) (R:=_) hs Has.aN;refine⟨x,hp,hs.conv λF hst=>?_⟩;obtain⟨F1,F2,k1,k2,k3,k4⟩:=hst;exact⟨F2,k4,λb hb=>(k1 b).2 (.inr hb)⟩
theorem kN{E:Env}{f:FuncId}{args:Array Value}{g:Nat}{ws:List fD}{Q:Ending→List aL→Prop}(h:∀x:Wh,Wf x ws→aK prog E f args (Ku g x) Q):aK prog E f args [aZ g ws] Q:=by
 intro hds w hw;obtain⟨x,hf,hs⟩:=aZ.out hw;exact h x hf hds w (by simpa using hs)
theorem Wf.n{x:Wh}{ws:List fD}(f:Wf x ws):x.ls.length=ws.length:=by rw[←f.p,aAw]
theorem Wf.at_{x:Wh}{ws:List fD}(f:Wf x ws){i:Nat}{p:fD}(h:ws[i]?=some p):∃e,x.ls[i]?=some e∧e.p=p∧e.n=e.b.length∧e.n≤140737488355300:=by
 rw[←f.p,aBf] at h;cases he:x.ls[i]? with
 |none=>rw[he] at h;cases h
 |some e =>
  rw[he] at h;injection h with h
  exact⟨e,rfl,h,f.ok e (aAi he)⟩
theorem Qa.sub{l m:List gN}(h:Qa l)(hs:∀e∈m,e∈l):Qa m:=λe he=>h e (hs e he)
def xB(ws:List fD)(i:Int):Option fD:=if i<0 then none else ws[i.toNat]?
theorem CX{ws:List fD}{i:Int}(h:xB ws i=none):i<0∨(ws.length:Int)≤i:=by
 unfold xB at h;split at h
 ·exact .inl ‹_›
 ·have:=aBx.1 h;omega
theorem uP{ws:List fD}{i:Int}{p:fD}(h:xB ws i=some p):∃k:Nat,i=k∧ws[k]?=some p:=by
 unfold xB at h;split at h
 ·cases h
 ·exact⟨i.toNat,by omega,h⟩
def zX(ws:List fD)(p:fD):List fD×Bool:=if 128≤ws.length then(ws,false) else(ws++[p],true)
def cR(ws:List fD)(i:Int):List fD:=if i<0 then ws else ws.eraseIdx i.toNat
def Co(ws:List fD)(i:Int):List fD×Bool:=match xB ws i with
 |some p=>zX ws p
 |none=>(ws,false)
def CU(ws:List fD)(i k:Int):List fD×Bool:=match xB ws i with
 |some p=>if p.broken=true∨k<0∨(p.b.length:Int)≤k / 8 then(ws,false) else(ws.set i.toNat ⟨p.to,tJ p.b k.toNat,true⟩,true)
 |none=>(ws,false)
section
variable (E:Env) (g:Nat) (ws:List fD)
theorem Ko:G E 35 [pt g] [aZ g ws] (cM (.int .i64 ws.length) [aZ g ws]):=by
 refine kN λx hf=>?_;have hl:=hf.n;refine aK.post (aK.dU (Hp:=[wr g x.A x.ls.length x.c]) λM _=>Z4 M g x.A x.ls.length x.c (by rw[hl];exact hf.len)) ?_;rintro e H' ⟨H1,⟨rfl,rfl⟩,rfl⟩;have h2:=aZ.mk (E:=E) (R:=[]) (g:=g) hf;rw[aAc] at h2;exact⟨_,h2,by rw[hl],rfl⟩
theorem JU(i:Int):G E 119 [pt g,.int .i64 i] [aZ g ws] (cM (.int .i64 (((xB ws i).map fD.to).getD (-1))) [aZ g ws]):=by
 refine kN λx hf=>?_;have hl:=hf.n;have h2:=aZ.mk (E:=E) (R:=[]) (g:=g) hf;rw[aAc] at h2;cases hi:xB ws i with
 |none =>
  refine aK.post (aK.dU (Hp:=[wr g x.A x.ls.length x.c]) λM _=>VN M g x.A x.ls.length x.c i (by rw[hl];exact hf.len) (by rw[hl];exact CX hi)) ?_;rintro e H' ⟨H1,⟨rfl,rfl⟩,rfl⟩;exact⟨_,h2,rfl,rfl⟩
 |some p =>
  obtain⟨k,rfl,hk⟩:=uP hi;obtain⟨e,he,rfl,_,_⟩:=hf.at_ hk;refine aK.post (aK.dU (Hp:=[wr g x.A x.ls.length x.c,own iC x.A x.ls.length x.c x.ls]) λM _=>Ri M g x.A x.ls.length x.c x.ls k (by rw[hl];exact hf.len) (aAd.1 he).1 he rfl) ?_;rintro e H' ⟨H1,⟨rfl,rfl⟩,rfl⟩;exact⟨_,h2,rfl,rfl⟩
theorem TO(to:Int)(X:Option Addr)(nx cx:Nat)(b:List UInt8)(hr:Rd E aU X nx cx b)(hnx:nx≤140737488355300):G E 30 [pt g,.int .i64 to,.slice X nx cx] [aZ g ws] (cM (.bool (zX ws ⟨to,b,false⟩).2) [aZ g (zX ws ⟨to,b,false⟩).1]):=by
 refine kN λx hf=>?_;have hl:=hf.n;have hln:=hf.len;have hcap:=hf.cap;unfold zX;by_cases h:128≤ws.length
 ·rw[if_pos h];have h2:=aZ.mk (E:=E) (R:=[]) (g:=g) hf;rw[aAc] at h2;refine aK.post (aK.dU (Hp:=[wr g x.A x.ls.length x.c]) λM _=>Mb M g x.A x.ls.length x.c to X nx cx o_ (by unfold maxLen;omega)) ?_;rintro e H' ⟨H1,⟨rfl,rfl⟩,rfl⟩;exact⟨_,h2,rfl,rfl⟩
 ·rw[if_neg h];refine aK.post (S6 E g x.A x.ls.length x.c x.ls to X nx cx b o_ rfl hr hnx) ?_;rintro e H' ⟨A',c',O,co,rfl,h1,rfl⟩;have h2:=aZ.mk (E:=E) (R:=[]) (g:=g) (x:=⟨A',c',x.ls++[⟨to,O,nx,co,b,false⟩]⟩) (ws:=ws++[⟨to,b,false⟩]) ⟨by rw[aBk,hf.p];rfl,hf.ok.add hr.len hnx,by rw[aAe];simp;omega,by rw[aAe];simp;omega⟩;rw[aAc] at h2;dsimp only[Ku] at h2;rw[aAe] at h2;exact⟨_,h2,rfl,rfl⟩
theorem vV(i:Int):G E 120 [pt g,.int .i64 i] [aZ g ws] λr H'=>match xB ws i with
  |none=>r=.returned (.tuple #[.slice none 0 0,.bool false])∧H'=[aZ g ws]
  |some p=>∃A n c,n≤140737488355300∧r=.returned (.tuple #[.slice A n c,.bool true])∧H'=[own aU A n c p.b,aZ g (cR ws i)]:=by
 refine kN λx hf=>?_;have hl:=hf.n;have hcap:=hf.cap;cases hi:xB ws i with
 |none =>
  have h2:=aZ.mk (E:=E) (R:=[]) (g:=g) hf;rw[aAc] at h2;refine aK.post (aK.dU (Hp:=[wr g x.A x.ls.length x.c]) λM _=>Pc M g x.A x.ls.length x.c i (by rw[hl];exact hf.len) (by rw[hl];exact CX hi)) ?_;rintro e H' ⟨H1,⟨rfl,rfl⟩,rfl⟩;exact⟨_,h2,rfl,rfl⟩
 |some p =>
  obtain⟨k,rfl,hk⟩:=uP hi;obtain⟨e,he,rfl,he1,he2⟩:=hf.at_ hk;have hlt:=(aAd.1 he).1;refine aK.post (XI E g x.A x.ls.length x.c x.ls k (by rw[hl];exact hf.len) rfl o_ hcap.2 he) ?_;rintro r H' ⟨rfl,rfl⟩;have h2:=aZ.mk (E:=E) (R:=[own aU e.A e.n e.c e.b]) (g:=g) (x:=⟨x.A,x.c,x.ls.eraseIdx k⟩) (ws:=cR ws k) ⟨by unfold cR;rw[if_neg o_,aAu,←hf.p,Lr],hf.ok.sub λe he=>aGe he,by unfold cR;rw[if_neg o_,aAu,List.length_eraseIdx];have:=hf.len;split<;>omega,by unfold cR;rw[if_neg o_,aAu,List.length_eraseIdx];dsimp only;refine⟨?_,hcap.2⟩;split<;>omega⟩;dsimp only[Ku] at h2;rw[List.length_eraseIdx_of_lt hlt] at h2;exact⟨_,aB.trans (aB.aV (.cons (.aM .aN) (.cons (.aM .aN) (.cons (.aM .aN) (.cons .aN .nil))))) (aB.trans h2 (aB.aV (.cons (.aM .aN) (.cons .aN .nil)))),_,_,_,he2,rfl,rfl⟩
theorem S8:G E 88 [pt g] [aZ g ws] λr H'=>∃g2,r=.returned (pt g2)∧H'=[aZ g2 ws,aZ g ws]:=by
 refine kN λx hf=>?_;have hl:=hf.n;have hln:=hf.len;have h1:=aZ.mk (E:=E) (R:=[]) (g:=g) hf;rw[aAc] at h1;refine aK.post (aK.read (Q0:=EK x.ls.length x.ls) λM hE=>VM M g x.A x.ls.length x.c x.ls ⟨qP.aJ (i:=0) hE Has.aN rfl,Sub.own hE (.aM .aN),λe he=>?_⟩ o_ hf.ok) ?_
 ·obtain⟨i,hi,rfl⟩:=aBm he;exact Sub.aO (f:=DD) hE (.aM (.aM .aN)) (aAa hi) rfl
 ·rintro r H' ⟨H1,⟨g',A',c',ls',rfl,k1,k2,k3,rfl⟩,rfl⟩;have hl2:ls'.length=x.ls.length:=by have:=congrArg List.length k1;rwa [aAw,aAw] at this
  have h2:=aZ.mk (E:=E) (R:=Ku g x) (g:=g') (x:=⟨A',c',ls'⟩) (ws:=ws) ⟨by rw[k1,hf.p],k2,hln,by dsimp only;omega⟩;dsimp only[Ku] at h2 h1;rw[hl2] at h2;refine⟨[aZ g' ws,aZ g ws],aB.trans h2 ?_,g',rfl,rfl⟩;refine aB.trans (aB.aV (l:=[wr g x.A x.ls.length x.c,own iC x.A x.ls.length x.c x.ls,aO DD x.ls]++[aZ g' ws]) (.cons (.aM .aN) (.cons (.aM .aN) (.cons (.aM .aN) (.cons .aN .nil))))) ?_;exact aB.trans (aZ.mk (x:=x) hf) (aB.aV (.cons (.aM .aN) (.cons .aN .nil)))
end
end
end Go.Proofs.YtmilalkjbojciaaGreat.Sep
