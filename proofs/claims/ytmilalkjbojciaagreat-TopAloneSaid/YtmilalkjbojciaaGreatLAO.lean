/- Part AO: what it needs. No condition. -/
import Derived.Test.YtmilalkjbojciaaGreatLAA
import Derived.Test.YtmilalkjbojciaaGreatLAN
import Derived.Test.YtmilalkjbojciaaGreatLAD
import Derived.Test.YtmilalkjbojciaaGreatLAH
import Derived.Test.YtmilalkjbojciaaGreatLAI
set_option maxRecDepth 100000
set_option maxHeartbeats 8000000
open Go.Proofs.Tryz
namespace Go.Proofs.YtmilalkjbojciaaGreat.Sep
open Go.RowKit Reg
open Mem hiding Rd
theorem Rq(E:Env)(A:Option Addr)(n c:Nat)(l:List Ov)(hr:Rd E rM A n c l)(hl:n≤1000000):G E 142 [.slice A n c] [] λe H'=>∃B k,(n≤k∧k≤maxLen)∧e=.returned (.slice B n k)∧H'=[own rM B n k l]:=by
 refine t_ func142 ntmps142 ?_;cases A with
 |none =>
  obtain⟨rfl,rfl⟩:=hr.none;repeat first|refine v_ ?_|intro
  exact aR rfl aF (aB.oR rM none) ⟨none,0,⟨aAf _,aAh _⟩,rfl,rfl⟩
 |some a =>
  repeat first|refine v_ ?_|intro
  rename_i B k h1 h2;exact jQ ⟨_,_,⟨h1,h2⟩,rfl,rfl⟩
theorem NR(E:Env)(o:Ov)(hr:Rd E eG o.X o.n o.c o.zM)(hn:o.n≤1000):G E 173 [.agg o.cs.toArray] [] λe H'=>∃z:Ov,z.d=o.d∧e=.returned (.agg z.cs.toArray)∧H'=[dM z]:=by
 have cln:=λM hr=>RV M o.X o.n o.c o.zM hr o_;dsimp only[Ov.cs,G];refine t_ func173 ntmps173 ?_;repeat first|refine v_ ?_|intro
 refine cl sD sK aC (λM hE=>cln M (hr.sub hE)) ?_;rintro e H' ⟨B,d,hd,rfl,rfl⟩;repeat first|refine v_ ?_|intro
 exact cI rfl aF rfl rfl rfl aS rfl aA (⟨⟨o.code,B,o.n,d,o.zM⟩,rfl,rfl,rfl⟩)
theorem KP{P:Program}{E:Env}{F:Nat→Value}{H H' R:List aL}{fn:Func}{Q:Ending→List aL→Prop}{t g u s:Nat}{ty bt:TypeId}{cs:List Value}{d:TypeDesc}{ti:TypeInfo}{v v2:Value}(hr:fn.results=#[.cell t ty,.tmp u,.tmp s])(hv:F t=.pointer (some ⟨g,0,none⟩))(ht:P.underlying ty=some d)(hd:lT d=true)(hi:P.info? ty=some ti)(hb:Has (aJ g bt cs) H R)(hm:ti.size=cs.length)
  (hu:F u=v) (hs:F s=v2) (hc:aB E H H') (h:Q (.returned (.tuple #[.agg cs.toArray,v,v2])) H'):gF P E fn Q .ret F H:=by
 refine⟨.tuple #[.agg cs.toArray,v,v2],H',λw hw=>?_,hc,h⟩;subst hu hs;obtain⟨h1,h2⟩:=mL hv ht hd hi hb hm hw;simp[yC,hr,h1,h2]
section
variable (E:Env) (h:Lh) (v:Lg)
theorem Hy(r:PB E h v)(f:Lf h v):G E 73 [pt h.g] [] λe H'=>∃h2:Lh,h2.os=h.os∧Lf h2 v∧e=.returned (pt h2.g)∧H'=mC h2 v:=by
 have hfit:=f.fit;have hln:=f.len;have hos:=f.n;obtain⟨hb,hl,ho,hy,htb,ht⟩:=r;have is:=λM hb=>nV M h v hb;have c1:=λM hr=>xN M h.A v.l.length h.c v.l hr o_;have c2:=λM hr=>Rq M h.O h.os.length h.k h.os hr o_;have tc:=λM hb hr=>JK M h.gt h.T v.t.length h.q v.t hb hr o_;have last:=λM hr=>Pg M h.y hr hfit none 0 0 [] (Rd.nil _ _) (λ_ h=>(aAk h).elim) o_;dsimp only[tE,Bh.cs,Bk.cs,V4.cs,List.cons_append,List.nil_append] at hb is last;refine t_ func73 ntmps73 ?_;repeat first|refine v_ ?_|intro
 refine cl sD sK aC (λM hE=>is M (hb.sub hE)) ?_;rintro e H' ⟨rfl,rfl⟩;repeat first|refine v_ ?_|intro
 refine rB (l_ [0,1,2,3,4,6,7,8,9,10,12,13,14,15,16] (g_ 5 (g_ 11 (g_ 17 (l_ [18,19] (g_ 20 (l_ [21,22] (g_ 23 (l_ [24,25] (g_ 26 .nil)))))))))) ([]) ?_;repeat first|refine v_ ?_|intro
 refine cg rfl sD bA sK aC (λM hE=>c1 M (hl.sub hE)) ?_;rintro e H' ⟨B,d,hd,rfl,rfl⟩;repeat first|refine v_ ?_|intro
 refine cg rfl sD bA sK aC (λM hE=>c2 M (ho.sub hE)) ?_;rintro e H' ⟨B2,d2,hd2,rfl,rfl⟩;repeat first|refine v_ ?_|intro
 refine cg rfl sD bA sK aC (λM hE=>last M (hy.sub hE)) ?_;rintro e H' ⟨y,h1,rfl,rfl⟩;refine gd bG aA ?_;dsimp only[Bh.cs,Bk.cs,iR];repeat first|refine v_ ?_|intro
 refine cl sD sK aC (λM hE=>tc M (htb.sub hE) (ht.sub hE)) ?_;rintro e H' ⟨q,A,k,rfl,rfl⟩;repeat first|refine v_ ?_|intro
 rename_i g3;exact aR (H':=mC ⟨g3,B,d,B2,d2,h.os,y,q,A,k⟩ v) rfl aF (by unfold mC;dsimp only[tE,Bh.cs,Bk.cs,V4.cs,iR,List.cons_append,List.nil_append];exact aA) ⟨⟨g3,B,d,B2,d2,h.os,y,q,A,k⟩,rfl,⟨f.outs,h1.trans f.base,f.len,f.RB,f.tok,f.known,f.times⟩,rfl,rfl⟩
def Bw(E:Env)(os:List Ov):Prop:=∀o∈os,Rd E eG o.X o.n o.c o.zM
theorem Bw.sub{E M:Env}{R:List aL}{os:List Ov}(hr:Bw E os)(hE:Sub E R M):Bw M os:=λo ho=>(hr o ho).sub hE
theorem U5{os:List Ov}{b:Bk}{l:List aX}(hb:b.fit)(hl:∀c∈l,c.ok)(hm:os.map Ov.d=(gH b l).2){o:Ov}(ho:o∈os):o.d.fit:=(mG hb hl).2 _ (hm▸aFi ho)
def cE(v:Lg)(a:bJ):Out×Bool×Bool :=
 if 0≤bI v.l a then(((gH sY v.l).2[(bI v.l a).toNat]?).getD ⟨0,[]⟩,true,true)
 else if 0≤bI v.t a then(((gH (gH sY v.l).1 (v.t.take ((bI v.t a).toNat+1))).2[(bI v.t a).toNat]?).getD ⟨0,[]⟩,false,true)
 else(⟨0,[]⟩,false,false)
theorem Ed(r:PB E h v)(f:Lf h v)(hro:Bw E h.os)(a:bJ):G E 110 [pt h.g,.agg a.cs.toArray] [] λe H'=>∃o:Ov,o.d=(cE v a).1∧e=.returned (.tuple #[.agg o.cs.toArray,.bool (cE v a).2.1,.bool (cE v a).2.2])∧H'=[dM o]:=by
 have hfit:=f.fit;have hln:=f.len;have hos:=f.n;obtain⟨hb,hl,ho,hy,htb,ht⟩:=r;have hmax:=fX;have is:=λM hb=>nV M h v hb;have all:=λM hb hr=>tX M h.gt h.T v.t.length h.q v.t hb hr o_;dsimp only[tE,Bh.cs,Bk.cs,V4.cs,List.cons_append,List.nil_append] at hb is;obtain⟨ar,aq⟩:=a;unfold cE;by_cases h1:0≤bI v.l ⟨ar,aq⟩
 ·rw[if_pos h1];obtain⟨k1,c1,hc1,_⟩:=gZ h1;have hil:(bI v.l ⟨ar,aq⟩).toNat<v.l.length:=k1;obtain⟨o,hoi⟩:∃o,h.os[(bI v.l ⟨ar,aq⟩).toNat]?=some o:=⟨_,aAa o_⟩
  have hod:(gH sY v.l).2[(bI v.l ⟨ar,aq⟩).toNat]?=some o.d:=by rw[←f.outs,aBf,hoi];rfl
  have hro1:=hro o (aAi hoi);have hn:o.n≤1000:=by have:=(U5 pS f.RB f.outs (aAi hoi)).len;have h2:=hro1.len;unfold Ov.d at this;dsimp only at this;omega
  have own:=λM hr=>NR M o hr hn;rw[hod];dsimp only[Option.getD,Ov.cs,bJ.cs] at own⊢;refine t_ func110 ntmps110 ?_;repeat first|refine v_ ?_|refine Dr.two ?_ ?_|intro
  refine cl sD sK aC (λM hE=>is M (hb.sub hE)) ?_;rintro e H' ⟨rfl,rfl⟩;repeat first|refine v_ ?_|refine Dr.two ?_ ?_|intro
  refine rA (l_ [0,1,2,3,4,5] (g_ 6 (n_ 7 .nil))) ?_;repeat first|refine v_ ?_|refine Dr.two ?_ ?_|intro
  refine cl sD sK aC (λM hE=>own M (hro1.sub hE)) ?_;rintro e H' ⟨z,hz,rfl,rfl⟩;refine gk bG ?_;dsimp only[Ov.cs,dM];repeat first|refine v_ ?_|refine Dr.two ?_ ?_|intro
  exact KP rfl aF rfl rfl rfl aS rfl aF aF aA ⟨z,hz,rfl,rfl⟩
 ·rw[if_neg h1];by_cases h2:0≤bI v.t ⟨ar,aq⟩
  ·rw[if_pos h2];obtain⟨k1,c1,hc1,_⟩:=gZ h2;have hil:(bI v.t ⟨ar,aq⟩).toNat<v.t.length:=k1;have hJ:(bI v.t ⟨ar,aq⟩+1).toNat=(bI v.t ⟨ar,aq⟩).toNat+1:=o_;have hJ2:(bI v.t ⟨ar,aq⟩+1).toNat≤v.t.length:=o_;have hup:bI v.t ⟨ar,aq⟩<48:=o_;have run:=λM hr B d hl=>BM M h.y hr hfit B (bI v.t ⟨ar,aq⟩+1).toNat d (v.t.take (bI v.t ⟨ar,aq⟩+1).toNat) hl (λc hc=>f.tok c (aBs hc)) o_;rw[←hJ];dsimp only[Bh.cs,Bk.cs,Ov.cs,bJ.cs] at run⊢;refine t_ func110 ntmps110 ?_;repeat first|refine v_ ?_|refine Dr.two ?_ ?_|intro
   refine cl sD sK aC (λM hE=>is M (hb.sub hE)) ?_;rintro e H' ⟨rfl,rfl⟩;repeat first|refine v_ ?_|refine Dr.two ?_ ?_|intro
   refine rA (l_ [0,1,2,3,4,5] (g_ 6 (n_ 7 .nil))) ?_;repeat first|refine v_ ?_|refine Dr.two ?_ ?_|intro
   refine cl sD sK aC (λM hE=>all M (htb.sub hE) (ht.sub hE)) ?_;rintro e H' ⟨B,d,hd,rfl,rfl⟩;repeat first|refine v_ ?_|refine Dr.two ?_ ?_|intro
   refine rA (l_ [0,1,2,3,4,5,6,7,8] (.two 9 (l_ [10,11,12] (g_ 13 (g_ 14 (n_ 15 .nil)))) 13 (g_ 9 (l_ [10,11,12] (g_ 14 (n_ 15 .nil)))))) ?_;repeat first|refine v_ ?_|intro
   refine Dr.two ?_ ?_
   ·refine yB rfl sD bA sK aC (λM hE=>run M (hy.sub hE) B d (Rd.upto (show Rd M bE B v.t.length d v.t from dB) hJ2 o_ (aAf _))) ?_;rintro e H' ⟨y,O,k,os,ho1,ho2,rfl,rfl⟩;repeat first|refine v_ ?_|refine Dr.two ?_ ?_|intro
    have hol:os.length=(bI v.t ⟨ar,aq⟩+1).toNat:=by
     have:=congrArg List.length ho1;rw[aAw,lF,aAg] at this;omega
    obtain⟨o,hoi⟩:∃o,os[(bI v.t ⟨ar,aq⟩).toNat]?=some o:=⟨_,aAa o_⟩
    have hod:(gH h.y.b (v.t.take (bI v.t ⟨ar,aq⟩+1).toNat)).2[(bI v.t ⟨ar,aq⟩).toNat]?=some o.d:=by rw[←ho1,aBf,hoi];rfl
    repeat first|refine v_ ?_|refine Dr.two ?_ ?_|intro
    exact KP (H':=[dM o]) rfl aF rfl rfl rfl aS rfl aF aF (aB.trans (aB.out (f:=dM) aS hoi) aA) ⟨o,by rw[←f.base,hod];rfl,rfl,rfl⟩
   ·repeat first|refine v_ ?_|intro
    refine cg rfl sD bA sK aC (λM hE=>run M (hy.sub hE) B d (Rd.upto (show Rd M bE B v.t.length d v.t from dB) hJ2 o_ (aAf _))) ?_;rintro e H' ⟨y,O,k,os,ho1,ho2,rfl,rfl⟩;repeat first|refine v_ ?_|refine Dr.two ?_ ?_|intro
    have hol:os.length=(bI v.t ⟨ar,aq⟩+1).toNat:=by
     have:=congrArg List.length ho1;rw[aAw,lF,aAg] at this;omega
    obtain⟨o,hoi⟩:∃o,os[(bI v.t ⟨ar,aq⟩).toNat]?=some o:=⟨_,aAa o_⟩
    have hod:(gH h.y.b (v.t.take (bI v.t ⟨ar,aq⟩+1).toNat)).2[(bI v.t ⟨ar,aq⟩).toNat]?=some o.d:=by rw[←ho1,aBf,hoi];rfl
    repeat first|refine v_ ?_|refine Dr.two ?_ ?_|intro
    exact KP (H':=[dM o]) rfl aF rfl rfl rfl aS rfl aF aF (aB.trans (aB.out (f:=dM) aS hoi) aA) ⟨o,by rw[←f.base,hod];rfl,rfl,rfl⟩
  ·rw[if_neg h2];dsimp only[Ov.cs,bJ.cs];refine t_ func110 ntmps110 ?_;repeat first|refine v_ ?_|refine Dr.two ?_ ?_|intro
   refine cl sD sK aC (λM hE=>is M (hb.sub hE)) ?_;rintro e H' ⟨rfl,rfl⟩;repeat first|refine v_ ?_|refine Dr.two ?_ ?_|intro
   refine rA (l_ [0,1,2,3,4,5] (g_ 6 (n_ 7 .nil))) ?_;repeat first|refine v_ ?_|refine Dr.two ?_ ?_|intro
   refine cl sD sK aC (λM hE=>all M (htb.sub hE) (ht.sub hE)) ?_;rintro e H' ⟨B,d,hd,rfl,rfl⟩;repeat first|refine v_ ?_|refine Dr.two ?_ ?_|intro
   exact KP rfl aF rfl rfl rfl aS rfl aF aF (aB.trans (aB.nil eG) aA) ⟨⟨0,none,0,0,[]⟩,rfl,rfl,rfl⟩
end
abbrev Hb:Lg:=⟨[],[],FR,FR⟩
theorem Xq(E:Env):G E 279 [] [] λe H'=>∃h:Lh,h.os=[]∧Lf h Hb∧e=.returned (pt h.g)∧H'=mC h Hb:=by
 refine t_ func279 ntmps279 ?_;repeat first|refine v_ ?_|intro
 rename_i g2 g4;refine aR (H':=mC ⟨g4,none,0,none,0,[],⟨sY,none,0,0⟩,g2,none,0⟩ Hb) rfl aF ?_ ⟨⟨g4,none,0,none,0,[],⟨sY,none,0,0⟩,g2,none,0⟩,rfl,⟨rfl,rfl,by decide,(λ_ h=>(aAk h).elim),(λ_ h=>(aAk h).elim),by unfold V4.ok;decide,by unfold V4.ok;decide⟩,rfl,rfl⟩;unfold mC;dsimp only[tE,Bh.cs,Bk.cs,V4.cs,iR,List.length_nil,List.cons_append,List.nil_append];exact aB.trans (aB.nil bE) (aB.trans (aB.nil bE) (aB.trans (aB.nil rM) (aB.trans (aB.nil eB) aA)))
section
variable (E:Env) (h:Lh) (v:Lg)
def Ye(h:Lh)(v:Lg)(c:aX):Ending→List aL→Prop:=λe H'=>∃(h2:Lh) (o:Ov),h2.g=h.g∧h2.gt=h.gt∧h2.T=h.T∧h2.q=h.q∧h2.os=h.os++[o]∧o.d=(C0 h.y.b c).2∧h2.y.b=(C0 h.y.b c).1∧e=.returned (.tuple #[])∧H'=mC h2 { v with l:=v.l++[c] }++[dM o]
theorem M3(f:Lf h v)(c:aX)(hc:c.ok):G E 304 [pt h.g,.agg c.cs.toArray] (mC h v) (Ye h v c):=by
 have hfit:=f.fit;have hln:=f.len;have hos:=f.n;have hmax:=fX;have run:=λM hr B d hl=>BM M h.y hr hfit B 1 d [c] hl (λx hx=>by obtain rfl:=aAp.1 hx;exact hc) o_;unfold mC;dsimp only[tE,Bh.cs,Bk.cs,V4.cs,aX.cs,iR,List.cons_append,List.nil_append,G] at run⊢;refine t_ func304 ntmps304 ?_;repeat first|refine v_ ?_|refine Dr.two ?_ ?_|intro
 rename_i g3;refine C.BI (X:=Nat×Bh×Option Addr×Nat×Ov) (λx=>[(0,pt h.g),(3,pt g3),(4,pt x.1),(5,.slice x.2.2.1 1 x.2.2.2.1)])
  (λx=>[aJ x.1 45 x.2.1.cs,iR x.2.1,own rM x.2.2.1 1 x.2.2.2.1 [x.2.2.2.2],aO dM [x.2.2.2.2],aJ g3 34 c.cs,aJ h.g 153 (tE h v),own bE h.A v.l.length h.c v.l,own rM h.O h.os.length h.k h.os,aJ h.gt 221 [.slice h.T v.t.length h.q],own bE h.T v.t.length h.q v.t])
  (λx=>x.2.2.2.2.d=(C0 h.y.b c).2∧x.2.1.b=(C0 h.y.b c).1) ?_ ?_
 ·refine rA (l_ [0,1,2,3,4] (.two 5 (.two 6 (l_ [7,8,9] (g_ 10 (g_ 11 (n_ 12 .nil)))) 10 (g_ 6 (l_ [7,8,9] (g_ 11 (n_ 12 .nil))))) 10 (g_ 5 (g_ 6 (l_ [7,8,9] (g_ 11 (n_ 12 .nil))))))) ?_;repeat first|refine v_ ?_|intro
  refine Dr.two ?_ ?_
  ·refine zL.Aw rfl (by rintro k ⟨⟩<;>decide) bA (S.cB (T:=bE) (e:=c) rfl rfl rfl rfl sD) ?_;rintro _ _ ⟨_,rfl,rfl⟩;refine⟨aA,?_⟩;repeat first|refine v_ ?_|intro
   refine Dr.two ?_ ?_
   ·refine yB rfl sD bA sK aC (λM hE=>run M dB _ 1 dB) ?_;rintro e H' ⟨y,O,k,os,ho1,ho2,rfl,rfl⟩;repeat first|refine v_ ?_|refine Dr.two ?_ ?_|intro
    obtain⟨o,rfl⟩:∃o,os=[o]:=aFv.1 (by have:=congrArg List.length ho1;rwa [aAw,lF] at this);dsimp only[tE,Bh.cs,Bk.cs,V4.cs,aX.cs,iR,List.length_singleton,List.cons_append,List.nil_append];exact⟨(_,y,O,k,o),aD,aA,by simpa [gH] using ho1,ho2⟩
   ·repeat first|refine v_ ?_|intro
    refine OW (λM h1=>run M h1 _ 1) ?_;rintro e H' ⟨y,O,k,os,ho1,ho2,rfl,rfl⟩;repeat first|refine v_ ?_|refine Dr.two ?_ ?_|intro
    obtain⟨o,rfl⟩:∃o,os=[o]:=aFv.1 (by have:=congrArg List.length ho1;rwa [aAw,lF] at this);dsimp only[tE,Bh.cs,Bk.cs,V4.cs,aX.cs,iR,List.length_singleton,List.cons_append,List.nil_append];exact⟨(_,y,O,k,o),aD,aA,by simpa [gH] using ho1,ho2⟩
  ·repeat ((fail_if_success (refine Dr.all (i:=5) ?_));first|refine w_ ?_|refine k_ ?_|intro _)
   refine Dr.Aw rfl (by rintro k ⟨⟩<;>decide) bA (S.cB (T:=bE) (e:=c) rfl rfl rfl rfl sD) ?_;rintro _ _ ⟨_,rfl,rfl⟩;refine⟨aA,?_⟩;repeat first|refine v_ ?_|intro
   refine OW (λM h1=>run M h1 _ 1) ?_;rintro e H' ⟨y,O,k,os,ho1,ho2,rfl,rfl⟩;repeat first|refine v_ ?_|refine Dr.two ?_ ?_|intro
   obtain⟨o,rfl⟩:∃o,os=[o]:=aFv.1 (by have:=congrArg List.length ho1;rwa [aAw,lF] at this);dsimp only[tE,Bh.cs,Bk.cs,V4.cs,aX.cs,iR,List.length_singleton,List.cons_append,List.nil_append];exact⟨(_,y,O,k,o),aD,aA,by simpa [gH] using ho1,ho2⟩
 ·rintro⟨g4,y,O,k,o⟩ Gf ⟨h1,h2⟩;dsimp only[tE,Bh.cs,Bk.cs,V4.cs,aX.cs,iR,List.cons_append,List.nil_append] at h1 h2⊢;refine C.Kp 19 (l_ [0,1,2,3,4,5,6,7,10,11,12,13,14,16] (g_ 8 (g_ 9 (g_ 15 (l_ [17,18] (g_ 19 (l_ [20,21] (g_ 22 (l_ [23,24] (g_ 25 .nil))))))))))
   [aJ h.g 153 _,aJ g3 34 _,aJ g4 45 _] [aJ g3 34 c.cs,aJ g4 45 y.cs] q_ q_ aA ?_
  repeat (first|refine Dt.take rfl sD rfl bA Cw Cw ?_|refine Dt.kL rfl sD rfl q_ bA Cw ?_)
  refine Dt.Aw rfl (by rintro k ⟨⟩<;>decide) rfl bA (S.cB (T:=bE) (e:=c) rfl rfl rfl rfl sD) ?_;rintro _ _ ⟨_,rfl,rfl⟩;refine⟨aA,?_⟩;refine Dt.Aw rfl (by rintro k ⟨⟩<;>decide) rfl bA NO ?_;rintro _ _ ⟨B1,d1,⟨_,_⟩,rfl,rfl⟩;refine⟨aA,?_⟩;refine Dt.Aw rfl (by rintro k ⟨⟩<;>decide) rfl bA NO ?_;rintro _ _ ⟨B2,d2,⟨_,_⟩,rfl,rfl⟩;refine⟨aA,?_⟩;repeat (first|refine Dt.take rfl sD rfl bA Cw Cw ?_|refine Dt.kL rfl sD rfl q_ bA Cw ?_)
  refine Dt.We rfl (by rintro k ⟨⟩<;>decide) bA NO ?_;rintro _ _ ⟨rfl,rfl⟩;refine⟨aA,?_⟩;repeat first|refine v_ ?_|refine Dr.two ?_ ?_|intro
  obtain⟨H2,hH2⟩:∃H2,H2=(⟨h.g,B1,d1,B2,d2,h.os++[o],y,h.gt,h.T,h.q⟩:Lh):=⟨_,rfl⟩
  have e1:(h.os++[o]).length=h.os.length+1:=by simp
  have e2:(v.l++[c]).length=v.l.length+1:=by simp
  refine gO (H':=mC H2 { v with l:=v.l++[c] }++[dM o]) rfl ?_ ⟨H2,o,by rw[hH2],by rw[hH2],by rw[hH2],by rw[hH2],by rw[hH2],h1,by rw[hH2];exact h2,rfl,rfl⟩;rw[hH2];unfold mC;dsimp only[tE,Bh.cs,Bk.cs,V4.cs,iR,List.cons_append,List.nil_append];rw[e1,e2];refine aB.trans (aB.out (f:=dM) (l:=[o]) (i:=0) (x:=o) (by exact aS) rfl) ?_;exact aA
end
theorem V4.ss(x:V4)(v:Int):x.set 0 v=⟨v,x.b,x.c,x.d⟩∧x.set 1 v=⟨x.a,v,x.c,x.d⟩∧x.set 2 v=⟨x.a,x.b,v,x.d⟩∧x.set 3 v=⟨x.a,x.b,x.c,v⟩:=⟨rfl,rfl,rfl,rfl⟩
def tP(l:List aX)(x:aX):List aX:=if bI l x.id<0 then lG l x else l
def sV(v:Lg)(c:aX):Lg×Int :=
 if 48≤v.l.length+v.t.length then(v,3)
 else if Ak v.known v.times c=false then(v,9)
 else if c.may=false then(v,4)
 else(⟨v.l,tP v.t c,v.known.set c.id.rep c.id.seq,v.times.set c.id.rep c.time⟩,0)
def Zu(h:Lh)(r:Lg×Int):Ending→List aL→Prop:=λe H'=>∃h2:Lh,h2.g=h.g∧h2.os=h.os∧h2.y=h.y∧e=.returned (.int .i64 r.2)∧H'=mC h2 r.1
section
variable (E:Env) (h:Lh) (v:Lg)
theorem N7(f:Lf h v)(c:aX)(hc:c.ok):G E 256 [pt h.g,.agg c.cs.toArray] (mC h v) (Zu h (sV v c)):=by
 have hln:=f.len;have hmax:=fX;have is:=λM hb=>nV M h v hb;have tlen:=λM hb hr=>Gt M h.gt h.T v.t.length h.q v.t hb hr;have fits:=λM=>Mn M v.known v.times c f.known;have put:∀M,G M 302 [pt h.gt,.agg c.cs.toArray] [aJ h.gt 221 [.slice h.T v.t.length h.q],own bE h.T v.t.length h.q v.t]
   (λe H'=>∃A k,e=.returned (.bool (decide (bI v.t c.id<0)))∧H'=[aJ h.gt 221 [.slice A (tP v.t c).length k],own bE A (tP v.t c).length k (tP v.t c)]):=λM=>OA M h.gt h.T v.t.length h.q v.t c o_
 have check:=λM=>kF M c;unfold mC sV;dsimp only[tE,Bh.cs,Bk.cs,V4.cs,aX.cs,iR,List.cons_append,List.nil_append,G] at is fits put check⊢;by_cases h1:48≤v.l.length+v.t.length
 ·rw[if_pos h1];refine t_ func256 ntmps256 ?_;repeat first|refine v_ ?_|intro
  refine eV is ?_;repeat first|refine v_ ?_|intro
  refine rA (l_ [0,1,2,3,4,5,6,7,8,9] (g_ 10 (l_ [11,12,13] .nil))) ?_;repeat first|refine v_ ?_|intro
  refine Ju tlen ?_;repeat first|refine v_ ?_|intro
  exact aR (H':=mC h v) rfl aF (by unfold mC;dsimp only[tE,Bh.cs,Bk.cs,V4.cs,iR,List.cons_append,List.nil_append];exact aA) ⟨h,rfl,rfl,rfl,rfl,rfl⟩
 ·rw[if_neg h1];rcases aBh (Ak v.known v.times c) with h2|h2
  ·rw[if_neg (show ¬Ak v.known v.times c=false by rw[h2];decide)];rw[h2] at fits;rcases aBh c.may with h3|h3
   ·rw[if_neg (show ¬c.may=false by rw[h3];decide)];rw[h3] at check;have hmay:=(aX.bY c).1 h3;refine t_ func256 ntmps256 ?_;repeat first|refine v_ ?_|intro
    refine eV is ?_;repeat first|refine v_ ?_|intro
    refine rA (l_ [0,1,2,3,4,5,6,7,8,9] (g_ 10 (l_ [11,12,13] .nil))) ?_;repeat first|refine v_ ?_|intro
    refine Ju tlen ?_;repeat first|refine v_ ?_|intro
    refine rA (l_ [0,1,2,3,4,5,6,7,8] (g_ 9 (l_ [10,11] .nil))) ?_;repeat first|refine v_ ?_|intro
    refine eJ fits ?_;repeat first|refine v_ ?_|intro
    refine bK check ?_;repeat first|refine v_ ?_|intro
    rename_i g3;refine rB (l_ [0,1,2,3,4] (g_ 5 .nil)) ([aJ h.g 153 _,aJ g3 34 _]) ?_;repeat first|refine v_ ?_|intro
    refine iO put ?_;rintro e H' ⟨A,k,rfl,rfl⟩;repeat first|refine v_ ?_|intro
    generalize tP v.t c=t2;refine rB (l_ [0,1,2,3,4,5,6,7,8,9,10,11,12,13,14,15,17,18] (g_ 16 (n_ 19 (g_ 20 .nil)))) ([aJ g3 34 _]) ?_;repeat first|refine v_ ?_|intro
    obtain⟨⟨r,s⟩,tm,kd,a,b,nn,rf⟩:=c;dsimp only at hmay⊢;rcases four ⟨hmay.1.1,hmay.1.2.1⟩ with rfl|rfl|rfl|rfl
    all_goals
     repeat first|refine v_ ?_|intro
     simp only[Int.reduceToNat,Nat.reduceAdd,List.set_cons_succ,List.set_cons_zero];repeat first|refine v_ ?_|intro
     refine aR (H':=mC ⟨h.g,h.A,h.c,h.O,h.k,h.os,h.y,h.gt,A,k⟩ ⟨v.l,t2,_,_⟩) rfl aF ?_ ⟨⟨h.g,h.A,h.c,h.O,h.k,h.os,h.y,h.gt,A,k⟩,rfl,rfl,rfl,rfl,rfl⟩;unfold mC;simp only[V4.ss v.known,V4.ss v.times];dsimp only[tE,Bh.cs,Bk.cs,V4.cs,iR,List.cons_append,List.nil_append];exact aA
   ·rw[if_pos h3];rw[h3] at check;refine t_ func256 ntmps256 ?_;repeat first|refine v_ ?_|intro
    refine eV is ?_;repeat first|refine v_ ?_|intro
    refine rA (l_ [0,1,2,3,4,5,6,7,8,9] (g_ 10 (l_ [11,12,13] .nil))) ?_;repeat first|refine v_ ?_|intro
    refine Ju tlen ?_;repeat first|refine v_ ?_|intro
    refine rA (l_ [0,1,2,3,4,5,6,7,8] (g_ 9 (l_ [10,11] .nil))) ?_;repeat first|refine v_ ?_|intro
    refine eJ fits ?_;repeat first|refine v_ ?_|intro
    refine bK check ?_;repeat first|refine v_ ?_|intro
    exact aR (H':=mC h v) rfl aF (by unfold mC;dsimp only[tE,Bh.cs,Bk.cs,V4.cs,iR,List.cons_append,List.nil_append];exact aA) ⟨h,rfl,rfl,rfl,rfl,rfl⟩
  ·rw[if_pos h2];rw[h2] at fits;refine t_ func256 ntmps256 ?_;repeat first|refine v_ ?_|intro
   refine eV is ?_;repeat first|refine v_ ?_|intro
   refine rA (l_ [0,1,2,3,4,5,6,7,8,9] (g_ 10 (l_ [11,12,13] .nil))) ?_;repeat first|refine v_ ?_|intro
   refine Ju tlen ?_;repeat first|refine v_ ?_|intro
   refine rA (l_ [0,1,2,3,4,5,6,7,8] (g_ 9 (l_ [10,11] .nil))) ?_;repeat first|refine v_ ?_|intro
   refine eJ fits ?_;repeat first|refine v_ ?_|intro
   exact aR (H':=mC h v) rfl aF (by unfold mC;dsimp only[tE,Bh.cs,Bk.cs,V4.cs,iR,List.cons_append,List.nil_append];exact aA) ⟨h,rfl,rfl,rfl,rfl,rfl⟩
end
def fZ(v:Lg)(a:bJ):Lg×Int :=
 if bI v.t a<0 then(v,14)
 else if lM v.t a=false then(v,9)
 else(⟨v.l++[(v.t[(bI v.t a).toNat]?).getD dO],rF v.t a,v.known,v.times⟩,0)
def TB(h:Lh)(_v:Lg)(r:Lg×Int):Ending→List aL→Prop:=λe H'=>∃(h2:Lh) (new:List Ov),h2.g=h.g∧h2.os=h.os++new∧Lf h2 r.1∧e=.returned (.int .i64 r.2)∧H'=mC h2 r.1++[aO dM new]
section
variable (E:Env) (h:Lh) (v:Lg)
theorem MX{l:List aX}{a:bJ}{c:aX}(hc:c∈rF l a):c∈l:=by
 unfold rF at hc;split at hc
 ·unfold mD at hc;split at hc
  ·rcases aBg.1 hc with h|h
   ·exact aBs h
   ·exact aDw h
  ·exact hc
 ·exact hc
theorem Pr{l:List aX}{a:bJ}(h:lM l a=true):0≤bI l a∧(bI l a).toNat<l.length∧(rF l a).length+1=l.length:=by
 have h0:0≤bI l a:=by unfold lM at h;simp only[aAv,decide_eq_true_eq] at h;exact h.1
 have h1:=(gZ h0).1;have h2:(bI l a).toNat<l.length:=h1;refine⟨h0,h2,?_⟩;unfold rF;rw[if_pos h];unfold mD;rw[if_pos ⟨h0,by omega⟩];simp only[aAe,aAg,aBd];omega
theorem HE(f:Lf h v)(a:bJ):G E 257 [pt h.g,.agg a.cs.toArray] (mC h v) (TB h v (fZ v a)):=by
 have hln:=f.len;have hmax:=fX;obtain⟨ar,aq⟩:=a;have is:=λM hb=>nV M h v hb;have all:=λM hb hr=>tX M h.gt h.T v.t.length h.q v.t hb hr o_;have take:=λM=>L5 M h.gt h.T v.t.length h.q v.t ar aq o_;obtain⟨c0,hc0⟩:∃c,c=(if lM v.t ⟨ar,aq⟩ then(v.t[(bI v.t ⟨ar,aq⟩).toNat]?).getD dO else dO):=⟨_,rfl⟩
 obtain⟨T2,hT2⟩:∃t,t=rF v.t ⟨ar,aq⟩:=⟨_,rfl⟩
 rw[←hc0,←hT2] at take;have fin:∀H,aB E H (aO dM []::H):=λH=>aB.kP dM;unfold mC fZ;dsimp only[tE,Bh.cs,Bk.cs,V4.cs,bJ.cs,aX.cs,iR,List.cons_append,List.nil_append,G] at is take⊢;by_cases h1:bI v.t ⟨ar,aq⟩<0
 ·rw[if_pos h1];refine t_ func257 ntmps257 ?_;repeat first|refine v_ ?_|refine Dr.two ?_ ?_|intro
  refine eV is ?_;repeat first|refine v_ ?_|refine Dr.two ?_ ?_|intro
  refine rA (l_ [0,1,2,3,5] (g_ 4 (g_ 6 (n_ 7 .nil)))) ?_;repeat first|refine v_ ?_|refine Dr.two ?_ ?_|intro
  refine OW all ?_;rintro e H' ⟨B,d,hd,rfl,rfl⟩;repeat first|refine v_ ?_|refine Dr.two ?_ ?_|intro
  refine aR (H':=mC h v++[aO dM []]) rfl aF (aB.trans (fin _) ?_) ⟨h,[],rfl,by simp,f,rfl,rfl⟩;unfold mC;dsimp only[tE,Bh.cs,Bk.cs,V4.cs,iR,List.cons_append,List.nil_append];exact aA
 ·rw[if_neg h1];refine t_ func257 ntmps257 ?_;repeat first|refine v_ ?_|refine Dr.two ?_ ?_|intro
  refine eV is ?_;repeat first|refine v_ ?_|refine Dr.two ?_ ?_|intro
  refine rA (l_ [0,1,2,3,5] (g_ 4 (g_ 6 (n_ 7 .nil)))) ?_;repeat first|refine v_ ?_|refine Dr.two ?_ ?_|intro
  refine OW all ?_;rintro e H' ⟨B,d,hd,rfl,rfl⟩;repeat first|refine v_ ?_|refine Dr.two ?_ ?_|intro
  rename_i g3;obtain⟨fr,hfr⟩:∃b,b=lM v.t ⟨ar,aq⟩:=⟨_,rfl⟩
  rw[←hfr] at take;refine C.BI (X:=Nat×Option Addr×Nat) (λx=>[(0,pt h.g),(5,pt x.1),(6,.bool fr)])
   (λx=>[aJ x.1 34 c0.cs,aJ h.gt 221 [.slice x.2.1 T2.length x.2.2],own bE x.2.1 T2.length x.2.2 T2,aJ h.g 153 (tE h v),own bE h.A v.l.length h.c v.l,own rM h.O h.os.length h.k h.os,iR h.y]) (λ_=>True) ?_ ?_
  ·refine rB (l_ [0,1,2,3,4] (.two 5 (l_ [6,7,8] (g_ 9 (g_ 10 (n_ 11 .nil)))) 9 (g_ 5 (l_ [6,7,8] (g_ 10 (n_ 11 .nil)))))) ([aJ h.g 153 _,aJ g3 32 _]) ?_;repeat first|refine v_ ?_|intro
   refine Dr.two ?_ ?_
   ·refine yB rfl sD bA sK aC (λM hE=>take M) ?_;rintro e H' ⟨A,k,rfl,rfl⟩;repeat first|refine v_ ?_|refine Dr.two ?_ ?_|intro
    dsimp only[tE,Bh.cs,Bk.cs,V4.cs,aX.cs,iR,List.cons_append,List.nil_append];exact⟨(_,A,k),aD,aA,trivial⟩
   ·repeat first|refine v_ ?_|intro
    refine iO take ?_;rintro e H' ⟨A,k,rfl,rfl⟩;repeat first|refine v_ ?_|refine Dr.two ?_ ?_|intro
    dsimp only[tE,Bh.cs,Bk.cs,V4.cs,aX.cs,iR,List.cons_append,List.nil_append];exact⟨(_,A,k),aD,aA,trivial⟩
  ·rintro⟨g5,A,k⟩ Gf _;dsimp only[tE,Bh.cs,Bk.cs,V4.cs,aX.cs,iR,List.cons_append,List.nil_append];rw[←hfr];rcases aBh fr with hF|hF
   ·have hFr:lM v.t ⟨ar,aq⟩=true:=by rw[←hfr,hF]
    obtain⟨q1,q2,q3⟩:=Pr hFr;rw[←hT2] at q3;have hc1:c0=(v.t[(bI v.t ⟨ar,aq⟩).toNat]?).getD dO:=by rw[hc0,if_pos hFr]
    have hc2:c0∈v.t:=by rw[hc1,aAa q2];exact aCs q2
    have f1:Lf ⟨h.g,h.A,h.c,h.O,h.k,h.os,h.y,h.gt,A,k⟩ ⟨v.l,T2,v.known,v.times⟩:=⟨f.outs,f.base,by dsimp only;omega,f.RB,λc hc=>f.tok c (MX (hT2▸hc)),f.known,f.times⟩
    have more:=λM=>M3 M _ _ f1 c0 (f.tok _ hc2);subst hF;rw[if_neg (show ¬true=false by decide),←hc1,←hT2];unfold mC at more;dsimp only[tE,Bh.cs,Bk.cs,V4.cs,aX.cs,iR,List.cons_append,List.nil_append] at more;repeat first|refine v_ ?_|refine Dr.two ?_ ?_|intro
    refine rB (l_ [0,1,2,3] (g_ 4 .nil)) ([aJ g5 34 _]) ?_;repeat first|refine v_ ?_|refine Dr.two ?_ ?_|intro
    refine iO more ?_;rintro e H' ⟨h2,o,e1,e2,e3,e4,e5,e6,e7,rfl,rfl⟩;dsimp only at e1 e2 e3 e4 e5 e6 e7;unfold mC;dsimp only[tE,Bh.cs,Bk.cs,V4.cs,aX.cs,iR,List.cons_append,List.nil_append];repeat first|refine v_ ?_|refine Dr.two ?_ ?_|intro
    have f2:Lf h2 ⟨v.l++[c0],T2,v.known,v.times⟩:=by
     refine⟨?_,?_,?_,?_,f1.tok,f.known,f.times⟩
     ·dsimp only;rw[e5,aBk,f.outs,pO];simp only[aCi,aDo,e6,f.base,gH]
     ·dsimp only;rw[e7,pO,f.base];rfl
     ·dsimp only;simp only[aAe,aDa];omega
     ·intro x hx;rcases aBg.1 hx with hx|hx
      ·exact f.RB x hx
      ·obtain rfl:=aAp.1 hx;exact f.tok _ hc2
    refine aR (H':=mC h2 ⟨v.l++[c0],T2,v.known,v.times⟩++[aO dM [o]]) rfl aF (aB.trans (fin _) (aB.trans (aB.push (f:=dM) (l:=[]) (x:=o) aC) ?_)) ⟨h2,[o],e1,e5,f2,rfl,rfl⟩;unfold mC;dsimp only[tE,Bh.cs,Bk.cs,V4.cs,iR,List.cons_append,List.nil_append];exact aA
   ·have hFr:lM v.t ⟨ar,aq⟩=false:=by rw[←hfr,hF]
    have hT3:T2=v.t:=by rw[hT2];unfold rF;rw[if_neg (by rw[hFr];decide)]
    subst hF;rw[if_pos rfl];repeat first|refine v_ ?_|refine Dr.two ?_ ?_|intro
    refine aR (H':=mC ⟨h.g,h.A,h.c,h.O,h.k,h.os,h.y,h.gt,A,k⟩ v++[aO dM []]) rfl aF (aB.trans (fin _) ?_) ⟨⟨h.g,h.A,h.c,h.O,h.k,h.os,h.y,h.gt,A,k⟩,[],rfl,by simp,⟨f.outs,f.base,f.len,f.RB,f.tok,f.known,f.times⟩,rfl,rfl⟩;unfold mC;rw[hT3];dsimp only[tE,Bh.cs,Bk.cs,V4.cs,iR,List.cons_append,List.nil_append];exact aA
end
theorem aK.read{P:Program}{E:Env}{f:FuncId}{args:Array Value}{Hr:List aL}{Q0:Ending→List aL→Prop}(h:∀M,Sub E Hr M→aK P M f args [] Q0):aK P E f args Hr (λe H'=>∃H1,Q0 e H1∧H'=H1++Hr):=by
 intro hds w hw;obtain⟨M,hds',hE,hst,hback⟩:=St.enter (Hp:=[]) (R:=Hr) hw;exact(h M hE hds' w hst).mono λe w' ⟨H1,h1,h2⟩=>⟨H1++Hr,hback _ _ h1,H1,h2,rfl⟩
def cO(g:Nat)(v:Lg)(os:List Ov):aL:=pack λ(h:Lh)=>iE (h.g=g∧h.os=os∧Lf h v)::mC h v
theorem cO.mk{E:Env}{R:List aL}{h:Lh}{v:Lg}(f:Lf h v):aB E (mC h v++R) (cO h.g v h.os::R):=λw hw=>by
 have h1:St E (iE (h.g=h.g∧h.os=h.os∧Lf h v)::mC h v++R) w:=aB.lH ⟨rfl,rfl,f⟩ w hw;exact h1.conv λF hs=>by
  obtain⟨F1,F2,k1,k2,k3,k4⟩:=aY.1 hs;exact⟨F,⟨F1,F2,k1,k2,⟨h,k3⟩,k4⟩,λ_ h=>h⟩
theorem cO.out{E:Env}{R:List aL}{g:Nat}{v:Lg}{os:List Ov}{w:World}(hw:St E (cO g v os::R) w):∃h:Lh,h.g=g∧h.os=os∧Lf h v∧St E (mC h v++R) w:=by
 obtain⟨h,hs⟩:=hw.unpack (l:=λ(h:Lh)=>iE (h.g=g∧h.os=os∧Lf h v)::mC h v) Has.aN;have hp:=St.lH (H:=_) (R:=_) hs Has.aN;refine⟨h,hp.1,hp.2.1,hp.2.2,hs.conv λF hst=>?_⟩;obtain⟨F1,F2,k1,k2,k3,k4⟩:=hst;exact⟨F2,k4,λb hb=>(k1 b).2 (.inr hb)⟩
theorem PB.of{E M:Env}{h:Lh}{v:Lg}(hE:Sub E (mC h v) M):PB M h v:=by
 unfold mC at hE;exact⟨gE.of hE aS,dB,dB,dB,gE.of hE aS,dB⟩
theorem lS{E:Env}{f:FuncId}{args:Array Value}{g:Nat}{v:Lg}{os:List Ov}{Q0:Ending→List aL→Prop}(law:∀M h,PB M h v→Lf h v→h.g=g→h.os=os→(∀A n c T l,Rd (α:=cQ) E T A n c l→Rd M T A n c l)→aK prog M f args [] Q0) :
  aK prog E f args [cO g v os] (λe H'=>∃H1,Q0 e H1∧H'=H1++[cO g v os]):=by
 intro hds w hw;obtain⟨h,rfl,rfl,hf,hs⟩:=cO.out hw;have hs:St E (mC h v) w:=by simpa using hs
 have:=(aK.read (P:=prog) (E:=E) (f:=f) (args:=args) (Hr:=mC h v) (Q0:=Q0) λM hE=>law M h (PB.of hE) hf rfl rfl λA n c T l hr=>hr.sub hE) hds w hs;exact this.mono λe w' ⟨H',h1,H1,h2,h3⟩=>⟨H1++[cO h.g v h.os],by
  subst h3;have h4:St E (mC h v++H1) w':=h1.conv λF hs=>by
   obtain⟨F1,F2,k1,k2,k3,k4⟩:=aY.1 hs;exact⟨F,aY.2 ⟨F2,F1,λb=>by rw[k1 b];exact Or.comm,λb h1 h2=>k2 b h2 h1,k4,k3⟩,λ_ h=>h⟩
  have h5:=cO.mk hf w' h4;exact h5.conv λF hs=>by
   obtain⟨F1,F2,k1,k2,k3,k4⟩:=hs;exact⟨F,aY.2 ⟨F2,F1,λb=>by rw[k1 b];exact Or.comm,λb h1 h2=>k2 b h2 h1,k4,⟨F1,λ_=>False,λb=>by simp,λ_ _ h=>h,k3,λ_ h=>h⟩⟩,λ_ h=>h⟩,H1,h2,rfl⟩
theorem aK.post{P:Program}{E:Env}{f:FuncId}{args:Array Value}{H:List aL}{Q Q':Ending→List aL→Prop}(h:aK P E f args H Q)(hq:∀e H',Q e H'→∃H2,aB E H' H2∧Q' e H2):aK P E f args H Q' :=
 λhd w hw=>(h hd w hw).mono λe w' ⟨H',h1,h2⟩=>let ⟨H2,hc,hq2⟩:=hq e H' h2;⟨H2,hc w' h1,hq2⟩
theorem Dh{E:Env}{f:FuncId}{args:Array Value}{g:Nat}{v:Lg}{os:List Ov}{Q:Ending→List aL→Prop}(h:∀h:Lh,h.g=g→h.os=os→Lf h v→aK prog E f args (mC h v) Q):aK prog E f args [cO g v os] Q:=by
 intro hds w hw;obtain⟨h1,hg,ho,hf,hs⟩:=cO.out hw;exact h h1 hg ho hf hds w (by simpa using hs)
theorem CE{l:List aX}{x c:aX}(h:x∈lG l c):x=c∨x∈l:=by
 unfold lG at h;simp only[aBg,aAp] at h;rcases h with(h|h)|h
 ·exact .inr (aBs h)
 ·exact .inl h
 ·exact .inr (aDw h)
theorem V4.Nq{v:V4}(h:v.ok){i x:Int}(h0:0≤x)(h1:x≤1073741824):(v.set i x).ok:=by
 unfold V4.ok V4.set at *;repeat' split
 all_goals (dsimp only;omega)
theorem TJ{h h2:Lh}{v:Lg}{c:aX}(f:Lf h v)(hc:c.ok)(ho:h2.os=h.os)(hy:h2.y=h.y):Lf h2 (sV v c).1:=by
 have same:Lf h2 v:=⟨by rw[ho];exact f.outs,by rw[hy];exact f.base,f.len,f.RB,f.tok,f.known,f.times⟩
 unfold sV;split
 ·exact same
 split
 ·exact same
 split
 ·exact same
 ·rename_i h1 h2' h3;have hm:c.may=true:=by simpa using h3
  have hm2:=(aX.bY c).1 hm;refine⟨same.outs,same.base,?_,f.RB,?_,V4.Nq f.known o_ o_,V4.Nq f.times o_ o_⟩
  ·dsimp only;unfold tP;split
   ·rw[lA];omega
   ·exact f.len
  ·intro x hx;dsimp only at hx;unfold tP at hx;split at hx
   ·rcases CE hx with rfl|hx
    ·exact hc
    ·exact f.tok x hx
   ·exact f.tok x hx
section
variable (E:Env) (g:Nat) (v:Lg) (os:List Ov)
theorem UP:G E 279 [] [] λe H'=>∃g,e=.returned (pt g)∧H'=[cO g Hb []] :=
 aK.post (Xq E) λe H' ⟨h,ho,hf,he,hH⟩=>⟨_,by subst hH;have:=cO.mk (E:=E) (R:=[]) hf;rw[aAc,ho] at this;exact this,h.g,he,rfl⟩
theorem uB:G E 16 [pt g] [cO g v os] λe H'=>∃B k,(v.l.length≤k∧k≤maxLen)∧e=.returned (.slice B v.l.length k)∧H'=[own bE B v.l.length k v.l,cO g v os]:=by
 refine aK.mono (lS (Q0:=λe H'=>∃B k,(v.l.length≤k∧k≤maxLen)∧e=.returned (.slice B v.l.length k)∧H'=[own bE B v.l.length k v.l]) λM h r f hg _ _=>by subst hg;exact JW M h v r f) ?_;rintro e H' ⟨H1,⟨B,k,hd,rfl,rfl⟩,rfl⟩;exact⟨B,k,hd,rfl,rfl⟩
theorem pJ:G E 40 [pt g] [cO g v os] λe H'=>∃B k,(v.t.length≤k∧k≤maxLen)∧e=.returned (.slice B v.t.length k)∧H'=[own bE B v.t.length k v.t,cO g v os]:=by
 refine aK.mono (lS (Q0:=λe H'=>∃B k,(v.t.length≤k∧k≤maxLen)∧e=.returned (.slice B v.t.length k)∧H'=[own bE B v.t.length k v.t]) λM h r f hg _ _=>by subst hg;exact Ih M h v r f) ?_;rintro e H' ⟨H1,⟨B,k,hd,rfl,rfl⟩,rfl⟩;exact⟨B,k,hd,rfl,rfl⟩
theorem aJe:G E 18 [pt g] [cO g v os] λe H'=>∃y:Bh,y.b=(gH sY (v.l++v.t)).1∧e=.returned (.agg y.cs.toArray)∧H'=[iR y,cO g v os]:=by
 refine aK.mono (lS (Q0:=λe H'=>∃y:Bh,y.b=(gH sY (v.l++v.t)).1∧e=.returned (.agg y.cs.toArray)∧H'=[iR y]) λM h r f hg _ _=>by subst hg;exact aJm M h v r f) ?_;rintro e H' ⟨H1,⟨y,h1,rfl,rfl⟩,rfl⟩;exact⟨y,h1,rfl,rfl⟩
theorem KS:G E 96 [pt g] [cO g v os] λe H'=>e=.returned (.agg (L0 (v.l++v.t)).cs.toArray)∧H'=[cO g v os]:=by
 refine aK.mono (lS (Q0:=λe H'=>e=.returned (.agg (L0 (v.l++v.t)).cs.toArray)∧H'=[]) λM h r f hg _ _=>by subst hg;exact Vc M h v r f) ?_;rintro e H' ⟨H1,⟨rfl,rfl⟩,rfl⟩;exact⟨rfl,rfl⟩
theorem Rt:G E 97 [pt g] [cO g v os] λe H'=>e=.returned (.int .i64 (sF v))∧H'=[cO g v os]:=by
 refine aK.mono (lS (Q0:=λe H'=>e=.returned (.int .i64 (sF v))∧H'=[]) λM h r f hg _ _=>by subst hg;exact UX M h v r f) ?_;rintro e H' ⟨H1,⟨rfl,rfl⟩,rfl⟩;exact⟨rfl,rfl⟩
theorem R5:G E 115 [pt g] [cO g v os] λe H'=>e=.returned (.tuple #[.agg ((v.t[0]?).getD dO).id.cs.toArray,.bool (!v.t.isEmpty)])∧H'=[cO g v os]:=by
 refine aK.mono (lS (Q0:=λe H'=>e=.returned (.tuple #[.agg ((v.t[0]?).getD dO).id.cs.toArray,.bool (!v.t.isEmpty)])∧H'=[]) λM h r f hg _ _=>by subst hg;exact VK M h v r f) ?_;rintro e H' ⟨H1,⟨rfl,rfl⟩,rfl⟩;exact⟨rfl,rfl⟩
theorem J0:G E 73 [pt g] [cO g v os] λe H'=>∃g2,e=.returned (pt g2)∧H'=[cO g2 v os,cO g v os]:=by
 refine aK.post (lS (Q0:=λe H'=>∃h2:Lh,h2.os=os∧Lf h2 v∧e=.returned (pt h2.g)∧H'=mC h2 v) λM h r f hg ho _=>?_) ?_
 ·subst hg;refine aK.mono (Hy M h v r f) ?_;rintro e H' ⟨h2,k1,k2⟩;exact⟨h2,k1.trans ho,k2⟩
 ·rintro e H' ⟨H1,⟨h2,k1,k2,k3,rfl⟩,rfl⟩;have:=cO.mk (E:=E) (R:=[cO g v os]) k2;rw[k1] at this;exact⟨_,this,h2.g,k3,rfl⟩
theorem Dw(hro:Bw E os)(a:bJ):G E 110 [pt g,.agg a.cs.toArray] [cO g v os] λe H'=>∃o:Ov,o.d=(cE v a).1∧e=.returned (.tuple #[.agg o.cs.toArray,.bool (cE v a).2.1,.bool (cE v a).2.2])∧H'=[dM o,cO g v os]:=by
 refine aK.mono (lS (Q0:=λe H'=>∃o:Ov,o.d=(cE v a).1∧e=.returned (.tuple #[.agg o.cs.toArray,.bool (cE v a).2.1,.bool (cE v a).2.2])∧H'=[dM o]) λM h r f hg ho hrd=>?_) ?_
 ·subst hg;exact Ed M h v r f (by rw[ho];exact λo ho=>hrd _ _ _ _ _ (hro o ho)) a
 ·rintro e H' ⟨H1,⟨o,h1,rfl,rfl⟩,rfl⟩;exact⟨o,h1,rfl,rfl⟩
theorem YF(c:aX)(hc:c.ok):G E 256 [pt g,.agg c.cs.toArray] [cO g v os] (cM (.int .i64 (sV v c).2) [cO g (sV v c).1 os]):=by
 refine Dh λh hg ho hf=>?_;subst hg;refine aK.post (N7 E h v hf c hc) ?_;rintro e H' ⟨h2,k1,k2,k3,k4,rfl⟩;have:=cO.mk (E:=E) (R:=[]) (TJ hf hc k2 k3);rw[aAc,k1,k2,ho] at this;exact⟨_,this,k4,rfl⟩
theorem Ow(a:bJ):G E 257 [pt g,.agg a.cs.toArray] [cO g v os] λe H'=>∃new:List Ov,e=.returned (.int .i64 (fZ v a).2)∧H'=[cO g (fZ v a).1 (os++new),aO dM new]:=by
 refine Dh λh hg ho hf=>?_;subst hg;refine aK.post (HE E h v hf a) ?_;rintro e H' ⟨h2,new,k1,k2,k3,k4,rfl⟩;have:=cO.mk (E:=E) (R:=[aO dM new]) k3;rw[k1,k2,ho] at this;exact⟨_,this,new,k4,rfl⟩
end
theorem aK.dU{P:Program}{E:Env}{f:FuncId}{args:Array Value}{Hp R:List aL}{Q:Ending→List aL→Prop}(h:∀M,Sub E R M→aK P M f args Hp Q):aK P E f args (Hp++R) (λe H'=>∃H1,Q e H1∧H'=H1++R):=by
 intro hds w hw;obtain⟨M,hds',hE,hst,hback⟩:=hw.enter;exact(h M hE hds' w hst).mono λe w' ⟨H1,h1,h2⟩=>⟨H1++R,hback _ _ h1,H1,h2,rfl⟩
structure U7 where
 B:Option Addr
 d:Nat
 ls:List fG
structure VC(x:U7)(r:Int)(ps:List dS):Prop where
 ok:EE r x.ls
 ps:x.ls.map fG.s=ps
 cap:x.ls.length≤x.d∧x.d≤maxLen
def eC(g:Nat)(r:Int)(ps:List dS):aL:=pack λ(x:U7)=>iE (VC x r ps)::vM g x.B x.ls.length x.d r x.ls
theorem eC.mk{E:Env}{R:List aL}{g:Nat}{r:Int}{ps:List dS}{x:U7}(f:VC x r ps):aB E (vM g x.B x.ls.length x.d r x.ls++R) (eC g r ps::R):=λw hw=>by
 have h1:St E (iE (VC x r ps)::vM g x.B x.ls.length x.d r x.ls++R) w:=aB.lH f w hw;exact h1.conv λF hs=>by
  obtain⟨F1,F2,k1,k2,k3,k4⟩:=aY.1 hs;exact⟨F,⟨F1,F2,k1,k2,⟨x,k3⟩,k4⟩,λ_ h=>h⟩
theorem eC.out{E:Env}{R:List aL}{g:Nat}{r:Int}{ps:List dS}{w:World}(hw:St E (eC g r ps::R) w):∃x:U7,VC x r ps∧St E (vM g x.B x.ls.length x.d r x.ls++R) w:=by
 obtain⟨x,hs⟩:=hw.unpack (l:=λ(x:U7)=>iE (VC x r ps)::vM g x.B x.ls.length x.d r x.ls) Has.aN;have hp:=St.lH (H:=_) (R:=_) hs Has.aN;refine⟨x,hp,hs.conv λF hst=>?_⟩;obtain⟨F1,F2,k1,k2,k3,k4⟩:=hst;exact⟨F2,k4,λb hb=>(k1 b).2 (.inr hb)⟩
theorem mI{E:Env}{f:FuncId}{args:Array Value}{g:Nat}{r:Int}{ps:List dS}{Q:Ending→List aL→Prop}(h:∀x:U7,VC x r ps→aK prog E f args (vM g x.B x.ls.length x.d r x.ls) Q):aK prog E f args [eC g r ps] Q:=by
 intro hds w hw;obtain⟨x,hf,hs⟩:=eC.out hw;exact h x hf hds w (by simpa using hs)
def rW(ps:List dS)(s:Int)(w:List cQ):List dS:=if 1≤s∧s≤(ps.length:Int)+1 then mQ ps (s - 1).toNat w else ps
def wJ(r:Int)(ps:List dS)(k:bP)(now:Int):List dS×Bool :=
 if k.id.rep=r∧1≤k.id.seq∧k.id.seq≤(ps.length:Int) then
  (ps.set (k.id.seq - 1).toNat (if (ps.getD (k.id.seq - 1).toNat s0).tA k.id k then(ps.getD (k.id.seq - 1).toNat s0).gV k.id now else ps.getD (k.id.seq - 1).toNat s0),
   (ps.getD (k.id.seq - 1).toNat s0).tA k.id k&&(pK k.id (ps.getD (k.id.seq - 1).toNat s0).made (ps.getD (k.id.seq - 1).toNat s0).l (ps.getD (k.id.seq - 1).toNat s0).w now).isSome)
 else(ps,false)
def wZ(r:Int)(ps:List dS)(k:bP):List dS×Bool :=
 if k.id.rep=r∧1≤k.id.seq∧k.id.seq≤(ps.length:Int) then
  (ps.set (k.id.seq - 1).toNat ((ps.getD (k.id.seq - 1).toNat s0).qJ k.id k),(cX k.id (ps.getD (k.id.seq - 1).toNat s0).l k).isSome)
 else(ps,false)
section
variable (E:Env) (g:Nat) (r:Int) (ps:List dS)
theorem YG:G E 264 [.int .i64 r] [] λe H'=>∃g,e=.returned (pt g)∧H'=[eC g r []]:=by
 refine aK.post (Xl E r) ?_;rintro e H' ⟨g,rfl,rfl⟩;have h:=eC.mk (E:=E) (R:=[]) (g:=g) (x:=⟨none,0,[]⟩) (r:=r) (ps:=[]) ⟨(λi e h=>by cases h),rfl,by decide,by decide⟩;refine⟨_,aB.trans (aB.trans (aB.nil eD) (aB.trans (aB.kP gJ) (aB.kP iD))) (aB.trans ?_ h),g,rfl,rfl⟩;exact aB.aV (.cons (.aM (.aM (.aM .aN))) (.cons (.aM (.aM .aN)) (.cons (.aM .aN) (.cons .aN .nil))))
theorem XK(hps:ps.length≤1000)(s:Int)(X:Option Addr)(nx cx:Nat)(w:List cQ)(hw:Rd E eG X nx cx w)(hx:nx≤8)(hwo:∀f∈w,f.ok) :
  G E 308 [pt g,.int .i64 s,.slice X nx cx] [eC g r ps] λe H'=>(∃b,e=.returned (.bool b))∧H'=[eC g r (rW ps s w)]:=by
 refine mI λx hf=>?_;have hl:x.ls.length=ps.length:=by rw[←hf.ps,aAw]
 unfold rW;by_cases h:1≤s∧s≤(ps.length:Int)+1
 ·rw[if_pos h];obtain⟨i,hi⟩:∃i:Nat,s=((i+1:Nat):Int):=⟨(s - 1).toNat,by omega⟩
  subst hi;have hi2:(((i+1:Nat):Int) - 1).toNat=i:=o_;rw[hi2];refine aK.post (ZV E g x.B x.ls.length x.d r x.ls i o_ o_ rfl hf.cap hf.ok X nx cx w hw hx hwo) ?_;rintro e H' ⟨B',n',d',ls',rfl,k1,rfl,k3,k4,rfl⟩;rw[hf.ps] at k4;have h2:=eC.mk (E:=E) (R:=[]) (g:=g) (x:=⟨B',d',ls'⟩) (r:=r) ⟨k1,k4,k3⟩;exact⟨_,h2,⟨_,rfl⟩,rfl⟩
 ·rw[if_neg h];refine aK.post (aK.dU (Hp:=[lg g x.B x.ls.length x.d r]) λM hE=>Rw M g x.B x.ls.length x.d r s (.slice X nx cx) o_ o_) ?_;rintro e H' ⟨H1,⟨rfl,rfl⟩,rfl⟩;have h2:=eC.mk (E:=E) (R:=[]) (g:=g) hf;rw[aAc] at h2;exact⟨_,h2,⟨_,rfl⟩,rfl⟩
theorem Hv{x:U7}(hf:VC x r ps){k:bP}(h:k.id.rep=r∧1≤k.id.seq∧k.id.seq≤(ps.length:Int)):∃e,x.ls[(k.id.seq - 1).toNat]?=some e∧(k.id.seq - 1).toNat<x.ls.length∧e.id=k.id∧k.id.seq=(((k.id.seq - 1).toNat+1:Nat):Int)∧ps.getD (k.id.seq - 1).toNat s0=e.s:=by
 have hl:x.ls.length=ps.length:=by rw[←hf.ps,aAw]
 have hlt:(k.id.seq - 1).toNat<x.ls.length:=o_;have he:x.ls[(k.id.seq - 1).toNat]?=some x.ls[(k.id.seq - 1).toNat]:=aAa hlt;refine⟨_,he,hlt,?_,by omega,?_⟩
 ·rw[(hf.ok _ _ he).id];obtain⟨⟨a,b⟩,o,u⟩:=k;dsimp only at h⊢;obtain⟨rfl,h1,h2⟩:=h;congr 1;omega
 ·rw[←hf.ps,aBb,aBf,he];rfl
theorem Yh(hps:ps.length≤1000)(k:bP)(now:Int)(hnow:dQ now):G E 259 [pt g,.agg k.cs.toArray,.int .i64 now] [eC g r ps] (cM (.bool (wJ r ps k now).2) [eC g r (wJ r ps k now).1]):=by
 refine mI λx hf=>?_;have hl:x.ls.length=ps.length:=by rw[←hf.ps,aAw]
 unfold wJ;by_cases h:k.id.rep=r∧1≤k.id.seq∧k.id.seq≤(ps.length:Int)
 ·rw[if_pos h];obtain⟨e,he,hlt,hid,hsq,hs⟩:=Hv r ps hf h;rw[hs];have law:=ZP E g x.B x.ls.length x.d r x.ls (k.id.seq - 1).toNat o_ hlt hf.ok he k.ord k.cD now hnow;rw[←hsq,show(⟨e.id,k.ord,k.cD⟩:bP)=k by rw[hid],hid] at law;obtain⟨hr,_,_⟩:=h;subst hr;refine aK.post law ?_;rintro e2 H' ⟨ls',rfl,k1,k2,k3,rfl⟩;rw[hf.ps] at k3;have h2:=eC.mk (E:=E) (R:=[]) (g:=g) (x:=⟨x.B,x.d,ls'⟩) (r:=k.id.rep) ⟨k1,k3,by dsimp only;rw[k2];exact hf.cap⟩;dsimp only at h2;rw[k2,aAc] at h2;exact⟨_,h2,rfl,rfl⟩
 ·rw[if_neg h];refine aK.post (aK.dU (Hp:=[lg g x.B x.ls.length x.d r]) λM hE=>Qp M g x.B x.ls.length x.d r k now o_ (by rw[hl];exact h)) ?_;rintro e H' ⟨H1,⟨rfl,rfl⟩,rfl⟩;have h2:=eC.mk (E:=E) (R:=[]) (g:=g) hf;rw[aAc] at h2;exact⟨_,h2,rfl,rfl⟩
theorem Yl(hps:ps.length≤1000)(k:bP):G E 260 [pt g,.agg k.cs.toArray] [eC g r ps] (cM (.bool (wZ r ps k).2) [eC g r (wZ r ps k).1]):=by
 refine mI λx hf=>?_;have hl:x.ls.length=ps.length:=by rw[←hf.ps,aAw]
 unfold wZ;by_cases h:k.id.rep=r∧1≤k.id.seq∧k.id.seq≤(ps.length:Int)
 ·rw[if_pos h];obtain⟨e,he,hlt,hid,hsq,hs⟩:=Hv r ps hf h;rw[hs];have law:=Zt E g x.B x.ls.length x.d r x.ls (k.id.seq - 1).toNat o_ hlt hf.ok he k.ord k.cD;rw[←hsq,show(⟨e.id,k.ord,k.cD⟩:bP)=k by rw[hid],hid] at law;obtain⟨hr,_,_⟩:=h;subst hr;refine aK.post law ?_;rintro e2 H' ⟨ls',rfl,k1,k2,k3,rfl⟩;rw[hf.ps] at k3;have h2:=eC.mk (E:=E) (R:=[]) (g:=g) (x:=⟨x.B,x.d,ls'⟩) (r:=k.id.rep) ⟨k1,k3,by dsimp only;rw[k2];exact hf.cap⟩;dsimp only at h2;rw[k2,aAc] at h2;exact⟨_,h2,rfl,rfl⟩
 ·rw[if_neg h];refine aK.post (aK.dU (Hp:=[lg g x.B x.ls.length x.d r]) λM hE=>Qe M g x.B x.ls.length x.d r k o_ (by rw[hl];exact h)) ?_;rintro e H' ⟨H1,⟨rfl,rfl⟩,rfl⟩;have h2:=eC.mk (E:=E) (R:=[]) (g:=g) hf;rw[aAc] at h2;exact⟨_,h2,rfl,rfl⟩
end
end Go.Proofs.YtmilalkjbojciaaGreat.Sep
