/- Part AZ: what it needs. No condition. -/
import Derived.Test.YtmilalkjbojciaaGreatRAA
import Derived.Test.YtmilalkjbojciaaGreatRAX
import Derived.Test.YtmilalkjbojciaaGreatRAI
import Derived.Test.YtmilalkjbojciaaGreatRAB
import Derived.Test.YtmilalkjbojciaaGreatRAL
set_option maxRecDepth 100000
set_option maxHeartbeats 8000000
open Go.Proofs.Tryz
namespace Go.Proofs.YtmilalkjbojciaaGreat.Sep
open Go.RowKit Reg Oct
open Mem hiding Rd
section
variable (E:Env)
theorem XQ(A:Option Addr)(m c:Nat)(l:List cH)(hr:Rd E mX A m c l)(k:Nat):G E 23 [.slice A m c,.int .i64 k] [] (cM (.slice A (min m k) c) []):=by
 have hlen:=hr.len;have hcap:=hr.cap;have hmax:=fX;refine t_ func23 ntmps23 ?_;by_cases h:(k:Int)<m
 ·repeat first|refine v_ ?_|intro
  exact aR rfl aF aA (⟨by rw[aFe o_],rfl⟩)
 ·repeat first|refine v_ ?_|intro
  exact aR rfl aF aA (⟨by rw[aBr o_],rfl⟩)
theorem XW(c:fU):G E 9 [.agg c.cs.toArray] [] (cM (.bool (decide c.cV)) []):=by
 unfold fU.cV;refine t_ func9 ntmps9 ?_;repeat' (first|refine w_ ?_|refine k_ ?_|refine f_ ?_ ?_|intro _)
 all_goals exact aR rfl aF aA ⟨rJ,rfl⟩
variable (A:Option Addr) (n c:Nat) (B:Option Addr) (m d:Nat)
end
section
variable (E:Env) (P:List Ov) (g:Nat) (t:Nat) (v:Wv)
theorem FH(r:Nat)(n:Nd)(hn:v.bU[r]?=some n)(ht:t≤1000000):G E 13 [pt g,.int .i64 r] [aQ P g t v,aI P] λe H'=>∃Q g2,e=.returned (pt g2)∧H'=[dI (P++Q) g2 n.state,aQ (P++Q) g t v,aI (P++Q)]:=by
 refine zT E P g t v λx ho hx=>?_;have rK:=ho.rK;obtain⟨gr,hg⟩:∃gr,x.gs[r]?=some gr:=⟨_,aAa (by have:=(aAd.1 hn).1;omega)⟩
 have aty:=λM hb hG=>qW M g x v.now v.aW.length v.cf v.bU.length v.sub r gr hb rK.2 hG hg;dsimp only[List.cons_append,List.nil_append];refine aK.pre (vR (k:=kt t) hg hn (.aM (.aM (.aM (.aM (.aM .aN)))))) ?_;have up:=λM=>TI M P gr v.cf n (kt t);unfold Nd.state;cases hu:n.up with
 |true =>
  have st:=λM=>wW M P gr v.cf n (kt t);rw[hu] at up st;simp only[if_true] at st⊢;refine t_ func13 ntmps13 ?_;repeat first|refine v_ ?_|intro
  refine DY aty ?_;repeat first|refine v_ ?_|intro
  refine bK up ?_;repeat first|refine v_ ?_|intro
  refine bW st ?_;rintro e H' ⟨g2,rfl,rfl⟩;repeat first|refine v_ ?_|intro
  refine aR (H':=[dI P g2 n.s,aQ P g t v,aI P]) rfl aF (aB.trans (BZ (t:=t) (v:=v) (v':=v) (x':=x) (Q:=[]) (aAf t) (aAc P).symm hg hn (aCd _) ho hx (mN hn).symm rfl rfl aC) aA) ⟨[],g2,rfl,by rw[aAc]⟩
 |false =>
  have st:=λM=>TH M P gr v.cf n (kt t) (EA ht);rw[hu] at up;simp only[aCb,if_false];refine t_ func13 ntmps13 ?_;repeat first|refine v_ ?_|intro
  refine DY aty ?_;repeat first|refine v_ ?_|intro
  refine bK up ?_;repeat first|refine v_ ?_|intro
  refine bW st ?_;rintro e H' ⟨Q,g2,rfl,rfl⟩;repeat first|refine v_ ?_|intro
  refine aR (H':=[dI (P++Q) g2 n.stored,aQ (P++Q) g t v,aI (P++Q)]) rfl aF (aB.trans (BZ (t:=t) (v:=v) (v':=v) (x':=x) (Q:=Q) (aAf t) rfl hg hn (aCd _) ho hx (mN hn).symm rfl rfl aC) aA) ⟨Q,g2,rfl,rfl⟩
end
instance {a0 a1 a2 a3 a4 a5 a6 a7 b0 b1 b2 b3 b4 b5 b6 b7:Int}:QG 42 #[.int .i64 a0,.int .i64 a1,.int .i64 a2,.int .i64 a3,.int .i64 a4,.int .i64 a5,.int .i64 a6,.int .i64 a7] #[.int .i64 b0,.int .i64 b1,.int .i64 b2,.int .i64 b3,.int .i64 b4,.int .i64 b5,.int .i64 b6,.int .i64 b7] (decide (a0=b0)&&(decide (a1=b1)&&(decide (a2=b2)&&(decide (a3=b3)&&(decide (a4=b4)&&(decide (a5=b5)&&(decide (a6=b6)&&decide (a7=b7)))))))):=⟨VP.eight (e:=2) q_ q_ q_ q_⟩
instance:DecidableEq O8:=λx y=>decidable_of_iff (x.a0=y.a0∧x.a1=y.a1∧x.a2=y.a2∧x.a3=y.a3∧x.a4=y.a4∧x.a5=y.a5∧x.a6=y.a6∧x.a7=y.a7) (by cases x;cases y;simp)
instance:DecidableEq Bk:=λx y=>decidable_of_iff (x.fP=y.fP∧x.mO=y.mO∧x.eO=y.eO∧x.aH=y.aH) (by cases x;cases y;simp)
theorem O8.dec(a b:O8):(decide (a.a0=b.a0)&&(decide (a.a1=b.a1)&&(decide (a.a2=b.a2)&&(decide (a.a3=b.a3)&&(decide (a.a4=b.a4)&&(decide (a.a5=b.a5)&&(decide (a.a6=b.a6)&&decide (a.a7=b.a7))))))))=decide (a=b):=by
 rw[aBz];cases a;cases b;simp only[aAv,decide_eq_true_eq,O8.mk.injEq]
section
variable (E:Env)
theorem aJi(x y:Bh)(hx:Rd E eB x.A x.m x.c x.b.aH)(hy:Rd E eB y.A y.m y.c y.b.aH):G E 17 [.agg x.cs.toArray,.agg y.cs.toArray] [] (cM (.bool (decide (x.b=y.b))) []):=by
 obtain⟨⟨a1,a2,a3,l⟩,A,n,c⟩:=x;obtain⟨⟨b1,b2,b3,k⟩,B,m,d⟩:=y;have hn:=hx.len;have hcap:=hx.cap;have hm:=hy.len;have hcap2:=hy.cap;have hmax:=fX;dsimp only at hx hy hn hcap hm hcap2⊢;have d1:=O8.dec a1 b1;have d2:=O8.dec a2 b2;have d3:=O8.dec a3 b3;dsimp only[Bh.cs,Bk.cs];refine t_ func17 ntmps17 ?_;by_cases h1:a1=b1
 case neg =>
  have e1:=d1.trans (decide_eq_false h1);have e2:=congrArg not e1;rw[decide_eq_false (show ¬((⟨a1,a2,a3,l⟩:Bk)=⟨b1,b2,b3,k⟩) from λh=>h1 (Bk.mk.inj h).1)];repeat first|refine v_ ?_|intro
  exact B7
 by_cases h2:a2=b2
 case neg =>
  have e1:=d2.trans (decide_eq_false h2);have e2:=congrArg not e1;have e3:=congrArg not (d1.trans (decide_eq_true h1));rw[decide_eq_false (show ¬((⟨a1,a2,a3,l⟩:Bk)=⟨b1,b2,b3,k⟩) from λh=>h2 (Bk.mk.inj h).2.1)];repeat first|refine v_ ?_|intro
  exact B7
 by_cases h3:a3=b3
 case neg =>
  have e1:=d3.trans (decide_eq_false h3);have e2:=congrArg not e1;have e3:=congrArg not (d1.trans (decide_eq_true h1));have e4:=congrArg not (d2.trans (decide_eq_true h2));rw[decide_eq_false (show ¬((⟨a1,a2,a3,l⟩:Bk)=⟨b1,b2,b3,k⟩) from λh=>h3 (Bk.mk.inj h).2.2.1)];repeat first|refine v_ ?_|intro
  exact B7
 have e1:=congrArg not (d1.trans (decide_eq_true h1));have e2:=congrArg not (d2.trans (decide_eq_true h2));have e3:=congrArg not (d3.trans (decide_eq_true h3));have hd:decide ((⟨a1,a2,a3,l⟩:Bk)=⟨b1,b2,b3,k⟩)=decide (l=k):=by rw[h1,h2,h3];simp
 rw[hd];by_cases hnm:n=m
 ·subst hnm;repeat first|refine v_ ?_|intro
  rename_i g2 g3;refine C.scan (Y:=Unit) hn (λi _=>[(2,pt g2),(3,pt g3),(5,.int .i64 i)]) (λ_ _=>[aJ g2 45 (Bk.cs ⟨a1,a2,a3,l⟩ A n c),aJ g3 45 (Bk.cs ⟨b1,b2,b3,k⟩ B n d)]) (λi _=>l.take i=k.take i) () aD aA rfl ?_ ?_
  ·intro i _ x G hi hx2 hall;have hy2:k[i]?=some k[i]:=aAa o_;generalize k[i]=y at hy2;dsimp only[Bk.cs];by_cases hxy:x=y
   ·subst hxy;have hd:(!decide (x=x))=false:=by simp
    repeat first|refine v_ ?_|intro
    refine rA (l_ [0,1,2,3,4,5,6,7,8,9,10] .nil) ?_;repeat first|refine v_ ?_|intro
    exact⟨(),aD,aA,by rw[take_succ hx2,take_succ hy2,hall]⟩
   ·have hd:(!decide (x=y))=true:=by simp[hxy]
    repeat first|refine v_ ?_|intro
    refine rA (l_ [0,1,2,3,4,5,6,7,8,9,10] .nil) ?_;repeat first|refine v_ ?_|intro
    exact aR rfl aF aA (⟨rJ (by rw[eq_comm,decide_eq_false_iff_not];rintro rfl;rw[hx2] at hy2;injection hy2 with hy2;exact hxy hy2),rfl⟩)
  ·intro _ G hall;dsimp only[Bk.cs];repeat first|refine v_ ?_|intro
   exact aR rfl aF aA (⟨rJ (by rw[eq_comm,decide_eq_true_iff];rwa [hn,aAo,←hn,hm,aAo] at hall),rfl⟩)
 ·repeat first|refine v_ ?_|intro
  exact aR rfl aF aA (⟨rJ (by rw[eq_comm,decide_eq_false_iff_not];rintro rfl;omega),rfl⟩)
end
def aGy(a b:V4):V4:=⟨max a.a b.a,max a.b b.b,max a.c b.c,max a.d b.d⟩
def jn(a b:V4)(i:Nat):V4:=⟨if 0<i then max a.a b.a else a.a,if 1<i then max a.b b.b else a.b,if 2<i then max a.c b.c else a.c,if 3<i then max a.d b.d else a.d⟩
instance:cL 100 [.int .i64 0,.int .i64 0,.int .i64 0,.int .i64 0,.int .i64 0,.int .i64 0,.int .i64 0,.int .i64 0,.int .i64 0,.int .i64 0,.int .i64 0,.int .i64 0,.int .i64 0,.int .i64 0,.int .i64 0,.int .i64 0,.int .i64 0,.int .i64 0,.int .i64 0,.int .i64 0,.int .i64 0,.int .i64 0,.int .i64 0,.int .i64 0,.int .i64 0,.int .i64 0,.int .i64 0,.int .i64 0,.int .i64 0,.slice none 0 0] [(0,1),(1,4),(5,25)]:=⟨⟨q_,q_⟩⟩
abbrev P3(k:Int)(v:V4)(y:Bh):List Value:=.int .i64 k::(v.cs++y.cs)
section
variable (E:Env)
theorem aHz(a b:V4):G E 163 [.agg a.cs.toArray,.agg b.cs.toArray] [] (cM (.agg (aGy a b).cs.toArray) []):=by
 refine t_ func163 ntmps163 ?_;repeat first|refine v_ ?_|intro
 rename_i g2 g3 g4;refine C.loop (X:=Nat×V4) (λx=>[(2,pt g2),(3,pt g3),(4,pt g4),(6,.int .i64 x.1)]) (λx=>[aJ g2 98 x.2.cs,aJ g3 98 b.cs,aJ g4 98 FR.cs]) (λx=>x.1≤4∧x.2=jn a b x.1) (λx=>4 - x.1) (0,a) aD aA ⟨aAh _,by cases a;rfl⟩ ?_;rintro⟨i,y⟩ G ⟨hi,hy⟩;dsimp only at hi hy⊢;by_cases h4:i<4
 ·obtain⟨y0,y1,y2,y3⟩:=y;dsimp only[V4.cs];by_cases h0:i=0
  case pos =>
   subst h0;repeat first|refine v_ ?_|intro
   refine C.bL 9 (l_ [0,1,2,3,4,5,6,7,8] (g_ 9 .nil)) _ q_ q_ aB.refl ?_;repeat first|refine v_ ?_|intro
   refine⟨(0+1,jn a b (0+1)),aD,?_,⟨by dsimp only;omega,rfl⟩,by dsimp only;omega⟩;obtain⟨rfl,rfl,rfl,rfl⟩:=V4.mk.inj hy;exact aA
  by_cases h1:i=1
  case pos =>
   subst h1;repeat first|refine v_ ?_|intro
   refine C.bL 9 (l_ [0,1,2,3,4,5,6,7,8] (g_ 9 .nil)) _ q_ q_ aB.refl ?_;repeat first|refine v_ ?_|intro
   refine⟨(1+1,jn a b (1+1)),aD,?_,⟨by dsimp only;omega,rfl⟩,by dsimp only;omega⟩;obtain⟨rfl,rfl,rfl,rfl⟩:=V4.mk.inj hy;exact aA
  by_cases h2:i=2
  case pos =>
   subst h2;repeat first|refine v_ ?_|intro
   refine C.bL 9 (l_ [0,1,2,3,4,5,6,7,8] (g_ 9 .nil)) _ q_ q_ aB.refl ?_;repeat first|refine v_ ?_|intro
   refine⟨(2+1,jn a b (2+1)),aD,?_,⟨by dsimp only;omega,rfl⟩,by dsimp only;omega⟩;obtain⟨rfl,rfl,rfl,rfl⟩:=V4.mk.inj hy;exact aA
  by_cases h3:i=3
  case pos =>
   subst h3;repeat first|refine v_ ?_|intro
   refine C.bL 9 (l_ [0,1,2,3,4,5,6,7,8] (g_ 9 .nil)) _ q_ q_ aB.refl ?_;repeat first|refine v_ ?_|intro
   refine⟨(3+1,jn a b (3+1)),aD,?_,⟨by dsimp only;omega,rfl⟩,by dsimp only;omega⟩;obtain⟨rfl,rfl,rfl,rfl⟩:=V4.mk.inj hy;exact aA
  omega
 ·obtain rfl:i=4:=o_;subst hy;rw[show jn a b 4=aGy a b from rfl];repeat first|refine v_ ?_|intro
  exact Kz
instance {a b:V4}:vZ 163 [.agg a.cs.toArray,.agg b.cs.toArray] (.agg (aGy a b).cs.toArray):=⟨λE=>aHz E a b⟩
theorem aJn(k:Int)(v:V4)(f0:Bh)(hr:Rd E eB f0.A f0.m f0.c f0.b.aH)(hb:f0.b.fit)(Z:Option Addr)(n c:Nat)(l:List aX)(hl:Rd E bE Z n c l)(hok:∀c∈l,c.ok)(hn:n≤1000000)(hk:0≤k∧k≤1000000):G E 101 [.agg (P3 k v f0).toArray,.slice Z n c] []
  λe H'=>∃y:Bh,y.b=(gH f0.b l).1∧e=.returned (.agg (P3 (k+n) (aGy v (L0 l)) y).toArray)∧H'=[iR y]:=by
 have las:=λM hr hl=>Pg M f0 hr hb Z n c l hl hok hn;have voo:=λM hl=>RJ M Z n c l hl;have hcap:=hl.cap;have hmax:=fX;dsimp only[P3,Bh.cs,Bk.cs,V4.cs,G,List.cons_append,List.nil_append] at las voo⊢;refine t_ func101 ntmps101 ?_;repeat first|refine v_ ?_|intro
 rename_i g2 g4;refine C.bL 15 (l_ [0,1,2,3,4,5,6,7,10,11,12] (g_ 8 (g_ 9 (g_ 13 (n_ 14 (g_ 15 .nil)))))) _ q_ q_ aB.refl ?_;repeat first|refine v_ ?_|intro
 refine Ib voo ?_;repeat first|refine v_ ?_|intro
 refine OW las ?_;rintro e H' ⟨y,h1,rfl,rfl⟩;repeat first|refine v_ ?_|intro
 exact cI rfl aF rfl rfl rfl aS rfl aA (⟨y,h1,rfl,rfl⟩)
theorem aJt(A:Option Addr)(n c:Nat)(l:List aX)(hr:Rd E bE A n c l)(hok:∀x∈l,x.ok)(hn:n≤1000)(k:Nat)(hk:k≤n):G E 38 [.slice A n c,.int .i64 k] []
  λe H'=>∃(y:Bh) (B:Option Addr) (d:Nat),y.b=(gH sY (l.take k)).1∧e=.returned (.tuple #[.agg (P3 k (aGy FR (L0 (l.take k))) y).toArray,.slice B (n - k) d])∧H'=[iR y,own bE B (n - k) d (l.drop k)]:=by
 have hcap:=hr.cap;have hlen:=hr.len;have hmax:=fX;have h1:=hr.upto (k:=k) (m:=c) o_ o_ (aAf _);have h2:=hr.from_ (k:=k) o_;have mor:=λM hl=>aJn M 0 FR ⟨sY,none,0,0⟩ (Rd.nil _ _) pS A k c (l.take k) hl (λx hx=>hok x (aBs hx)) o_ o_;rw[show(0:Int)+(k:Int)=(k:Int) by omega] at mor;have hcl:dF k 0 n=k:=by unfold dF;split;omega;split;omega;rfl
 dsimp only[P3,Bh.cs,Bk.cs,V4.cs,G,List.cons_append,List.nil_append] at mor⊢;refine t_ func38 ntmps38 ?_;repeat first|refine v_ ?_|refine Dr.two ?_ ?_|intro
 rw[hcl];repeat first|refine v_ ?_|refine Dr.two ?_ ?_|intro
 rename_i g4;refine C.bL 10 (l_ [0,1,2,3,6,7,8] (.two 4 (g_ 5 (g_ 9 (g_ 10 (g_ 11 .nil)))) 5 (g_ 4 (g_ 9 (g_ 10 (g_ 11 .nil)))))) _ q_ q_ aB.refl ?_;repeat first|refine v_ ?_|intro
 refine Dr.two ?_ ?_
 ·refine yB rfl sD bA sK aC (λM hE=>mor M (h1.sub hE)) ?_;rintro e H' ⟨y,hy,rfl,rfl⟩;repeat first|refine v_ ?_|refine Dr.two ?_ ?_|intro
  exact gS rfl aF rfl rfl rfl aS rfl aF aA (⟨y,_,_,hy,rfl,rfl⟩)
 ·repeat first|refine v_ ?_|refine Dr.two ?_ ?_|intro
  refine cg rfl sD bA sK aC (λM hE=>mor M (h1.sub hE)) ?_;rintro e H' ⟨y,hy,rfl,rfl⟩;repeat first|refine v_ ?_|refine Dr.two ?_ ?_|intro
  exact gS rfl aF rfl rfl rfl aS rfl aF aA (⟨y,_,_,hy,rfl,rfl⟩)
theorem aJo(k:Int)(v:V4)(f0:Bh)(hr:Rd E eB f0.A f0.m f0.c f0.b.aH)(hb:f0.b.fit)(Z:Option Addr)(n c:Nat)(l:List aX)(hl:Rd E bE Z n c l)(hok:∀c∈l,c.ok)(hn:n≤1000000):G E 39 [.agg (P3 k v f0).toArray,.slice Z n c] [] (Zr f0.b l):=by
 have run:=λM hr hl=>BM M f0 hr hb Z n c l hl hok hn;dsimp only[P3,Bh.cs,Bk.cs,V4.cs,G,List.cons_append,List.nil_append] at run⊢;refine t_ func39 ntmps39 ?_;repeat first|refine v_ ?_|intro
 refine C1 run ?_;rintro e H' ⟨y,O,k1,os,h1,h2,rfl,rfl⟩;refine gk bG ?_;dsimp only[Bh.cs,Bk.cs,iR];repeat first|refine v_ ?_|intro
 exact gS rfl aF rfl rfl rfl aS rfl aF aA (⟨y,O,k1,os,h1,h2,rfl,rfl⟩)
theorem aIy(A:Option Addr)(n c:Nat)(l:List aX)(hr:Rd E bE A n c l)(B:Option Addr)(m d:Nat)(k:List aX)(hs:Rd E bE B m d k)(hp:l <+: k):G E 37 [.slice A n c,.slice B m d] [] (cM (.bool true) []):=by
 have hn:=hr.len;have hcap:=hr.cap;have hm:=hs.len;have hcap2:=hs.cap;have hle:=hp.length_le;have hmax:=fX;have h1:=hs.upto (k:=n) (m:=d) o_ o_ (aAf _);have e:l=k.take n:=by rw[hn];exact List.prefix_iff_eq_take.1 hp
 have lI:=λM hr hs=>plC M A n c B n d l (k.take n) hr hs;rw[decide_eq_true e] at lI;refine t_ func37 ntmps37 ?_;repeat first|refine v_ ?_|intro
 refine cl sD sK aC (λM hE=>lI M (hr.sub hE) (h1.sub hE)) ?_;rintro e H' ⟨rfl,rfl⟩;repeat first|refine v_ ?_|intro
 exact B7
end
end Go.Proofs.YtmilalkjbojciaaGreat.Sep
