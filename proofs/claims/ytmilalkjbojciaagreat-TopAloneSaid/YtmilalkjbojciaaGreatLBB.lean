/- Part BB: what it needs. No condition. -/
import Derived.Test.YtmilalkjbojciaaGreatLBA
set_option maxRecDepth 100000
set_option maxHeartbeats 8000000
open Go.Proofs.Tryz
namespace Go.Proofs.YtmilalkjbojciaaGreat.Sep
open Go.RowKit Reg
open Mem hiding Rd
section
variable (E:Env) (A:Option Addr) (n c:Nat)
theorem aPr(b:Bk)(hr:Rd E eB A n c b.aH)(o:dD)(st:Int)(hm:n<=1000):G E 198 [.agg (b.cs A n c).toArray,.agg o.cs.toArray,.int .i64 st] [] λe H'=>∃y:Bh,y.b=lK b ⟨o.id,o.cC,o.item,o.iN,o.cost,st⟩/\e=.returned (.agg y.cs.toArray)/\H'=[iR y]:=by
 have put:=λM hr=>aOi M b A n c hr ⟨o.id,o.cC,o.item,o.iN,o.cost,st⟩ hm;generalize lK b ⟨o.id,o.cC,o.item,o.iN,o.cost,st⟩=b2 at *;refine t_ func198 ntmps198 ?_;repeat first|refine v_ ?_|intro
 refine dX put ?_;rintro e H' ⟨B,d,hd,rfl,rfl⟩;repeat first|refine v_ ?_|intro
 exact cI rfl aF rfl rfl rfl aS rfl aA (⟨⟨b2,B,b2.aH.length,d⟩,rfl,rfl,rfl⟩)
theorem aOn(b:Bk)(hb:b.fit)(x:aX)(hx:(4<=x.kind/\x.kind<=8)/\(x.kind=4->1<=x.n/\x.n<=1000))(o:dD)(ho:vL b x.ref=some o)(b':Bk)(h:aKa b x o=some b')(hr:Rd E eB A n c b.aH):G E 137 [.agg (b.cs A n c).toArray,.agg x.cs.toArray] [] (aQa A n c b b'):=by
 have hn:=hr.len;have hcap:=hr.cap;have hmax:=fX;have hlen:=hb.len;have hp:0<=fA b x.ref:=by
  by_cases h0:0<=fA b x.ref
  ·exact h0
  ·rw[Pq b o_] at ho;cases ho
 obtain⟨o2,f1,f2,_⟩:=OB b hp;rw[ho] at f1;obtain rfl:=aDk f1;have hof:=hb.C7 o (aAi f2);obtain⟨k,hk⟩:=aCf hp;rw[hk,aAu] at f2;have fnd:=λM hr=>aKw M b A n c hr x.ref;rw[hk] at fnd;have put:=λM (b:Bk) hr o st=>aPr M A n c b hr o st o_;obtain⟨⟨ir,is⟩,tm,kd,a,bb,nn,⟨rr,rs⟩⟩:=x;obtain⟨⟨jr,js⟩,bu,it,qt,co,st⟩:=o;obtain⟨_,o1,o2,o3,o4⟩:=hof;dsimp only at hx o1 o2 o3 o4;obtain⟨m,rfl⟩:=aCf o2.1;obtain⟨m2,rfl⟩:=aCf o1.1;have b1:=O8.B6 hb.ok.1 (m:Int);have b2:=O8.B6 hb.ok.2.1 (m:Int);have b3:=O8.B6 hb.ok.2.2 (m2:Int);have hpr:0<=qt*b.mO.get m/\qt*b.mO.get m<=1000*1073741824:=⟨Int.mul_nonneg o3.1 b2.1,Int.mul_le_mul o3.2 b2.2 b2.1 sD⟩
 have hwr:IntKind.i64.wrap (qt*b.mO.get m)=qt*b.mO.get m:=aAq _ o_;unfold aKa at h;dsimp only[aX.cs,bJ.cs,dD.cs] at h fnd⊢;refine t_ func137 ntmps137 ?_;repeat first|refine v_ ?_|refine Dr.two ?_ ?_|intro
 rename_i g2 g3 g4;refine C.BI (X:=Nat) (λg6=>[(2,pt g2),(3,pt g3),(4,pt g4),(5,.slice none 0 0),(6,pt g6)]) (λg6=>[aJ g6 155 [.int .i64 jr,.int .i64 js,.int .i64 m2,.int .i64 m,.int .i64 qt,.int .i64 co,.int .i64 st],aJ g4 45 (sY.cs none 0 0),aJ g3 34 [.int .i64 ir,.int .i64 is,.int .i64 tm,.int .i64 kd,.int .i64 a,.int .i64 bb,.int .i64 nn,.int .i64 rr,.int .i64 rs],aJ g2 45 (b.cs A n c)]) (λ_=>True) ?_ ?_
 ·refine rB (l_ [0,1,2,3,4] (.two 5 (l_ [6,7] (g_ 8 (g_ 9 .nil))) 8 (g_ 5 (l_ [6,7] (g_ 9 .nil))))) ([aJ g3 34 _,aJ g2 45 _]) ?_;repeat first|refine v_ ?_|intro
  refine Dr.two ?_ ?_
  ·refine yB rfl sD bA sK aC (λM hE=>fnd M (hr.sub hE)) ?_;rintro e H' ⟨rfl,rfl⟩;repeat first|refine v_ ?_|refine Dr.two ?_ ?_|intro
   exact⟨_,aD,aA,trivial⟩
  ·repeat first|refine v_ ?_|intro
   refine Ib fnd ?_;repeat first|refine v_ ?_|refine Dr.two ?_ ?_|intro
   exact⟨_,aD,aA,trivial⟩
 intro g6 F2 _;have c1:=Bk.cell (b:=b) (A:=A) (n:=n) (c:=c) (m:=m) o_;have c3:=Bk.cell (b:=b) (A:=A) (n:=n) (c:=c) (m:=m2) o_;obtain⟨s1,s2,_⟩:=c1;obtain⟨_,_,s3⟩:=c3;dsimp only[Bk.cs] at s1 s2 s3⊢;rcases(show kd=4\/kd=5\/kd=6\/kd=7\/kd=8 by omega) with rfl|rfl|rfl|rfl|rfl
 ·rw[if_pos rfl] at h;obtain⟨⟨h1,h2,h3⟩,rfl⟩:=aKc h;have hn1:=hx.2 rfl;have e1:=(Bk.aMs (b:=b) (A:=A) (n:=n) (c:=c) (m:=m) o_ (b.fP.get m+qt - nn)).1;have SM:=λM hr=>put M ⟨b.fP.set m (b.fP.get m+qt - nn),b.mO,b.eO,b.aH⟩ hr ⟨⟨jr,js⟩,m2,m,nn,co,st⟩ 1;dsimp only[dD.cs,Bk.cs] at e1 SM;generalize b.fP.get (m:Int)=y at *;repeat first|refine v_ ?_|refine Dr.two ?_ ?_|intro
  rename_i g7;refine C.bL 15 (l_ [0,1,2,3,4,5,6,7,8,9,10,11,12,13,14] (g_ 15 .nil)) _ q_ q_ aB.refl ?_;repeat first|refine v_ ?_|refine Dr.two ?_ ?_|intro
  rw[e1];repeat first|refine v_ ?_|refine Dr.two ?_ ?_|intro
  refine rB (l_ [0,1,3,4,5,6,7] (g_ 2 (g_ 8 (.two 9 (g_ 10 (n_ 11 .nil)) 10 (g_ 9 (n_ 11 .nil)))))) ([aJ g7 32 _,aJ g6 155 _,aJ g3 34 _,aJ g2 45 _]) ?_;repeat first|refine v_ ?_|refine Dr.two ?_ ?_|intro
  refine C2 SM ?_;rintro e H' ⟨y,hy,rfl,rfl⟩;repeat first|refine v_ ?_|refine Dr.two ?_ ?_|intro
  all_goals
   repeat first|refine v_ ?_|refine Dr.two ?_ ?_|intro
   exact gS rfl aF rfl rfl rfl aS rfl aF aA (⟨y,_,_,_,hy,rfl,.inr rfl⟩)
 ·rw[if_neg sD,if_pos rfl] at h;obtain⟨⟨h1,h2,h3⟩,rfl⟩:=aKc h;have e1:=(Bk.aMs (b:=b) (A:=A) (n:=n) (c:=c) (m:=m) o_ (b.fP.get m+qt)).1;by_cases hs:st=2
  ·rw[if_pos hs];have h4:=h3 hs;have s4:=(Bk.cell (b:=⟨b.fP.set m (b.fP.get m+qt),b.mO,b.eO,b.aH⟩) (A:=A) (n:=n) (c:=c) (m:=m2) o_).2.2;have e2:=(Bk.aMs (b:=⟨b.fP.set m (b.fP.get m+qt),b.mO,b.eO,b.aH⟩) (A:=A) (n:=n) (c:=c) (m:=m2) o_ (b.eO.get m2+co)).2.2;have SM:=λM hr=>put M ⟨b.fP.set m (b.fP.get m+qt),b.mO,b.eO.set m2 (b.eO.get m2+co),b.aH⟩ hr ⟨⟨jr,js⟩,m2,m,qt,co,st⟩ 4;dsimp only[dD.cs,Bk.cs] at e1 e2 s4 SM;generalize b.fP.get (m:Int)=y at *;generalize b.eO.get (m2:Int)=z at *;repeat first|refine v_ ?_|refine Dr.two ?_ ?_|intro
   rename_i g7 g8;refine C.bL 12 (l_ [0,1,2,3,4,5,6,7,8,9,10,11] (g_ 12 .nil)) _ q_ q_ aB.refl ?_;repeat first|refine v_ ?_|refine Dr.two ?_ ?_|intro
   rw[e1];repeat first|refine v_ ?_|refine Dr.two ?_ ?_|intro
   refine C.bL 12 (l_ [0,1,2,3,4,5,6,7,8,9,10,11] (g_ 12 .nil)) _ q_ q_ aB.refl ?_;repeat first|refine v_ ?_|refine Dr.two ?_ ?_|intro
   rw[e2];repeat first|refine v_ ?_|refine Dr.two ?_ ?_|intro
   refine rB (l_ [0,1,3,4,5,6] (g_ 2 (g_ 7 (g_ 8 (g_ 9 (g_ 10 (n_ 11 .nil))))))) ([aJ g7 32 _,aJ g6 155 _,aJ g3 34 _,aJ g2 45 _]) ?_;repeat first|refine v_ ?_|refine Dr.two ?_ ?_|intro
   refine C2 SM ?_;rintro e H' ⟨y,hy,rfl,rfl⟩;repeat first|refine v_ ?_|refine Dr.two ?_ ?_|intro
   exact gS rfl aF rfl rfl rfl aS rfl aF aA (⟨y,_,_,_,hy,rfl,.inr rfl⟩)
  ·rw[if_neg hs];have SM:=λM hr=>put M ⟨b.fP.set m (b.fP.get m+qt),b.mO,b.eO,b.aH⟩ hr ⟨⟨jr,js⟩,m2,m,qt,co,st⟩ 4;dsimp only[dD.cs,Bk.cs] at e1 SM;generalize b.fP.get (m:Int)=y at *;repeat first|refine v_ ?_|refine Dr.two ?_ ?_|intro
   rename_i g7 g8;refine C.bL 12 (l_ [0,1,2,3,4,5,6,7,8,9,10,11] (g_ 12 .nil)) _ q_ q_ aB.refl ?_;repeat first|refine v_ ?_|refine Dr.two ?_ ?_|intro
   rw[e1];repeat first|refine v_ ?_|refine Dr.two ?_ ?_|intro
   refine rB (l_ [0,1,3,4,5,6] (g_ 2 (g_ 7 (g_ 8 (g_ 9 (g_ 10 (n_ 11 .nil))))))) ([aJ g7 32 _,aJ g6 155 _,aJ g3 34 _,aJ g2 45 _]) ?_;repeat first|refine v_ ?_|refine Dr.two ?_ ?_|intro
   refine C2 SM ?_;rintro e H' ⟨y,hy,rfl,rfl⟩;repeat first|refine v_ ?_|refine Dr.two ?_ ?_|intro
   exact gS rfl aF rfl rfl rfl aS rfl aF aA (⟨y,_,_,_,hy,rfl,.inr rfl⟩)
 ·rw[if_neg sD,if_neg sD,if_pos rfl] at h;obtain⟨⟨h1,h2,h3⟩,rfl⟩:=aKc h;have e1:=(Bk.aMs (b:=b) (A:=A) (n:=n) (c:=c) (m:=m2) o_ (b.eO.get m2 - qt*b.mO.get m)).2.2;have SM:=λM hr=>put M ⟨b.fP,b.mO,b.eO.set m2 (b.eO.get m2 - qt*b.mO.get m),b.aH⟩ hr ⟨⟨jr,js⟩,m2,m,qt,qt*b.mO.get m,st⟩ 2;dsimp only[dD.cs,Bk.cs] at e1 SM;generalize b.mO.get (m:Int)=w at *;generalize b.eO.get (m2:Int)=z at *;repeat first|refine v_ ?_|refine Dr.two ?_ ?_|intro
  rename_i g7;refine C.bL 9 (l_ [0,1,2,3,4,5,6,7,8] (g_ 9 .nil)) _ q_ q_ aB.refl ?_;repeat first|refine v_ ?_|refine Dr.two ?_ ?_|intro
  refine C.bL 12 (l_ [0,1,2,3,4,5,6,7,8,9,10,11] (g_ 12 .nil)) _ q_ q_ aB.refl ?_;repeat first|refine v_ ?_|refine Dr.two ?_ ?_|intro
  rw[e1];repeat first|refine v_ ?_|refine Dr.two ?_ ?_|intro
  refine rB (l_ [0,1,3,4,5,6,7,9,10,11,12,13] (g_ 2 (g_ 8 (g_ 14 (.two 15 (g_ 16 (n_ 17 .nil)) 16 (g_ 15 (n_ 17 .nil))))))) ([aJ g7 32 _,aJ g6 155 _,aJ g3 34 _,aJ g2 45 _]) ?_;repeat first|refine v_ ?_|refine Dr.two ?_ ?_|intro
  refine C2 SM ?_;rintro e H' ⟨y,hy,rfl,rfl⟩;repeat first|refine v_ ?_|refine Dr.two ?_ ?_|intro
  all_goals
   repeat first|refine v_ ?_|refine Dr.two ?_ ?_|intro
   exact gS rfl aF rfl rfl rfl aS rfl aF aA (⟨y,_,_,_,hy,rfl,.inr rfl⟩)
 ·rw[if_neg sD,if_neg sD,if_neg sD,if_pos rfl] at h;obtain⟨h1,rfl⟩:=aKc h;have SM:=λM hr=>put M b hr ⟨⟨jr,js⟩,m2,m,qt,co,st⟩ 3;dsimp only[dD.cs,Bk.cs] at SM;repeat first|refine v_ ?_|refine Dr.two ?_ ?_|intro
  rename_i g7;refine rB (l_ [0,1,3,4,5,6,7,9,10,11,12,13,15,16,17,18,19,21,22,23] (g_ 2 (g_ 8 (g_ 14 (g_ 20 (g_ 24 (.two 25 (g_ 26 (n_ 27 .nil)) 26 (g_ 25 (n_ 27 .nil))))))))) ([aJ g7 32 _,aJ g6 155 _,aJ g3 34 _,aJ g2 45 _]) ?_;repeat first|refine v_ ?_|refine Dr.two ?_ ?_|intro
  refine C2 SM ?_;rintro e H' ⟨y,hy,rfl,rfl⟩;repeat first|refine v_ ?_|refine Dr.two ?_ ?_|intro
  all_goals
   repeat first|refine v_ ?_|refine Dr.two ?_ ?_|intro
   first
    |refine zL.Aw rfl aQc bA (S.pP (T:=eG) (l:=[⟨5,m,qt,⟨jr,js⟩⟩,⟨6,m,qt,⟨jr,js⟩⟩,⟨11,m,qt,⟨jr,js⟩⟩,⟨7,m2,3,⟨jr,js⟩⟩]) rfl rfl rfl rfl (show 4*eG.size<=2 ^ 24 by decide)) ?_
    |refine Dr.Aw rfl aQc bA (S.pP (T:=eG) (l:=[⟨5,m,qt,⟨jr,js⟩⟩,⟨6,m,qt,⟨jr,js⟩⟩,⟨11,m,qt,⟨jr,js⟩⟩,⟨7,m2,3,⟨jr,js⟩⟩]) rfl rfl rfl rfl (show 4*eG.size<=2 ^ 24 by decide)) ?_
   rintro _ _ ⟨_,rfl,rfl⟩;refine⟨aA,?_⟩;repeat first|refine v_ ?_|refine Dr.two ?_ ?_|intro
   exact gS rfl aF rfl rfl rfl aS rfl aF aA (⟨y,_,_,_,hy,rfl,.inr rfl⟩)
 ·rw[if_neg sD,if_neg sD,if_neg sD,if_neg sD,if_pos rfl] at h;obtain⟨⟨h1,h2⟩,rfl⟩:=aKc h;have e1:=(Bk.aMs (b:=b) (A:=A) (n:=n) (c:=c) (m:=m2) o_ (b.eO.get m2+co)).2.2;have SM:=λM hr=>put M ⟨b.fP,b.mO,b.eO.set m2 (b.eO.get m2+co),b.aH⟩ hr ⟨⟨jr,js⟩,m2,m,qt,co,st⟩ 5;dsimp only[dD.cs,Bk.cs] at e1 SM;generalize b.eO.get (m2:Int)=z at *;repeat first|refine v_ ?_|refine Dr.two ?_ ?_|intro
  rename_i g7;refine C.bL 12 (l_ [0,1,2,3,4,5,6,7,8,9,10,11] (g_ 12 .nil)) _ q_ q_ aB.refl ?_;repeat first|refine v_ ?_|refine Dr.two ?_ ?_|intro
  rw[e1];repeat first|refine v_ ?_|refine Dr.two ?_ ?_|intro
  refine rB (l_ [0,1,3,4,5,6,7] (g_ 2 (g_ 8 (.two 9 (g_ 10 (n_ 11 .nil)) 10 (g_ 9 (n_ 11 .nil)))))) ([aJ g7 32 _,aJ g6 155 _,aJ g3 34 _,aJ g2 45 _]) ?_;repeat first|refine v_ ?_|refine Dr.two ?_ ?_|intro
  refine C2 SM ?_;rintro e H' ⟨y,hy,rfl,rfl⟩;repeat first|refine v_ ?_|refine Dr.two ?_ ?_|intro
  all_goals
   repeat first|refine v_ ?_|refine Dr.two ?_ ?_|intro
   exact gS rfl aF rfl rfl rfl aS rfl aF aA (⟨y,_,_,_,hy,rfl,.inr rfl⟩)
end
end Go.Proofs.YtmilalkjbojciaaGreat.Sep
