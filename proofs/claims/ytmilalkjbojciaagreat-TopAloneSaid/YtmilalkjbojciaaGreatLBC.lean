/- Part BC: what it needs. No condition. -/
import Derived.Test.YtmilalkjbojciaaGreatLBB
import Derived.Test.YtmilalkjbojciaaGreatLAO
set_option maxRecDepth 100000
set_option maxHeartbeats 8000000
open Go.Proofs.Tryz
namespace Go.Proofs.YtmilalkjbojciaaGreat.Sep
open Go.RowKit Reg
open Mem hiding Rd
section
variable {P:Program} {N:Nat} {E:Env} {F:Nat->Value} {H Hk:List aL} {Q:QF} {l:List Oper} {z i j k:Nat} {s t u:Td}
def aOt(l:List Oper)(z i:Nat)(s:Td)(j:Nat)(t:Td)(k:Nat)(u:Td):Array Bool->List Nat->Bool
 |listed,[]=>(Region.ready .any l.toArray listed == [i,j,k]&&Nat.beq s.len t.len&&Nat.beq s.len u.len)&&(sO l z (listed.setIfInBounds i true) s&&(sO l z (listed.setIfInBounds j true) t&&sO l z (listed.setIfInBounds k true) u))
 |listed,p::ps=>(Region.free .any l.toArray listed p&&(Region.ready .any l.toArray listed).contains p&&late l z p && !Nat.beq p z)&&aOt l z i s j t k u (listed.setIfInBounds p true) ps
def aNg(s:Td):List Nat->Nat
 | []=>s.len+1
 |_::ps=>aNg s ps+1
structure D3(P:Program)(N:Nat)(E:Env)(z:Nat)(l:List Oper)(Q:QF)(Hk:List aL)(i:Nat)(s:Td)(j:Nat)(t:Td)(k:Nat)(u:Td)(ps:List Nat)(F:Nat->Value)(H:List aL):Prop where
 get:∀listed a w,kX l listed->Region.noSelect l.toArray=true->aOt l z i s j t k u listed ps=true->qX E N F a->St E H w->St E Hk w->Rp P l (lift N E Q) (St E Hk) z (aNg s ps) listed a w
theorem C.aOx{id:Nat}(z:Nat)(ps:List Nat)(i:Nat)(s:Td)(j:Nat)(t:Td)(k:Nat)(u:Td)(Hk:List aL)(hm:P.follows .mixedOrders=true)(hchk:(Region.noSelect l.toArray&&Nat.beq (aNg s ps) l.length&&aOt l z i s j t k u (Array.replicate l.length false) ps)=true)(hk:aB E H Hk)(h:D3 P N E z l Q Hk i s j t k u ps F H):C P N E (.region id l.toArray true) Q F H:=by
 simp only[aAv] at hchk;obtain⟨⟨h1,h2⟩,h3⟩:=hchk;have h2:=aCz h2;refine⟨λa w ha hw=>?_⟩;have:=h.get _ a w.drew (kX.start l) h1 h3 ha hw.drew (hk _ hw.drew);rw[h2] at this;exact wp_region_any hm (BB _ _ _ _ (by simpa using this))
theorem D3.take{p:Nat}{ps:List Nat}{d:Nat}{op:Op}{ty:TypeId}{pos:String}{af:Array Edge}{gd:Option (Nat×Bool)}{v:Value}(hi:nth l p=some ⟨some d,op,ty,pos,af,gd⟩)(hd:d<N)(hg:rE l N F true gd)
  (hy:qB P E Hk (ev F) ⟨some d,op,ty,pos,af,gd⟩ v) (h:D3 P N E z l Q Hk i s j t k u ps (pT F d v) H):D3 P N E z l Q Hk i s j t k u (p::ps) F H:=by
 refine⟨λlisted a w hcl hs hc ha hu hk=>?_⟩;simp only[aOt,aAv] at hc;refine LD ((eX l p).symm.trans hi) (aQw hs) (λc a w h=>wT h) hc.1.1.2 (LQ hc.1.2) _ _ _ _ hcl (Region.free_spec ((eX l p).symm.trans hi) hc.1.1.1.1) (by simpa using hc.1.1.1.2) (.inl ⟨hg.wanted (o:=⟨some d,op,ty,pos,af,gd⟩) ha,λu hu=>by rw[ha.eval];exact hy u hu⟩) hk ?_;exact h.get _ _ w (hcl.set (by simpa using hc.1.1.1.2)) hs hc.2 (ha.put hd v) hu hk
theorem D3.three(h1:zL P N E z l Q Hk i s F H)(h2:zL P N E z l Q Hk j t F H)(h3:zL P N E z l Q Hk k u F H):D3 P N E z l Q Hk i s j t k u [] F H:=by
 refine⟨λlisted a w hcl hs hc ha hu hk=>?_⟩;simp only[aOt,aAv,beq_iff_eq] at hc;obtain⟨⟨⟨hr,l1⟩,l2⟩,c1,c2,c3⟩:=hc;have l1:=aCz l1;have l2:=aCz l2;refine⟨λh0=>absurd (hr▸h0) (by simp),?_⟩;rw[hr];intro m hm;rcases aEj.1 hm with rfl|hm
 ·exact h1.get _ a w (hcl.set (by rw[hr];simp)) hs c1 ha hu hk
 rcases aEj.1 hm with rfl|hm
 ·have:=h2.get _ a w (hcl.set (by rw[hr];simp)) hs c2 ha hu hk;rw[<-l1] at this;exact this
 ·obtain rfl:m=k:=by simpa using hm
  have:=h3.get _ a w (hcl.set (by rw[hr];simp)) hs c3 ha hu hk;rw[<-l2] at this;exact this
end
section
variable (E:Env) (A:Option Addr) (n c:Nat)
def DoQ(b b':Bk):Ending->List aL->Prop:=λe H'=>∃(y:Bh) (o:Ov),y.b=b'/\e=.returned (.tuple #[.agg y.cs.toArray,.agg o.cs.toArray])/\((y.A=A/\y.m=n/\y.c=c/\b'.aH=b.aH/\H'=[])\/H'=[iR y])
theorem aQh(b:Bk)(hb:b.fit)(x:aX)(hr:Rd E eB A n c b.aH):G E 68 [.agg (b.cs A n c).toArray,.agg x.cs.toArray] [] (DoQ A n c b (C0 b x).1):=by
 have cod:=λM hr=>aPi M A n c b hb x hr;rw[aPj hb];cases h:d16 b x with
 |none =>
  rw[h] at cod;refine t_ func68 ntmps68 ?_;repeat first|refine v_ ?_|intro
  refine dX cod ?_;rintro e H' ⟨k,rfl,hk,rfl⟩;have hk0:k≠0:=λq=>by cases hk.1 q
  repeat first|refine v_ ?_|intro
  exact TU rfl aF aF rfl rfl rfl aS rfl rfl rfl rfl aS rfl aA ⟨⟨b,A,n,c⟩,⟨k,none,0,0,[]⟩,rfl,rfl,.inl ⟨rfl,rfl,rfl,rfl,rfl⟩⟩
 |some b' =>
  rw[h] at cod;dsimp only[Option.getD];by_cases h4:4<=x.kind/\x.kind<=8
  ·have⟨o,ho,hx,hab⟩:∃o,vL b x.ref=some o/\((4<=x.kind/\x.kind<=8)/\(x.kind=4->1<=x.n/\x.n<=1000))/\aKa b x o=some b':=by
    unfold d16 at h;rw[if_neg o_,if_neg o_,if_neg o_,if_neg o_] at h;by_cases hq:(4<=x.kind/\x.kind<=8)/\(x.kind=4->1<=x.n/\x.n<=1000)
    ·rw[if_pos hq] at h;cases ho:vL b x.ref with
     |none=>rw[ho] at h;cases h
     |some o=>rw[ho] at h;exact⟨o,rfl,hq,h⟩
    ·rw[if_neg hq] at h;cases h
   have ord:=λM hr=>aOn M A n c b hb x hx o ho b' hab hr;obtain⟨id,tm,kd,a,bb,nn,rf⟩:=x;dsimp only at h4;refine t_ func68 ntmps68 ?_;repeat first|refine v_ ?_|intro
   refine dX cod ?_;rintro e H' ⟨k,rfl,hk,rfl⟩;obtain rfl:k=0:=hk.2 rfl;repeat first|refine v_ ?_|intro
   refine dX ord ?_;rintro e H' ⟨y,X,m,q,hy,rfl,hH⟩;rcases hH with⟨y1,y2,y3,y4,rfl⟩|rfl
   ·repeat first|refine v_ ?_|intro
    exact TU rfl aF aF rfl rfl rfl aS rfl rfl rfl rfl aS rfl aA ⟨y,⟨0,X,m,q,[]⟩,hy,rfl,.inl ⟨y1,y2,y3,y4,rfl⟩⟩
   ·repeat first|refine v_ ?_|intro
    exact TU rfl aF aF rfl rfl rfl aS rfl rfl rfl rfl aS rfl aA ⟨y,⟨0,X,m,q,[]⟩,hy,rfl,.inr rfl⟩
  ·have sim:=λM hr=>aOa M A n c b hb x h4 b' h hr;obtain⟨⟨ir,is⟩,tm,kd,a,bb,nn,⟨rr,rs⟩⟩:=x;dsimp only at h4;dsimp only[aX.cs,bJ.cs] at cod sim⊢;refine t_ func68 ntmps68 ?_;repeat first|refine v_ ?_|intro
   refine dX cod ?_;rintro e H' ⟨k,rfl,hk,rfl⟩;obtain rfl:k=0:=hk.2 rfl;refine gk bG ?_;rcases(show kd<4\/(4<=kd/\8<kd) by omega) with h5|h5
   all_goals
    repeat first|refine v_ ?_|intro
    refine dX sim ?_;rintro e H' ⟨y,X,m,q,hy,rfl,hH⟩;rcases hH with⟨y1,y2,y3,y4,rfl⟩|rfl
    ·repeat first|refine v_ ?_|intro
     exact TU rfl aF aF rfl rfl rfl aS rfl rfl rfl rfl aS rfl aA ⟨y,⟨0,X,m,q,[]⟩,hy,rfl,.inl ⟨y1,y2,y3,y4,rfl⟩⟩
    ·repeat first|refine v_ ?_|intro
     exact TU rfl aF aF rfl rfl rfl aS rfl rfl rfl rfl aS rfl aA ⟨y,⟨0,X,m,q,[]⟩,hy,rfl,.inr rfl⟩
end
section
variable (E:Env) (A:Option Addr) (n c:Nat)
theorem aNy(y:Bh)(hb:y.b.fit)(x:aX):G E 68 [.agg y.cs.toArray,.agg x.cs.toArray] [iR y] λe H'=>∃(z:Bh) (o:Ov),z.b=(C0 y.b x).1/\e=.returned (.tuple #[.agg z.cs.toArray,.agg o.cs.toArray])/\H'=[iR z]:=by
 refine aK.post (aK.dU (Hp:=[]) λM hE=>aQh M y.A y.m y.c y.b hb x (Sub.own hE Has.aN)) ?_;rintro e H' ⟨H1,⟨z,o,hz,rfl,hH⟩,rfl⟩;rcases hH with⟨y1,y2,y3,y4,rfl⟩|rfl
 ·refine⟨[iR z],?_,z,o,hz,rfl,rfl⟩;have e:iR z=iR y:=by show own eB z.A z.m z.c z.b.aH=_;rw[y1,y2,y3,hz,y4]
  rw[e];exact aB.refl
 ·refine⟨[iR z],?_,z,o,hz,rfl,rfl⟩;show aB E [iR z,iR y] [iR z];exact aA
theorem aPw(l:List aX)(hr:Rd E bE A n c l)(hok:∀c∈l,c.ok)(hm:n<=1000):G E 12 [.agg (sY.cs none 0 0).toArray,.slice A n c] [] λe H'=>∃(y:Bh) (O:Option Addr) (m k:Nat),y.b=(gH sY l).1/\e=.returned (.tuple #[.agg y.cs.toArray,.slice O m k])/\H'=[iR y]:=by
 have hn:=hr.len;have hcap:=hr.cap;have hmax:=fX;have dol:=λM y hb x=>aNy M y hb x;refine t_ func12 ntmps12 ?_;repeat first|refine v_ ?_|refine Dr.two ?_ ?_|intro
 rename_i g2 g4;refine C.scan (Y:=Bh×Option Addr×Nat×List Ov) hn (λi z=>[(1,.slice A n c),(2,pt g2),(4,pt g4),(5,.slice none 0 0),(6,.slice z.2.1 z.2.2.2.length z.2.2.1),(7,.int .i64 i)]) (λi z=>[aJ g2 45 z.1.cs,aJ g4 45 (sY.cs none 0 0),iR z.1,own rM z.2.1 z.2.2.2.length z.2.2.1 z.2.2.2])
  (λi z=>z.1.b=(gH sY (l.take i)).1/\z.2.2.2.length=i) (⟨sY,none,0,0⟩,none,0,[]) aD (by show aB E _ [aJ g2 45 (sY.cs none 0 0),aJ g4 45 (sY.cs none 0 0),own eB none 0 0 [],own rM none 0 0 []];exact aB.trans (aB.nil eB) (aB.trans (aB.nil rM) aA)) ⟨rfl,rfl⟩ ?_ ?_
 ·rintro i ⟨y,O,k,os⟩ x F hi hx ⟨h1,h2⟩;dsimp only at h1 h2⊢;have hfit:y.b.fit:=by rw[h1];exact(mG pS λc hc=>hok c (aBs hc)).1
  have hst:(C0 y.b x).1=(gH sY (l.take (i+1))).1:=by rw[take_succ hx,pO,<-h1];rfl
  have law:=λM=>dol M y hfit x;rw[hst] at law;repeat first|refine v_ ?_|refine Dr.two ?_ ?_|intro
  refine C.BI (X:=Bh×Ov×Nat×Nat) (λz=>[(1,.slice A n c),(2,pt g2),(4,pt g4),(5,.slice none 0 0),(6,.slice O os.length k),(7,.int .i64 i),(8,pt z.2.2.1),(9,pt z.2.2.2)]) (λz=>[aJ z.2.2.1 45 z.1.cs,aJ z.2.2.2 141 z.2.1.cs,iR z.1,aJ g2 45 y.cs,aJ g4 45 (sY.cs none 0 0),own rM O os.length k os]) (λz=>z.1.b=(gH sY (l.take (i+1))).1) ?_ ?_
  ·refine C.aOx 100000 [0,1,2,3,4] 5 (l_ [6,7,8] (.two 9 (g_ 10 (g_ 11 (g_ 12 .nil))) 10 (g_ 9 (g_ 11 (g_ 12 .nil))))) 9 (.two 5 (l_ [6,7,8] (g_ 10 (g_ 11 (g_ 12 .nil)))) 10 (g_ 5 (l_ [6,7,8] (g_ 11 (g_ 12 .nil))))) 10 (.two 5 (l_ [6,7,8] (g_ 9 (g_ 11 (g_ 12 .nil)))) 9 (g_ 5 (l_ [6,7,8] (g_ 11 (g_ 12 .nil))))) [aJ g2 45 _] q_ q_ aA ?_;repeat refine D3.take rfl sD bA Cw ?_
   refine D3.three ?_ ?_ ?_
   ·refine yB rfl sD bA sK aC (λM hE=>law M) ?_;rintro e H' ⟨z,o,hz,rfl,rfl⟩;repeat first|refine v_ ?_|refine Dr.two ?_ ?_|intro
    all_goals
     repeat first|refine v_ ?_|refine Dr.two ?_ ?_|intro
     exact⟨(z,o,_,_),aD,aA,hz⟩
   ·repeat first|refine v_ ?_|refine Dr.two ?_ ?_|intro
    ·refine yB rfl sD bA sK aC (λM hE=>law M) ?_;rintro e H' ⟨z,o,hz,rfl,rfl⟩;repeat first|refine v_ ?_|refine Dr.two ?_ ?_|intro
     exact⟨(z,o,_,_),aD,aA,hz⟩
    ·repeat first|refine v_ ?_|refine Dr.two ?_ ?_|intro
     refine iO law ?_;rintro e H' ⟨z,o,hz,rfl,rfl⟩;repeat first|refine v_ ?_|refine Dr.two ?_ ?_|intro
     exact⟨(z,o,_,_),aD,aA,hz⟩
   ·repeat first|refine v_ ?_|refine Dr.two ?_ ?_|intro
    ·refine yB rfl sD bA sK aC (λM hE=>law M) ?_;rintro e H' ⟨z,o,hz,rfl,rfl⟩;repeat first|refine v_ ?_|refine Dr.two ?_ ?_|intro
     exact⟨(z,o,_,_),aD,aA,hz⟩
    ·repeat first|refine v_ ?_|refine Dr.two ?_ ?_|intro
     refine iO law ?_;rintro e H' ⟨z,o,hz,rfl,rfl⟩;repeat first|refine v_ ?_|refine Dr.two ?_ ?_|intro
     exact⟨(z,o,_,_),aD,aA,hz⟩
  ·rintro⟨z,o,g8,g9⟩ F2 hz;dsimp only at hz⊢;repeat first|refine v_ ?_|refine Dr.two ?_ ?_|intro
   rename_i B2 d2 hc1 hc2;refine⟨(z,B2,d2,os++[o]),?_⟩;dsimp only;rw[aAe,aDa];exact⟨aD,aA,hz,by rw[h2]⟩
 ·rintro⟨y,O,k,os⟩ F ⟨h1,h2⟩;dsimp only at h1 h2⊢;rw[hn,aAo] at h1;repeat first|refine v_ ?_|refine Dr.two ?_ ?_|intro
  exact gS rfl aF rfl rfl rfl aS rfl aF aA (⟨y,O,os.length,k,h1,rfl,rfl⟩)
end
end Go.Proofs.YtmilalkjbojciaaGreat.Sep
