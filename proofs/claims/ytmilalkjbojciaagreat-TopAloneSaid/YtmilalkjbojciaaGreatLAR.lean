/- Part AR: what it needs. No condition. -/
import Derived.Test.YtmilalkjbojciaaGreatLAA
import Derived.Test.YtmilalkjbojciaaGreatLAP
import Derived.Test.YtmilalkjbojciaaGreatLAQ
set_option maxRecDepth 100000
set_option maxHeartbeats 8000000
open Go.Proofs.Tryz
namespace Go.Proofs.YtmilalkjbojciaaGreat.Sep
section
open Go.RowKit Reg Oct
open Mem hiding Rd
section
variable (E:Env) (P:List Ov) (g:Nat) (cf:fU) (n:Nd) (k:Int)
theorem PY(hu:n.up=true):G E 69 [pt g] [bZ P g cf n k] (cM (.bool true) [bZ P g cf n k]):=by rw[←hu];exact TI E P g cf n k
theorem QP(A:Option Addr)(m c:Nat)(l:List Rc)(hr:Rd E jE A m c (l.map Rc.r))(hl:∀x∈l,x.ok)(hm:m≤100000):G E 116 [pt g,.slice A m c] [bZ P g cf n k,aI P] λe H'=>∃Q,e=.returned (.tuple #[.int .i64 (n.take l).2.1,.int .i64 (n.take l).2.2])∧H'=[bZ (P++Q) g cf (n.take l).1 k,aI (P++Q)]:=by
 have hmax:=fX;have hml:m=l.length:=by have:=hr.len;rwa [aAw] at this
 unfold Nd.take;by_cases hu:n.up=true
 ·rw[if_pos hu];have hup:=λM=>PY M P g cf n k hu;refine t_ func116 ntmps116 ?_;repeat first|refine v_ ?_|intro
  refine bK hup ?_;repeat first|refine v_ ?_|intro
  refine C.scan (Y:=Nd×List Ov) (l:=l.map Rc.r) hr.len (λi y=>[(0,pt g),(1,.slice A m c),(12,.slice A m c),(13,.int .i64 m),(14,.int .i64 i)])
   (λi y=>[bZ (P++y.2) g cf y.1 k,aI (P++y.2)]) (λi y=>y.1.up=true∧n.AQ l 0=y.1.AQ (l.drop i) i) (n,[]) aD (by dsimp only;rw[aAc];exact aA) ⟨hu,by rw[aCh]⟩ ?_ ?_
  ·rintro i ⟨n1,Q⟩ xr F hi hxr ⟨hu1,ht⟩;dsimp only at hu1 ht⊢;obtain⟨x,hx,rfl⟩:∃x,l[i]?=some x∧x.r=xr:=by
    rw[aBf] at hxr;cases h:l[i]? with
    |none=>rw[h] at hxr;cases hxr
    |some x=>rw[h] at hxr;exact⟨x,rfl,aDk hxr⟩
   have law:=λM=>Jf M (P++Q) g cf n1 k hu1 x (hl x (aAi hx));have hlt:=(aAd.1 hx).1;have e1:l.drop i=x::l.drop (i+1):=by rw[aAm hlt,(aAd.1 hx).2]
   have hup2:=qU n1 x;rw[ht,e1,Nd.AQ];generalize n1.write x=w at *;obtain⟨n2,e2⟩:=w;dsimp only at law hup2⊢;repeat first|refine v_ ?_|intro
   refine bW law ?_;rintro e H' ⟨Q2,rfl,rfl⟩;refine gk bG ?_;by_cases he:e2=0
   ·subst he;rw[if_pos rfl];repeat first|refine v_ ?_|intro
    exact⟨(n2,Q++Q2),aD,(by dsimp only;rw[←aAb];exact aA),by rw[hup2];exact hu1,rfl⟩
   ·rw[if_neg he];repeat first|refine v_ ?_|intro
    exact vT (H':=[bZ (P++(Q++Q2)) g cf n2 k,aI (P++(Q++Q2))]) rfl aF aF (by rw[←aAb];exact aA) ⟨Q++Q2,rfl,rfl⟩
  ·rintro⟨n1,Q⟩ F ⟨hu1,ht⟩;dsimp only at hu1 ht⊢;rw[aCn o_,Nd.AQ] at ht;rw[ht];have hmm:m≤maxLen:=o_;repeat first|refine v_ ?_|intro
   exact Cz ⟨Q,rfl,rfl⟩
 ·rw[if_neg hu];have hup:=λM=>TI M P g cf n k;rw[show n.up=false by simpa using hu] at hup;refine t_ func116 ntmps116 ?_;repeat first|refine v_ ?_|intro
  refine bK hup ?_;repeat first|refine v_ ?_|intro
  exact vT (H':=[bZ (P++[]) g cf n k,aI (P++[])]) rfl aF aF (by rw[aAc];exact aA) ⟨[],rfl,rfl⟩
end
def Nd.tries(n:Nd)(now:Int):List dK→List dK→Nd×List dK×Int
 | [],acc=>(n,acc,0)
 |q::l,acc=>if (n.write (.DG q.key now)).2=0 then Nd.tries (n.write (.DG q.key now)).1 now l (acc++[q]) else((n.write (.DG q.key now)).1,acc,(n.write (.DG q.key now)).2)
def Nd.qD(n:Nd)(cf:fU)(now:Int):Nd×List dK×Int :=
 if n.up then
  (if (n.tries now (n.s.ready cf now) []).1.sync.2=0 then((n.tries now (n.s.ready cf now) []).1.sync.1,(n.tries now (n.s.ready cf now) []).2) else((n.tries now (n.s.ready cf now) []).1.sync.1,[],(n.tries now (n.s.ready cf now) []).1.sync.2))
 else(n,[],19)
theorem D8(s:Sv)(cf:fU)(now:Int):(s.ready cf now).length≤s.ps.length:=K4 (λi s=>by unfold fL;split<;>simp) _ _
section
variable (E:Env) (P:List Ov) (g:Nat) (cf:fU) (n:Nd) (k:Int)
theorem YJ(now:Int)(hnow:dQ now)(hk:k≤10000000000000):G E 118 [pt g,.int .i64 now] [bZ P g cf n k,aI P] λe H'=>∃Q A m c,m=(n.qD cf now).2.1.length∧(m≤c∧c≤maxLen)∧e=.returned (.tuple #[.slice A m c,.int .i64 (n.qD cf now).2.2])∧H'=[own cP A m c (n.qD cf now).2.1,bZ (P++Q) g cf (n.qD cf now).1 (k+2048),aI (P++Q)]:=by
 have hmax:=fX;unfold Nd.qD;by_cases hu:n.up=true
 ·rw[if_pos hu];refine oG (λy ho _=>?_) (λy ho hd=>by rw[hu] at hd;cases hd);have hnp:=(ho.gd hu).1.np;have hrl:=D8 n.s cf now;have rdy:=λM=>Vv M P y.gs n.s cf now;generalize n.s.ready cf now=rs at *;dsimp only[fV,List.cons_append,List.nil_append,fU.cs] at rdy⊢;refine t_ func118 ntmps118 ?_;repeat first|refine v_ ?_|intro
  refine eV (λM=>qL M g cf n.r y.gm y.gd) ?_;repeat ((fail_if_success (refine C.seq (x:=Code.region 5 _ _) ?_));first|refine Cx ?_|refine k_ ?_|intro _|refine Dr.two ?_ ?_)
  refine C.BI (X:=Nd×List dK×Int×List Ov×Option Addr×Nat) (λz=>[(0,pt g),(6,.slice z.2.2.2.2.1 z.2.1.length z.2.2.2.2.2),(7,.int .i64 z.2.2.1)]) (λz=>[own cP z.2.2.2.2.1 z.2.1.length z.2.2.2.2.2 z.2.1,bZ (P++z.2.2.2.1) g cf z.1 k,aI (P++z.2.2.2.1)]) (λz=>n.tries now rs []=(z.1,z.2.1,z.2.2.1)∧z.1.up=true∧z.2.1.length≤z.2.2.2.2.2∧z.2.2.2.2.2≤maxLen) ?_ ?_
  ·repeat first|refine v_ ?_|intro
   refine rB (l_ [0,1,2,3,4,5,6,7,8,9,10,11,14] (g_ 12 (n_ 13 .nil))) ([aJ g 181 (ET cf n.r (pt y.gm) y.gd),aJ y.gm 191 [pt y.gl,pt y.gs]]) ?_;repeat first|refine v_ ?_|intro
   refine iO rdy ?_;rintro e H' ⟨O,oc,rfl,rfl⟩;refine gd bG aA ?_;have hrm:rs.length≤maxLen:=o_;repeat first|refine v_ ?_|intro
   refine C.conv (aB.trans (aB.aV (l:=fV P g cf n k y++[aI P,own cP O rs.length oc rs]) aC) (aB.cF (cA.append (bZ.up ho hu) cA.refl))) ?_;dsimp only[List.cons_append,List.nil_append];refine C.scan (Y:=Nd×List dK×List Ov×Option Addr×Nat) (l:=rs) rfl (λi z=>[(0,pt g),(1,.int .i64 now),(6,.slice z.2.2.2.1 z.2.1.length z.2.2.2.2),(7,.int .i64 0),(26,.slice O rs.length oc),(27,.int .i64 rs.length),(28,.int .i64 i)])
    (λi z=>[own cP z.2.2.2.1 z.2.1.length z.2.2.2.2 z.2.1,bZ (P++z.2.2.1) g cf z.1 k,aI (P++z.2.2.1),own cP O rs.length oc rs]) (λi z=>z.1.up=true∧n.tries now rs []=z.1.tries now (rs.drop i) z.2.1∧z.2.1.length=i∧z.2.1.length≤z.2.2.2.2∧z.2.2.2.2≤maxLen) (n,[],[],none,0) aD (by dsimp only;rw[aAc];exact aB.trans (aB.nil cP) aA) ⟨hu,by rw[aCh],rfl,aAf _,aAh _⟩ ?_ ?_
   ·rintro i ⟨n1,acc,Q,B,d⟩ q F hi hq ⟨hu1,ht,hai,h1,h2⟩;dsimp only at hu1 ht hai h1 h2⊢;have law:=λM=>Jf M (P++Q) g cf n1 k hu1 (.DG q.key now) hnow;have hlt:=(aAd.1 hq).1;have e1:rs.drop i=q::rs.drop (i+1):=by rw[aAm hlt,(aAd.1 hq).2]
    have hup2:=qU n1 (.DG q.key now);rw[e1,Nd.tries] at ht;generalize n1.write (.DG q.key now)=w at *;obtain⟨n2,e2⟩:=w;dsimp only at law hup2 ht⊢;repeat first|refine v_ ?_|intro
    refine bK (λM=>Tk M q.key now) ?_;repeat first|refine v_ ?_|intro
    refine bW law ?_;rintro e H' ⟨Q2,rfl,rfl⟩;refine gk bG ?_;by_cases he:e2=0
    ·subst he;rw[if_pos rfl] at ht;repeat first|refine v_ ?_|intro
     rename_i B2 d2 h3 h4;have hl1:(acc++[q]).length=acc.length+1:=by simp
     exact⟨(n2,acc++[q],Q++Q2,B2,d2),(by dsimp only;rw[hl1];exact aD),(by dsimp only;rw[hl1,←aAb];exact aA),by rw[hup2];exact hu1,ht,by dsimp only;omega,by dsimp only;omega,h4⟩
    ·rw[if_neg he] at ht;repeat first|refine v_ ?_|intro
     exact⟨(n2,acc,e2,Q++Q2,B,d),aD,(by dsimp only;rw[←aAb];exact aA),ht,by rw[hup2];exact hu1,h1,h2⟩
   ·rintro⟨n1,acc,Q,B,d⟩ F ⟨hu1,ht,hai,h1,h2⟩;dsimp only at hu1 ht hai h1 h2⊢;rw[aCy,Nd.tries] at ht;repeat first|refine v_ ?_|intro
    exact⟨(n1,acc,0,Q,B,d),aD,aA,ht,hu1,h1,h2⟩
  ·rintro⟨n1,acc,sh,Q,B,d⟩ F ⟨ht,hu1,h1,h2⟩;dsimp only at ht hu1 h1 h2⊢;rw[ht];dsimp only;have syn:=λM=>KU M (P++Q) g cf n1 k hk;generalize n1.sync=w at *;obtain⟨n2,e2⟩:=w;dsimp only at syn⊢;repeat first|refine v_ ?_|intro
   refine bK syn ?_;by_cases he:e2=0
   ·subst he;rw[if_pos rfl];repeat first|refine v_ ?_|intro
    exact Cz ⟨Q,B,acc.length,d,rfl,⟨h1,h2⟩,rfl,rfl⟩
   ·rw[if_neg he];repeat first|refine v_ ?_|intro
    exact vT rfl aF aF (aB.trans (aB.nil cP) (aB.aV (l:=[own cP none 0 0 [],bZ (P++Q) g cf n2 (k+2048),aI (P++Q)]) aC)) ⟨Q,none,0,0,rfl,⟨aAf _,aAh _⟩,rfl,rfl⟩
 ·rw[if_neg hu];have hup:=λM=>TI M P g cf n k;rw[show n.up=false by simpa using hu] at hup;refine t_ func118 ntmps118 ?_;repeat first|refine v_ ?_|intro
  refine bK hup ?_;repeat first|refine v_ ?_|intro
  exact vT (H':=[own cP none 0 0 [],bZ (P++[]) g cf n (k+2048),aI (P++[])]) rfl aF aF (aB.trans (aB.nil cP) (aB.trans (aB.aV (l:=[own cP none 0 0 [],bZ P g cf n k,aI P]) aC) (aB.cF (cA.cons cA.refl (cA.cons (bZ.mono o_) (by rw[aAc];exact cA.refl)))))) ⟨[],none,0,0,rfl,⟨aAf _,aAh _⟩,rfl,rfl⟩
end
theorem Dr.Zh{P:Program}{N:Nat}{E:Env}{z:Nat}{Q:QF}{F:Nat→Value}{H:List aL}{todo:Td}{l:List Oper}{Hk:List aL}{d:Option Nat}{op:Op}{ty:TypeId}{pos:String}{af:Array Edge}{gd:Option (Nat×Bool)}(hi:nth l z=some ⟨d,op,ty,pos,af,gd⟩)(hd:∀k,d=some k→k<N)(hg:rE l N F true gd)
  (h:gK P N E F H ⟨d,op,ty,pos,af,gd⟩ λv H'=>FU P N E z l Q todo (DJ F d v) H'):Dr P N E z l Q Hk (.one z true todo) F H:=Dr.Iq hi hd hg h λ_ _ hk=>hk
theorem o6{N z:Nat}{E:Env}{F:Nat→Value}{H R Hp:List aL}{Q:QF}{f:FuncId}{ops:List Operand}{tys:Array TypeId}{d:Nat}{ty:TypeId}{pos:String}{af:Array Edge}{Q1:Ending→List aL→Prop}{os:List Oper}{todo:Td}{Hk:List aL}{gd:Option (Nat×Bool)}(hi:nth os z=some ⟨some d,.call { callee:=.value (.func f),args:=ops.toArray,argTypes:=tys },ty,pos,af,gd⟩)(hd:d<N)(hg:rE os N F true gd)(hk:xA f=true)(hp:cS Hp H R)
  (law:∀M,Sub E R M→aK prog M f (AO F ops).toArray Hp Q1) (hQ:∀e H',Q1 e H'→∃v,e=.returned v∧∃H2,wK H' R H2∧FU prog N E z os Q todo (pT F d v) H2):Dr prog N E z os Q Hk (.one z true todo) F H:=by
 obtain⟨fn,h1,h2,h3⟩:=iY hk;exact Dr.Zh hi (by rintro k ⟨⟩;exact hd) hg (S.call rfl rfl h1 h2 h3 hp law hQ)
section
variable (E:Env) (P:List Ov) (g:Nat) (cf:fU) (n:Nd) (k:Int)
theorem Wt(hk:k≤10000000000000):G E 130 [pt g] [bZ P g cf n k] (cM (.int .i64 n.pack.2) [bZ P g cf n.pack.1 (k+4128)]):=by
 have hmax:=fX;refine oG (λy ho hu=>?_) (λy ho hu=>?_)
 ·rw[aAc];have hok:=ho.pack;have put:=λM=>SV M P y.gs n.s;have swp:=λM A m c hr=>Wq M y.gl y.gd n.ls k hk A m c n.At hr;have himg:n.At=[5]++fJ n.s:=rfl;rw[himg] at swp;unfold Nd.pack at hok⊢;rw[if_pos hu] at hok⊢;have hswe:(n.ls.swap n.At).1≠0→(n.ls.swap n.At).1≠19→(n.ls.swap n.At).2=n.ls:=λh0 h1=>by
   unfold LS.swap at h0 h1⊢;by_cases c1:n.At.length=0
   ·rw[if_pos c1]
   rw[if_neg c1] at h0 h1⊢;by_cases c2:4096<n.At.length
   ·rw[if_pos c2]
   rw[if_neg c2] at h0 h1⊢;by_cases c3:32*n.ls.N<n.At.length+7
   ·rw[if_pos c3]
   rw[if_neg c3] at h0 h1⊢;by_cases c4:n.ls.dead=true
   ·rw[if_pos c4]
   rw[if_neg c4] at h0 h1⊢;by_cases c5:iT n.ls.aG 0 (32*n.ls.N)=true
   ·rw[if_pos c5] at h1;exact absurd rfl h1
   rw[if_neg c5] at h0 h1⊢;by_cases c6:iT (rT n.ls) 0 (n.At.length+7)=true
   ·rw[if_pos c6] at h1;exact absurd rfl h1
   rw[if_neg c6] at h0 h1⊢;by_cases c7:jD (yA n.ls n.At)=true
   ·rw[if_pos c7] at h1;exact absurd rfl h1
   rw[if_neg c7] at h0;exact absurd rfl h0
  rw[himg] at hok hswe⊢;generalize n.ls.swap ([5]++fJ n.s)=res at *;obtain⟨cd,z2⟩:=res;dsimp only at hok swp hswe⊢;generalize fJ n.s=ib at *;by_cases h0:cd=0
  ·subst h0;rw[if_pos rfl] at hok⊢;dsimp only[fV];refine t_ func130 ntmps130 ?_;repeat first|refine v_ ?_|refine Dr.two ?_ ?_|intro
   refine eV (λM=>qL M g cf n.r y.gm y.gd) ?_;repeat first|refine v_ ?_|refine Dr.two ?_ ?_|intro
   refine rB (l_ [0,1,2,3,4,5,6,7,9,10,11,12,13,14,15] (.two 8 (g_ 16 (g_ 17 (g_ 18 (g_ 19 (n_ 20 .nil))))) 16 (g_ 8 (g_ 17 (g_ 18 (g_ 19 (n_ 20 .nil))))))) ([aJ g 181 (ET cf n.r (pt y.gm) y.gd),aJ y.gm 191 [pt y.gl,pt y.gs]]) ?_;repeat first|refine v_ ?_|intro
   refine Dr.two ?_ ?_;rotate_left
   ·refine yB rfl sD bA sK aC (λM hE=>put M) ?_;rintro e H' ⟨A,m,c,⟨h1,h2,h3⟩,rfl,rfl⟩;repeat first|refine v_ ?_|refine Dr.two ?_ ?_|intro
    rw[show UInt8.ofNat (Int.toNat 5)=5 from rfl];refine Ib (λM=>swp M _ (1+m) _) ?_;repeat first|refine v_ ?_|refine Dr.two ?_ ?_|intro
    refine eJ (λM=>tZ M g 0 (by decide)) ?_;repeat first|refine v_ ?_|refine Dr.two ?_ ?_|intro
    exact aR rfl aF (aB.trans (aB.aV (l:=fV P g cf ⟨n.r,z2,true,⟨some n.s,[]⟩,n.s⟩ (k+4128) y) aC) (aB.cF (bZ.up hok rfl))) ⟨rfl,rfl⟩
   ·repeat first|refine v_ ?_|intro
    refine iO put ?_;rintro e H' ⟨A,m,c,⟨h1,h2,h3⟩,rfl,rfl⟩;repeat first|refine v_ ?_|refine Dr.two ?_ ?_|intro
    rw[show UInt8.ofNat (Int.toNat 5)=5 from rfl];refine Ib (λM=>swp M _ (1+m) _) ?_;repeat first|refine v_ ?_|refine Dr.two ?_ ?_|intro
    refine eJ (λM=>tZ M g 0 (by decide)) ?_;repeat first|refine v_ ?_|refine Dr.two ?_ ?_|intro
    exact aR rfl aF (aB.trans (aB.aV (l:=fV P g cf ⟨n.r,z2,true,⟨some n.s,[]⟩,n.s⟩ (k+4128) y) aC) (aB.cF (bZ.up hok rfl))) ⟨rfl,rfl⟩
  ·rw[if_neg h0] at hok⊢;by_cases h19:cd=19
   ·subst h19;rw[if_pos rfl] at hok⊢;have dd:=λM=>Gk M P g cf ⟨n.r,z2,false,n.lc,n.s⟩ (k+4128) y;dsimp only[fV];refine t_ func130 ntmps130 ?_;repeat first|refine v_ ?_|refine Dr.two ?_ ?_|intro
    refine eV (λM=>qL M g cf n.r y.gm y.gd) ?_;repeat first|refine v_ ?_|refine Dr.two ?_ ?_|intro
    refine C.bL 19 (l_ [0,1,2,3,4,5,6,7,9,10,11,12,13,14,15] (.two 8 (g_ 16 (g_ 17 (g_ 18 (g_ 19 (g_ 20 .nil))))) 16 (g_ 8 (g_ 17 (g_ 18 (g_ 19 (g_ 20 .nil))))))) ([aJ g 181 (ET cf n.r (pt y.gm) y.gd),aJ y.gm 191 [pt y.gl,pt y.gs]]) q_ q_ aA ?_;repeat first|refine v_ ?_|intro
    refine Dr.two ?_ ?_;rotate_left
    ·refine yB rfl sD bA sK aC (λM hE=>put M) ?_;rintro e H' ⟨A,m,c,⟨h1,h2,h3⟩,rfl,rfl⟩;repeat first|refine v_ ?_|refine Dr.two ?_ ?_|intro
     rw[show UInt8.ofNat (Int.toNat 5)=5 from rfl];refine Ib (λM=>swp M _ (1+m) _) ?_;repeat first|refine v_ ?_|refine Dr.two ?_ ?_|intro
     refine o6 rfl sD bA sK aC (λM hE=>dd M) ?_;rintro e H' ⟨rfl,rfl⟩;repeat first|refine v_ ?_|refine Dr.two ?_ ?_|intro
     exact aR rfl aF (aB.trans (aB.aV (l:=oT g cf ⟨n.r,z2,false,n.lc,n.s⟩ (k+4128) y) aC) (aB.cF (bZ.dn hok rfl))) ⟨rfl,rfl⟩
    ·repeat first|refine v_ ?_|intro
     refine iO put ?_;rintro e H' ⟨A,m,c,⟨h1,h2,h3⟩,rfl,rfl⟩;repeat first|refine v_ ?_|refine Dr.two ?_ ?_|intro
     rw[show UInt8.ofNat (Int.toNat 5)=5 from rfl];refine Ib (λM=>swp M _ (1+m) _) ?_;repeat first|refine v_ ?_|refine Dr.two ?_ ?_|intro
     refine o6 rfl sD bA sK aC (λM hE=>dd M) ?_;rintro e H' ⟨rfl,rfl⟩;repeat first|refine v_ ?_|refine Dr.two ?_ ?_|intro
     exact aR rfl aF (aB.trans (aB.aV (l:=oT g cf ⟨n.r,z2,false,n.lc,n.s⟩ (k+4128) y) aC) (aB.cF (bZ.dn hok rfl))) ⟨rfl,rfl⟩
   ·rw[if_neg h19] at hok⊢;have hz:=hswe h0 h19;subst hz;dsimp only[fV];refine t_ func130 ntmps130 ?_;repeat first|refine v_ ?_|refine Dr.two ?_ ?_|intro
    refine eV (λM=>qL M g cf n.r y.gm y.gd) ?_;repeat first|refine v_ ?_|refine Dr.two ?_ ?_|intro
    refine rB (l_ [0,1,2,3,4,5,6,7,9,10,11,12,13,14,15] (.two 8 (g_ 16 (g_ 17 (g_ 18 (g_ 19 (n_ 20 .nil))))) 16 (g_ 8 (g_ 17 (g_ 18 (g_ 19 (n_ 20 .nil))))))) ([aJ g 181 (ET cf n.r (pt y.gm) y.gd),aJ y.gm 191 [pt y.gl,pt y.gs]]) ?_;repeat first|refine v_ ?_|intro
    refine Dr.two ?_ ?_;rotate_left
    ·refine yB rfl sD bA sK aC (λM hE=>put M) ?_;rintro e H' ⟨A,m,c,⟨h1,h2,h3⟩,rfl,rfl⟩;repeat first|refine v_ ?_|refine Dr.two ?_ ?_|intro
     rw[show UInt8.ofNat (Int.toNat 5)=5 from rfl];refine Ib (λM=>swp M _ (1+m) _) ?_;repeat first|refine v_ ?_|refine Dr.two ?_ ?_|intro
     refine eJ (λM=>tZ M g cd h19) ?_;repeat first|refine v_ ?_|refine Dr.two ?_ ?_|intro
     exact aR rfl aF (aB.trans (aB.aV (l:=fV P g cf n (k+4128) y) aC) (aB.cF (bZ.up ho hu))) ⟨rfl,rfl⟩
    ·repeat first|refine v_ ?_|intro
     refine iO put ?_;rintro e H' ⟨A,m,c,⟨h1,h2,h3⟩,rfl,rfl⟩;repeat first|refine v_ ?_|refine Dr.two ?_ ?_|intro
     rw[show UInt8.ofNat (Int.toNat 5)=5 from rfl];refine Ib (λM=>swp M _ (1+m) _) ?_;repeat first|refine v_ ?_|refine Dr.two ?_ ?_|intro
     refine eJ (λM=>tZ M g cd h19) ?_;repeat first|refine v_ ?_|refine Dr.two ?_ ?_|intro
     exact aR rfl aF (aB.trans (aB.aV (l:=fV P g cf n (k+4128) y) aC) (aB.cF (bZ.up ho hu))) ⟨rfl,rfl⟩
 ·rw[aAc];unfold Nd.pack;rw[if_neg (by rw[hu];decide)];refine t_ func130 ntmps130 ?_;repeat first|refine v_ ?_|refine Dr.two ?_ ?_|intro
  refine eV (λM=>Ae M g cf n.r y.gd) ?_;repeat first|refine v_ ?_|refine Dr.two ?_ ?_|intro
  exact aR rfl aF (aB.trans (aB.aV (l:=oT g cf n k y) aC) (aB.cF ((cA.cons cA.refl (kJ.mono o_)).trans (bZ.dn ho hu)))) ⟨rfl,rfl⟩
end
end
section
def klt(a b:bP):Prop:=a.id.seq<b.id.seq∨a.id.seq=b.id.seq∧(a.id.rep<b.id.rep∨a.id.rep=b.id.rep∧(a.ord<b.ord∨a.ord=b.ord∧a.cD=false∧b.cD=true))
theorem aNc(a b:bJ):(sQ a b<0∧(a.seq<b.seq∨a.seq=b.seq∧a.rep<b.rep))∨(sQ a b=0∧a.seq=b.seq∧a.rep=b.rep)∨(0<sQ a b∧(b.seq<a.seq∨a.seq=b.seq∧b.rep<a.rep)):=by
 have hid:sQ a b=if sX a.seq b.seq=0 then(if sX a.rep b.rep=0 then 0 else sX a.rep b.rep) else sX a.seq b.seq:=rfl
 rw[hid];rcases wQ a.seq b.seq with⟨h,e⟩|⟨h,e⟩|⟨h,e⟩
 ·rw[e,if_neg sD];exact .inl ⟨by decide,.inl h⟩
 ·rw[e,if_pos rfl];rcases wQ a.rep b.rep with⟨h2,e2⟩|⟨h2,e2⟩|⟨h2,e2⟩
  ·rw[e2,if_neg sD];exact .inl ⟨by decide,.inr ⟨h,h2⟩⟩
  ·rw[e2,if_pos rfl];exact .inr (.inl ⟨rfl,h,h2⟩)
  ·rw[e2,if_neg sD];exact .inr (.inr ⟨by decide,.inr ⟨h,h2⟩⟩)
 ·rw[e,if_neg sD];exact .inr (.inr ⟨by decide,.inl h⟩)
theorem aMx(a b:bP):uZ a b=true↔klt a b:=by
 have h:IQ a b=if sQ a.id b.id=0 then sX a.ord b.ord else sQ a.id b.id:=by
  unfold IQ DC DC DC;by_cases h1:sQ a.id b.id=0
  ·rw[if_pos h1,if_pos h1];split<;>simp[*]
  ·rw[if_neg h1,if_neg h1]
 unfold uZ klt;rcases aNc a.id b.id with⟨h1,h2⟩|⟨h1,h2,h3⟩|⟨h1,h2⟩
 ·rw[if_neg o_] at h;rw[h,if_pos o_,decide_eq_true_eq];constructor
  ·intro _;rcases h2 with h2|⟨h2,h3⟩
   ·exact .inl h2
   ·exact .inr ⟨h2,.inl h3⟩
  ·exact λ_=>h1
 ·rw[if_pos h1] at h;rcases wQ a.ord b.ord with⟨h4,e⟩|⟨h4,e⟩|⟨h4,e⟩<;>rw[e] at h<;>rw[h]
  ·simp[h2,h3,h4]
  ·simp[h2,h3,h4]
  ·simp[h2,h3];omega
 ·rw[if_neg o_] at h;rw[h,if_pos o_,decide_eq_true_eq];constructor
  ·intro _;omega
  ·intro h5;omega
theorem aKx(x y:dK):LK x y<0↔klt x.key y.key:=by
 rw[←aMx];unfold LK;cases uZ x.key y.key
 ·cases uZ y.key x.key<;>simp
 ·simp
def kle(x y:dK):Prop:=¬klt y.key x.key
theorem aNq{a b:bP}:klt a b∨a=b∨klt b a:=by
 obtain⟨⟨r,s⟩,o,u⟩:=a;obtain⟨⟨r',s'⟩,o',u'⟩:=b;unfold klt;dsimp only;by_cases h:s=s'
 ·by_cases h2:r=r'
  ·by_cases h3:o=o'
   ·subst h h2 h3;cases u<;>cases u'<;>simp
   ·omega
  ·omega
 ·omega
theorem aMg{a b c:bP}(h:klt a b)(k:klt b c):klt a c:=by
 unfold klt at *;rcases h with h|⟨h,h|⟨h',h|⟨h'',h3,h4⟩⟩⟩<;>rcases k with k|⟨k,k|⟨k',k|⟨k'',k3,k4⟩⟩⟩<;>first|(left;omega)|(right;refine⟨by omega,?_⟩;first|(left;omega)|(right;refine⟨by omega,?_⟩;first|(left;omega)|(right;exact⟨by omega,h3,k4⟩)))
theorem aNp{a:bP}:¬klt a a:=by
 unfold klt;rintro(h|⟨_,h|⟨_,h|⟨_,h,k⟩⟩⟩)
 ·omega
 ·omega
 ·omega
 ·rw[h] at k;cases k
theorem aOh(x:dK):kle x x:=aNp
theorem aMl{x y:dK}(h:klt x.key y.key):kle x y:=λk=>aNp (aMg h k)
theorem aJw{x y z:dK}(h:kle x y)(k:kle y z):kle x z:=by
 intro hz;rcases aNq (a:=x.key) (b:=y.key) with a|a|a
 ·exact k (aMg hz a)
 ·rw[a] at hz;exact k hz
 ·exact h a
theorem aOg{x y:dK}(h:kle x y)(k:kle y x):x.key=y.key:=by
 rcases aNq (a:=x.key) (b:=y.key) with a|a|a
 ·exact absurd a k
 ·exact a
 ·exact absurd a h
abbrev aJx(l:List dK):Prop:=l.Pairwise kle
theorem aNb{l m:List dK}(hp:l.Perm m)(hl:aJx l)(hm:aJx m)(hk:(l.map dK.key).Nodup):l=m:=by
 refine hp.eq_of_pairwise (λa b ha hb h k=>?_) hl hm;have hb:b∈l:=hp.mem_iff.2 hb;have he:=aOg h k;have key:∀ {l:List dK},(l.map dK.key).Nodup→a∈l→b∈l→a=b:=by
  intro l
  induction l with
  |nil=>exact λ_ h=>(aAk h).elim
  |cons x l ih =>
   intro hn ha hb;rw[aCi,aQy] at hn;rcases aEj.1 ha with rfl|ha'<;>rcases aEj.1 hb with rfl|hb'
   ·rfl
   ·exact absurd (aFn.2 ⟨b,hb',he.symm⟩) hn.1
   ·exact absurd (aFn.2 ⟨a,ha',he⟩) hn.1
   ·exact ih hn.2 ha' hb'
 exact key hk ha hb
end
section
open Go.RowKit Reg Oct
open Mem hiding Rd
theorem aOo{α:Type}(P R:List α)(x:α){i:Nat}(h:i=P.length):(P++x::R)[i]?=some x:=by subst h;simp
theorem aNw{α:Type}(P R:List α)(x y:α){i:Nat}(h:i=P.length):(P++x::R).set i y=P++y::R:=by subst h;simp
theorem aLr{α:Type}(P Q R:List α)(x y:α){i j:Nat}(hi:i=P.length)(hj:j=P.length+1+Q.length):(P++x::(Q++y::R))[i]?=some x∧(P++x::(Q++y::R))[j]?=some y∧((P++x::(Q++y::R)).set i y).set j x=P++y::(Q++x::R):=by
 have e:∀u:α,P++u::(Q++y::R)=(P++u::Q)++y::R:=λu=>by simp
 have hj2:∀u:α,j=(P++u::Q).length:=λu=>by simp;omega
 refine⟨aOo P _ x hi,?_,?_⟩
 ·rw[e];exact aOo _ _ _ (hj2 x)
 ·rw[aNw P _ x y hi,e,aNw _ _ _ _ (hj2 y)];simp
def sw(A X M_ Y B:List dK)(i:Nat):List dK:=A++(Y.take i++X.drop i)++M_++(X.take i++Y.drop i)++B
theorem aOu{A X M_ Y B:List dK}{i:Nat}(hi:i<X.length)(hn:X.length=Y.length):∃x y,(sw A X M_ Y B i)[A.length+i]?=some x∧(sw A X M_ Y B i)[A.length+X.length+M_.length+i]?=some y∧((sw A X M_ Y B i).set (A.length+i) y).set (A.length+X.length+M_.length+i) x=sw A X M_ Y B (i+1):=by
 have hx:X[i]?=some X[i]:=aAa hi;have hy:Y[i]?=some (Y[i]'o_):=aAa o_;have e:∀u v:dK,A++(Y.take i++u::X.drop (i+1))++M_++(X.take i++v::Y.drop (i+1))++B=(A++Y.take i)++u::((X.drop (i+1)++M_++X.take i)++v::(Y.drop (i+1)++B)):=λu v=>by simp
 have e1:sw A X M_ Y B i=(A++Y.take i)++X[i]::((X.drop (i+1)++M_++X.take i)++(Y[i]'o_)::(Y.drop (i+1)++B)):=by
  rw[←e];unfold sw;rw[aAm hi,aAm (l:=Y) o_]
 have e2:sw A X M_ Y B (i+1)=(A++Y.take i)++(Y[i]'o_)::((X.drop (i+1)++M_++X.take i)++X[i]::(Y.drop (i+1)++B)):=by
  rw[←e];unfold sw;rw[take_succ hx,take_succ hy];simp only[aAb,aCj,aBq]
 refine⟨X[i],Y[i]'o_,?_⟩;rw[e1,e2];exact aLr _ _ _ _ _ (by simp;omega) (by simp;omega)
theorem aPs(A X M_ Y B:List dK)(i:Nat)(hn:X.length=Y.length):(sw A X M_ Y B i).length=(A++X++M_++Y++B).length:=by
 unfold sw;simp;omega
section
variable (E:Env) (A:Option Addr) (n c:Nat)
theorem aMo(la lx lm ly lb:List dK)(hn:n≤1000000)(hxy:lx.length=ly.length)(hln:(la++lx++lm++ly++lb).length=n):G E 374 [.slice A n c,.int .i64 la.length,.int .i64 ((la.length+lx.length+lm.length:Nat):Int),.int .i64 lx.length,U2] [own cP A n c (la++lx++lm++ly++lb)] (cM (.tuple #[]) [own cP A n c (la++ly++lm++lx++lb)]):=by
 have hmax:=fX;have e0:la++lx++lm++ly++lb=sw la lx lm ly lb 0:=by unfold sw;simp
 have e1:la++ly++lm++lx++lb=sw la lx lm ly lb lx.length:=by unfold sw;rw[aAj (l:=ly) o_,aCy,aAo,aCn o_];simp
 have hlen:∀i,(sw la lx lm ly lb i).length=n:=λi=>(aPs la lx lm ly lb i hxy).trans hln;have hstep:=λi hi=>aOu (A:=la) (M_:=lm) (B:=lb) (i:=i) hi hxy;have hsum:la.length+lx.length+lm.length+lx.length≤n:=by rw[←hln];simp;omega
 rw[e0,e1];generalize sw la lx lm ly lb=w at *;generalize hb:la.length+lx.length+lm.length=b at *;generalize lx.length=k at *;generalize la.length=a at *;refine Ua λhA=>?_;refine t_ func374 ntmps374 ?_;repeat first|refine v_ ?_|intro
 refine C.loop (X:=Nat) (λi=>[(0,.slice A n c),(1,.int .i64 a),(2,.int .i64 b),(3,.int .i64 k),(10,.int .i64 i)]) (λi=>[own cP A n c (w i)]) (λi=>i≤k) (λi=>k - i) 0 aD aA (aAh _) ?_;rintro i G hi;by_cases hlt:i<k
 ·obtain⟨x,y,hx,hy,hw⟩:=hstep i hlt;have hl:=hlen i;generalize w i=l3 at *;have ha:((a:Int)+(i:Int)).toNat=a+i:=o_;have hbi:((b:Int)+(i:Int)).toNat=b+i:=o_;have hx':l3[((a:Int)+(i:Int)).toNat]?=some x:=by rw[ha];exact hx
  have hy':l3[((b:Int)+(i:Int)).toNat]?=some y:=by rw[hbi];exact hy
  have hy2:(l3.set (a+i) y)[((b:Int)+(i:Int)).toNat]?=some y:=by rw[hbi,aEq o_];exact hy
  have hy4:(l3.set ((a:Int)+(i:Int)).toNat y)[b+i]?=some y:=by rw[ha,aEq o_];exact hy
  have hy3:(l3.set (a+i) y)[b+i]?=some y:=by rw[aEq o_];exact hy
  repeat first|refine v_ ?_|intro
  refine C.Kp 21 (l_ [0,1,2,3,4,5,6,7,8,9,10,11,12,13,14,15,16,17,18,19,20] (g_ 21 (n_ 22 (g_ 23 .nil)))) [own cP A n c l3] [] q_ q_ aA ?_;repeat (first|refine Dt.take rfl sD rfl bA Cw Cw ?_|refine Dt.kL rfl sD rfl q_ bA Cw ?_)
  refine Dt.We rfl (by rintro k ⟨⟩<;>decide) bA NO ?_;rintro _ _ ⟨rfl,rfl⟩;refine⟨aA,?_⟩;refine Dr.take rfl sD bA (VB (hA.resolve_left o_) rfl rfl rfl rfl hbi o_ o_ (T:=cP) rfl) ?_;repeat first|refine v_ ?_|intro
  simp only[ha,hbi];exact⟨i+1,aD,(by rw[←hw];exact aA),by omega,by omega⟩
 ·obtain rfl:i=k:=o_;repeat first|refine v_ ?_|intro
  exact r4
theorem aPa(la lx ly lb:List dK)(hn:n≤1000000)(hx0:1≤lx.length)(hy0:1≤ly.length)(hln:(la++lx++ly++lb).length=n):G E 350 [.slice A n c,.int .i64 la.length,.int .i64 ((la.length+lx.length:Nat):Int),.int .i64 ((la.length+lx.length+ly.length:Nat):Int),U2] [own cP A n c (la++lx++ly++lb)] (cM (.tuple #[]) [own cP A n c (la++ly++lx++lb)]):=by
 have hmax:=fX;have hsum:la.length+lx.length+ly.length≤n:=by rw[←hln];simp;omega
 obtain⟨m,hm⟩:∃m,la.length+lx.length=m:=⟨_,rfl⟩
 obtain⟨goal,hg⟩:∃g,la++ly++lx++lb=g:=⟨_,rfl⟩
 rw[hg];have ha:la.length=m - lx.length:=o_;have e1:(la.length:Int)=((m - lx.length:Nat):Int):=by rw[ha]
 have i1:(m:Int) - (la.length:Int)=(lx.length:Int):=o_;have i2:((m+ly.length:Nat):Int) - (m:Int)=(ly.length:Int):=o_;have w1:IntKind.i64.wrap ((m:Int) - (la.length:Int))=(lx.length:Int):=by rw[i1];exact aAq _ o_
 have w2:IntKind.i64.wrap (((m+ly.length:Nat):Int) - (m:Int))=(ly.length:Int):=by rw[i2];exact aAq _ o_
 rw[hm];refine t_ func350 ntmps350 ?_;repeat first|refine v_ ?_|intro
 refine C.loop (X:=List dK×List dK×List dK×List dK) (λz=>[(0,.slice A n c),(2,.int .i64 m),(4,U2),(10,.int .i64 z.2.1.length),(11,.int .i64 z.2.2.1.length)]) (λz=>[own cP A n c (z.1++z.2.1++z.2.2.1++z.2.2.2)])
  (λz=>z.1.length+z.2.1.length=m∧1≤z.2.1.length∧1≤z.2.2.1.length∧(z.1++z.2.1++z.2.2.1++z.2.2.2).length=n∧z.1++z.2.2.1++z.2.1++z.2.2.2=goal) (λz=>z.2.1.length+z.2.2.1.length) (la,lx,ly,lb) aD aA ⟨hm,hx0,hy0,hln,hg⟩ ?_
 rintro⟨p,u,v,q⟩ G1 ⟨h1,h2,h3,h4,h5⟩;dsimp only at h1 h2 h3 h4 h5⊢;have h6:p.length+u.length+v.length≤n:=by rw[←h4];simp;omega
 have w3:IntKind.i64.wrap ((m:Int) - (u.length:Int))=(p.length:Int):=by rw[show(m:Int) - (u.length:Int)=(p.length:Int) by omega];exact aAq _ o_
 by_cases he:u.length=v.length
 ·have law:=λM=>aMo M A n c p u [] v q hn he (by rw[←h4];simp);rw[show((p.length+u.length+([]:List dK).length:Nat):Int)=(m:Int) by simp;omega,aAc,aAc,h5] at law;repeat first|refine v_ ?_|intro
  refine bK law ?_;repeat first|refine v_ ?_|intro
  exact r4
 by_cases hlt:v.length<u.length
 ·obtain⟨u1,u2,rfl,hu⟩:∃u1 u2,u=u1++u2∧u1.length=v.length:=⟨u.take v.length,u.drop v.length,(aAx ..).symm,by rw[aAg];omega⟩
  have law:=λM=>aMo M A n c p u1 u2 v q hn hu (by rw[←h4];simp);rw[aAe] at *;rw[show((p.length+u1.length+u2.length:Nat):Int)=(m:Int) by omega,hu] at law;have w4:IntKind.i64.wrap (((u1.length+u2.length:Nat):Int) - (v.length:Int))=(u2.length:Int):=by rw[show((u1.length+u2.length:Nat):Int) - (v.length:Int)=(u2.length:Int) by omega];exact aAq _ o_
  repeat first|refine v_ ?_|intro
  rw[←aAb p u1 u2];refine bK law ?_;repeat first|refine v_ ?_|intro
  rw[←hu];exact⟨(p++v,u2,u1,q),aD,(by dsimp only;exact aA),⟨by simp;omega,by dsimp only;omega,by dsimp only;omega,by rw[←h4];simp;omega,by rw[←h5];simp⟩,by dsimp only;omega⟩
 ·obtain⟨v1,v2,rfl,hv⟩:∃v1 v2,v=v1++v2∧v2.length=u.length:=⟨v.take (v.length - u.length),v.drop (v.length - u.length),(aAx ..).symm,by rw[aBd];omega⟩
  have law:=λM=>aMo M A n c p u v1 v2 q hn hv.symm (by rw[←h4];simp);rw[aAe] at *;have w5:IntKind.i64.wrap ((m:Int)+((v1.length+v2.length:Nat):Int))=((m+v1.length+v2.length:Nat):Int):=by rw[show(m:Int)+((v1.length+v2.length:Nat):Int)=((m+v1.length+v2.length:Nat):Int) by omega];exact aAq _ o_
  have w6:IntKind.i64.wrap (((m+v1.length+v2.length:Nat):Int) - (u.length:Int))=((p.length+u.length+v1.length:Nat):Int):=by rw[show((m+v1.length+v2.length:Nat):Int) - (u.length:Int)=((p.length+u.length+v1.length:Nat):Int) by omega];exact aAq _ o_
  have w7:IntKind.i64.wrap (((v1.length+v2.length:Nat):Int) - (u.length:Int))=(v1.length:Int):=by rw[show((v1.length+v2.length:Nat):Int) - (u.length:Int)=(v1.length:Int) by omega];exact aAq _ o_
  repeat first|refine v_ ?_|intro
  rw[←aAb (p++u) v1 v2];refine bK law ?_;repeat first|refine v_ ?_|intro
  rw[←hv];exact⟨(p,v2,v1,u++q),aD,(by dsimp only;rw[←aAb];exact aA),⟨by dsimp only;omega,by dsimp only;omega,by dsimp only;omega,by rw[←h4];simp;omega,by rw[←h5];simp⟩,by dsimp only;omega⟩
end
theorem aKk{l:List dK}(h:aJx l){i j:Nat}{x y:dK}(hi:l[i]?=some x)(hj:l[j]?=some y)(hij:i≤j):kle x y:=by
 by_cases e:i=j
 ·subst e;rw[hi] at hj;rw[aDk hj];exact aOh y
 ·obtain⟨h1,rfl⟩:=aAd.1 hi;obtain⟨h2,rfl⟩:=aAd.1 hj;exact aQu.1 h i j h1 h2 o_
theorem aLm{l:List dK}{k:Nat}{x:dK}(h:x∈l.take k):∃i,i<k∧l[i]?=some x:=by
 obtain⟨i,hi,rfl⟩:=aBm h;rw[aAg] at hi;exact⟨i,by omega,by rw[List.getElem_take,aAa]⟩
theorem aLq{l:List dK}{k:Nat}{x:dK}(h:x∈l.drop k):∃i,k≤i∧l[i]?=some x:=by
 obtain⟨i,hi,rfl⟩:=aBm h;rw[aBd] at hi;exact⟨k+i,by omega,by rw[List.getElem_drop,aAa]⟩
theorem aNu{l:List dK}(h:aJx l){x:dK}{k:Nat}(h1:∀y∈l.take k,kle y x)(h2:∀y∈l.drop k,kle x y):aJx (l.take k++x::l.drop k):=by
 have hs:aJx (l.take k++l.drop k):=by rw[aAx];exact h
 obtain⟨a,b,d⟩:=aFf.1 hs;refine aFf.2 ⟨a,List.pairwise_cons.2 ⟨h2,b⟩,λy hy z hz=>?_⟩;rcases aEj.1 hz with rfl|hz
 ·exact h1 y hy
 ·exact d y hy z hz
theorem aNs(l:List dK)(x:dK)(k:Nat):(l.take k++x::l.drop k).Perm (x::l):=by
 have h:=List.perm_middle (a:=x) (l₁:=l.take k) (l₂:=l.drop k)
 rwa [aAx] at h
theorem half(i j:Nat)(h:i+j≤2000000):IntKind.i64.wrap (((i+j:Nat):Int) / 2 ^ min (Int.toNat 1) IntKind.u64.bits)=(((i+j) / 2:Nat):Int):=by
 have e:(2:Int) ^ min (Int.toNat 1) IntKind.u64.bits=2:=sD;rw[e];have e2:((i+j:Nat):Int) / 2=(((i+j) / 2:Nat):Int):=o_;rw[e2];exact aAq _ o_
section
variable (A:Option Addr) (n c:Nat)
def aPx(la lx ly lb:List dK):Ending→List aL→Prop:=λe H'=>∃z:List dK,(z.Perm (lx++ly)∧aJx z)∧e=.returned (.tuple #[])∧H'=[own cP A n c (la++z++lb)]
theorem aQb(E:Env)(la ly lb:List dK)(x:dK)(hn:n≤1000000)(hy:aJx ly)(hln:(la++[x]++ly++lb).length=n):G E 311 [.slice A n c,.int .i64 la.length,.int .i64 ((la.length+1:Nat):Int),.int .i64 ((la.length+1+ly.length:Nat):Int),U2] [own cP A n c (la++[x]++ly++lb)] (aPx A n c la [x] ly lb):=by
 have hmax:=fX;have kf:xA 209=true:=q_;have hsum:la.length+1+ly.length≤n:=by rw[←hln];simp;omega
 have atx:(la++[x]++ly++lb)[la.length]?=some x:=by simp
 have aty:∀k,(la++[x]++ly++lb)[la.length+1+k]?=(ly++lb)[k]?:=λk=>by rw[aAb,aBc (by simp)];congr 1;simp
 obtain⟨a,ha⟩:∃a,la.length=a:=⟨_,rfl⟩
 rw[ha] at hsum atx aty⊢;have e1:((a+1:Nat):Int) - (a:Int)=1:=o_;have w1:IntKind.i64.wrap (((a+1:Nat):Int) - (a:Int))=1:=by rw[e1];rfl
 refine Ua λhA=>?_;refine t_ func311 ntmps311 ?_;repeat first|refine v_ ?_|intro
 refine C.loop (X:=Nat×Nat) (λz=>[(0,.slice A n c),(1,.int .i64 a),(2,.int .i64 ((a+1:Nat):Int)),(3,.int .i64 ((a+1+ly.length:Nat):Int)),(4,U2),(10,.int .i64 ((a+1+z.1:Nat):Int)),(11,.int .i64 ((a+1+z.2:Nat):Int))]) (λ_=>[own cP A n c (la++[x]++ly++lb)])
  (λz=>(z.1≤z.2∧z.2≤ly.length)∧(∀y∈ly.take z.1,kle y x)∧∀y∈ly.drop z.2,kle x y) (λz=>z.2 - z.1) (0,ly.length) aD aA ⟨⟨aAh _,aAf _⟩,λy h=>by simp at h,λy h=>by simp at h⟩ ?_
 rintro⟨i,j⟩ G ⟨⟨h1,h2⟩,h3,h4⟩;dsimp only at h1 h2 h3 h4⊢;by_cases hlt:i<j
 ·have hh:=half (a+1+i) (a+1+j) o_;obtain⟨q,hq⟩:∃q,(a+1+i+(a+1+j)) / 2=a+1+q:=⟨(i+j) / 2,by omega⟩
  rw[hq] at hh;obtain⟨y,hyq⟩:∃y,ly[q]?=some y:=⟨_,aAa o_⟩
  have hy2:(la++[x]++ly++lb)[a+1+q]?=some y:=by rw[aty,aBp o_];exact hyq
  have by1:=λM=>SD M y x;have hlt2:=aKx y x;generalize LK y x=z at *;by_cases hz:z<0
  ·have hk:=hlt2.1 hz;repeat first|refine v_ ?_|intro
   refine rA (l_ [0,1,2,3,4,5,6,7,8] (g_ 9 (n_ 10 .nil))) ?_;simp only[←aQs,hh];repeat first|refine v_ ?_|intro
   refine j6 rfl sD bA rfl rfl kf .nil (λM hE=>by1 M) ?_;rintro e H' ⟨rfl,rfl⟩;repeat first|refine v_ ?_|intro
   refine⟨(q+1,j),aD,aA,⟨⟨by dsimp only;omega,h2⟩,λy' hy'=>?_,h4⟩,by dsimp only;omega⟩;obtain⟨o,ho,hy'⟩:=aLm hy';exact aJw (aKk hy hy' hyq o_) (aMl hk)
  ·have hk:kle x y:=λk=>hz (hlt2.2 k);repeat first|refine v_ ?_|intro
   refine rA (l_ [0,1,2,3,4,5,6,7,8] (g_ 9 (n_ 10 .nil))) ?_;simp only[←aQs,hh];repeat first|refine v_ ?_|intro
   refine j6 rfl sD bA rfl rfl kf .nil (λM hE=>by1 M) ?_;rintro e H' ⟨rfl,rfl⟩;repeat first|refine v_ ?_|intro
   refine⟨(i,q),aD,aA,⟨⟨by dsimp only;omega,by dsimp only;omega⟩,h3,λy' hy'=>?_⟩,by dsimp only;omega⟩;obtain⟨o,ho,hy'⟩:=aLq hy';exact aJw hk (aKk hy hyq hy' ho)
 ·obtain rfl:i=j:=o_;repeat first|refine v_ ?_|intro
  refine C.loop (X:=Nat) (λk=>[(0,.slice A n c),(1,.int .i64 a),(2,.int .i64 ((a+1:Nat):Int)),(3,.int .i64 ((a+1+ly.length:Nat):Int)),(4,U2),(10,.int .i64 ((a+1+i:Nat):Int)),(13,.int .i64 ((a+k:Nat):Int))]) (λk=>[own cP A n c (la++(ly.take k++x::ly.drop k)++lb)])
   (λk=>k≤i) (λk=>i - k) 0 aD (by rw[aCg,aCh,aBq,show la++x::ly++lb=la++[x]++ly++lb by simp];exact aA) (aAh _) ?_
  rintro k G2 hk;by_cases hki:k<i
  ·obtain⟨y,hyk⟩:∃y,ly[k]?=some y:=⟨_,aAa o_⟩
   have ed:ly.drop k=y::ly.drop (k+1):=by obtain⟨h,rfl⟩:=aAd.1 hyk;exact aAm h
   have es:la++(ly.take k++x::ly.drop k)++lb=(la++ly.take k)++x::([]++y::(ly.drop (k+1)++lb)):=by rw[ed];simp
   have et:la++(ly.take (k+1)++x::ly.drop (k+1))++lb=(la++ly.take k)++y::([]++x::(ly.drop (k+1)++lb)):=by rw[take_succ hyk];simp only[aAb,aCj,aBq]
   obtain⟨g1,g2,g3⟩:=aLr (la++ly.take k) [] (ly.drop (k+1)++lb) x y (i:=a+k) (j:=a+k+1) (by rw[aAe,ha,aAg];omega) (by rw[aAe,ha,aAg,aDh];omega);rw[←es] at g1 g2 g3;rw[←et] at g3;have hlw:(la++(ly.take k++x::ly.drop k)++lb).length=n:=by rw[←hln];simp;omega
   generalize la++(ly.take k++x::ly.drop k)++lb=w at *;have hjj:(((a+k:Nat):Int)+1).toNat=a+k+1:=o_;have g4:w[(((a+k:Nat):Int)+1).toNat]?=some y:=by rw[hjj];exact g2
   have g5:(w.set (a+k) y)[a+k+1]?=some y:=by rw[aEq o_];exact g2
   have g6:(w.set (a+k) y)[(((a+k:Nat):Int)+1).toNat]?=some y:=by rw[hjj];exact g5
   repeat first|refine v_ ?_|intro
   refine C.Kp 15 (l_ [0,1,2,3,4,5,6,7,8,9,10,11,12,13,14] (g_ 15 (n_ 16 (g_ 17 .nil)))) [own cP A n c w] [] q_ q_ aA ?_;repeat (first|refine Dt.take rfl sD rfl bA Cw Cw ?_|refine Dt.kL rfl sD rfl q_ bA Cw ?_)
   refine Dt.We rfl (by rintro k ⟨⟩<;>decide) bA NO ?_;rintro _ _ ⟨rfl,rfl⟩;refine⟨aA,?_⟩;refine Dr.take rfl sD bA (VB (hA.resolve_left o_) rfl rfl rfl rfl hjj o_ o_ (T:=cP) rfl) ?_;repeat first|refine v_ ?_|intro
   simp only[hjj];exact⟨k+1,aD,(by rw[←g3];exact aA),by omega,by omega⟩
  ·obtain rfl:k=i:=o_;repeat first|refine v_ ?_|intro
   exact VL rfl aA (⟨_,⟨aNs ly x k,aNu hy h3 h4⟩,rfl,rfl⟩)
theorem aQf(E:Env)(la lx lb:List dK)(y:dK)(hn:n≤1000000)(h2x:2≤lx.length)(hx:aJx lx)(hln:(la++lx++[y]++lb).length=n):G E 311 [.slice A n c,.int .i64 la.length,.int .i64 ((la.length+lx.length:Nat):Int),.int .i64 ((la.length+lx.length+1:Nat):Int),U2] [own cP A n c (la++lx++[y]++lb)] (aPx A n c la lx [y] lb):=by
 have hmax:=fX;have kf:xA 209=true:=q_;have hsum:la.length+lx.length+1≤n:=by rw[←hln];simp;omega
 have aty:(la++lx++[y]++lb)[la.length+lx.length]?=some y:=by rw[aAb,aBc (by simp)];simp
 have atx:∀k,k<lx.length→(la++lx++[y]++lb)[la.length+k]?=lx[k]?:=λk hk=>by rw[aAb,aAb,aBc o_,aBp o_];congr 1;omega
 obtain⟨a,ha⟩:∃a,la.length=a:=⟨_,rfl⟩
 rw[ha] at hsum atx aty⊢;have w1:IntKind.i64.wrap (((a+lx.length:Nat):Int) - (a:Int))=(lx.length:Int):=by rw[show((a+lx.length:Nat):Int) - (a:Int)=(lx.length:Int) by omega];exact aAq _ o_
 have w2:IntKind.i64.wrap (((a+lx.length+1:Nat):Int) - ((a+lx.length:Nat):Int))=1:=by rw[show((a+lx.length+1:Nat):Int) - ((a+lx.length:Nat):Int)=1 by omega];rfl
 refine Ua λhA=>?_;refine t_ func311 ntmps311 ?_;repeat first|refine v_ ?_|intro
 refine C.loop (X:=Nat×Nat) (λz=>[(0,.slice A n c),(1,.int .i64 a),(2,.int .i64 ((a+lx.length:Nat):Int)),(3,.int .i64 ((a+lx.length+1:Nat):Int)),(4,U2),(14,.int .i64 ((a+z.1:Nat):Int)),(15,.int .i64 ((a+z.2:Nat):Int))]) (λ_=>[own cP A n c (la++lx++[y]++lb)])
  (λz=>(z.1≤z.2∧z.2≤lx.length)∧(∀x∈lx.take z.1,kle x y)∧∀x∈lx.drop z.2,kle y x) (λz=>z.2 - z.1) (0,lx.length) aD aA ⟨⟨aAh _,aAf _⟩,λy h=>by simp at h,λy h=>by simp at h⟩ ?_
 rintro⟨i,j⟩ G ⟨⟨h1,h2⟩,h3,h4⟩;dsimp only at h1 h2 h3 h4⊢;by_cases hlt:i<j
 ·have hh:=half (a+i) (a+j) o_;obtain⟨q,hq⟩:∃q,(a+i+(a+j)) / 2=a+q:=⟨(i+j) / 2,by omega⟩
  rw[hq] at hh;obtain⟨x,hxq⟩:∃x,lx[q]?=some x:=⟨_,aAa o_⟩
  have hx2:(la++lx++[y]++lb)[a+q]?=some x:=by rw[atx q o_];exact hxq
  have by1:=λM=>SD M y x;have hlt2:=aKx y x;generalize LK y x=z at *;by_cases hz:z<0
  ·have hk:=hlt2.1 hz;have hd:(!decide (z<0))=false:=by rw[decide_eq_true hz];rfl
   repeat first|refine v_ ?_|intro
   refine rA (l_ [0,1,2,3,4,5,6,7,8] (g_ 9 (l_ [10,11] .nil))) ?_;simp only[←aQs,hh];repeat first|refine v_ ?_|intro
   refine j6 rfl sD bA rfl rfl kf .nil (λM hE=>by1 M) ?_;rintro e H' ⟨rfl,rfl⟩;repeat first|refine v_ ?_|intro
   refine⟨(i,q),aD,aA,⟨⟨by dsimp only;omega,by dsimp only;omega⟩,h3,λx' hx'=>?_⟩,by dsimp only;omega⟩;obtain⟨o,ho,hx'⟩:=aLq hx';exact aJw (aMl hk) (aKk hx hxq hx' ho)
  ·have hk:kle x y:=λk=>hz (hlt2.2 k);have hd:(!decide (z<0))=true:=by rw[decide_eq_false hz];rfl
   repeat first|refine v_ ?_|intro
   refine rA (l_ [0,1,2,3,4,5,6,7,8] (g_ 9 (l_ [10,11] .nil))) ?_;simp only[←aQs,hh];repeat first|refine v_ ?_|intro
   refine j6 rfl sD bA rfl rfl kf .nil (λM hE=>by1 M) ?_;rintro e H' ⟨rfl,rfl⟩;repeat first|refine v_ ?_|intro
   refine⟨(q+1,j),aD,aA,⟨⟨by dsimp only;omega,h2⟩,λx' hx'=>?_,h4⟩,by dsimp only;omega⟩;obtain⟨o,ho,hx'⟩:=aLm hx';exact aJw (aKk hx hx' hxq o_) hk
 ·obtain rfl:i=j:=o_;repeat first|refine v_ ?_|intro
  refine C.loop (X:=Nat) (λk=>[(0,.slice A n c),(1,.int .i64 a),(2,.int .i64 ((a+lx.length:Nat):Int)),(3,.int .i64 ((a+lx.length+1:Nat):Int)),(4,U2),(14,.int .i64 ((a+i:Nat):Int)),(17,.int .i64 ((a+k:Nat):Int))]) (λk=>[own cP A n c (la++(lx.take k++y::lx.drop k)++lb)])
   (λk=>i≤k∧k≤lx.length) (λk=>k - i) lx.length aD (by rw[aAo,aCy,show la++(lx++[y])++lb=la++lx++[y]++lb by simp];exact aA) ⟨h2,aAf _⟩ ?_
  rintro k G2 ⟨hk1,hk2⟩;by_cases hki:i<k
  ·obtain⟨k,rfl⟩:∃m,k=m+1:=⟨k - 1,by omega⟩
   obtain⟨x,hxk⟩:∃x,lx[k]?=some x:=⟨_,aAa o_⟩
   have ed:lx.drop k=x::lx.drop (k+1):=by obtain⟨h,rfl⟩:=aAd.1 hxk;exact aAm h
   have es:la++(lx.take (k+1)++y::lx.drop (k+1))++lb=(la++lx.take k)++x::([]++y::(lx.drop (k+1)++lb)):=by rw[take_succ hxk];simp only[aAb,aCj,aBq]
   have et:la++(lx.take k++y::lx.drop k)++lb=(la++lx.take k)++y::([]++x::(lx.drop (k+1)++lb)):=by rw[ed];simp
   obtain⟨g1,g2,g3⟩:=aLr (la++lx.take k) [] (lx.drop (k+1)++lb) x y (i:=a+k) (j:=a+(k+1)) (by rw[aAe,ha,aAg];omega) (by rw[aAe,ha,aAg,aDh];omega);rw[←es] at g1 g2 g3;rw[←et] at g3;have hlw:(la++(lx.take (k+1)++y::lx.drop (k+1))++lb).length=n:=by rw[←hln];simp;omega
   generalize la++(lx.take (k+1)++y::lx.drop (k+1))++lb=w at *;have hjj:(((a+(k+1):Nat):Int) - 1).toNat=a+k:=o_;have g3:(w.set (a+(k+1)) x).set (a+k) y=la++(lx.take k++y::lx.drop k)++lb:=by rw[List.set_comm _ _ o_];exact g3
   have g4:w[(((a+(k+1):Nat):Int) - 1).toNat]?=some x:=by rw[hjj];exact g1
   have g5:(w.set (a+(k+1)) x)[a+k]?=some x:=by rw[aEq o_];exact g1
   have g6:(w.set (a+(k+1)) x)[(((a+(k+1):Nat):Int) - 1).toNat]?=some x:=by rw[hjj];exact g5
   repeat first|refine v_ ?_|intro
   refine C.Kp 15 (l_ [0,1,2,3,4,5,6,7,8,9,10,11,12,13,14] (g_ 15 (n_ 16 (g_ 17 .nil)))) [own cP A n c w] [] q_ q_ aA ?_;repeat (first|refine Dt.take rfl sD rfl bA Cw Cw ?_|refine Dt.kL rfl sD rfl q_ bA Cw ?_)
   refine Dt.We rfl (by rintro k ⟨⟩<;>decide) bA NO ?_;rintro _ _ ⟨rfl,rfl⟩;refine⟨aA,?_⟩;refine Dr.take rfl sD bA (VB (hA.resolve_left o_) rfl rfl rfl rfl hjj o_ o_ (T:=cP) rfl) ?_;repeat first|refine v_ ?_|intro
   simp only[hjj];exact⟨k,aD,(by rw[←g3];exact aA),⟨by omega,by omega⟩,by omega⟩
  ·obtain rfl:k=i:=o_;repeat first|refine v_ ?_|intro
   exact VL rfl aA (⟨_,⟨(aNs lx y k).trans (List.perm_append_comm (l₁:=[y]) (l₂:=lx)),aNu hx h3 h4⟩,rfl,rfl⟩)
end
theorem aPt{lx ly:List dK}(hx:aJx lx)(hy:aJx ly){a m b BI lo hi s:Nat}(hm:m=a+lx.length)(hb:b=m+ly.length)(h1:a≤lo)(h2:lo≤s)(h3:s≤hi)(h4:hi≤m)(h5:hi≤BI)(h6:BI+m≤lo+b)(h7:lo=a∨BI+m=lo+b)(h8:hi=m∨hi=BI)
  (f1:∀q,lo≤q→q<s→∀x y,lx[q - a]?=some x→ly[BI+m - 1 - q - m]?=some y→kle x y) (f2:∀q,s≤q→q<hi→∀x y,lx[q - a]?=some x→ly[BI+m - 1 - q - m]?=some y→kle y x) :
  (∀x∈lx.take (s - a),∀z∈ly.drop (BI - s),kle x z)∧∀z∈ly.take (BI - s),∀x∈lx.drop (s - a),kle z x:=by
 constructor
 ·intro x hxm z hzm;obtain⟨i,hi1,hxi⟩:=aLm hxm;obtain⟨j,hj1,hzj⟩:=aLq hzm;have hil:=(aAd.1 hxi).1;have hjl:=(aAd.1 hzj).1;by_cases hs:lo<s
  ·have hx0:lx[s - 1 - a]?=some (lx[s - 1 - a]'o_):=aAa o_;have hz0:ly[BI+m - 1 - (s - 1) - m]?=some (ly[BI+m - 1 - (s - 1) - m]'o_):=aAa o_;have h0:=f1 (s - 1) o_ o_ _ _ hx0 hz0;exact aJw (aKk hx hxi hx0 o_) (aJw h0 (aKk hy hz0 hzj o_))
  ·exfalso;omega
 ·intro z hzm x hxm;obtain⟨j,hj1,hzj⟩:=aLm hzm;obtain⟨i,hi1,hxi⟩:=aLq hxm;have hil:=(aAd.1 hxi).1;have hjl:=(aAd.1 hzj).1;by_cases hs:s<hi
  ·have hx0:lx[s - a]?=some (lx[s - a]'o_):=aAa o_;have hz0:ly[BI+m - 1 - s - m]?=some (ly[BI+m - 1 - s - m]'o_):=aAa o_;have h0:=f2 s o_ hs _ _ hx0 hz0;exact aJw (aKk hy hzj hz0 o_) (aJw h0 (aKk hx hx0 hxi o_))
  ·exfalso;omega
theorem aMb{u v w t z1 z2:List dK}(h1:z1.Perm (u++w))(h2:z2.Perm (v++t))(k1:aJx z1)(k2:aJx z2)(huv:∀x∈u,∀y∈v,kle x y)(hut:∀x∈u,∀y∈t,kle x y)(hwv:∀x∈w,∀y∈v,kle x y)(hwt:∀x∈w,∀y∈t,kle x y):(z1++z2).Perm ((u++v)++(w++t))∧aJx (z1++z2):=by
 constructor
 ·refine(h1.append h2).trans ?_;rw[aAb,aAb];refine aQr _ ?_;rw[←aAb,←aAb];exact List.Perm.append_right _ List.perm_append_comm
 ·refine aFf.2 ⟨k1,k2,λx hx y hy=>?_⟩;have hx:=h1.mem_iff.1 hx;have hy:=h2.mem_iff.1 hy;rcases aBg.1 hx with hx|hx<;>rcases aBg.1 hy with hy|hy
  ·exact huv x hx y hy
  ·exact hut x hx y hy
  ·exact hwv x hx y hy
  ·exact hwt x hx y hy
section
variable (A:Option Addr) (n c:Nat)
theorem aOp:∀(k:Nat) (E:Env) (la lx ly lb:List dK),lx.length+ly.length≤k→n≤1000000→1≤lx.length→1≤ly.length→aJx lx→aJx ly→(la++lx++ly++lb).length=n →
  G E 311 [.slice A n c,.int .i64 la.length,.int .i64 ((la.length+lx.length:Nat):Int),.int .i64 ((la.length+lx.length+ly.length:Nat):Int),U2] [own cP A n c (la++lx++ly++lb)] (aPx A n c la lx ly lb)
 |0,E,la,lx,ly,lb,hk,hn,hx1,hy1,hx,hy,hln=>by omega
 |k+1,E,la,lx,ly,lb,hk,hn,hx1,hy1,hx,hy,hln=>by
  by_cases ex:lx.length=1
  ·obtain⟨x,rfl⟩:=aFv.1 ex;exact aQb A n c E la ly lb x hn hy hln
  by_cases ey:ly.length=1
  ·obtain⟨y,rfl⟩:=aFv.1 ey;exact aQf A n c E la lx lb y hn o_ hx hln
  have ih:=aOp k;have hmax:=fX;have kf:xA 209=true:=q_;have hsum:la.length+lx.length+ly.length≤n:=by rw[←hln];simp;omega
  have hxn:∀i,i<lx.length→(la++lx++ly++lb)[la.length+i]?=lx[i]?:=λk hk=>by rw[aAb,aAb,aBc o_,aBp o_];congr 1;omega
  have hyn:∀i,i<ly.length→(la++lx++ly++lb)[la.length+lx.length+i]?=ly[i]?:=λk hk=>by rw[aAb,aBc (by rw[aAe];omega),aBp (by rw[aAe];omega)];congr 1;rw[aAe];omega
  obtain⟨a,ha⟩:∃a,la.length=a:=⟨_,rfl⟩
  rw[ha] at hsum hxn hyn⊢;obtain⟨m,hm⟩:∃m,a+lx.length=m:=⟨_,rfl⟩
  rw[hm] at hsum hyn⊢;obtain⟨b,hb⟩:∃b,m+ly.length=b:=⟨_,rfl⟩
  rw[hb] at hsum⊢;obtain⟨BI,hmid⟩:∃BI,(a+b) / 2=BI:=⟨_,rfl⟩
  have w1:IntKind.i64.wrap ((m:Int) - (a:Int))=(lx.length:Int):=by rw[show(m:Int) - (a:Int)=(lx.length:Int) by omega];exact aAq _ o_
  have w2:IntKind.i64.wrap ((b:Int) - (m:Int))=(ly.length:Int):=by rw[show(b:Int) - (m:Int)=(ly.length:Int) by omega];exact aAq _ o_
  have w3:=half a b o_;rw[hmid,aQs] at w3;refine Ua λhA=>?_;refine t_ func311 ntmps311 ?_;repeat first|refine v_ ?_|intro
  refine C.BI (X:=Nat×Nat) (λz=>[(0,.slice A n c),(1,.int .i64 a),(2,.int .i64 m),(3,.int .i64 b),(4,U2),(18,.int .i64 BI),(19,.int .i64 ((BI:Int)+(m:Int))),(20,.int .i64 z.1),(21,.int .i64 z.2)]) (λ_=>[own cP A n c (la++lx++ly++lb)])
   (λz=>(a≤z.1∧z.1≤z.2∧z.2≤m∧z.2≤BI∧BI+m≤z.1+b)∧(z.1=a∨BI+m=z.1+b)∧(z.2=m∨z.2=BI)) ?_ ?_
  ·by_cases hmm:BI<m
   ·have w4:IntKind.i64.wrap ((BI:Int)+(m:Int) - (b:Int))=((BI+m - b:Nat):Int):=by rw[show(BI:Int)+(m:Int) - (b:Int)=((BI+m - b:Nat):Int) by omega];exact aAq _ o_
    repeat first|refine v_ ?_|intro
    exact⟨(BI+m - b,BI),aD,aA,⟨by dsimp only;omega,by dsimp only;omega,by dsimp only;omega,aAf _,by dsimp only;omega⟩,.inr (by dsimp only;omega),.inr rfl⟩
   ·repeat first|refine v_ ?_|intro
    exact⟨(a,m),aD,aA,⟨aAf _,by dsimp only;omega,aAf _,by dsimp only;omega,by dsimp only;omega⟩,.inl rfl,.inl rfl⟩
  rintro⟨lo,hi⟩ G ⟨⟨h1,h2,h3,h4,h5⟩,h6,h7⟩;dsimp only at h1 h2 h3 h4 h5 h6 h7⊢;repeat first|refine v_ ?_|intro
  refine C.loop (X:=Nat×Nat) (λz=>[(0,.slice A n c),(1,.int .i64 a),(2,.int .i64 m),(3,.int .i64 b),(4,U2),(18,.int .i64 BI),(19,.int .i64 ((BI:Int)+(m:Int))),(20,.int .i64 z.1),(21,.int .i64 z.2),(22,.int .i64 ((BI:Int)+(m:Int) - 1))]) (λ_=>[own cP A n c (la++lx++ly++lb)])
   (λz=>(lo≤z.1∧z.1≤z.2∧z.2≤hi)∧(∀q,lo≤q→q<z.1→∀x y,lx[q - a]?=some x→ly[BI+m - 1 - q - m]?=some y→kle x y)∧∀q,z.2≤q→q<hi→∀x y,lx[q - a]?=some x→ly[BI+m - 1 - q - m]?=some y→kle y x) (λz=>z.2 - z.1) (lo,hi) aD aA ⟨⟨aAf _,h2,aAf _⟩,λq k1 k2=>by dsimp only at k2;omega,λq k1 k2=>by dsimp only at k1;omega⟩ ?_
  rintro⟨s,r⟩ G2 ⟨⟨j1,j2,j3⟩,j4,j5⟩;dsimp only at j1 j2 j3 j4 j5⊢;by_cases hsr:s<r
  ·have hh:=half s r o_;obtain⟨q,hq⟩:∃q,(s+r) / 2=q:=⟨_,rfl⟩
   rw[hq,aQs] at hh;obtain⟨x,hxq⟩:∃x,lx[q - a]?=some x:=⟨_,aAa o_⟩
   obtain⟨y,hyq⟩:∃y,ly[BI+m - 1 - q - m]?=some y:=⟨_,aAa o_⟩
   have hxd:(la++lx++ly++lb)[q]?=some x:=by have:=hxn (q - a) o_;rw[show a+(q - a)=q by omega] at this;rw[this];exact hxq
   have hyd:(la++lx++ly++lb)[BI+m - 1 - q]?=some y:=by have:=hyn (BI+m - 1 - q - m) o_;rw[show m+(BI+m - 1 - q - m)=BI+m - 1 - q by omega] at this;rw[this];exact hyq
   have w5:IntKind.i64.wrap ((BI:Int)+(m:Int) - 1 - (q:Int))=((BI+m - 1 - q:Nat):Int):=by rw[show(BI:Int)+(m:Int) - 1 - (q:Int)=((BI+m - 1 - q:Nat):Int) by omega];exact aAq _ o_
   have by1:=λM=>SD M y x;have hlt2:=aKx y x;generalize LK y x=z at *;by_cases hz:z<0
   ·have hk:=aMl (hlt2.1 hz);have hd:(!decide (z<0))=false:=by rw[decide_eq_true hz];rfl
    repeat first|refine v_ ?_|intro
    refine rA (l_ [0,1,2,3,4,5,6,7,8,9,10] (g_ 11 (l_ [12,13] .nil))) ?_;repeat first|refine v_ ?_|intro
    refine j6 rfl sD bA rfl rfl kf .nil (λM hE=>by1 M) ?_;rintro e H' ⟨rfl,rfl⟩;repeat first|refine v_ ?_|intro
    refine⟨(s,q),aD,aA,⟨⟨j1,by dsimp only;omega,by dsimp only;omega⟩,j4,λq' k1 k2 x' y' hx' hy'=>?_⟩,by dsimp only;omega⟩;exact aJw (aKk hy hy' hyq o_) (aJw hk (aKk hx hxq hx' (by dsimp only at k1;omega)))
   ·have hk:kle x y:=λk=>hz (hlt2.2 k);have hd:(!decide (z<0))=true:=by rw[decide_eq_false hz];rfl
    repeat first|refine v_ ?_|intro
    refine rA (l_ [0,1,2,3,4,5,6,7,8,9,10] (g_ 11 (l_ [12,13] .nil))) ?_;repeat first|refine v_ ?_|intro
    refine j6 rfl sD bA rfl rfl kf .nil (λM hE=>by1 M) ?_;rintro e H' ⟨rfl,rfl⟩;repeat first|refine v_ ?_|intro
    refine⟨(q+1,r),aD,aA,⟨⟨by dsimp only;omega,by dsimp only;omega,j3⟩,λq' k1 k2 x' y' hx' hy'=>?_,j5⟩,by dsimp only;omega⟩;exact aJw (aKk hx hx' hxq (by dsimp only at k2;omega)) (aJw hk (aKk hy hyq hy' (by dsimp only at k2;omega)))
  obtain rfl:s=r:=o_;obtain⟨c1,c2⟩:=aPt hx hy hm.symm hb.symm h1 j1 j3 h3 h4 h5 h6 h7 j4 j5;clear j4 j5 hxn hyn;obtain⟨en,hen⟩:∃en,BI+m - s=en:=⟨_,rfl⟩
  have w6:IntKind.i64.wrap ((BI:Int)+(m:Int) - (s:Int))=(en:Int):=by rw[show(BI:Int)+(m:Int) - (s:Int)=(en:Int) by omega];exact aAq _ o_
  obtain⟨u,v,w,t,exl,eyl,lu,lv,lw,lt',c3,c4⟩:∃u v w t,lx=u++v∧ly=w++t∧u.length=s - a∧v.length=m - s∧w.length=BI - s∧t.length=b - en∧(∀x∈u,∀z∈t,kle x z)∧∀z∈w,∀x∈v,kle z x :=
   ⟨lx.take (s - a),lx.drop (s - a),ly.take (BI - s),ly.drop (BI - s),(aAx ..).symm,(aAx ..).symm,by rw[aAg];omega,by rw[aBd];omega,by rw[aAg];omega,by rw[aBd];omega,c1,c2⟩
  subst exl eyl;obtain⟨su,sv,suv⟩:=aFf.1 hx;obtain⟨sw',st,swt⟩:=aFf.1 hy;simp only[aAe] at hm hb hk hx1 hy1 ex ey;have e1:la++(u++v)++(w++t)++lb=la++u++v++w++(t++lb):=by simp
  rw[e1] at hln⊢;have el1:(la++u).length=s:=by rw[aAe,ha,lu];omega
  have law1:=λM (k1:s<m) (k2:m<en)=>aPa M A n c (la++u) v w (t++lb) hn o_ o_ hln;rw[el1,lv,lw,show((s+(m - s):Nat):Int)=(m:Int) by omega,show((s+(m - s)+(BI - s):Nat):Int)=(en:Int) by omega] at law1;repeat ((fail_if_success (refine C.seq (x:=Code.region 39 _ _) ?_));first|refine Cx ?_|refine k_ ?_|intro _|refine Dr.two ?_ ?_)
  refine C.BI (X:=Unit) (λ_=>[(0,.slice A n c),(1,.int .i64 a),(3,.int .i64 b),(4,U2),(18,.int .i64 BI),(20,.int .i64 s),(24,.int .i64 en)]) (λ_=>[own cP A n c (la++u++w++v++(t++lb))]) (λ_=>True) ?_ ?_
  ·by_cases k1:s<m
   ·by_cases k2:m<en
    ·repeat first|refine v_ ?_|intro
     refine bK (λM=>law1 M k1 k2) ?_;repeat first|refine v_ ?_|intro
     exact⟨(),aD,aA,trivial⟩
    ·obtain rfl:w=[]:=aQq.1 o_;rw[show la++u++v++[]++(t++lb)=la++u++[]++v++(t++lb) by simp];repeat first|refine v_ ?_|intro
     exact⟨(),aD,aA,trivial⟩
   ·obtain rfl:v=[]:=aQq.1 o_;rw[show la++u++[]++w++(t++lb)=la++u++w++[]++(t++lb) by simp];repeat first|refine v_ ?_|intro
    exact⟨(),aD,aA,trivial⟩
  rintro - G3 -;rw[aAb (la++u++w) v (t++lb)];have law2:=λM (k1:a<s) (k2:s<BI)=>ih M la u w (v++(t++lb)) o_ hn o_ o_ su sw' (by rw[←hln];simp;omega);rw[ha,lu,lw,show((a+(s - a):Nat):Int)=(s:Int) by omega,show((a+(s - a)+(BI - s):Nat):Int)=(BI:Int) by omega] at law2;repeat ((fail_if_success (refine C.seq (x:=Code.region 41 _ _) ?_));first|refine Cx ?_|refine k_ ?_|intro _|refine Dr.two ?_ ?_)
  refine C.BI (X:=List dK) (λ_=>[(0,.slice A n c),(3,.int .i64 b),(4,U2),(18,.int .i64 BI),(24,.int .i64 en)]) (λz=>[own cP A n c (la++z++(v++(t++lb)))]) (λz=>z.Perm (u++w)∧aJx z) ?_ ?_
  ·by_cases k1:a<s
   ·by_cases k2:s<BI
    ·repeat first|refine v_ ?_|intro
     refine bW (λM=>law2 M k1 k2) ?_;rintro e H' ⟨z,hz,rfl,rfl⟩;repeat first|refine v_ ?_|intro
     exact⟨z,aD,aA,hz⟩
    ·obtain rfl:w=[]:=aQq.1 o_;rw[aAb la u []];repeat first|refine v_ ?_|intro
     exact⟨u++[],aD,aA,aQt _,by rw[aAc];exact su⟩
   ·obtain rfl:u=[]:=aQq.1 o_;rw[aAb la [] w];repeat first|refine v_ ?_|intro
    exact⟨[]++w,aD,aA,aQt _,sw'⟩
  rintro z1 G4 ⟨p1,q1⟩;have lz:z1.length=BI - a:=by rw[p1.length_eq,aAe];omega
  rw[show la++z1++(v++(t++lb))=la++z1++v++t++lb by simp];have el2:(la++z1).length=BI:=by rw[aAe,ha,lz];omega
  have law3:=λM (k1:BI<en) (k2:en<b)=>ih M (la++z1) v t lb o_ hn o_ o_ sv st (by rw[←hln];simp[p1.length_eq];omega);rw[el2,lv,lt',show((BI+(m - s):Nat):Int)=(en:Int) by omega,show((BI+(m - s)+(b - en):Nat):Int)=(b:Int) by omega] at law3;by_cases k1:BI<en
  ·by_cases k2:en<b
   ·repeat first|refine v_ ?_|intro
    refine bW (λM=>law3 M k1 k2) ?_;rintro e H' ⟨z2,⟨p2,q2⟩,rfl,rfl⟩;repeat first|refine v_ ?_|intro
    exact gO rfl aA (⟨z1++z2,aMb p1 p2 q1 q2 suv c3 c4 swt,rfl,by rw[←aAb]⟩)
   ·obtain rfl:t=[]:=aQq.1 o_;repeat first|refine v_ ?_|intro
    exact gO rfl aA (⟨z1++v,aMb p1 (by rw[aAc]) q1 sv suv c3 c4 swt,rfl,by rw[←aAb,aAc]⟩)
  ·obtain rfl:v=[]:=aQq.1 o_;repeat first|refine v_ ?_|intro
   exact gO rfl aA (⟨z1++t,aMb p1 (aQt _) q1 st suv c3 c4 swt,rfl,by rw[←aAb,aAc]⟩)
end
end
section
theorem aMy(la:List dK)(x:dK):∀(k:Nat) (P R:List dK),P.length=k→aJx P→∃z,qV la.length (la.length+k) (la++P++x::R)=la++z++R∧z.Perm (P++[x])∧aJx z
 |0,P,R,h,_=>by
  obtain rfl:=aQq.1 h;exact⟨[x],by rw[Jg (a:=la.length) (j:=la.length+0) (aAf _)];simp,aQt _,aFq _ _⟩
 |k+1,P,R,h,hs=>by
  obtain⟨P,y,rfl⟩:∃P0 y,P=P0++[y]:=by
   rcases List.eq_nil_or_concat P with rfl|⟨P0,y,rfl⟩
   ·cases h
   ·exact⟨P0,y,by simp⟩
  have hk:P.length=k:=by rw[aAe,aDa] at h;omega
  have e:la++(P++[y])++x::R=(la++P)++y::([]++x::R):=by simp
  obtain⟨g1,g2,g3⟩:=aLr (la++P) [] R y x (i:=la.length+k) (j:=la.length+k+1) (by rw[aAe,hk]) (by rw[aAe,aDh,hk]);rw[e,show la.length+(k+1)=(la.length+k)+1 from rfl,Im o_ g2 g1];obtain⟨s1,s2,s3⟩:=aFf.1 hs;by_cases hz:LK x y<0
  ·rw[if_pos hz,List.set_comm _ _ o_,g3];obtain⟨z,h1,h2,h3⟩:=aMy la x k P (y::R) hk s1;refine⟨z++[y],h1.trans (by simp),(h2.append_right [y]).trans ?_,aFf.2 ⟨h3,aFq _ _,λa ha b hb=>?_⟩⟩
   ·rw[aAb,aAb];exact aQr P List.perm_append_comm
   ·obtain rfl:=aAp.1 hb;rcases aBg.1 (h2.mem_iff.1 ha) with ha|ha
    ·exact s3 a ha b (.head _)
    ·obtain rfl:=aAp.1 ha;exact aMl ((aKx _ _).1 hz)
  ·rw[if_neg hz];have hyx:kle y x:=λk=>hz ((aKx _ _).2 k);refine⟨P++[y]++[x],by simp,aQt _,aFf.2 ⟨hs,aFq _ _,λa ha b hb=>?_⟩⟩;obtain rfl:=aAp.1 hb;rcases aBg.1 ha with ha|ha
   ·exact aJw (s3 a ha y (.head _)) hyx
   ·obtain rfl:=aAp.1 ha;exact hyx
theorem aNd(la R:List dK):∀(Q P:List dK),aJx P→∃z,BX la.length (la.length+P.length) Q.length (la++P++Q++R)=la++z++R∧z.Perm (P++Q)∧aJx z
 | [],P,h=>⟨P,by rw[aAc];rfl,by rw[aAc],h⟩
 |x::Q,P,h=>by
  obtain⟨z,h1,h2,h3⟩:=aMy la x P.length P (Q++R) rfl h;obtain⟨z',k1,k2,k3⟩:=aNd la R Q z h3;refine⟨z',?_,k2.trans ?_,k3⟩
  ·rw[←k1,h2.length_eq,aAb (la++z),←h1,aAe,aDa,show la++P++x::Q++R=la++P++x::(Q++R) by simp];rfl
  ·refine(h2.append_right Q).trans ?_;rw[aAb];exact aQt _
theorem aKd(la P lb:List dK):∃z,mB la.length (la.length+P.length) (la++P++lb)=la++z++lb∧z.Perm P∧aJx z:=by
 cases P with
 |nil=>exact⟨[],by unfold mB;rw[show la.length+([]:List dK).length - (la.length+1)=0 by simp];rfl,aQt _,List.Pairwise.nil⟩
 |cons x Q =>
  obtain⟨z,h1,h2,h3⟩:=aNd la lb Q [x] (aFq _ _);refine⟨z,?_,h2,h3⟩;unfold mB;rw[←h1,aAs,show la.length+(Q.length+1) - (la.length+1)=Q.length by omega,show la++x::Q++lb=la++[x]++Q++lb by simp];rfl
end
end Go.Proofs.YtmilalkjbojciaaGreat.Sep
