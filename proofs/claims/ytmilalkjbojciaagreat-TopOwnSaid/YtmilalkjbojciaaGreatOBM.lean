/- Part BM: what it needs. No condition. -/
import Derived.Test.YtmilalkjbojciaaGreatOAA
import Derived.Test.YtmilalkjbojciaaGreatOBL
set_option maxRecDepth 100000
set_option maxHeartbeats 8000000
open Go.Proofs.Tryz
namespace Go.Proofs.YtmilalkjbojciaaGreat.Sep
open Go.RowKit Reg Oct
open Mem hiding Rd
section
variable (E:Env) (P:List Ov) (g:Nat) (cf:fU) (n:Nd) (k:Int)
theorem PY(hu:n.up=true):G E 69 [pt g] [bZ P g cf n k] (cM (.bool true) [bZ P g cf n k]):=by rw[←hu];exact TI E P g cf n k
theorem QP(A:Option Addr)(m c:Nat)(l:List Rc)(hr:Rd E jE A m c (l.map Rc.r))(hl:∀x∈l,x.ok)(hm:m≤100000):G E 116 [pt g,.slice A m c] [bZ P g cf n k,aI P] λe H'=>∃Q,e=.returned (.tuple #[.int .i64 (n.take l).2.1,.int .i64 (n.take l).2.2])∧H'=[bZ (P++Q) g cf (n.take l).1 k,aI (P++Q)]:=by
 have hmax:=fX;have hml:m=l.length:=by have:=hr.len;rwa [aAw] at this
 unfold Nd.take;by_cases hu:n.up=true
 ·rw[if_pos hu];have hup:=λE'=>PY E' P g cf n k hu;refine t_ func116 ntmps116 ?_;repeat first|refine v_ ?_|intro
  refine bK hup ?_;repeat first|refine v_ ?_|intro
  refine C.scan (Y:=Nd×List Ov) (l:=l.map Rc.r) hr.len (λi y=>[(0,pt g),(1,.slice A m c),(12,.slice A m c),(13,.int .i64 m),(14,.int .i64 i)])
   (λi y=>[bZ (P++y.2) g cf y.1 k,aI (P++y.2)]) (λi y=>y.1.up=true∧n.AQ l 0=y.1.AQ (l.drop i) i) (n,[]) aD (by dsimp only;rw[aAc];exact aA) ⟨hu,by rw[aCh]⟩ ?_ ?_
  ·rintro i ⟨n1,Q⟩ xr F hi hxr ⟨hu1,ht⟩;dsimp only at hu1 ht⊢;obtain⟨x,hx,rfl⟩:∃x,l[i]?=some x∧x.r=xr:=by
    rw[aBf] at hxr;cases h:l[i]? with
    |none=>rw[h] at hxr;cases hxr
    |some x=>rw[h] at hxr;exact⟨x,rfl,aDk hxr⟩
   have law:=λE'=>Jf E' (P++Q) g cf n1 k hu1 x (hl x (aAi hx));have hlt:=(aAd.1 hx).1;have e1:l.drop i=x::l.drop (i+1):=by rw[aAm hlt,(aAd.1 hx).2]
   have hup2:=qU n1 x;rw[ht,e1,Nd.AQ];generalize n1.write x=w at *;obtain⟨n2,e2⟩:=w;dsimp only at law hup2⊢;repeat first|refine v_ ?_|intro
   refine bW law ?_;rintro e H' ⟨Q2,rfl,rfl⟩;refine gk bG ?_;by_cases he:e2=0
   ·subst he;rw[if_pos rfl];repeat first|refine v_ ?_|intro
    exact⟨(n2,Q++Q2),aD,(by dsimp only;rw[←aAb];exact aA),by rw[hup2];exact hu1,rfl⟩
   ·rw[if_neg he];repeat first|refine v_ ?_|intro
    exact vT (H':=[bZ (P++(Q++Q2)) g cf n2 k,aI (P++(Q++Q2))]) rfl aF aF (by rw[←aAb];exact aA) ⟨Q++Q2,rfl,rfl⟩
  ·rintro⟨n1,Q⟩ F ⟨hu1,ht⟩;dsimp only at hu1 ht⊢;rw[aCn o_,Nd.AQ] at ht;rw[ht];have hmm:m≤maxLen:=by omega
   repeat first|refine v_ ?_|intro
   exact Cz ⟨Q,rfl,rfl⟩
 ·rw[if_neg hu];have hup:=λE'=>TI E' P g cf n k;rw[show n.up=false by simpa using hu] at hup;refine t_ func116 ntmps116 ?_;repeat first|refine v_ ?_|intro
  refine bK hup ?_;repeat first|refine v_ ?_|intro
  exact vT (H':=[bZ (P++[]) g cf n k,aI (P++[])]) rfl aF aF (by rw[aAc];exact aA) ⟨[],rfl,rfl⟩
end
def Nd.tries(n:Nd)(now:Int):List dK→List dK→Nd×List dK×Int
 | [],acc=>(n,acc,0)
 |q::l,acc=>if (n.write (.DG q.key now)).2=0 then Nd.tries (n.write (.DG q.key now)).1 now l (acc++[q]) else((n.write (.DG q.key now)).1,acc,(n.write (.DG q.key now)).2)
def Nd.qD(n:Nd)(cf:fU)(now:Int):Nd×List dK×Int :=
 if n.up then
  (if (n.tries now (n.s.ready cf now) []).1.sync.2=0 then((n.tries now (n.s.ready cf now) []).1.sync.1,(n.tries now (n.s.ready cf now) []).2) else((n.tries now (n.s.ready cf now) []).1.sync.1,[],(n.tries now (n.s.ready cf now) []).1.sync.2))
 else(n,[],19)
theorem D8(s:Sv)(cf:fU)(now:Int):(s.ready cf now).length≤s.ps.length:=K4 (λi s=>by unfold fL;split<;>simp) _ _
section
variable (E:Env) (P:List Ov) (g:Nat) (cf:fU) (n:Nd) (k:Int)
theorem YJ(now:Int)(hnow:dQ now)(hk:k≤10000000000000):G E 118 [pt g,.int .i64 now] [bZ P g cf n k,aI P] λe H'=>∃Q A m c,m=(n.qD cf now).2.1.length∧(m≤c∧c≤maxLen)∧e=.returned (.tuple #[.slice A m c,.int .i64 (n.qD cf now).2.2])∧H'=[own cP A m c (n.qD cf now).2.1,bZ (P++Q) g cf (n.qD cf now).1 (k+2048),aI (P++Q)]:=by
 have hmax:=fX;unfold Nd.qD;by_cases hu:n.up=true
 ·rw[if_pos hu];refine oG (λy ho _=>?_) (λy ho hd=>by rw[hu] at hd;cases hd);have hnp:=(ho.gd hu).1.np;have hrl:=D8 n.s cf now;have rdy:=λE'=>Vv E' P y.gs n.s cf now;generalize n.s.ready cf now=rs at *;dsimp only[fV,List.cons_append,List.nil_append,fU.cs] at rdy⊢;refine t_ func118 ntmps118 ?_;repeat first|refine v_ ?_|intro
  refine eV (λ(E':Env)=>qL E' g cf n.r y.gm y.gd) ?_;repeat ((fail_if_success (refine C.seq (x:=Code.region 5 _ _) ?_));first|refine Cx ?_|refine k_ ?_|intro _|refine Dr.two ?_ ?_)
  refine C.BI (X:=Nd×List dK×Int×List Ov×Option Addr×Nat) (λz=>[(0,pt g),(6,.slice z.2.2.2.2.1 z.2.1.length z.2.2.2.2.2),(7,.int .i64 z.2.2.1)]) (λz=>[own cP z.2.2.2.2.1 z.2.1.length z.2.2.2.2.2 z.2.1,bZ (P++z.2.2.2.1) g cf z.1 k,aI (P++z.2.2.2.1)]) (λz=>n.tries now rs []=(z.1,z.2.1,z.2.2.1)∧z.1.up=true∧z.2.1.length≤z.2.2.2.2.2∧z.2.2.2.2.2≤maxLen) ?_ ?_
  ·repeat first|refine v_ ?_|intro
   refine rB (l_ [0,1,2,3,4,5,6,7,8,9,10,11,14] (g_ 12 (n_ 13 .nil))) ([aJ g 181 (ET cf n.r (pt y.gm) y.gd),aJ y.gm 191 [pt y.gl,pt y.gs]]) ?_;repeat first|refine v_ ?_|intro
   refine iO rdy ?_;rintro e H' ⟨O,oc,rfl,rfl⟩;refine gd bG aA ?_;have hrm:rs.length≤maxLen:=by omega
   repeat first|refine v_ ?_|intro
   refine C.conv (aB.trans (aB.aV (l:=fV P g cf n k y++[aI P,own cP O rs.length oc rs]) aC) (aB.cF (cA.append (bZ.up ho hu) cA.refl))) ?_;dsimp only[List.cons_append,List.nil_append];refine C.scan (Y:=Nd×List dK×List Ov×Option Addr×Nat) (l:=rs) rfl (λi z=>[(0,pt g),(1,.int .i64 now),(6,.slice z.2.2.2.1 z.2.1.length z.2.2.2.2),(7,.int .i64 0),(26,.slice O rs.length oc),(27,.int .i64 rs.length),(28,.int .i64 i)])
    (λi z=>[own cP z.2.2.2.1 z.2.1.length z.2.2.2.2 z.2.1,bZ (P++z.2.2.1) g cf z.1 k,aI (P++z.2.2.1),own cP O rs.length oc rs]) (λi z=>z.1.up=true∧n.tries now rs []=z.1.tries now (rs.drop i) z.2.1∧z.2.1.length=i∧z.2.1.length≤z.2.2.2.2∧z.2.2.2.2≤maxLen) (n,[],[],none,0) aD (by dsimp only;rw[aAc];exact aB.trans (aB.nil cP) aA) ⟨hu,by rw[aCh],rfl,aAf _,aAh _⟩ ?_ ?_
   ·rintro i ⟨n1,acc,Q,B,d⟩ q F hi hq ⟨hu1,ht,hai,h1,h2⟩;dsimp only at hu1 ht hai h1 h2⊢;have law:=λE'=>Jf E' (P++Q) g cf n1 k hu1 (.DG q.key now) hnow;have hlt:=(aAd.1 hq).1;have e1:rs.drop i=q::rs.drop (i+1):=by rw[aAm hlt,(aAd.1 hq).2]
    have hup2:=qU n1 (.DG q.key now);rw[e1,Nd.tries] at ht;generalize n1.write (.DG q.key now)=w at *;obtain⟨n2,e2⟩:=w;dsimp only at law hup2 ht⊢;repeat first|refine v_ ?_|intro
    refine bK (λ(E':Env)=>Tk E' q.key now) ?_;repeat first|refine v_ ?_|intro
    refine bW law ?_;rintro e H' ⟨Q2,rfl,rfl⟩;refine gk bG ?_;by_cases he:e2=0
    ·subst he;rw[if_pos rfl] at ht;repeat first|refine v_ ?_|intro
     rename_i B2 d2 h3 h4;have hl1:(acc++[q]).length=acc.length+1:=by simp
     exact⟨(n2,acc++[q],Q++Q2,B2,d2),(by dsimp only;rw[hl1];exact aD),(by dsimp only;rw[hl1,←aAb];exact aA),by rw[hup2];exact hu1,ht,by dsimp only;omega,by dsimp only;omega,h4⟩
    ·rw[if_neg he] at ht;repeat first|refine v_ ?_|intro
     exact⟨(n2,acc,e2,Q++Q2,B,d),aD,(by dsimp only;rw[←aAb];exact aA),ht,by rw[hup2];exact hu1,h1,h2⟩
   ·rintro⟨n1,acc,Q,B,d⟩ F ⟨hu1,ht,hai,h1,h2⟩;dsimp only at hu1 ht hai h1 h2⊢;rw[aCy,Nd.tries] at ht;repeat first|refine v_ ?_|intro
    exact⟨(n1,acc,0,Q,B,d),aD,aA,ht,hu1,h1,h2⟩
  ·rintro⟨n1,acc,sh,Q,B,d⟩ F ⟨ht,hu1,h1,h2⟩;dsimp only at ht hu1 h1 h2⊢;rw[ht];dsimp only;have syn:=λE'=>KU E' (P++Q) g cf n1 k hk;generalize n1.sync=w at *;obtain⟨n2,e2⟩:=w;dsimp only at syn⊢;repeat first|refine v_ ?_|intro
   refine bK syn ?_;by_cases he:e2=0
   ·subst he;rw[if_pos rfl];repeat first|refine v_ ?_|intro
    exact Cz ⟨Q,B,acc.length,d,rfl,⟨h1,h2⟩,rfl,rfl⟩
   ·rw[if_neg he];repeat first|refine v_ ?_|intro
    exact vT rfl aF aF (aB.trans (aB.nil cP) (aB.aV (l:=[own cP none 0 0 [],bZ (P++Q) g cf n2 (k+2048),aI (P++Q)]) aC)) ⟨Q,none,0,0,rfl,⟨aAf _,aAh _⟩,rfl,rfl⟩
 ·rw[if_neg hu];have hup:=λE'=>TI E' P g cf n k;rw[show n.up=false by simpa using hu] at hup;refine t_ func118 ntmps118 ?_;repeat first|refine v_ ?_|intro
  refine bK hup ?_;repeat first|refine v_ ?_|intro
  exact vT (H':=[own cP none 0 0 [],bZ (P++[]) g cf n (k+2048),aI (P++[])]) rfl aF aF (aB.trans (aB.nil cP) (aB.trans (aB.aV (l:=[own cP none 0 0 [],bZ P g cf n k,aI P]) aC) (aB.cF (cA.cons cA.refl (cA.cons (bZ.mono o_) (by rw[aAc];exact cA.refl)))))) ⟨[],none,0,0,rfl,⟨aAf _,aAh _⟩,rfl,rfl⟩
end
theorem Dr.Zh{P:Program}{N:Nat}{E:Env}{z:Nat}{Q:QF}{F:Nat→Value}{H:List aL}{todo:Td}{l:List Oper}{Hk:List aL}{d:Option Nat}{op:Op}{ty:TypeId}{pos:String}{af:Array Edge}{gd:Option (Nat×Bool)}(hi:nth l z=some ⟨d,op,ty,pos,af,gd⟩)(hd:∀k,d=some k→k<N)(hg:rE l N F true gd)
  (h:gK P N E F H ⟨d,op,ty,pos,af,gd⟩ λv H'=>FU P N E z l Q todo (DJ F d v) H'):Dr P N E z l Q Hk (.one z true todo) F H:=Dr.Iq hi hd hg h λ_ _ hk=>hk
theorem o6{N z:Nat}{E:Env}{F:Nat→Value}{H R Hp:List aL}{Q:QF}{f:FuncId}{ops:List Operand}{tys:Array TypeId}{d:Nat}{ty:TypeId}{pos:String}{af:Array Edge}{Q1:Ending→List aL→Prop}{os:List Oper}{todo:Td}{Hk:List aL}{gd:Option (Nat×Bool)}(hi:nth os z=some ⟨some d,.call { callee:=.value (.func f),args:=ops.toArray,argTypes:=tys },ty,pos,af,gd⟩)(hd:d<N)(hg:rE os N F true gd)(hk:xA f=true)(hp:cS Hp H R)
  (law:∀E',Sub E R E'→aK prog E' f (AO F ops).toArray Hp Q1) (hQ:∀e H',Q1 e H'→∃v,e=.returned v∧∃H2,wK H' R H2∧FU prog N E z os Q todo (pT F d v) H2):Dr prog N E z os Q Hk (.one z true todo) F H:=by
 obtain⟨fn,h1,h2,h3⟩:=iY hk;exact Dr.Zh hi (by rintro k ⟨⟩;exact hd) hg (S.call rfl rfl h1 h2 h3 hp law hQ)
section
variable (E:Env) (P:List Ov) (g:Nat) (cf:fU) (n:Nd) (k:Int)
theorem Wt(hk:k≤10000000000000):G E 130 [pt g] [bZ P g cf n k] (cM (.int .i64 n.pack.2) [bZ P g cf n.pack.1 (k+4128)]):=by
 have hmax:=fX;refine oG (λy ho hu=>?_) (λy ho hu=>?_)
 ·rw[aAc];have hok:=ho.pack;have put:=λE'=>SV E' P y.gs n.s;have swp:=λE' A m c hr=>Wq E' y.gl y.gd n.ls k hk A m c n.At hr;have himg:n.At=[5]++fJ n.s:=rfl;rw[himg] at swp;unfold Nd.pack at hok⊢;rw[if_pos hu] at hok⊢;have hswe:(n.ls.swap n.At).1≠0→(n.ls.swap n.At).1≠19→(n.ls.swap n.At).2=n.ls:=λh0 h1=>by
   unfold LS.swap at h0 h1⊢;by_cases c1:n.At.length=0
   ·rw[if_pos c1]
   rw[if_neg c1] at h0 h1⊢;by_cases c2:4096<n.At.length
   ·rw[if_pos c2]
   rw[if_neg c2] at h0 h1⊢;by_cases c3:32*n.ls.N<n.At.length+7
   ·rw[if_pos c3]
   rw[if_neg c3] at h0 h1⊢;by_cases c4:n.ls.dead=true
   ·rw[if_pos c4]
   rw[if_neg c4] at h0 h1⊢;by_cases c5:iT n.ls.aG 0 (32*n.ls.N)=true
   ·rw[if_pos c5] at h1;exact absurd rfl h1
   rw[if_neg c5] at h0 h1⊢;by_cases c6:iT (rT n.ls) 0 (n.At.length+7)=true
   ·rw[if_pos c6] at h1;exact absurd rfl h1
   rw[if_neg c6] at h0 h1⊢;by_cases c7:jD (yA n.ls n.At)=true
   ·rw[if_pos c7] at h1;exact absurd rfl h1
   rw[if_neg c7] at h0;exact absurd rfl h0
  rw[himg] at hok hswe⊢;generalize n.ls.swap ([5]++fJ n.s)=res at *;obtain⟨cd,z2⟩:=res;dsimp only at hok swp hswe⊢;generalize fJ n.s=ib at *;by_cases h0:cd=0
  ·subst h0;rw[if_pos rfl] at hok⊢;dsimp only[fV];refine t_ func130 ntmps130 ?_;repeat first|refine v_ ?_|refine Dr.two ?_ ?_|intro
   refine eV (λ(E':Env)=>qL E' g cf n.r y.gm y.gd) ?_;repeat first|refine v_ ?_|refine Dr.two ?_ ?_|intro
   refine rB (l_ [0,1,2,3,4,5,6,7,9,10,11,12,13,14,15] (.two 8 (g_ 16 (g_ 17 (g_ 18 (g_ 19 (n_ 20 .nil))))) 16 (g_ 8 (g_ 17 (g_ 18 (g_ 19 (n_ 20 .nil))))))) ([aJ g 181 (ET cf n.r (pt y.gm) y.gd),aJ y.gm 191 [pt y.gl,pt y.gs]]) ?_;repeat first|refine v_ ?_|intro
   refine Dr.two ?_ ?_;rotate_left
   ·refine yB rfl sD bA sK aC (λE' hE=>put E') ?_;rintro e H' ⟨A,m,c,⟨h1,h2,h3⟩,rfl,rfl⟩;repeat first|refine v_ ?_|refine Dr.two ?_ ?_|intro
    rw[show UInt8.ofNat (Int.toNat 5)=5 from rfl];refine Ib (λ(E':Env)=>swp E' _ (1+m) _) ?_;repeat first|refine v_ ?_|refine Dr.two ?_ ?_|intro
    refine eJ (λ(E':Env)=>tZ E' g 0 (by decide)) ?_;repeat first|refine v_ ?_|refine Dr.two ?_ ?_|intro
    exact aR rfl aF (aB.trans (aB.aV (l:=fV P g cf ⟨n.r,z2,true,⟨some n.s,[]⟩,n.s⟩ (k+4128) y) aC) (aB.cF (bZ.up hok rfl))) ⟨rfl,rfl⟩
   ·repeat first|refine v_ ?_|intro
    refine iO put ?_;rintro e H' ⟨A,m,c,⟨h1,h2,h3⟩,rfl,rfl⟩;repeat first|refine v_ ?_|refine Dr.two ?_ ?_|intro
    rw[show UInt8.ofNat (Int.toNat 5)=5 from rfl];refine Ib (λ(E':Env)=>swp E' _ (1+m) _) ?_;repeat first|refine v_ ?_|refine Dr.two ?_ ?_|intro
    refine eJ (λ(E':Env)=>tZ E' g 0 (by decide)) ?_;repeat first|refine v_ ?_|refine Dr.two ?_ ?_|intro
    exact aR rfl aF (aB.trans (aB.aV (l:=fV P g cf ⟨n.r,z2,true,⟨some n.s,[]⟩,n.s⟩ (k+4128) y) aC) (aB.cF (bZ.up hok rfl))) ⟨rfl,rfl⟩
  ·rw[if_neg h0] at hok⊢;by_cases h19:cd=19
   ·subst h19;rw[if_pos rfl] at hok⊢;have dd:=λE'=>Gk E' P g cf ⟨n.r,z2,false,n.lc,n.s⟩ (k+4128) y;dsimp only[fV];refine t_ func130 ntmps130 ?_;repeat first|refine v_ ?_|refine Dr.two ?_ ?_|intro
    refine eV (λ(E':Env)=>qL E' g cf n.r y.gm y.gd) ?_;repeat first|refine v_ ?_|refine Dr.two ?_ ?_|intro
    refine C.bL 19 (l_ [0,1,2,3,4,5,6,7,9,10,11,12,13,14,15] (.two 8 (g_ 16 (g_ 17 (g_ 18 (g_ 19 (g_ 20 .nil))))) 16 (g_ 8 (g_ 17 (g_ 18 (g_ 19 (g_ 20 .nil))))))) ([aJ g 181 (ET cf n.r (pt y.gm) y.gd),aJ y.gm 191 [pt y.gl,pt y.gs]]) q_ q_ aA ?_;repeat first|refine v_ ?_|intro
    refine Dr.two ?_ ?_;rotate_left
    ·refine yB rfl sD bA sK aC (λE' hE=>put E') ?_;rintro e H' ⟨A,m,c,⟨h1,h2,h3⟩,rfl,rfl⟩;repeat first|refine v_ ?_|refine Dr.two ?_ ?_|intro
     rw[show UInt8.ofNat (Int.toNat 5)=5 from rfl];refine Ib (λ(E':Env)=>swp E' _ (1+m) _) ?_;repeat first|refine v_ ?_|refine Dr.two ?_ ?_|intro
     refine o6 rfl sD bA sK aC (λE' hE=>dd E') ?_;rintro e H' ⟨rfl,rfl⟩;repeat first|refine v_ ?_|refine Dr.two ?_ ?_|intro
     exact aR rfl aF (aB.trans (aB.aV (l:=oT g cf ⟨n.r,z2,false,n.lc,n.s⟩ (k+4128) y) aC) (aB.cF (bZ.dn hok rfl))) ⟨rfl,rfl⟩
    ·repeat first|refine v_ ?_|intro
     refine iO put ?_;rintro e H' ⟨A,m,c,⟨h1,h2,h3⟩,rfl,rfl⟩;repeat first|refine v_ ?_|refine Dr.two ?_ ?_|intro
     rw[show UInt8.ofNat (Int.toNat 5)=5 from rfl];refine Ib (λ(E':Env)=>swp E' _ (1+m) _) ?_;repeat first|refine v_ ?_|refine Dr.two ?_ ?_|intro
     refine o6 rfl sD bA sK aC (λE' hE=>dd E') ?_;rintro e H' ⟨rfl,rfl⟩;repeat first|refine v_ ?_|refine Dr.two ?_ ?_|intro
     exact aR rfl aF (aB.trans (aB.aV (l:=oT g cf ⟨n.r,z2,false,n.lc,n.s⟩ (k+4128) y) aC) (aB.cF (bZ.dn hok rfl))) ⟨rfl,rfl⟩
   ·rw[if_neg h19] at hok⊢;have hz:=hswe h0 h19;subst hz;dsimp only[fV];refine t_ func130 ntmps130 ?_;repeat first|refine v_ ?_|refine Dr.two ?_ ?_|intro
    refine eV (λ(E':Env)=>qL E' g cf n.r y.gm y.gd) ?_;repeat first|refine v_ ?_|refine Dr.two ?_ ?_|intro
    refine rB (l_ [0,1,2,3,4,5,6,7,9,10,11,12,13,14,15] (.two 8 (g_ 16 (g_ 17 (g_ 18 (g_ 19 (n_ 20 .nil))))) 16 (g_ 8 (g_ 17 (g_ 18 (g_ 19 (n_ 20 .nil))))))) ([aJ g 181 (ET cf n.r (pt y.gm) y.gd),aJ y.gm 191 [pt y.gl,pt y.gs]]) ?_;repeat first|refine v_ ?_|intro
    refine Dr.two ?_ ?_;rotate_left
    ·refine yB rfl sD bA sK aC (λE' hE=>put E') ?_;rintro e H' ⟨A,m,c,⟨h1,h2,h3⟩,rfl,rfl⟩;repeat first|refine v_ ?_|refine Dr.two ?_ ?_|intro
     rw[show UInt8.ofNat (Int.toNat 5)=5 from rfl];refine Ib (λ(E':Env)=>swp E' _ (1+m) _) ?_;repeat first|refine v_ ?_|refine Dr.two ?_ ?_|intro
     refine eJ (λ(E':Env)=>tZ E' g cd h19) ?_;repeat first|refine v_ ?_|refine Dr.two ?_ ?_|intro
     exact aR rfl aF (aB.trans (aB.aV (l:=fV P g cf n (k+4128) y) aC) (aB.cF (bZ.up ho hu))) ⟨rfl,rfl⟩
    ·repeat first|refine v_ ?_|intro
     refine iO put ?_;rintro e H' ⟨A,m,c,⟨h1,h2,h3⟩,rfl,rfl⟩;repeat first|refine v_ ?_|refine Dr.two ?_ ?_|intro
     rw[show UInt8.ofNat (Int.toNat 5)=5 from rfl];refine Ib (λ(E':Env)=>swp E' _ (1+m) _) ?_;repeat first|refine v_ ?_|refine Dr.two ?_ ?_|intro
     refine eJ (λ(E':Env)=>tZ E' g cd h19) ?_;repeat first|refine v_ ?_|refine Dr.two ?_ ?_|intro
     exact aR rfl aF (aB.trans (aB.aV (l:=fV P g cf n (k+4128) y) aC) (aB.cF (bZ.up ho hu))) ⟨rfl,rfl⟩
 ·rw[aAc];unfold Nd.pack;rw[if_neg (by rw[hu];decide)];refine t_ func130 ntmps130 ?_;repeat first|refine v_ ?_|refine Dr.two ?_ ?_|intro
  refine eV (λ(E':Env)=>Ae E' g cf n.r y.gd) ?_;repeat first|refine v_ ?_|refine Dr.two ?_ ?_|intro
  exact aR rfl aF (aB.trans (aB.aV (l:=oT g cf n k y) aC) (aB.cF ((cA.cons cA.refl (kJ.mono o_)).trans (bZ.dn ho hu)))) ⟨rfl,rfl⟩
end
end Go.Proofs.YtmilalkjbojciaaGreat.Sep
