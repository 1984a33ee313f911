/- Part AX: what it needs. No condition. -/
import Derived.Test.YtmilalkjbojciaaGreatRAA
import Derived.Test.YtmilalkjbojciaaGreatRAV
import Derived.Test.YtmilalkjbojciaaGreatRAW
import Derived.Test.YtmilalkjbojciaaGreatRAS
import Derived.Test.YtmilalkjbojciaaGreatRAK
set_option maxRecDepth 100000
set_option maxHeartbeats 8000000
open Go.Proofs.Tryz
namespace Go.Proofs.YtmilalkjbojciaaGreat.Sep
open Go.RowKit Reg Oct
open Mem hiding Rd
def vE:Ty Nat where
 val g:=pt g
 size:=1
 bytes:=8
 tid:=122
 zero:=.pointer none
 hlen _:=rfl
 lJ a u h:=by simp[Value.cells] at h;subst h;rfl
 gL:=sD
 hzero:=rfl
 fW:=q_
 nR:=.inr ⟨q_,λ_=>rfl⟩
instance:kQ 122 Nat vE:=⟨rfl⟩
instance:lL vE 8:=⟨rfl⟩
instance:cL 121 [.pointer none,.pointer none,.int .i64 0,.slice none 0 0,.int .i64 0,.int .i64 0,.int .i64 0,.int .i64 0,.int .i64 0,.slice none 0 0,.int .i64 0] [(0,4),(4,5),(9,1),(10,1)]:=⟨⟨q_,q_⟩⟩
instance:cL 118 [.pointer none,.pointer none,.int .i64 0,.slice none 0 0] [(0,1),(1,1),(2,1),(3,1)]:=⟨⟨q_,q_⟩⟩
structure AM where
 gw:Nat
 gg:Nat
 sA:Option Addr
 sc:Nat
 nA:Option Addr
 nc:Nat
 gs:List Nat
abbrev wC(x:AM)(now:Int)(sn:Nat)(cf:fU)(nn:Nat)(sub:Int):List Value:=[pt x.gw,pt x.gg,.int .i64 now,.slice x.sA sn x.sc,.int .i64 cf.bN,.int .i64 cf.eF,.int .i64 cf.dC,.int .i64 cf.base,.int .i64 cf.cap,.slice x.nA nn x.nc,.int .i64 sub]
def jW(ws:List fD)(m:Mg):List fD×Int:=if m.check≠0 then(ws,0) else((zX ws ⟨m.to,m.enc,false⟩).1,if (zX ws ⟨m.to,m.enc,false⟩).2 then 1 else 0)
def DB(m:Mg):Mg:=⟨4,9,m.fr,0,0,0,0,0,[],[],m.key,ez⟩
section
variable (E:Env) (g:Nat) (x:AM) (now:Int) (sn:Nat) (cf:fU) (nn:Nat) (sub:Int) (ws:List fD)
theorem BV(m:Mg)(A:Option Addr)(n c:Nat)(B:Option Addr)(k d:Nat)(hI:Rd E fN A n c m.ids)(hC:Rd E bE B k d m.iS):G E 113 [pt g,.agg (oK m A n c B k d).toArray] [aJ g 121 (wC x now sn cf nn sub),aZ x.gw ws] (cM (.int .i64 (jW ws m).2) [aJ g 121 (wC x now sn cf nn sub),aZ x.gw (jW ws m).1]):=by
 unfold jW;by_cases hc:m.check=0
 ·rw[if_neg (by rw[hc];decide)];have hsz:=Mg.size hc;have put:=λM hI hC=>KQ (E:=M) (m:=m) (A:=A) (n:=n) (c:=c) (B:=B) (k:=k) (d:=d) hI hC hc;have wp:=λM X nx cx hr hnx=>TO M x.gw ws m.to X nx cx m.enc hr hnx;generalize zX ws ⟨m.to,m.enc,false⟩=r at *;obtain⟨ws',ok⟩:=r;dsimp only at wp⊢;cases ok with
  |true =>
   refine t_ func113 ntmps113 ?_;repeat first|refine v_ ?_|intro
   refine C1 put ?_;rintro e H' ⟨O,oc,rfl,rfl⟩;repeat first|refine v_ ?_|intro
   rename_i g3;refine rB (l_ [0,1,2,3,4,5,6,7,8,9] (g_ 10 (l_ [11,12] .nil))) ([aJ g 121 _,aJ g3 195 _]) ?_;repeat first|refine v_ ?_|intro
   refine Ib (λM h1=>wp M O (m.body.length+7) oc h1 (by omega)) ?_;repeat first|refine v_ ?_|intro
   exact B7
  |false =>
   refine t_ func113 ntmps113 ?_;repeat first|refine v_ ?_|intro
   refine C1 put ?_;rintro e H' ⟨O,oc,rfl,rfl⟩;repeat first|refine v_ ?_|intro
   rename_i g3;refine rB (l_ [0,1,2,3,4,5,6,7,8,9] (g_ 10 (l_ [11,12] .nil))) ([aJ g 121 _,aJ g3 195 _]) ?_;repeat first|refine v_ ?_|intro
   refine Ib (λM h1=>wp M O (m.body.length+7) oc h1 (by omega)) ?_;repeat first|refine v_ ?_|intro
   exact B7
 ·rw[if_pos hc];have put:=λM hI hC=>Ks (E:=M) (m:=m) (A:=A) (n:=n) (c:=c) (B:=B) (k:=k) (d:=d) hI hC hc;refine t_ func113 ntmps113 ?_;repeat first|refine v_ ?_|intro
  refine DY put ?_;repeat first|refine v_ ?_|intro
  rename_i g3;refine rB (l_ [0,1,2,3,4,5,6,7,8,9] (g_ 10 (l_ [11,12] .nil))) ([aJ g 121 _,aJ g3 195 _]) ?_;repeat first|refine v_ ?_|intro
  exact B7
end
section
variable (E:Env) (g:Nat) (x:AM) (now:Int) (sn:Nat) (cf:fU) (nn:Nat) (sub:Int) (ws:List fD)
theorem tD(e:Int):G E 50 [.int .i64 e] [] (cM (.agg (⟨e,0,0⟩:wM).cs.toArray) []):=by
 refine t_ func50 ntmps50 ?_;repeat first|refine v_ ?_|intro
 exact Kz
theorem Ix(hb:gE E g (wC x now sn cf nn sub))(hn:nn≤4):G E 49 [pt g] [] (cM (.bool (decide ((0:Int)<nn))) []):=by
 refine t_ func49 ntmps49 ?_;repeat first|refine v_ ?_|intro
 exact B7
theorem EN(r:Int)(hb:gE E g (wC x now sn cf nn sub))(hn:nn≤4)(h1:1≤nn)(hr:r<0∨(nn:Int)≤r):G E 52 [pt g,.int .i64 r] [] (cM (.pointer none) []):=by
 have his:=λM hb=>Ix M g x now sn cf nn sub hb hn;rw[decide_eq_true o_] at his;have hd:decide (0≤r∧r≤(nn:Int) - 1)=false:=decide_eq_false o_;refine t_ func52 ntmps52 ?_;repeat first|refine v_ ?_|intro
 refine eV his ?_;repeat first|refine v_ ?_|intro
 exact B7
theorem qW(r:Nat)(gr:Nat)(hb:gE E g (wC x now sn cf nn sub))(hn:nn≤4)(hG:Rd E vE x.nA nn x.nc x.gs)(hr:x.gs[r]?=some gr):G E 52 [pt g,.int .i64 r] [] (cM (pt gr) []):=by
 have hl:=hG.len;have hlt:=(aAd.1 hr).1;have his:=λM hb=>Ix M g x now sn cf nn sub hb hn;rw[decide_eq_true o_] at his;have hd:decide (0≤(r:Int)∧(r:Int)≤(nn:Int) - 1)=true:=decide_eq_true o_;refine t_ func52 ntmps52 ?_;repeat first|refine v_ ?_|intro
 refine eV his ?_;repeat first|refine v_ ?_|intro
 exact B7
end
def gG(ws:List fD)(r:Int)(l:List dK)(m:Mg):(List fD×Int×List dK)×Int :=
 if (L8 r l ⟨m.key,m.bC⟩).2 then(((jW ws (DB m)).1,(L8 r l ⟨m.key,m.bC⟩).1.1,(L8 r l ⟨m.key,m.bC⟩).1.2),(jW ws (DB m)).2) else((ws,(L8 r l ⟨m.key,m.bC⟩).1.1,(L8 r l ⟨m.key,m.bC⟩).1.2),0)
def uD(now n:Int):Int×wM:=if (1≤n∧n≤1000)∧now+n≤1073741824 then(now+n,⟨0,now+n,0⟩) else(now,⟨4,0,0⟩)
def kA(sub:Int)(n:Nd)(c:aX):Int×Nd×wM :=
 if 48≤sub then(sub,n,⟨3,0,0⟩)
 else if (n.fC c).2.2≠0 then(sub,(n.fC c).1,⟨(n.fC c).2.2,0,0⟩)
 else(sub+1,(n.fC c).1,⟨0,(n.fC c).2.1.id.seq,(cE (n.fC c).1.s.v (n.fC c).2.1.id).1.code⟩)
theorem aHy{n:Nd}{c:aX}(h:(n.fC c).2.2=0):(n.fC c).1.up=true:=by
 unfold Nd.fC at h⊢;split at h
 ·rename_i hu;rw[if_pos hu];split at h
  ·rename_i h1;rw[if_pos h1];split
   ·rw[qU];exact hu
   ·rw[qU];exact hu
  ·rename_i h1;rw[if_neg h1];exact hu
 ·cases h
section
variable (E:Env) (P:List Ov) (g:Nat) (x:AM) (now:Int) (sn:Nat) (cf:fU) (nn:Nat) (sub:Int) (ws:List fD)
theorem LJ(r:Int)(l:List dK)(hl:l.length≤1000000)(m:Mg)(A:Option Addr)(n c:Nat)(B:Option Addr)(k d:Nat):G E 122 [pt g,.agg (oK m A n c B k d).toArray] [aJ g 121 (wC x now sn cf nn sub),aZ x.gw ws,cK x.gg r l] (cM (.int .i64 (gG ws r l m).2) [aJ g 121 (wC x now sn cf nn sub),aZ x.gw (gG ws r l m).1.1,cK x.gg (gG ws r l m).1.2.1 (gG ws r l m).1.2.2]):=by
 have gdo:=λM=>Yg M x.gg r l ⟨m.key,m.bC⟩ hl;have post:=λM=>BV M g x now sn cf nn sub ws (DB m) none 0 0 none 0 0 (Rd.nil _ _) (Rd.nil _ _);unfold gG;generalize L8 r l ⟨m.key,m.bC⟩=q at *;generalize jW ws (DB m)=p at *;obtain⟨⟨r',l'⟩,ok⟩:=q;obtain⟨ws',a⟩:=p;dsimp only at gdo post⊢;cases ok with
 |true =>
  simp only[if_true];refine t_ func122 ntmps122 ?_;repeat first|refine v_ ?_|intro
  rename_i g3;refine rB (l_ [0,1,2,3,4,5,6,7,8] (g_ 9 (n_ 10 .nil))) ([aJ g 121 _,aJ g3 195 _]) ?_;repeat first|refine v_ ?_|intro
  refine eJ gdo ?_;repeat first|refine v_ ?_|intro
  refine bK post ?_;repeat first|refine v_ ?_|intro
  exact B7
 |false =>
  simp only[aCb,if_false];refine t_ func122 ntmps122 ?_;repeat first|refine v_ ?_|intro
  rename_i g3;refine rB (l_ [0,1,2,3,4,5,6,7,8] (g_ 9 (n_ 10 .nil))) ([aJ g 121 _,aJ g3 195 _]) ?_;repeat first|refine v_ ?_|intro
  refine eJ gdo ?_;repeat first|refine v_ ?_|intro
  exact B7
theorem U8(n:Int)(hn:0≤now∧now≤1073741824):G E 58 [pt g,.int .i64 n] [aJ g 121 (wC x now sn cf nn sub)] (cM (.agg (uD now n).2.cs.toArray) [aJ g 121 (wC x (uD now n).1 sn cf nn sub)]):=by
 have fl:=λM=>tD M 4;unfold uD;by_cases h:(1≤n∧n≤1000)∧now+n≤1073741824
 ·rw[if_pos h];have hd:decide (1≤n∧n≤1000)=true:=decide_eq_true h.1;have hlt:=h.2;refine t_ func58 ntmps58 ?_;repeat first|refine v_ ?_|intro
  exact Kz
 ·rw[if_neg h];by_cases h1:1≤n∧n≤1000
  ·have hd:decide (1≤n∧n≤1000)=true:=decide_eq_true h1;have hgt:1073741824<now+n:=o_;refine t_ func58 ntmps58 ?_;repeat first|refine v_ ?_|intro
   refine bK fl ?_;repeat first|refine v_ ?_|intro
   exact Kz
  ·have hd:decide (1≤n∧n≤1000)=false:=decide_eq_false h1;refine t_ func58 ntmps58 ?_;repeat first|refine v_ ?_|intro
   refine bK fl ?_;repeat first|refine v_ ?_|intro
   exact Kz
end
section
variable (E:Env) (P:List Ov) (g gr:Nat) (x:AM) (now:Int) (sn:Nat) (cf:fU) (nn:Nat) (sub:Int) (n:Nd) (k:Int)
theorem Pf(c:aX)(hc:dQ c.n)(hs:0≤sub∧sub≤48):G E 53 [pt g,pt gr,.agg c.cs.toArray] [aJ g 121 (wC x now sn cf nn sub),bZ P gr cf n k,aI P] λe H'=>∃Q,e=.returned (.agg (kA sub n c).2.2.cs.toArray)∧H'=[aJ g 121 (wC x now sn cf nn (kA sub n c).1),bZ (P++Q) gr cf (kA sub n c).2.1 k,aI (P++Q)]:=by
 have fl:=λM e=>tD M e;have sb:=λM=>TN M P gr cf n k c hc;have mono0:cA [bZ P gr cf n k,aI P] [bZ (P++[]) gr cf n k,aI (P++[])]:=by rw[aAc];exact cA.refl
 have hup:=λh=>aHy (n:=n) (c:=c) h;unfold kA;by_cases h48:48≤sub
 ·rw[if_pos h48];refine t_ func53 ntmps53 ?_;repeat first|refine v_ ?_|refine Dr.two ?_ ?_|intro
  refine bK (λM=>fl M 3) ?_;repeat first|refine v_ ?_|refine Dr.two ?_ ?_|intro
  exact cI (H':=[aJ g 121 (wC x now sn cf nn sub),bZ (P++[]) gr cf n k,aI (P++[])]) rfl aF rfl rfl rfl aS rfl (by rw[aAc];exact aA) ⟨[],rfl,rfl⟩
 ·rw[if_neg h48];generalize n.fC c=res at *;obtain⟨n2,c2,code⟩:=res;dsimp only at sb hup⊢;by_cases h0:code=0
  ·subst h0;rw[if_neg sD];have hu:=hup rfl;refine t_ func53 ntmps53 ?_;repeat first|refine v_ ?_|refine Dr.two ?_ ?_|intro
   refine bW sb ?_;rintro e H' ⟨Q,rfl,rfl⟩;repeat first|refine v_ ?_|refine Dr.two ?_ ?_|intro
   rename_i g5 g6;have st:=λM=>wW M (P++Q) gr cf n2 k;simp only[hu,if_true] at st;refine C.BI (X:=Ov×Nat) (λy=>[(5,pt g5),(6,pt g6),(8,pt y.2)]) (λy=>[aJ y.2 141 y.1.cs,aJ g5 34 c2.cs,aJ g6 36 CQ.cs,aJ g 121 (wC x now sn cf nn (sub+1)),bZ (P++Q) gr cf n2 k,aI (P++Q)]) (λy=>y.1.d=(cE n2.s.v c2.id).1) ?_ ?_
   ·refine rB (l_ [0,3,4] (.two 1 (.two 2 (.two 5 (l_ [6,7,8,9] (g_ 10 (g_ 11 (l_ [12,13] .nil)))) 10 (g_ 5 (l_ [6,7,8,9] (g_ 11 (l_ [12,13] .nil))))) 10 (g_ 2 (g_ 5 (l_ [6,7,8,9] (g_ 11 (l_ [12,13] .nil)))))) 10 (g_ 1 (g_ 2 (g_ 5 (l_ [6,7,8,9] (g_ 11 (l_ [12,13] .nil)))))))) ([aJ g5 34 _]) ?_;repeat first|refine v_ ?_|intro
    refine Dr.two ?_ ?_
    ·refine yB rfl sD bA sK aC (λM hE=>st M) ?_;rintro e H' ⟨gs,rfl,rfl⟩;repeat first|refine v_ ?_|intro
     refine Dr.two ?_ ?_
     ·refine yB rfl sD bA sK aC (λM hE=>qQ M (P++Q) gs n2.s) ?_;rintro e H' ⟨gl,rfl,rfl⟩;repeat first|refine v_ ?_|intro
      refine Dr.two ?_ ?_
      ·refine yB rfl sD bA sK aC (λM hE=>yL M (P++Q) gl n2.s.v c2.id) ?_;rintro e H' ⟨o,ho,rfl,rfl⟩;repeat first|refine cY ?_|intro
       rename_i g8;exact⟨(o,g8),aD,aA,ho⟩
      ·repeat first|refine cY ?_|intro
       refine iO (λM=>yL M (P++Q) gl n2.s.v c2.id) ?_;rintro e H' ⟨o,ho,rfl,rfl⟩;repeat first|refine cY ?_|intro
       rename_i g8;exact⟨(o,g8),aD,aA,ho⟩
     ·repeat first|refine cY ?_|intro
      refine iO (λM=>qQ M (P++Q) gs n2.s) ?_;rintro e H' ⟨gl,rfl,rfl⟩;repeat first|refine cY ?_|intro
      refine iO (λM=>yL M (P++Q) gl n2.s.v c2.id) ?_;rintro e H' ⟨o,ho,rfl,rfl⟩;repeat first|refine cY ?_|intro
      rename_i g8;exact⟨(o,g8),aD,aA,ho⟩
    ·repeat first|refine cY ?_|intro
     refine iO st ?_;rintro e H' ⟨gs,rfl,rfl⟩;repeat first|refine cY ?_|intro
     refine iO (λM=>qQ M (P++Q) gs n2.s) ?_;rintro e H' ⟨gl,rfl,rfl⟩;repeat first|refine cY ?_|intro
     refine iO (λM=>yL M (P++Q) gl n2.s.v c2.id) ?_;rintro e H' ⟨o,ho,rfl,rfl⟩;repeat first|refine cY ?_|intro
     rename_i g8;exact⟨(o,g8),aD,aA,ho⟩
   ·rintro⟨o,g8⟩ F ho;dsimp only at ho⊢;have hco:(cE n2.s.v c2.id).1.code=o.code:=by rw[←ho];rfl
    rw[hco];repeat first|refine v_ ?_|refine Dr.two ?_ ?_|intro
    exact cI rfl aF rfl rfl rfl aS rfl aA (⟨Q,rfl,rfl⟩)
  ·rw[if_pos h0];refine t_ func53 ntmps53 ?_;repeat first|refine v_ ?_|refine Dr.two ?_ ?_|intro
   refine bW sb ?_;rintro e H' ⟨Q,rfl,rfl⟩;repeat first|refine v_ ?_|refine Dr.two ?_ ?_|intro
   refine bK (λM=>fl M code) ?_;repeat first|refine v_ ?_|refine Dr.two ?_ ?_|intro
   exact cI rfl aF rfl rfl rfl aS rfl aA (⟨Q,rfl,rfl⟩)
end
def yI(nn:Nat)(ws:List fD)(n:Nd)(st:cH):(List fD×Nd)×wM :=
 if (st.i<0∨(nn:Int)≤st.i)∨st.i=st.r then((ws,n),⟨4,0,0⟩)
 else if n.sync.2≠0 then((ws,n.sync.1),⟨n.sync.2,0,0⟩)
 else(((jW ws (Ll n.sync.1.s st.i)).1,n.sync.1),⟨0,(jW ws (Ll n.sync.1.s st.i)).2,0⟩)
theorem J3{n:Nd}(h:n.sync.2=0):n.sync.1.up=true:=by
 unfold Nd.sync at h⊢;split at h
 ·rename_i hu;rw[if_pos hu];split at h
  ·rename_i h1;rw[if_pos h1]
  ·cases h
 ·cases h
section
variable (E:Env) (P:List Ov) (g gr:Nat) (x:AM) (now:Int) (sn:Nat) (cf:fU) (nn:Nat) (sub:Int) (n:Nd) (k:Int) (ws:List fD)
theorem Xw(st:cH)(hn:nn≤4)(h1:1≤nn)(hk:k≤10000000000000)(hgs:x.gs.length=nn):G E 55 [pt g,pt gr,.agg st.cs.toArray] [aJ g 121 (wC x now sn cf nn sub),bZ P gr cf n k,aZ x.gw ws,own vE x.nA nn x.nc x.gs] (cM (.agg (yI nn ws n st).2.cs.toArray) [aJ g 121 (wC x now sn cf nn sub),bZ P gr cf (yI nn ws n st).1.2 (k+2048),aZ x.gw (yI nn ws n st).1.1,own vE x.nA nn x.nc x.gs]):=by
 have fl:=λM e=>tD M e;have sy:=λM=>KU M P gr cf n k hk;have hup:=J3 (n:=n);have mono:cA [bZ P gr cf n k] [bZ P gr cf n (k+2048)]:=by
  have:=bZ.mono (P:=P) (Q:=[]) (g:=gr) (cf:=cf) (n:=n) (show k≤k+2048 by omega);rw[aAc] at this;exact this
 unfold yI;by_cases hr:st.i<0∨(nn:Int)≤st.i
 ·rw[if_pos (.inl hr)];have atn:=λM hb=>EN M g x now sn cf nn sub st.i hb hn h1 hr;refine t_ func55 ntmps55 ?_;repeat first|refine v_ ?_|intro
  refine eV atn ?_;repeat first|refine v_ ?_|intro
  refine bK (λM=>fl M 4) ?_;repeat first|refine v_ ?_|intro
  exact cI (H':=[aJ g 121 (wC x now sn cf nn sub),bZ P gr cf n (k+2048),aZ x.gw ws,own vE x.nA nn x.nc x.gs]) rfl aF rfl rfl rfl aS rfl (aB.trans (aB.imp mono aC) aA) ⟨rfl,rfl⟩
 ·obtain⟨kd,rr,ii,nm,cc⟩:=st;dsimp only at hr⊢;obtain⟨j,rfl⟩:=aCf (show 0≤ii by omega);have hlt:j<x.gs.length:=o_;have aty:=λM hb hG=>qW M g x now sn cf nn sub j (x.gs[j]'hlt) hb hn hG (aAa hlt);generalize x.gs[j]'hlt=gj at aty;by_cases he:(j:Int)=rr
  ·rw[if_pos (.inr he)];refine t_ func55 ntmps55 ?_;repeat first|refine v_ ?_|intro
   refine DY aty ?_;repeat first|refine v_ ?_|intro
   refine bK (λM=>fl M 4) ?_;repeat first|refine v_ ?_|intro
   exact cI (H':=[aJ g 121 (wC x now sn cf nn sub),bZ P gr cf n (k+2048),aZ x.gw ws,own vE x.nA nn x.nc x.gs]) rfl aF rfl rfl rfl aS rfl (aB.trans (aB.imp mono aC) aA) ⟨rfl,rfl⟩
  ·rw[if_neg o_];clear mono;generalize n.sync=res at *;obtain⟨n2,code⟩:=res;dsimp only at sy hup⊢;by_cases h0:code=0
   ·subst h0;rw[if_neg sD];have hu:=hup rfl;have st2:=λM=>wW M P gr cf n2 (k+2048);simp only[hu,if_true] at st2;have post:=λM=>BV M g x now sn cf nn sub ws (Ll n2.s j) none 0 0 none 0 0 (Rd.nil _ _) (Rd.nil _ _);generalize jW ws (Ll n2.s j)=p at *;obtain⟨ws2,a⟩:=p;dsimp only at post⊢;refine t_ func55 ntmps55 ?_;repeat first|refine v_ ?_|intro
    refine DY aty ?_;repeat first|refine v_ ?_|intro
    refine bK sy ?_;repeat first|refine v_ ?_|intro
    rename_i g5 g6;refine rB (l_ [0,1,2,3,5,6] (g_ 4 (g_ 7 (g_ 8 (n_ 9 (g_ 10 .nil)))))) ([aJ g5 39 _]) ?_;repeat first|refine v_ ?_|intro
    refine iO st2 ?_;rintro e H' ⟨gs,rfl,rfl⟩;repeat first|refine v_ ?_|intro
    refine eJ (λM=>Zf M P gs n2.s j) ?_;repeat first|refine v_ ?_|intro
    refine eJ post ?_;repeat first|refine v_ ?_|intro
    exact Kz
   ·rw[if_pos h0];refine t_ func55 ntmps55 ?_;repeat first|refine v_ ?_|intro
    refine DY aty ?_;repeat first|refine v_ ?_|intro
    refine bK sy ?_;repeat first|refine v_ ?_|intro
    refine bK (λM=>fl M code) ?_;repeat first|refine v_ ?_|intro
    exact Kz
end
def AI:Nat→Nd→Nat→Nd×wM
 |0,n,i=>(n,⟨0,i,0⟩)
 |k+1,n,i=>match n.s.v.t[0]? with
  |none=>(n,⟨0,i,0⟩)
  |some c=>if (n.take [.rI c.id]).2.2=0 then AI k (n.take [.rI c.id]).1 (i+1) else((n.take [.rI c.id]).1,⟨(n.take [.rI c.id]).2.2,i,0⟩)
def mT(n:Nd)(dC:Int):Nd×wM:=if 1≤dC∧dC≤16 then(if n.up then AI dC.toNat n 0 else(n,⟨19,0,0⟩)) else(n,⟨4,0,0⟩)
theorem Gn:∀(l:List Rc) (n:Nd) (i:Nat),(n.AQ l i).1.up=n.up
 | [],_,_=>rfl
 |x::l,n,i=>by
  unfold Nd.AQ;split
  ·rw[Gn l,qU]
  ·exact qU n x
theorem Rh(n:Nd)(l:List Rc):(n.take l).1.up=n.up:=by
 unfold Nd.take;split
 ·exact Gn l n 0
 ·rfl
section
variable (E:Env) (P:List Ov) (g gr:Nat) (x:AM) (now:Int) (sn:Nat) (cf:fU) (nn:Nat) (sub:Int) (n:Nd) (k:Int)
theorem Ol(dC:Int)(_hn:nn≤4)(_h1:1≤nn)(hgs:x.gs[0]?=some gr):G E 56 [pt g,.int .i64 dC] [aJ g 121 (wC x now sn cf nn sub),bZ P gr cf n k,own vE x.nA nn x.nc x.gs,aI P] λe H'=>∃Q,e=.returned (.agg (mT n dC).2.cs.toArray)∧H'=[aJ g 121 (wC x now sn cf nn sub),bZ (P++Q) gr cf (mT n dC).1 k,own vE x.nA nn x.nc x.gs,aI (P++Q)]:=by
 have fl:=λM e=>tD M e;unfold mT;by_cases hm:1≤dC∧dC≤16
 ·rw[if_pos hm];have hd:decide (1≤dC∧dC≤16)=true:=decide_eq_true hm;obtain⟨m,rfl⟩:=aCf (show 0≤dC by omega);have up:=λM=>TI M P gr cf n k;by_cases hu:n.up=true
  ·rw[if_pos hu];rw[hu] at up;rw[aAu];refine t_ func56 ntmps56 ?_;repeat first|refine v_ ?_|intro
   refine bK up ?_;repeat first|refine v_ ?_|intro
   rename_i g4;refine C.scan (Y:=Nd×List Ov) (l:=List.range m) (show m=(List.range m).length by rw[aFu]) (λi y=>[(1,.int .i64 m),(4,pt g4),(5,pt gr),(25,.int .i64 m),(26,.int .i64 i)])
    (λi y=>[aJ g4 36 CQ.cs,aJ g 121 (wC x now sn cf nn sub),bZ (P++y.2) gr cf y.1 k,own vE x.nA nn x.nc x.gs,aI (P++y.2)]) (λi y=>y.1.up=true∧AI m n 0=AI (m - i) y.1 i) (n,[]) aD (by dsimp only;rw[aAc];exact aA) ⟨hu,rfl⟩ ?_ ?_
   ·rintro i ⟨n2,Q⟩ j F hi hj ⟨hu2,hc⟩;dsimp only at hu2 hc⊢;have st:=λM=>wW M (P++Q) gr cf n2 k;simp only[hu2,if_true] at st;have hlt:i<m:=by have:=(aAd.1 hj).1;rwa [aFu] at this
    obtain⟨q,hq⟩:∃q,m - i=q+1:=⟨m - i - 1,by omega⟩
    rw[hq,AI] at hc;have fst:=λM gl=>Ub M (P++Q) gl n2.s.v;cases ht:n2.s.v.t with
    |nil =>
     rw[ht] at hc fst;simp only[List.getElem?_nil] at hc;rw[hc];repeat first|refine v_ ?_|intro
     refine bW st ?_;rintro e H' ⟨gs,rfl,rfl⟩;repeat first|refine v_ ?_|intro
     refine bW (λM=>qQ M (P++Q) gs n2.s) ?_;rintro e H' ⟨gl,rfl,rfl⟩;repeat first|refine v_ ?_|intro
     refine bK (λM=>fst M gl) ?_;repeat first|refine v_ ?_|intro
     exact cI rfl aF rfl rfl rfl aS rfl aA (⟨Q,rfl,rfl⟩)
    |cons c t =>
     rw[ht] at hc fst;simp only[List.getElem?_cons_zero,aBe] at hc fst;have tk:=λM A c2 (hr:Rd M jE A 1 c2 [⟨2,mW,c.id,zR,0⟩])=>QP M (P++Q) gr cf n2 k A 1 c2 [.rI c.id] hr (by simp[Rc.ok]) o_;have hu3:=Rh n2 [.rI c.id];generalize n2.take [.rI c.id]=res at *;obtain⟨n3,z,code⟩:=res;dsimp only at hc tk hu3;by_cases h0:code=0
     ·subst h0;rw[if_pos rfl] at hc;repeat first|refine v_ ?_|intro
      refine bW st ?_;rintro e H' ⟨gs,rfl,rfl⟩;repeat first|refine v_ ?_|intro
      refine bW (λM=>qQ M (P++Q) gs n2.s) ?_;rintro e H' ⟨gl,rfl,rfl⟩;repeat first|refine v_ ?_|intro
      refine bK (λM=>fst M gl) ?_;repeat first|refine v_ ?_|intro
      refine bK (λM=>oS M c.id) ?_;repeat first|refine v_ ?_|intro
      refine dX (λM=>tk M _ _) ?_;rintro e H' ⟨Q2,rfl,rfl⟩;repeat first|refine v_ ?_|intro
      exact⟨(n3,Q++Q2),aD,(by dsimp only;rw[←aAb];exact aA),hu3.trans hu2,by rw[show m - (i+1)=q by omega];exact hc⟩
     ·rw[if_neg h0] at hc;rw[hc];repeat first|refine v_ ?_|intro
      refine bW st ?_;rintro e H' ⟨gs,rfl,rfl⟩;repeat first|refine v_ ?_|intro
      refine bW (λM=>qQ M (P++Q) gs n2.s) ?_;rintro e H' ⟨gl,rfl,rfl⟩;repeat first|refine v_ ?_|intro
      refine bK (λM=>fst M gl) ?_;repeat first|refine v_ ?_|intro
      refine bK (λM=>oS M c.id) ?_;repeat first|refine v_ ?_|intro
      refine dX (λM=>tk M _ _) ?_;rintro e H' ⟨Q2,rfl,rfl⟩;repeat first|refine v_ ?_|intro
      exact cI (H':=[aJ g 121 (wC x now sn cf nn sub),bZ (P++(Q++Q2)) gr cf n3 k,own vE x.nA nn x.nc x.gs,aI (P++(Q++Q2))]) rfl aF rfl rfl rfl aS rfl (by rw[←aAb];exact aA) ⟨Q++Q2,rfl,rfl⟩
   ·rintro⟨n2,Q⟩ F ⟨hu2,hc⟩;dsimp only at hu2 hc⊢;rw[aEi,AI] at hc;rw[hc];repeat first|refine v_ ?_|intro
    exact cI rfl aF rfl rfl rfl aS rfl aA (⟨Q,rfl,rfl⟩)
  ·rw[if_neg hu];rw[Bool.eq_false_iff.2 hu] at up;refine t_ func56 ntmps56 ?_;repeat first|refine v_ ?_|intro
   refine bK up ?_;repeat first|refine v_ ?_|intro
   refine bK (λM=>fl M 19) ?_;repeat first|refine v_ ?_|intro
   exact cI (H':=[aJ g 121 (wC x now sn cf nn sub),bZ (P++[]) gr cf n k,own vE x.nA nn x.nc x.gs,aI (P++[])]) rfl aF rfl rfl rfl aS rfl (by rw[aAc];exact aA) ⟨[],rfl,rfl⟩
 ·rw[if_neg hm];have hd:decide (1≤dC∧dC≤16)=false:=decide_eq_false hm;refine t_ func56 ntmps56 ?_;repeat first|refine v_ ?_|intro
  refine bK (λM=>fl M 4) ?_;repeat first|refine v_ ?_|intro
  exact cI (H':=[aJ g 121 (wC x now sn cf nn sub),bZ (P++[]) gr cf n k,own vE x.nA nn x.nc x.gs,aI (P++[])]) rfl aF rfl rfl rfl aS rfl (by rw[aAc];exact aA) ⟨[],rfl,rfl⟩
end
def Vl(r:Int)(q:dK):Mg:=⟨3,r,9,0,0,0,0,0,[],[],q.key,q.bC⟩
def CC(r now:Int)(z:List fD×List fM)(q:dK):List fD×List fM:=((jW z.1 (Vl r q)).1,z.2++[⟨r,now,q.key,q.bC⟩])
def jN(r now:Int)(ws:List fD)(aW:List fM)(l:List dK):List fD×List fM:=l.foldl (CC r now) (ws,aW)
theorem En{r now:Int}{ws:List fD}{aW:List fM}{l:List dK}{i:Nat}{q:dK}(h:l[i]?=some q):jN r now ws aW (l.take (i+1))=CC r now (jN r now ws aW (l.take i)) q:=iX h
theorem AV(r now:Int)(ws:List fD)(aW:List fM)(l:List dK):(jN r now ws aW l).2.length=aW.length+l.length:=by
 have:∀(l:List dK) (z:List fD×List fM),(l.foldl (CC r now) z).2.length=z.2.length+l.length:=by
  intro l
  induction l with
  |nil=>exact λz=>rfl
  |cons q l ih=>intro z;rw[aFj,ih];unfold CC;simp;omega
 exact this l (ws,aW)
theorem De(now:Int):∀(l:List dK) (n:Nd) (acc:List dK),(n.tries now l acc).2.1.length≤acc.length+l.length
 | [],_,acc=>by unfold Nd.tries;simp
 |q::l,n,acc=>by
  unfold Nd.tries;split
  ·refine aBw (De now l _ _) ?_;simp;omega
  ·simp
theorem HY{n:Nd}(h:n.ok)(cf:fU)(now:Int):(n.qD cf now).2.1.length≤48:=by
 unfold Nd.qD;split
 ·rename_i hu;have hnp:=(h.gd hu).1.np;have hrl:=D8 n.s cf now;split
  ·have:=De now (n.s.ready cf now) n [];simp at this;dsimp only;omega
  ·exact aAh _
 ·exact aAh _
def oO(cf:fU)(now:Int)(ws:List fD)(aW:List fM)(n:Nd)(r:Int):(List fD×List fM×Nd)×wM :=
 (((jN r now ws aW (n.qD cf now).2.1).1,(jN r now ws aW (n.qD cf now).2.1).2,(n.qD cf now).1),⟨(n.qD cf now).2.2,(n.qD cf now).2.1.length,0⟩)
section
variable (E:Env) (P:List Ov) (g gr:Nat) (x:AM) (now:Int) (cf:fU) (nn:Nat) (sub:Int) (n:Nd) (k:Int) (ws:List fD) (aW:List fM)
theorem Uh(r:Int)(hnow:dQ now)(hk:k≤10000000000000)(hsl:aW.length≤100000000):G E 57 [pt g,pt gr,.int .i64 r] [aJ g 121 (wC x now aW.length cf nn sub),bZ P gr cf n k,aZ x.gw ws,own mK x.sA aW.length x.sc aW,aI P] λe H'=>∃Q sA sc,e=.returned (.agg (oO cf now ws aW n r).2.cs.toArray)∧H'=[aJ g 121 (wC ⟨x.gw,x.gg,sA,sc,x.nA,x.nc,x.gs⟩ now (oO cf now ws aW n r).1.2.1.length cf nn sub),bZ (P++Q) gr cf (oO cf now ws aW n r).1.2.2 (k+2048),aZ x.gw (oO cf now ws aW n r).1.1,own mK sA (oO cf now ws aW n r).1.2.1.length sc (oO cf now ws aW n r).1.2.1,aI (P++Q)]:=by
 refine aK.Y1 (p:=λ_:Nh=>n.ok) (l:=O4 P gr cf n k) (Has.aM Has.aN) λ⟨_,hok⟩=>?_;have hpl:=HY hok cf now;have pmp:=λM=>YJ M P gr cf n k now hnow hk;unfold oO;generalize n.qD cf now=res at *;obtain⟨n2,reqs,code⟩:=res;dsimp only at hpl pmp⊢;refine t_ func57 ntmps57 ?_;repeat first|refine v_ ?_|intro
 refine bW pmp ?_;rintro e H' ⟨Q,A,m,c,hm,hmc,rfl,rfl⟩;repeat first|refine v_ ?_|intro
 rename_i g6;have hmax:=fX;refine C.scan (Y:=Option Addr×Nat) (l:=reqs) hm (λi y=>[(0,pt g),(2,.int .i64 r),(6,pt g6),(7,.slice A m c),(8,.int .i64 code),(21,.slice A m c),(22,.int .i64 m),(23,.int .i64 i)])
  (λi y=>[aJ g6 36 CQ.cs,own cP A m c reqs,aJ g 121 (wC ⟨x.gw,x.gg,y.1,y.2,x.nA,x.nc,x.gs⟩ now (jN r now ws aW (reqs.take i)).2.length cf nn sub),aZ x.gw (jN r now ws aW (reqs.take i)).1,own mK y.1 (jN r now ws aW (reqs.take i)).2.length y.2 (jN r now ws aW (reqs.take i)).2,bZ (P++Q) gr cf n2 (k+2048),aI (P++Q)]) (λ_ _=>True) (x.sA,x.sc) aD (by dsimp only[List.take_zero,jN,List.foldl_nil];exact aA) trivial ?_ ?_
 ·rintro i ⟨sA,sc⟩ q F hi hq -;dsimp only;have hlen:=AV r now ws aW (reqs.take i);rw[aAg] at hlen;rw[En hq];generalize jN r now ws aW (reqs.take i)=z at *;obtain⟨ws1,s1⟩:=z;dsimp only[CC] at hlen⊢;rw[aAe,aDa];have post:=λM=>BV M g ⟨x.gw,x.gg,sA,sc,x.nA,x.nc,x.gs⟩ now s1.length cf nn sub ws1 (Vl r q) none 0 0 none 0 0 (Rd.nil _ _) (Rd.nil _ _);generalize jW ws1 (Vl r q)=p at *;obtain⟨ws2,a⟩:=p;dsimp only at post⊢;repeat first|refine v_ ?_|intro
  rename_i g10;refine rB (l_ [0,1,2,3,4,5,6,7,8] (g_ 9 .nil)) ([aJ g 121 _,aJ g10 79 _]) ?_;repeat first|refine v_ ?_|intro
  refine eJ post ?_;repeat first|refine v_ ?_|intro
  refine C.bL 22 (l_ [0,1,2,3,4,5,6,7,8,9,10,11,12,13,14,15,16] (g_ 17 (g_ 18 (l_ [19,20,21] (g_ 22 .nil))))) ([aJ g 121 _,aJ g10 79 _]) q_ q_ aA ?_;repeat first|refine v_ ?_|intro
  refine Dr.Aw rfl (by rintro k ⟨⟩;decide) bA (S.QZ (T:=mK) (e1:=(⟨r,now,q.key,q.bC⟩:fM)) rfl eS rfl FV (by rfl) sD) ?_;rintro v H' ⟨gz,rfl,rfl⟩;refine⟨aA,?_⟩;repeat first|refine v_ ?_|intro
  rename_i sA' sc' h3 h4;exact⟨(sA',sc'),aD,aA,trivial⟩
 ·rintro⟨sA,sc⟩ F -;dsimp only;rw[hm,aAo];repeat first|refine v_ ?_|intro
  exact cI rfl aF rfl rfl rfl aS rfl aA (⟨Q,sA,sc,rfl,rfl⟩)
end
def ZW(ws:List fD)(i:Int):Int:=((xB ws i).map fD.to).getD (-1)
def FC(ws:List fD)(i:Int):Bool:=((xB ws i).map fD.broken).getD false
def NZ(ws:List fD)(i:Int):List fD:=match xB ws i with
 |none=>ws
 |some _=>cR ws i
def lP(ws:List fD)(st:cH):List fD×wM :=
 if ZW ws st.i<0 then(ws,⟨14,0,0⟩)
 else if st.kind=8 then(NZ ws st.i,⟨0,0,0⟩)
 else if st.kind=9 then((Co ws st.i).1,⟨if (Co ws st.i).2 then 0 else 10,0,0⟩)
 else if FC ws st.i then(ws,⟨9,0,0⟩)
 else((CU ws st.i st.n).1,⟨if (CU ws st.i st.n).2 then 0 else 4,0,0⟩)
section
variable (E:Env) (g:Nat) (x:AM) (now:Int) (sn:Nat) (cf:fU) (nn:Nat) (sub:Int) (ws:List fD)
theorem Md(st:cH)(hn:dQ st.n):G E 60 [pt g,.agg st.cs.toArray] [aJ g 121 (wC x now sn cf nn sub),aZ x.gw ws] (cM (.agg (lP ws st).2.cs.toArray) [aJ g 121 (wC x now sn cf nn sub),aZ x.gw (lP ws st).1]):=by
 have fl:=λM e=>tD M e;have to:=λM=>JU M x.gw ws st.i;have tk:=λM=>vV M x.gw ws st.i;have cp:=λM=>Ui M x.gw ws st.i;have br:=λM=>O0 M x.gw ws st.i;have fp:=λM=>Vb M x.gw ws st.i st.n hn;unfold lP NZ;rw[show((xB ws st.i).map fD.to).getD (-1)=ZW ws st.i from rfl] at to;rw[show((xB ws st.i).map fD.broken).getD false=FC ws st.i from rfl] at br;generalize ZW ws st.i=tov at *;generalize FC ws st.i=brv at *;generalize CU ws st.i st.n=flv at *;generalize Co ws st.i=cpv at *;by_cases h1:tov<0
 ·rw[if_pos h1];refine t_ func60 ntmps60 ?_;repeat first|refine v_ ?_|intro
  rename_i g3 g4;refine rB (l_ [0,1,2,3,4,5,6] (g_ 7 (n_ 8 .nil))) ([aJ g 121 _,aJ g3 39 _]) ?_;repeat first|refine v_ ?_|intro
  refine eJ to ?_;repeat first|refine v_ ?_|intro
  refine bK (λM=>fl M 14) ?_;repeat first|refine v_ ?_|intro
  exact Kz
 ·rw[if_neg h1];by_cases h8:st.kind=8
  ·rw[if_pos h8];cases ha:xB ws st.i with
   |none =>
    rw[ha] at tk;refine t_ func60 ntmps60 ?_;repeat first|refine v_ ?_|intro
    rename_i g3 g4;refine rB (l_ [0,1,2,3,4,5,6] (g_ 7 (n_ 8 .nil))) ([aJ g 121 _,aJ g3 39 _]) ?_;repeat first|refine v_ ?_|intro
    refine eJ to ?_;repeat first|refine v_ ?_|intro
    refine rB (l_ [0,1,2,3,4,5,6] (g_ 7 .nil)) ([aJ g 121 _,aJ g3 39 _]) ?_;repeat first|refine v_ ?_|intro
    refine eJ tk ?_;repeat first|refine v_ ?_|intro
    exact Kz
   |some p =>
    rw[ha] at tk;refine t_ func60 ntmps60 ?_;repeat first|refine v_ ?_|intro
    rename_i g3 g4;refine rB (l_ [0,1,2,3,4,5,6] (g_ 7 (n_ 8 .nil))) ([aJ g 121 _,aJ g3 39 _]) ?_;repeat first|refine v_ ?_|intro
    refine eJ to ?_;repeat first|refine v_ ?_|intro
    refine rB (l_ [0,1,2,3,4,5,6] (g_ 7 .nil)) ([aJ g 121 _,aJ g3 39 _]) ?_;repeat first|refine v_ ?_|intro
    refine iO tk ?_;rintro e H' ⟨_,_,_,_,rfl,rfl⟩;repeat first|refine v_ ?_|intro
    exact Kz
  ·rw[if_neg h8];by_cases h9:st.kind=9
   ·rw[if_pos h9];obtain⟨wc,ok⟩:=cpv;dsimp only at cp⊢;cases ok with
    |true =>
     simp only[if_true];refine t_ func60 ntmps60 ?_;repeat first|refine v_ ?_|intro
     rename_i g3 g4;refine rB (l_ [0,1,2,3,4,5,6] (g_ 7 (n_ 8 .nil))) ([aJ g 121 _,aJ g3 39 _]) ?_;repeat first|refine v_ ?_|intro
     refine eJ to ?_;repeat first|refine v_ ?_|intro
     refine rB (l_ [0,1,2,3,4,5,6] (g_ 7 (n_ 8 .nil))) ([aJ g 121 _,aJ g3 39 _]) ?_;repeat first|refine v_ ?_|intro
     refine eJ cp ?_;repeat first|refine v_ ?_|intro
     exact Kz
    |false =>
     simp only[aCb,if_false];refine t_ func60 ntmps60 ?_;repeat first|refine v_ ?_|intro
     rename_i g3 g4;refine rB (l_ [0,1,2,3,4,5,6] (g_ 7 (n_ 8 .nil))) ([aJ g 121 _,aJ g3 39 _]) ?_;repeat first|refine v_ ?_|intro
     refine eJ to ?_;repeat first|refine v_ ?_|intro
     refine rB (l_ [0,1,2,3,4,5,6] (g_ 7 (n_ 8 .nil))) ([aJ g 121 _,aJ g3 39 _]) ?_;repeat first|refine v_ ?_|intro
     refine eJ cp ?_;repeat first|refine v_ ?_|intro
     refine bK (λM=>fl M 10) ?_;repeat first|refine v_ ?_|intro
     exact Kz
   ·rw[if_neg h9];cases brv with
    |true =>
     simp only[if_true];refine t_ func60 ntmps60 ?_;repeat first|refine v_ ?_|intro
     rename_i g3 g4;refine rB (l_ [0,1,2,3,4,5,6] (g_ 7 (n_ 8 .nil))) ([aJ g 121 _,aJ g3 39 _]) ?_;repeat first|refine v_ ?_|intro
     refine eJ to ?_;repeat first|refine v_ ?_|intro
     refine rB (l_ [0,1,2,3,4,5,6] (g_ 7 (n_ 8 .nil))) ([aJ g 121 _,aJ g3 39 _]) ?_;repeat first|refine v_ ?_|intro
     refine eJ br ?_;repeat first|refine v_ ?_|intro
     refine bK (λM=>fl M 9) ?_;repeat first|refine v_ ?_|intro
     exact Kz
    |false =>
     simp only[aCb,if_false];obtain⟨wf,ok⟩:=flv;dsimp only at fp⊢;cases ok with
     |true =>
      simp only[if_true];refine t_ func60 ntmps60 ?_;repeat first|refine v_ ?_|intro
      rename_i g3 g4;refine rB (l_ [0,1,2,3,4,5,6] (g_ 7 (n_ 8 .nil))) ([aJ g 121 _,aJ g3 39 _]) ?_;repeat first|refine v_ ?_|intro
      refine eJ to ?_;repeat first|refine v_ ?_|intro
      refine rB (l_ [0,1,2,3,4,5,6] (g_ 7 (n_ 8 .nil))) ([aJ g 121 _,aJ g3 39 _]) ?_;repeat first|refine v_ ?_|intro
      refine eJ br ?_;repeat first|refine v_ ?_|intro
      refine rB (l_ [0,1,2,3,4,5,6,7,8] (g_ 9 (l_ [10,11] .nil))) ([aJ g 121 _,aJ g3 39 _]) ?_;repeat first|refine v_ ?_|intro
      refine eJ fp ?_;repeat first|refine v_ ?_|intro
      exact Kz
     |false =>
      simp only[aCb,if_false];refine t_ func60 ntmps60 ?_;repeat first|refine v_ ?_|intro
      rename_i g3 g4;refine rB (l_ [0,1,2,3,4,5,6] (g_ 7 (n_ 8 .nil))) ([aJ g 121 _,aJ g3 39 _]) ?_;repeat first|refine v_ ?_|intro
      refine eJ to ?_;repeat first|refine v_ ?_|intro
      refine rB (l_ [0,1,2,3,4,5,6] (g_ 7 (n_ 8 .nil))) ([aJ g 121 _,aJ g3 39 _]) ?_;repeat first|refine v_ ?_|intro
      refine eJ br ?_;repeat first|refine v_ ?_|intro
      refine rB (l_ [0,1,2,3,4,5,6,7,8] (g_ 9 (l_ [10,11] .nil))) ([aJ g 121 _,aJ g3 39 _]) ?_;repeat first|refine v_ ?_|intro
      refine eJ fp ?_;repeat first|refine v_ ?_|intro
      refine bK (λM=>fl M 4) ?_;repeat first|refine v_ ?_|intro
      exact Kz
end
noncomputable def wF(r:Int)(n:Nd)(st:cH):(Int×Nd)×wM :=
 if st.kind=11 then(if 255<st.n then((r,n),⟨4,0,0⟩) else((dF st.n 0 255,n),⟨0,0,0⟩))
 else if st.kind=12 then(if n.up then((r,n.CA),⟨0,0,0⟩) else((r,n),⟨19,0,0⟩))
 else if st.kind=13 then((r,n.rO.1),⟨n.rO.2,0,0⟩)
 else if st.kind=15 then((r,n.pack.1),⟨n.pack.2,0,0⟩)
 else if st.kind=14 then(if 4096<st.n then((r,n),⟨4,0,0⟩) else if n.up then((r,n.arm (st.n - 1)),⟨0,0,0⟩) else((r,n),⟨19,0,0⟩))
 else((r,n),⟨0,0,0⟩)
theorem bZ.qK{P:List Ov}{g:Nat}{cf:fU}{n:Nd}{k k':Int}(h:k≤k'):cA [bZ P g cf n k] [bZ P g cf n k']:=by
 have:=bZ.mono (P:=P) (Q:=[]) (g:=g) (cf:=cf) (n:=n) h;rw[aAc] at this;exact this
section
variable (E:Env) (P:List Ov) (g gr:Nat) (x:AM) (now:Int) (sn:Nat) (cf:fU) (nn:Nat) (sub:Int) (n:Nd) (k:Int) (r:Int) (l:List dK)
theorem Uy(st:cH)(hk:k≤10000000000000)(hn:0≤st.n∧st.n≤2147483647):G E 61 [pt g,pt gr,.agg st.cs.toArray] [aJ g 121 (wC x now sn cf nn sub),bZ P gr cf n k,cK x.gg r l,aI P] λe H'=>∃Q,e=.returned (.agg (wF r n st).2.cs.toArray)∧H'=[aJ g 121 (wC x now sn cf nn sub),bZ (P++Q) gr cf (wF r n st).1.2 (k+4128),cK x.gg (wF r n st).1.1 l,aI (P++Q)]:=by
 have fl:=λM e=>tD M e;have up:=λM=>TI M P gr cf n k;unfold wF;by_cases h11:st.kind=11
 ·rw[if_pos h11];by_cases h255:255<st.n
  ·rw[if_pos h255];refine t_ func61 ntmps61 ?_;repeat first|refine v_ ?_|intro
   refine bK (λM=>fl M (4)) ?_;repeat first|refine v_ ?_|intro
   exact cI (H':=[aJ g 121 (wC x now sn cf nn sub),bZ (P++[]) gr cf n (k+4128),cK x.gg r l,aI (P++[])]) rfl aF rfl rfl rfl aS rfl (by rw[aAc];exact aB.trans (aB.imp (bZ.qK (show k≤k+4128 by omega)) aC) aA) ⟨[],rfl,rfl⟩
  ·rw[if_neg h255];refine t_ func61 ntmps61 ?_;repeat first|refine v_ ?_|intro
   rename_i g5 g6;refine rB (l_ [0,1,2,3,4,5,6] (g_ 7 .nil)) ([aJ g 121 _,aJ g5 39 _]) ?_;repeat first|refine v_ ?_|intro
   refine eJ (λM=>Pz M x.gg r l st.n) ?_;repeat first|refine v_ ?_|intro
   exact cI (H':=[aJ g 121 (wC x now sn cf nn sub),bZ (P++[]) gr cf n (k+4128),cK x.gg (dF st.n 0 255) l,aI (P++[])]) rfl aF rfl rfl rfl aS rfl (by rw[aAc];exact aB.trans (aB.imp (bZ.qK (show k≤k+4128 by omega)) aC) aA) ⟨[],rfl,rfl⟩
 rw[if_neg h11];by_cases h12:st.kind=12
 ·rw[if_pos h12];have cr:=λM=>UM M P gr cf n k;cases hu:n.up with
  |true =>
   rw[hu] at cr;simp only[if_true] at cr⊢;refine t_ func61 ntmps61 ?_;repeat first|refine v_ ?_|intro
   refine bK cr ?_;repeat first|refine v_ ?_|intro
   exact cI (H':=[aJ g 121 (wC x now sn cf nn sub),bZ (P++[]) gr cf n.CA (k+4128),cK x.gg r l,aI (P++[])]) rfl aF rfl rfl rfl aS rfl (by rw[aAc];exact aB.trans (aB.imp (bZ.qK (show k≤k+4128 by omega)) aC) aA) ⟨[],rfl,rfl⟩
  |false =>
   rw[hu] at cr;simp only[aCb,if_false] at cr⊢;refine t_ func61 ntmps61 ?_;repeat first|refine v_ ?_|intro
   refine bK cr ?_;repeat first|refine v_ ?_|intro
   refine bK (λM=>fl M (19)) ?_;repeat first|refine v_ ?_|intro
   exact cI (H':=[aJ g 121 (wC x now sn cf nn sub),bZ (P++[]) gr cf n (k+4128),cK x.gg r l,aI (P++[])]) rfl aF rfl rfl rfl aS rfl (by rw[aAc];exact aB.trans (aB.imp (bZ.qK (show k≤k+4128 by omega)) aC) aA) ⟨[],rfl,rfl⟩
 rw[if_neg h12];by_cases h13:st.kind=13
 ·rw[if_pos h13];have rs:=λM=>aId M P gr cf n k hk;generalize n.rO=res at *;obtain⟨n2,code⟩:=res;dsimp only at rs⊢;refine t_ func61 ntmps61 ?_;repeat first|refine v_ ?_|intro
  refine bW rs ?_;rintro e H' ⟨Q,rfl,rfl⟩;repeat first|refine v_ ?_|intro
  refine bK (λM=>fl M (code)) ?_;repeat first|refine v_ ?_|intro
  exact cI (H':=[aJ g 121 (wC x now sn cf nn sub),bZ (P++Q) gr cf n2 (k+4128),cK x.gg r l,aI (P++Q)]) rfl aF rfl rfl rfl aS rfl (aB.trans (aB.imp (bZ.qK (show k+2048≤k+4128 by omega)) aC) aA) ⟨Q,rfl,rfl⟩
 rw[if_neg h13];by_cases h15:st.kind=15
 ·rw[if_pos h15];have pk:=λM=>Wt M P gr cf n k hk;generalize n.pack=res at *;obtain⟨n2,code⟩:=res;dsimp only at pk⊢;refine t_ func61 ntmps61 ?_;repeat first|refine v_ ?_|intro
  refine bK pk ?_;repeat first|refine v_ ?_|intro
  refine bK (λM=>fl M (code)) ?_;repeat first|refine v_ ?_|intro
  exact cI (H':=[aJ g 121 (wC x now sn cf nn sub),bZ (P++[]) gr cf n2 (k+4128),cK x.gg r l,aI (P++[])]) rfl aF rfl rfl rfl aS rfl (by rw[aAc];exact aB.trans (aB.imp (bZ.qK (show k+4128≤k+4128 by omega)) aC) aA) ⟨[],rfl,rfl⟩
 rw[if_neg h15];by_cases h14:st.kind=14
 ·rw[if_pos h14];by_cases h4096:4096<st.n
  ·rw[if_pos h4096];refine t_ func61 ntmps61 ?_;repeat first|refine v_ ?_|intro
   refine bK (λM=>fl M (4)) ?_;repeat first|refine v_ ?_|intro
   exact cI (H':=[aJ g 121 (wC x now sn cf nn sub),bZ (P++[]) gr cf n (k+4128),cK x.gg r l,aI (P++[])]) rfl aF rfl rfl rfl aS rfl (by rw[aAc];exact aB.trans (aB.imp (bZ.qK (show k≤k+4128 by omega)) aC) aA) ⟨[],rfl,rfl⟩
  ·rw[if_neg h4096];cases hu:n.up with
   |true =>
    rw[hu] at up;simp only[if_true];refine t_ func61 ntmps61 ?_;repeat first|refine v_ ?_|intro
    refine bK up ?_;repeat first|refine v_ ?_|intro
    refine bK (λM=>ZD M P gr cf n k (st.n - 1) (by omega)) ?_;repeat first|refine v_ ?_|intro
    exact cI (H':=[aJ g 121 (wC x now sn cf nn sub),bZ (P++[]) gr cf (n.arm (st.n - 1)) (k+4128),cK x.gg r l,aI (P++[])]) rfl aF rfl rfl rfl aS rfl (by rw[aAc];exact aB.trans (aB.imp (bZ.qK (show k≤k+4128 by omega)) aC) aA) ⟨[],rfl,rfl⟩
   |false =>
    rw[hu] at up;simp only[aCb,if_false];refine t_ func61 ntmps61 ?_;repeat first|refine v_ ?_|intro
    refine bK up ?_;repeat first|refine v_ ?_|intro
    refine bK (λM=>fl M (19)) ?_;repeat first|refine v_ ?_|intro
    exact cI (H':=[aJ g 121 (wC x now sn cf nn sub),bZ (P++[]) gr cf n (k+4128),cK x.gg r l,aI (P++[])]) rfl aF rfl rfl rfl aS rfl (by rw[aAc];exact aB.trans (aB.imp (bZ.qK (show k≤k+4128 by omega)) aC) aA) ⟨[],rfl,rfl⟩
 rw[if_neg h14];refine t_ func61 ntmps61 ?_;repeat first|refine v_ ?_|intro
 exact cI (H':=[aJ g 121 (wC x now sn cf nn sub),bZ (P++[]) gr cf n (k+4128),cK x.gg r l,aI (P++[])]) rfl aF rfl rfl rfl aS rfl (by rw[aAc];exact aB.trans (aB.imp (bZ.qK (show k≤k+4128 by omega)) aC) aA) ⟨[],rfl,rfl⟩
end
def lR(s:Sv)(m:Mg):Mg:=if answers s m then uN s m else mz
def dG(ws:List fD)(n:Nd)(m:Mg):(List fD×Nd)×wM :=
 if m.kind=1 then
  (if n.sync.2≠0 then((ws,n.sync.1),⟨0,0,0⟩) else(((jW ws (lR n.sync.1.s m)).1,n.sync.1),⟨0,(jW ws (lR n.sync.1.s m)).2,0⟩))
 else if m.kind=2 then((ws,(n.take (kL n.s m)).1),⟨(n.take (kL n.s m)).2.2,(n.take (kL n.s m)).2.1,0⟩)
 else if (n.s.doc (.qJ m.key)).2≠0 then((ws,n),⟨0,0,0⟩)
 else((ws,(n.take [.qJ m.key]).1),⟨(n.take [.qJ m.key]).2.2,(n.take [.qJ m.key]).2.1,0⟩)
theorem Rd.front{α:Type}{E:Env}{T:Ty α}{A:Option Addr}{a c:Nat}{l:List α}(h:Rd E T A a c l)(k:Nat):Rd E T A (min a k) (min a k) (l.take k):=by
 have hl:=h.len;have hc:=h.cap;have h2:=h.upto (k:=min a k) (m:=min a k) o_ (aAf _) o_;by_cases hk:k≤a
 ·rw[aFe hk] at h2⊢;exact h2
 ·rw[aBr o_] at h2⊢;rw[aAj o_] at h2⊢;exact h2
theorem JI{s:Sv}{l:List aX}{x:Rc}(h:x∈(tryAll s l).2):∃c∈l,x=.lI c:=by
 have:∀(l:List aX) (z:Sv×List Rc),x∈(l.foldl (λz c=>eE z (.lI c)) z).2→x∈z.2∨∃c∈l,x=.lI c:=by
  intro l
  induction l with
  |nil=>exact λz h=>.inl h
  |cons c l ih =>
   intro z h;rw[aFj] at h;rcases ih _ h with h|⟨d,hd,rfl⟩
   ·unfold eE at h;dsimp only at h;split at h
    ·rcases aBg.1 h with h|h
     ·exact .inl h
     ·exact .inr ⟨c,aBo,aAp.1 h⟩
    ·exact .inl h
   ·exact .inr ⟨d,aBl _ hd,rfl⟩
 rcases this l (s,[]) h with h|h
 ·cases h
 ·exact h
theorem D9{x:Rc}:∀ {l:List bJ} {s:Sv} {out:List Rc},x∈comms s out l→x∈out∨∃a,x=.rI a
 | [],_,_,h=>.inl h
 |a::l,s,out,h=>by
  unfold comms at h;split at h
  ·rcases D9 h with h|h
   ·rcases aBg.1 h with h|h
    ·exact .inl h
    ·exact .inr ⟨a,aAp.1 h⟩
   ·exact .inr h
  ·exact .inl h
theorem Pt{s:Sv}{m:Mg}(h:m.ok):∀x∈kL s m,x.ok:=by
 intro x hx;unfold kL at hx;split at hx
 ·rename_i hcond;obtain⟨_,_,_,f4,_⟩:=Mg.Ei hcond.1 hcond.2.1;have h1:∀x∈(tryAll s m.iS).2,x.ok:=λx hx=>by
   obtain⟨c,hc,rfl⟩:=JI hx;exact Jj (aDm.1 f4 c hc) (h.1 c hc)
  split at hx
  ·exact h1 x hx
  ·rcases D9 hx with hx|⟨a,rfl⟩
   ·exact h1 x hx
   ·trivial
 ·cases hx
theorem aK.pre{P:Program}{E:Env}{f:FuncId}{args:Array Value}{H H2:List aL}{Q:Ending→List aL→Prop}(hc:aB E H H2)(k:aK P E f args H2 Q):aK P E f args H Q:=λhd w hw=>k hd w (hc w hw)
section
variable (E:Env) (P:List Ov) (g gr:Nat) (x:AM) (now:Int) (sn:Nat) (cf:fU) (nn:Nat) (sub:Int) (n:Nd) (k:Int) (ws:List fD)
theorem Ss(m:Mg)(A:Option Addr)(na c:Nat)(B:Option Addr)(nb d:Nat)(hI:Rd E fN A na c m.ids)(hC:Rd E bE B nb d m.iS)(hok:m.ok)(hu:n.up=true)(h2:m.kind=2):G E 123 [pt g,pt gr,.agg (oK m A na c B nb d).toArray] [aJ g 121 (wC x now sn cf nn sub),bZ P gr cf n k,aZ x.gw ws,aI P] λe H'=>∃Q,e=.returned (.agg (dG ws n m).2.cs.toArray)∧H'=[aJ g 121 (wC x now sn cf nn sub),bZ (P++Q) gr cf (dG ws n m).1.2 k,aZ x.gw (dG ws n m).1.1,aI (P++Q)]:=by
 have st:=λM=>wW M P gr cf n k;simp only[hu,if_true] at st;unfold dG;rw[if_neg o_,if_pos h2];have hto:=Pt (s:=n.s) (m:=m) hok;have tkk:=λM gs hI hC=>Xg M P gs n.s m A na c B nb d hI hC hok;have tk:=λ(M:Env) Q X qc (hr:Rd M jE X (kL n.s m).length qc ((kL n.s m).map Rc.r)) h100=>aK.pre (show aB M [bZ P gr cf n k,aI (P++Q)] [bZ (P++Q) gr cf n k,aI (P++Q)] from aB.imp (bZ.mono (aCd k)) aC) (QP M (P++Q) gr cf n k X (kL n.s m).length qc (kL n.s m) hr hto h100);generalize kL n.s m=tl at *;generalize n.take tl=res at *;obtain⟨n2,z,code⟩:=res;dsimp only at tk⊢;refine t_ func123 ntmps123 ?_;repeat first|refine v_ ?_|intro
 rename_i g5 g6;refine rB (l_ [0,2] (g_ 1 (g_ 3 (n_ 4 .nil)))) ([aJ g5 195 _]) ?_;repeat first|refine v_ ?_|intro
 refine iO st ?_;rintro e H' ⟨gs,rfl,rfl⟩;repeat first|refine v_ ?_|intro
 refine OW (λM=>tkk M gs) ?_;rintro e H' ⟨Q,X,qc,h1,h100,rfl,rfl⟩;repeat first|refine v_ ?_|intro
 refine dX (λM h1=>tk M Q X qc h1 (by omega)) ?_;rintro e H' ⟨Q2,rfl,rfl⟩;repeat first|refine v_ ?_|intro
 exact cI (H':=[aJ g 121 (wC x now sn cf nn sub),bZ (P++(Q++Q2)) gr cf n2 k,aZ x.gw ws,aI (P++(Q++Q2))]) rfl aF rfl rfl rfl aS rfl (by rw[←aAb];exact aA) ⟨Q++Q2,rfl,rfl⟩
end
section
variable (E:Env) (P:List Ov) (g gr:Nat) (x:AM) (now:Int) (sn:Nat) (cf:fU) (nn:Nat) (sub:Int) (n:Nd) (k:Int) (ws:List fD)
theorem Sq(m:Mg)(A:Option Addr)(na c:Nat)(B:Option Addr)(nb d:Nat)(hu:n.up=true)(h1:m.kind≠1)(h2:m.kind≠2):G E 123 [pt g,pt gr,.agg (oK m A na c B nb d).toArray] [aJ g 121 (wC x now sn cf nn sub),bZ P gr cf n k,aZ x.gw ws,aI P] λe H'=>∃Q,e=.returned (.agg (dG ws n m).2.cs.toArray)∧H'=[aJ g 121 (wC x now sn cf nn sub),bZ (P++Q) gr cf (dG ws n m).1.2 k,aZ x.gw (dG ws n m).1.1,aI (P++Q)]:=by
 have st:=λM=>wW M P gr cf n k;simp only[hu,if_true] at st;unfold dG;rw[if_neg h1,if_neg h2];have doo:=λM gs=>Sz M P gs n.s (.qJ m.key) trivial;have tk:=λ(M:Env) Q X qc (hr:Rd M jE X 1 qc [⟨4,mW,⟨0,0⟩,m.key,0⟩])=>aK.pre (show aB M [bZ P gr cf n k,aI (P++Q)] [bZ (P++Q) gr cf n k,aI (P++Q)] from aB.imp (bZ.mono (aCd k)) aC) (QP M (P++Q) gr cf n k X 1 qc [.qJ m.key] hr (by simp[Rc.ok]) o_);generalize n.take [.qJ m.key]=res at *;obtain⟨n2,z,code⟩:=res;generalize n.s.doc (.qJ m.key)=dd at *;obtain⟨s2,cd⟩:=dd;dsimp only at tk doo⊢;have hget:([⟨4,mW,⟨0,0⟩,m.key,0⟩]:List pD)[0]?=some ⟨4,mW,⟨0,0⟩,m.key,0⟩:=rfl;by_cases h0:cd=0
 ·subst h0;rw[if_neg sD];refine t_ func123 ntmps123 ?_;repeat first|refine v_ ?_|intro
  rename_i g5 g6;refine cl sD sK aC (λM hE=>NW (E:=M) m.key) ?_;rintro e H' ⟨rfl,rfl⟩;repeat first|refine v_ ?_|intro
  rename_i g7;refine rB (l_ [0,2,3,4] (g_ 1 (g_ 5 (n_ 6 .nil)))) ([own jE (some ⟨g7,0,none⟩) 1 1 _]) ?_;repeat first|refine v_ ?_|intro
  refine iO st ?_;rintro e H' ⟨gs,rfl,rfl⟩;repeat first|refine v_ ?_|intro
  refine iO (λM=>doo M gs) ?_;rintro e H' ⟨Q,rfl,rfl⟩;repeat first|refine v_ ?_|intro
  refine dX (λM=>tk M Q _ _) ?_;rintro e H' ⟨Q2,rfl,rfl⟩;repeat first|refine v_ ?_|intro
  exact cI (H':=[aJ g 121 (wC x now sn cf nn sub),bZ (P++(Q++Q2)) gr cf n2 k,aZ x.gw ws,aI (P++(Q++Q2))]) rfl aF rfl rfl rfl aS rfl (by rw[←aAb];exact aA) ⟨Q++Q2,rfl,rfl⟩
 ·rw[if_pos h0];refine t_ func123 ntmps123 ?_;repeat first|refine v_ ?_|intro
  rename_i g5 g6;refine cl sD sK aC (λM hE=>NW (E:=M) m.key) ?_;rintro e H' ⟨rfl,rfl⟩;repeat first|refine v_ ?_|intro
  rename_i g7;refine rB (l_ [0,2,3,4] (g_ 1 (g_ 5 (n_ 6 .nil)))) ([own jE (some ⟨g7,0,none⟩) 1 1 _]) ?_;repeat first|refine v_ ?_|intro
  refine iO st ?_;rintro e H' ⟨gs,rfl,rfl⟩;repeat first|refine v_ ?_|intro
  refine iO (λM=>doo M gs) ?_;rintro e H' ⟨Q,rfl,rfl⟩;repeat first|refine v_ ?_|intro
  exact cI (H':=[aJ g 121 (wC x now sn cf nn sub),bZ (P++Q) gr cf n k,aZ x.gw ws,aI (P++Q)]) rfl aF rfl rfl rfl aS rfl (aB.trans (aB.imp (bZ.mono (aCd k)) aC) aA) ⟨Q,rfl,rfl⟩
end
section
variable (E:Env) (P:List Ov) (g gr:Nat) (x:AM) (now:Int) (sn:Nat) (cf:fU) (nn:Nat) (sub:Int) (n:Nd) (k:Int) (ws:List fD)
theorem Rf(m:Mg)(A:Option Addr)(na c:Nat)(B:Option Addr)(nb d:Nat)(hI:Rd E fN A na c m.ids)(hC:Rd E bE B nb d m.iS)(hk:k≤10000000000000)(h1:m.kind=1):G E 123 [pt g,pt gr,.agg (oK m A na c B nb d).toArray] [aJ g 121 (wC x now sn cf nn sub),bZ P gr cf n k,aZ x.gw ws] (cM (.agg (dG ws n m).2.cs.toArray) [aJ g 121 (wC x now sn cf nn sub),bZ P gr cf (dG ws n m).1.2 (k+2048),aZ x.gw (dG ws n m).1.1]):=by
 have sy:=λM=>KU M P gr cf n k hk;have hup:=J3 (n:=n);unfold dG;rw[if_pos h1];generalize n.sync=res at *;obtain⟨n2,code⟩:=res;dsimp only at sy hup⊢;by_cases h0:code=0
 ·subst h0;rw[if_neg sD];have hu:=hup rfl;have st:=λM=>wW M P gr cf n2 (k+2048);simp only[hu,if_true] at st;by_cases hyes:answers n2.s m
  ·rw[show lR n2.s m=uN n2.s m from if_pos hyes];have QV:=λM gs hI hC=>RF M P gs n2.s m A na c B nb d hI hC hyes;have post:=λ(M:Env) X a z Y b y hX hY=>BV M g x now sn cf nn sub ws (uN n2.s m) X a z Y b y hX hY;generalize hp:jW ws (uN n2.s m)=p at *;obtain⟨ws2,v⟩:=p;dsimp only at post⊢;refine t_ func123 ntmps123 ?_;repeat first|refine v_ ?_|refine Dr.two ?_ ?_|intro
   refine bK sy ?_;repeat first|refine v_ ?_|refine Dr.two ?_ ?_|intro
   rename_i g5 g6;refine C.BI (X:=Option Addr×Nat×Nat×Option Addr×Nat×Nat×Nat) (λy=>[(0,pt g),(6,pt g6),(8,pt y.2.2.2.2.2.2)]) (λy=>[aJ y.2.2.2.2.2.2 195 (oK (uN n2.s m) y.1 (min y.2.1 16) (min y.2.1 16) y.2.2.2.1 (min y.2.2.2.2.1 8) (min y.2.2.2.2.1 8)),own fN y.1 y.2.1 y.2.2.1 (oX n2.s m),own bE y.2.2.2.1 y.2.2.2.2.1 y.2.2.2.2.2.1 (E8 n2.s m),aJ g6 36 CQ.cs,aJ g 121 (wC x now sn cf nn sub),bZ P gr cf n2 (k+2048),aZ x.gw ws]) (λ_=>True) ?_ ?_
   ·refine rB (l_ [0,2] (.two 1 (.two 3 (l_ [4,5,6] (g_ 7 (g_ 8 (n_ 9 .nil)))) 7 (g_ 3 (l_ [4,5,6] (g_ 8 (n_ 9 .nil))))) 7 (g_ 1 (g_ 3 (l_ [4,5,6] (g_ 8 (n_ 9 .nil))))))) ([aJ g5 195 _]) ?_;repeat first|refine v_ ?_|intro
    refine Dr.two ?_ ?_
    ·refine yB rfl sD bA sK aC (λM hE=>st M) ?_;rintro e H' ⟨gs,rfl,rfl⟩;repeat first|refine v_ ?_|intro
     refine Dr.two ?_ ?_
     ·refine yB rfl sD bA sK aC (λM hE=>QV M gs (hI.sub hE) (hC.sub hE)) ?_;rintro e H' ⟨X,a,z,K2,b,y,ha,rfl,rfl⟩;repeat first|refine cY ?_|intro
      rename_i g8;exact⟨(X,a,z,K2,b,y,g8),aD,aA,trivial⟩
     ·repeat first|refine cY ?_|intro
      refine OW (λM=>QV M gs) ?_;rintro e H' ⟨X,a,z,K2,b,y,ha,rfl,rfl⟩;repeat first|refine cY ?_|intro
      rename_i g8;exact⟨(X,a,z,K2,b,y,g8),aD,aA,trivial⟩
    ·repeat first|refine cY ?_|intro
     refine iO st ?_;rintro e H' ⟨gs,rfl,rfl⟩;repeat first|refine cY ?_|intro
     refine OW (λM=>QV M gs) ?_;rintro e H' ⟨X,a,z,K2,b,y,ha,rfl,rfl⟩;repeat first|refine cY ?_|intro
     rename_i g8;exact⟨(X,a,z,K2,b,y,g8),aD,aA,trivial⟩
   ·rintro⟨X,a,z,K2,b,y,g8⟩ F -;dsimp only;repeat first|refine v_ ?_|refine Dr.two ?_ ?_|intro
    refine rB (l_ [0,1,2,3] (g_ 4 (n_ 5 (g_ 6 .nil)))) ([aJ g8 195 _]) ?_;repeat first|refine v_ ?_|refine Dr.two ?_ ?_|intro
    refine cg rfl sD bA sK aC (λM hE=>post M X (min a 16) (min a 16) K2 (min b 8) (min b 8) (Rd.front (show Rd M fN X a z (oX n2.s m) from dB) 16) (Rd.front (show Rd M bE K2 b y (E8 n2.s m) from dB) 8)) ?_;rintro e H' ⟨rfl,rfl⟩;repeat first|refine v_ ?_|refine Dr.two ?_ ?_|intro
    exact Kz
  ·rw[show lR n2.s m=mz from if_neg hyes];have QV:=λM gs hI hC=>Hq M P gs n2.s m A na c B nb d hI hC hyes;have post:=λ(M:Env)=>BV M g x now sn cf nn sub ws mz none 0 0 none 0 0 (Rd.nil _ _) (Rd.nil _ _);generalize jW ws mz=p at *;obtain⟨ws2,v⟩:=p;dsimp only at post⊢;refine t_ func123 ntmps123 ?_;repeat first|refine v_ ?_|refine Dr.two ?_ ?_|intro
   refine bK sy ?_;repeat first|refine v_ ?_|refine Dr.two ?_ ?_|intro
   rename_i g5 g6;refine C.BI (X:=Nat) (λy=>[(0,pt g),(6,pt g6),(8,pt y)]) (λy=>[aJ y 195 (oK mz none 0 0 none 0 0),aJ g6 36 CQ.cs,aJ g 121 (wC x now sn cf nn sub),bZ P gr cf n2 (k+2048),aZ x.gw ws]) (λ_=>True) ?_ ?_
   ·refine rB (l_ [0,2] (.two 1 (.two 3 (l_ [4,5,6] (g_ 7 (g_ 8 (n_ 9 .nil)))) 7 (g_ 3 (l_ [4,5,6] (g_ 8 (n_ 9 .nil))))) 7 (g_ 1 (g_ 3 (l_ [4,5,6] (g_ 8 (n_ 9 .nil))))))) ([aJ g5 195 _]) ?_;repeat first|refine v_ ?_|intro
    refine Dr.two ?_ ?_
    ·refine yB rfl sD bA sK aC (λM hE=>st M) ?_;rintro e H' ⟨gs,rfl,rfl⟩;repeat first|refine v_ ?_|intro
     refine Dr.two ?_ ?_
     ·refine yB rfl sD bA sK aC (λM hE=>QV M gs (hI.sub hE) (hC.sub hE)) ?_;rintro e H' ⟨rfl,rfl⟩;repeat first|refine cY ?_|intro
      rename_i g8;exact⟨g8,aD,aA,trivial⟩
     ·repeat first|refine cY ?_|intro
      refine Ju (λM=>QV M gs) ?_;repeat first|refine cY ?_|intro
      rename_i g8;exact⟨g8,aD,aA,trivial⟩
    ·repeat first|refine cY ?_|intro
     refine iO st ?_;rintro e H' ⟨gs,rfl,rfl⟩;repeat first|refine cY ?_|intro
     refine Ju (λM=>QV M gs) ?_;repeat first|refine cY ?_|intro
     rename_i g8;exact⟨g8,aD,aA,trivial⟩
   ·rintro g8 F -;repeat first|refine v_ ?_|refine Dr.two ?_ ?_|intro
    refine rB (l_ [0,1,2,3] (g_ 4 (n_ 5 (g_ 6 .nil)))) ([aJ g8 195 _]) ?_;repeat first|refine v_ ?_|refine Dr.two ?_ ?_|intro
    refine eJ post ?_;repeat first|refine v_ ?_|refine Dr.two ?_ ?_|intro
    exact Kz
 ·rw[if_pos h0];refine t_ func123 ntmps123 ?_;repeat first|refine v_ ?_|refine Dr.two ?_ ?_|intro
  refine bK sy ?_;repeat first|refine v_ ?_|refine Dr.two ?_ ?_|intro
  exact Kz
end
theorem Qi(E:Env):G E 69 [.pointer none] [] (cM (.bool false) []):=by
 refine t_ func69 ntmps69 ?_;repeat first|refine v_ ?_|intro
 exact B7
section
variable (E:Env) (P:List Ov) (g:Nat) (x:AM) (now:Int) (sn:Nat) (cf:fU) (nn:Nat) (sub:Int) (ws:List fD)
theorem CR(i:Int)(h:xB ws i=none):G E 59 [pt g,.int .i64 i] [aJ g 121 (wC x now sn cf nn sub),aZ x.gw ws] (cM (.agg (⟨14,0,0⟩:wM).cs.toArray) [aJ g 121 (wC x now sn cf nn sub),aZ x.gw ws]):=by
 have fl:=λM e=>tD M e;have to:=λM=>JU M x.gw ws i;have tk:=λM=>vV M x.gw ws i;rw[h] at to tk;refine t_ func59 ntmps59 ?_;repeat first|refine v_ ?_|intro
 refine bK to ?_;repeat first|refine v_ ?_|intro
 refine bK tk ?_;repeat first|refine v_ ?_|intro
 refine bK (λM=>fl M 14) ?_;repeat first|refine v_ ?_|intro
 exact Kz
theorem DE(i:Int)(p:fD)(h:xB ws i=some p)(hb:mM p.b=none)(hlen:p.b.length≤1000000):G E 59 [pt g,.int .i64 i] [aJ g 121 (wC x now sn cf nn sub),aZ x.gw ws] (cM (.agg (⟨0,0,0⟩:wM).cs.toArray) [aJ g 121 (wC x now sn cf nn sub),aZ x.gw (cR ws i)]):=by
 have to:=λM=>JU M x.gw ws i;have tk:=λM=>vV M x.gw ws i;rw[h] at to tk;have gt:=λ(M:Env) A n c hr hl=>Gv (E:=M) (A:=A) (n:=n) (c:=c) p.b hr hl;rw[hb] at gt;refine t_ func59 ntmps59 ?_;repeat first|refine v_ ?_|intro
 refine bK to ?_;repeat first|refine v_ ?_|intro
 refine bW tk ?_;rintro e H' ⟨A,n,c,hn,rfl,rfl⟩;repeat first|refine v_ ?_|intro
 refine cl sD sK aC (λM hE=>gt M A n c dB (by have:=(show Rd M aU A n c p.b from dB).len;omega)) ?_;rintro e H' ⟨rfl,rfl⟩;repeat first|refine v_ ?_|intro
 exact Kz
end
section
variable (E:Env) (P:List Ov) (g:Nat) (x:AM) (now:Int) (sn:Nat) (cf:fU) (nn:Nat) (sub:Int) (ws:List fD)
theorem aHa(i:Int)(p:fD)(h:xB ws i=some p)(m:Mg)(hb:mM p.b=some m)(hlen:p.b.length≤1000000)(hto:p.to=9)(r:Int)(l:List dK)(hl:l.length≤1000000):G E 59 [pt g,.int .i64 i] [aJ g 121 (wC x now sn cf nn sub),aZ x.gw ws,cK x.gg r l] (cM (.agg (⟨0,(gG (cR ws i) r l m).2,0⟩:wM).cs.toArray) [aJ g 121 (wC x now sn cf nn sub),aZ x.gw (gG (cR ws i) r l m).1.1,cK x.gg (gG (cR ws i) r l m).1.2.1 (gG (cR ws i) r l m).1.2.2]):=by
 have to:=λM=>JU M x.gw ws i;have tk:=λM=>vV M x.gw ws i;rw[h] at to tk;simp only[aDi,aBe,hto] at to;have gt:=λ(M:Env) A n c hr hl=>Gv (E:=M) (A:=A) (n:=n) (c:=c) p.b hr hl;rw[hb] at gt;have rq:=λM O a c B b d=>LJ M g x now sn cf nn sub (cR ws i) r l hl m O a c B b d;generalize gG (cR ws i) r l m=q at *;obtain⟨⟨ws2,r2,l2⟩,v⟩:=q;dsimp only at rq⊢;refine t_ func59 ntmps59 ?_;repeat first|refine v_ ?_|intro
 refine bK to ?_;repeat first|refine v_ ?_|intro
 refine bW tk ?_;rintro e H' ⟨A,n,c,hn,rfl,rfl⟩;repeat first|refine v_ ?_|intro
 refine cl sD sK aC (λM hE=>gt M A n c dB (by have:=(show Rd M aU A n c p.b from dB).len;omega)) ?_;rintro e H' ⟨O,a,oc,B,b,d,rfl,rfl⟩;repeat first|refine v_ ?_|intro
 rename_i g8;refine rB (l_ [0,1,2,3] (g_ 4 (n_ 5 (g_ 6 .nil)))) ([aJ g8 195 _]) ?_;repeat first|refine v_ ?_|intro
 refine eJ (λM=>rq M O a oc B b d) ?_;repeat first|refine v_ ?_|intro
 exact Kz
end
section
variable (E:Env) (P:List Ov) (g gr:Nat) (x:AM) (now:Int) (sn:Nat) (cf:fU) (nn:Nat) (sub:Int) (n:Nd) (k:Int) (ws:List fD)
theorem yV(i:Int)(p:fD)(h:xB ws i=some p)(m:Mg)(hb:mM p.b=some m)(hlen:p.b.length≤1000000)(h9:p.to≠9)(hn:nn≤4)(h1:1≤nn)(hto:p.to<0∨(nn:Int)≤p.to):G E 59 [pt g,.int .i64 i] [aJ g 121 (wC x now sn cf nn sub),aZ x.gw ws] (cM (.agg (⟨0,0,0⟩:wM).cs.toArray) [aJ g 121 (wC x now sn cf nn sub),aZ x.gw (cR ws i)]):=by
 have to:=λM=>JU M x.gw ws i;have tk:=λM=>vV M x.gw ws i;rw[h] at to tk;simp only[aDi,aBe] at to;have gt:=λ(M:Env) A n c hr hl=>Gv (E:=M) (A:=A) (n:=n) (c:=c) p.b hr hl;rw[hb] at gt;have atn:=λM hb=>EN M g x now sn cf nn sub p.to hb hn h1 hto;refine t_ func59 ntmps59 ?_;repeat first|refine v_ ?_|intro
 refine bK to ?_;repeat first|refine v_ ?_|intro
 refine bW tk ?_;rintro e H' ⟨A,na,c,hn,rfl,rfl⟩;repeat first|refine v_ ?_|intro
 refine cl sD sK aC (λM hE=>gt M A na c dB (by have:=(show Rd M aU A na c p.b from dB).len;omega)) ?_;rintro e H' ⟨O,a,oc,B,b,d,rfl,rfl⟩;repeat first|refine v_ ?_|intro
 refine eV atn ?_;repeat first|refine v_ ?_|intro
 refine bK Qi ?_;repeat first|refine v_ ?_|intro
 exact Kz
theorem Ew(i:Int)(p:fD)(h:xB ws i=some p)(m:Mg)(hb:mM p.b=some m)(hlen:p.b.length≤1000000)(j:Nat)(hj:p.to=j)(hn:nn≤4)(hgs:x.gs[j]?=some gr)(hu:n.up=false):G E 59 [pt g,.int .i64 i] [aJ g 121 (wC x now sn cf nn sub),bZ P gr cf n k,aZ x.gw ws,own vE x.nA nn x.nc x.gs] (cM (.agg (⟨0,0,0⟩:wM).cs.toArray) [aJ g 121 (wC x now sn cf nn sub),bZ P gr cf n k,aZ x.gw (cR ws i),own vE x.nA nn x.nc x.gs]):=by
 refine aK.fact (p:=nn=x.gs.length) (λw hw=>by obtain⟨F,h1,_⟩:=hw.has (a:=own vE x.nA nn x.nc x.gs) aS;exact(qE h1).1) λhnl=>?_;have hjl:=(aAd.1 hgs).1;have to:=λM=>JU M x.gw ws i;have tk:=λM=>vV M x.gw ws i;rw[h] at to tk;simp only[aDi,aBe] at to;have gt:=λ(M:Env) A n c hr hl=>Gv (E:=M) (A:=A) (n:=n) (c:=c) p.b hr hl;rw[hb] at gt;rw[hj] at to;have h9:(j:Int)≠9:=o_;have aty:=λM hb hG=>qW M g x now sn cf nn sub j gr hb hn hG hgs;have up:=λM=>TI M P gr cf n k;rw[hu] at up;refine t_ func59 ntmps59 ?_;repeat first|refine v_ ?_|intro
 refine bK to ?_;repeat first|refine v_ ?_|intro
 refine bW tk ?_;rintro e H' ⟨A,na,c,hn,rfl,rfl⟩;repeat first|refine v_ ?_|intro
 refine cl sD sK aC (λM hE=>gt M A na c dB (by have:=(show Rd M aU A na c p.b from dB).len;omega)) ?_;rintro e H' ⟨O,a,oc,B,b,d,rfl,rfl⟩;repeat first|refine v_ ?_|intro
 refine DY aty ?_;repeat first|refine v_ ?_|intro
 refine bK up ?_;repeat first|refine v_ ?_|intro
 exact Kz
end
section
variable (E:Env) (P:List Ov) (g gr:Nat) (x:AM) (now:Int) (sn:Nat) (cf:fU) (nn:Nat) (sub:Int) (n:Nd) (k:Int) (ws:List fD)
theorem UK(m:Mg)(A:Option Addr)(na c:Nat)(B:Option Addr)(nb d:Nat)(hI:Rd E fN A na c m.ids)(hC:Rd E bE B nb d m.iS)(hok:m.ok)(hu:n.up=true)(hk:k≤10000000000000):G E 123 [pt g,pt gr,.agg (oK m A na c B nb d).toArray] [aJ g 121 (wC x now sn cf nn sub),bZ P gr cf n k,aZ x.gw ws,aI P] λe H'=>∃Q,e=.returned (.agg (dG ws n m).2.cs.toArray)∧H'=[aJ g 121 (wC x now sn cf nn sub),bZ (P++Q) gr cf (dG ws n m).1.2 (k+2048),aZ x.gw (dG ws n m).1.1,aI (P++Q)]:=by
 by_cases h1:m.kind=1
 ·refine aK.mono (aK.beside (Hp:=[aJ g 121 (wC x now sn cf nn sub),bZ P gr cf n k,aZ x.gw ws]) (R:=[aI P]) λM hE=>Rf M P g gr x now sn cf nn sub n k ws m A na c B nb d (hI.sub hE) (hC.sub hE) hk h1) ?_;rintro e H' ⟨H1,⟨rfl,rfl⟩,rfl⟩;exact⟨[],rfl,by rw[aAc];rfl⟩
 ·have fin:∀Q,aB E [aJ g 121 (wC x now sn cf nn sub),bZ (P++Q) gr cf (dG ws n m).1.2 k,aZ x.gw (dG ws n m).1.1,aI (P++Q)] [aJ g 121 (wC x now sn cf nn sub),bZ (P++Q) gr cf (dG ws n m).1.2 (k+2048),aZ x.gw (dG ws n m).1.1,aI (P++Q)]:=λQ=>aB.cF (cA.cons cA.refl (cA.cons (bZ.qK o_) cA.refl));by_cases h2:m.kind=2
  ·refine aK.post (Ss E P g gr x now sn cf nn sub n k ws m A na c B nb d hI hC hok hu h2) ?_;rintro e H' ⟨Q,rfl,rfl⟩;exact⟨_,fin Q,Q,rfl,rfl⟩
  ·refine aK.post (Sq E P g gr x now sn cf nn sub n k ws m A na c B nb d hu h1 h2) ?_;rintro e H' ⟨Q,rfl,rfl⟩;exact⟨_,fin Q,Q,rfl,rfl⟩
end
section
variable (E:Env) (P:List Ov) (g gr:Nat) (x:AM) (now:Int) (sn:Nat) (cf:fU) (nn:Nat) (sub:Int) (n:Nd) (k:Int) (ws:List fD)
theorem E9(i:Int)(p:fD)(h:xB ws i=some p)(m:Mg)(hb:mM p.b=some m)(hlen:p.b.length≤1000000)(j:Nat)(hj:p.to=j)(hn:nn≤4)(hgs:x.gs[j]?=some gr)(hu:n.up=true)(hk:k≤10000000000000):G E 59 [pt g,.int .i64 i] [aJ g 121 (wC x now sn cf nn sub),bZ P gr cf n k,aZ x.gw ws,aI P,own vE x.nA nn x.nc x.gs] λe H'=>∃Q,e=.returned (.agg (dG (cR ws i) n m).2.cs.toArray)∧H'=[aJ g 121 (wC x now sn cf nn sub),bZ (P++Q) gr cf (dG (cR ws i) n m).1.2 (k+2048),aZ x.gw (dG (cR ws i) n m).1.1,aI (P++Q),own vE x.nA nn x.nc x.gs]:=by
 refine aK.fact (p:=nn=x.gs.length) (λw hw=>by obtain⟨F,h1,_⟩:=hw.has (a:=own vE x.nA nn x.nc x.gs) aS;exact(qE h1).1) λhnl=>?_;have hjl:=(aAd.1 hgs).1;have hok:=(tU hb).2.2;have to:=λM=>JU M x.gw ws i;have tk:=λM=>vV M x.gw ws i;rw[h] at to tk;simp only[aDi,aBe] at to;have gt:=λ(M:Env) A n c hr hl=>Gv (E:=M) (A:=A) (n:=n) (c:=c) p.b hr hl;rw[hb] at gt;rw[hj] at to;have h9:(j:Int)≠9:=o_;have aty:=λM hb hG=>qW M g x now sn cf nn sub j gr hb hn hG hgs;have up:=λM=>TI M P gr cf n k;rw[hu] at up;have hear:=λM O a oc B b d hI hC=>UK M P g gr x now sn cf nn sub n k (cR ws i) m O a oc B b d hI hC hok hu hk;generalize dG (cR ws i) n m=res at *;obtain⟨⟨ws2,n2⟩,QV⟩:=res;dsimp only at hear⊢;refine t_ func59 ntmps59 ?_;repeat first|refine v_ ?_|intro
 refine bK to ?_;repeat first|refine v_ ?_|intro
 refine bW tk ?_;rintro e H' ⟨A,na,c,hnn,rfl,rfl⟩;repeat first|refine v_ ?_|intro
 refine cl sD sK aC (λM hE=>gt M A na c dB (by have:=(show Rd M aU A na c p.b from dB).len;omega)) ?_;rintro e H' ⟨O,a,oc,B,b,d,rfl,rfl⟩;repeat first|refine v_ ?_|intro
 refine DY aty ?_;repeat first|refine v_ ?_|intro
 refine bK up ?_;repeat first|refine v_ ?_|intro
 refine C1 (λM=>hear M O a oc B b d) ?_;rintro e H' ⟨Q,rfl,rfl⟩;repeat first|refine v_ ?_|intro
 exact cI rfl aF rfl rfl rfl aS rfl aA (⟨Q,rfl,rfl⟩)
end
instance:Bj 176 [.int .i64 0,.int .i64 0,.int .i64 0,.int .i64 0,.int .i64 0] [(0,1),(1,1),(2,1),(3,1),(4,1)] 1:=⟨⟨q_,q_,rfl⟩⟩
instance:Bg 176 [.int .i64 0,.int .i64 0,.int .i64 0,.int .i64 0,.int .i64 0]:=⟨q_⟩
def fU.cV(c:fU):Prop:=(1≤c.bN∧c.bN≤4)∧(1≤c.eF∧c.eF≤64)∧(1≤c.dC∧c.dC≤8)∧(1≤c.base∧c.base≤64)∧1≤c.cap∧c.cap≤64
instance (c:fU):Decidable c.cV:=by unfold fU.cV;infer_instance
theorem KC(E:Env)(c:fU):G E 47 [.agg c.cs.toArray] [] (cM (.int .i64 (if c.cV then 0 else 6)) []):=by
 refine t_ func47 ntmps47 ?_;repeat first|refine v_ ?_|intro
 rename_i g1 g3;obtain⟨qs,hqs⟩:∃qs:List Int,qs=[c.bN,c.eF,c.dC,c.base,c.cap]:=⟨_,rfl⟩
 obtain⟨ts,hts⟩:∃ts:List Int,ts=[4,64,8,64,64]:=⟨_,rfl⟩
 refine C.scan (Y:=Unit) (l:=qs.zip ts) (n:=5) (by subst hqs hts;rfl) (λi _=>[(3,pt g3),(17,.agg (cells qs).toArray),(18,.int .i64 i)])
  (λ_ _=>[aJ g3 176 (cells ts)]) (λi _=>∀j z,j<i→(qs.zip ts)[j]?=some z→1≤z.1∧z.1≤z.2) () (by subst hqs hts;exact⟨rfl,rfl,rfl,trivial⟩) (by subst hqs hts;show aB E _ [aJ g3 176 [.int .i64 4,.int .i64 64,.int .i64 8,.int .i64 64,.int .i64 64]];exact aA) (λj z hj=>by omega) ?_ ?_
 ·rintro i ⟨⟩ ⟨a,b⟩ F hi hz hinv;have hz1:qs[i]?=some a:=(aDf.1 hz).1;have hz2:ts[i]?=some b:=(aDf.1 hz).2;have hA:(cells qs)[i]?=some (Value.int .i64 a):=by simp[cells,hz1]
  have hB:(cells ts)[i]?=some (Value.int .i64 b):=by simp[cells,hz2]
  by_cases hr:1≤a∧a≤b
  ·have hd:decide (1≤a∧a≤b)=true:=decide_eq_true hr;repeat first|refine v_ ?_|intro
   refine⟨(),aD,aA,λj z hj hz'=>?_⟩;by_cases hji:j<i
   ·exact hinv j z hji hz'
   ·obtain rfl:j=i:=o_;rw[hz] at hz';injection hz' with hz'
    subst hz';exact hr
  ·have hd:decide (1≤a∧a≤b)=false:=decide_eq_false hr;have hf:¬c.cV:=λhf=>by
    subst hqs hts;unfold fU.cV at hf;rcases(show i=0∨i=1∨i=2∨i=3∨i=4 by omega) with rfl|rfl|rfl|rfl|rfl<;>(injection hz1 with hz1;injection hz2 with hz2;subst hz1 hz2;omega)
   rw[if_neg hf];repeat first|refine v_ ?_|intro
   exact B7
 ·rintro⟨⟩ F hinv;subst hqs hts;have h0:=hinv 0 _ o_ rfl;have h1:=hinv 1 _ o_ rfl;have h2:=hinv 2 _ o_ rfl;have h3:=hinv 3 _ o_ rfl;have h4:=hinv 4 _ o_ rfl;rw[if_pos (show c.cV from⟨h0,h1,h2,h3,h4⟩)];repeat first|refine v_ ?_|intro
  exact B7
structure Wv where
 cf:fU
 now:Int
 sub:Int
 aW:List fM
 ws:List fD
 ref:Int
 app:List dK
 bU:List Nd
def sU(ws:List fD):Prop:=(∀p∈ws,p.b.length≤1000000)∧ws.length≤128
structure Wv.ok(t:Nat)(v:Wv):Prop where
 cV:v.cf.cV
 len:(v.bU.length:Int)=v.cf.bN
 now:0≤v.now∧v.now≤1073741824
 sub:0≤v.sub∧v.sub≤48
 aW:v.aW.length≤48*t
 app:v.app.length≤t
 pk:sU v.ws
theorem Wv.ok.rK{t:Nat}{v:Wv}(h:v.ok t):1≤v.bU.length∧v.bU.length≤4:=by
 have h1:=h.cV.1;have h2:=h.len;omega
theorem Wv.ok.node{t:Nat}{v:Wv}(_h:v.ok t){i:Nat}(hi:i<v.bU.length):∃n,v.bU[i]?=some n:=⟨_,aAa hi⟩
abbrev nP(P:List Ov)(cf:fU)(k:Int)(z:Nat×Nd):aL:=bZ P z.1 cf z.2 k
abbrev wL(P:List Ov)(g:Nat)(k:Int)(v:Wv)(x:AM):List aL:=[aJ g 121 (wC x v.now v.aW.length v.cf v.bU.length v.sub),aZ x.gw v.ws,cK x.gg v.ref v.app,own mK x.sA v.aW.length x.sc v.aW,own vE x.nA v.bU.length x.nc x.gs,aO (nP P v.cf k) (x.gs.zip v.bU)]
abbrev kt(t:Nat):Int:=((10000*t:Nat):Int)
theorem uX{t t':Nat}(h:t≤t'):kt t≤kt t':=by simp only[kt];omega
def aQ(P:List Ov)(g:Nat)(t:Nat)(v:Wv):aL:=nI (λx:AM=>v.ok t∧x.gs.length=v.bU.length) (wL P g (kt t) v)
theorem cA.X7{X:Type}{f f':X→aL}(h:∀z,cA [f z] [f' z]):∀l:List X,cA (l.map f) (l.map f')
 | []=>cA.refl
 |x::l=>cA.cons (h x) (cA.X7 h l)
theorem cA.Ge{X:Type}{f f':X→aL}{l:List X}(h:∀z,cA [f z] [f' z]):cA [aO f l] [aO f' l]:=λF w hs=>by
 obtain⟨F1,F2,h1,h2,h3,h4⟩:=hs;obtain⟨G,g1,g2⟩:=cA.X7 h l F1 w h3;exact⟨G,⟨G,λ_=>False,λb=>by simp,λ_ _ h=>h,g1,λ_ h=>h⟩,λb hb=>(h1 b).2 (.inl (g2 b hb))⟩
theorem SO{α β:Type}{l:List α}{m:List β}{i:Nat}{a:α}{b:β}(h:l[i]?=some a):(l.zip m).set i (a,b)=l.zip (m.set i b):=by
 refine aCk λj=>?_;by_cases hj:i=j
 ·subst hj;rw[aDr];by_cases hm:i<m.length
  ·have hl:=(aAd.1 h).1;rw[if_pos rfl,if_pos (by rw[aFl];omega)];exact(aDf.2 ⟨h,by rw[aDr,if_pos rfl,if_pos hm]⟩).symm
  ·rw[if_pos rfl,if_neg (by rw[aFl];omega)];exact(aBx.2 (by rw[aFl,aAt];omega)).symm
 ·rw[aEq hj];cases hz:(l.zip m)[j]? with
  |none =>
   have:=aBx.1 hz;exact(aBx.2 (by rw[aFl,aAt];rw[aFl] at this;exact this)).symm
  |some z =>
   obtain⟨h1,h2⟩:=aDf.1 hz;exact(aDf.2 ⟨h1,by rw[aEq hj];exact h2⟩).symm
theorem aB.lB{E:Env}{H R l:List aL}(h:cS l H R):aB E H (l++R):=aB.imp cA.refl h
section
variable {E:Env} {H R:List aL} {P Q PQ:List Ov} {g gr:Nat} {t t':Nat} {v v':Wv} {x x':AM} {n n':Nd} {i:Nat} {k k' k2:Int} {cf:fU}
theorem vR(hg:x.gs[i]?=some gr)(hn:v.bU[i]?=some n)(hh:Has (aO (nP P cf k) (x.gs.zip v.bU)) H R):aB E H (bZ P gr cf n k::aO (nP P cf k) ((x.gs.zip v.bU).eraseIdx i)::R) :=
 aB.out (f:=nP P cf k) (x:=(gr,n)) hh (aDf.2 ⟨hg,hn⟩)
theorem Va(hg:x.gs[i]?=some gr)(hn:v.bU[i]?=some n)(h1:k≤k2)(h2:k'≤k2)(hp:cS [bZ (P++Q) gr cf n' k',aO (nP P cf k) ((x.gs.zip v.bU).eraseIdx i)] H R):aB E H (aO (nP (P++Q) cf k2) (x.gs.zip (v.bU.set i n'))::R):=by
 have hi:i<(x.gs.zip v.bU).length:=(aAd.1 (aDf.2 ⟨hg,hn⟩:(x.gs.zip v.bU)[i]?=some (gr,n))).1;have c1:aB E H (bZ (P++Q) gr cf n' k2::aO (nP (P++Q) cf k2) ((x.gs.zip v.bU).eraseIdx i)::R):=aB.imp (cA.cons (bZ.qK h2) (cA.Ge (λz=>bZ.mono (P:=P) (Q:=Q) h1))) hp;rw[←SO hg];exact c1.trans (aB.BH (f:=nP (P++Q) cf k2) (x:=(gr,n')) (.cons .aN (.cons .aN .nil)) (uO hi))
theorem BZ(ht:t≤t')(hPQ:PQ=P++Q)(hg:x'.gs[i]?=some gr)(hn:v.bU[i]?=some n)(h2:k'≤kt t')(hv:v'.ok t')(hgs:x'.gs.length=v.bU.length)(hnd:v'.bU=v.bU.set i n'){nn sn:Nat}(hnn:nn=v.bU.length)(hsn:sn=v'.aW.length)
  (hp:cS [aJ g 121 (wC x' v'.now sn v'.cf nn v'.sub),aZ x'.gw v'.ws,cK x'.gg v'.ref v'.app,own mK x'.sA sn x'.sc v'.aW,own vE x'.nA nn x'.nc x'.gs,bZ PQ gr v'.cf n' k',aO (nP P v'.cf (kt t)) ((x'.gs.zip v.bU).eraseIdx i)] H R):aB E H (aQ PQ g t' v'::R):=by
 subst hPQ;have hl:v'.bU.length=v.bU.length:=by rw[hnd,aAt]
 subst hsn;rw[hnn,←hl] at hp;have c1:=aB.imp (E:=E) cA.refl hp;dsimp only[List.cons_append,List.nil_append] at c1;refine c1.trans (aB.trans (Va (x:=x') (v:=v) (cf:=v'.cf) (k2:=kt t') (Q:=Q) hg hn (uX ht) h2 aC) ?_);rw[←hnd];exact aB.fp (l:=wL (P++Q) g (kt t') v') (x:=x') ⟨hv,by rw[hl];exact hgs⟩ aC
theorem Di(ht:t≤t')(hPQ:PQ=P++Q)(hv:v'.ok t')(hgs:x'.gs.length=v.bU.length)(hnd:v'.bU=v.bU){nn sn:Nat}(hnn:nn=v.bU.length)(hsn:sn=v'.aW.length)
  (hp:cS [aJ g 121 (wC x' v'.now sn v'.cf nn v'.sub),aZ x'.gw v'.ws,cK x'.gg v'.ref v'.app,own mK x'.sA sn x'.sc v'.aW,own vE x'.nA nn x'.nc x'.gs,aO (nP P v'.cf (kt t)) (x'.gs.zip v.bU)] H R):aB E H (aQ PQ g t' v'::R):=by
 subst hPQ hsn;rw[hnn,←hnd] at hp;have c1:=aB.imp (E:=E) cA.refl hp;dsimp only[List.cons_append,List.nil_append] at c1;refine c1.trans (aB.trans (aB.imp (A:=[aO (nP P v'.cf (kt t)) (x'.gs.zip v'.bU)]) (B:=[aO (nP (P++Q) v'.cf (kt t')) (x'.gs.zip v'.bU)]) (cA.Ge (λz=>bZ.mono (P:=P) (Q:=Q) (uX ht))) aC) ?_);dsimp only[List.cons_append,List.nil_append];exact aB.fp (l:=wL (P++Q) g (kt t') v') (x:=x') ⟨hv,by rw[hnd];exact hgs⟩ aC
end
theorem Oo{ws:List fD}{p:fD}(h:sU ws)(hp:p.b.length≤1000000):sU (zX ws p).1:=by
 unfold zX;split
 ·exact h
 ·refine⟨λq hq=>?_,by show(ws++[p]).length≤128;rw[aAe,aDa];omega⟩;rcases aBg.1 hq with hq|hq
  ·exact h.1 q hq
  ·rw[aAp.1 hq];exact hp
theorem BG{ws:List fD}(h:sU ws)(m:Mg):sU (jW ws m).1:=by
 unfold jW;split
 ·exact h
 ·rename_i hc;have hc:m.check=0:=Classical.not_not.1 hc;refine Oo h ?_;have:=Mg.size hc;have:m.enc.length=m.body.length+7:=Frm.bO _;show m.enc.length≤_;omega
theorem BS{ws:List fD}(h:sU ws)(i:Int):sU (cR ws i):=by
 unfold cR;split
 ·exact h
 ·exact⟨λp hp=>h.1 p (aGe hp),aBw (List.eraseIdx_sublist ..).length_le h.2⟩
theorem PE{ws:List fD}(h:sU ws){i:Int}{p:fD}(hp:xB ws i=some p):p.b.length≤1000000:=by
 obtain⟨k,_,hk⟩:=uP hp;exact h.1 p (aAi hk)
theorem VI{ws:List fD}(h:sU ws)(r:Int)(l:List dK)(m:Mg):sU (gG ws r l m).1.1:=by
 unfold gG;split
 ·exact BG h _
 ·exact h
theorem F5{r now:Int}:∀(l:List dK) (ws:List fD) (aW:List fM),sU ws→sU (jN r now ws aW l).1
 | [],_,_,h=>h
 |_q::l,_ws,_aW,h=>F5 l _ _ (BG h _)
theorem IY{ws:List fD}(h:sU ws)(st:cH):sU (lP ws st).1:=by
 unfold lP;split
 ·exact h
 split
 ·unfold NZ;split
  ·exact h
  ·exact BS h _
 split
 ·unfold Co;split
  ·rename_i p hp;exact Oo h (PE h hp)
  ·exact h
 split
 ·exact h
 ·unfold CU;split
  ·rename_i p hp;split
   ·exact h
   ·refine⟨λq hq=>?_,by show(ws.set _ _).length≤128;rw[aAt];exact h.2⟩;rcases aCr hq with hq|hq
    ·exact h.1 q hq
    ·rw[hq];show(tJ p.b _).length≤_;rw[show ∀k,(tJ p.b k).length=p.b.length from λk=>by simp[tJ]];exact PE h hp
  ·exact h
theorem Qj{ws:List fD}(h:sU ws)(n:Nd)(m:Mg):sU (dG ws n m).1.1:=by
 unfold dG;split
 ·split
  ·exact h
  ·exact BG h _
 split
 ·exact h
 split
 ·exact h
 ·exact h
theorem SQ(ws:List fD)(r:Int)(l:List dK)(m:Mg):(gG ws r l m).1.2.2.length≤l.length+1:=by
 have h:(L8 r l ⟨m.key,m.bC⟩).1.2.length≤l.length+1:=by
  unfold L8;split
  ·simp
  ·split<;>simp
 unfold gG;split<;>exact h
theorem IC{sub:Int}(h:0≤sub∧sub≤48)(n:Nd)(c:aX):0≤(kA sub n c).1∧(kA sub n c).1≤48:=by
 unfold kA;split
 ·exact h
 split
 ·exact h
 ·exact⟨by show 0≤sub+1;omega,by show sub+1≤48;omega⟩
theorem Nx{now:Int}(h:0≤now∧now≤1073741824)(n:Int):0≤(uD now n).1∧(uD now n).1≤1073741824:=by
 unfold uD;split
 ·rename_i hn;exact⟨by show 0≤now+n;omega,by show now+n≤_;omega⟩
 ·exact h
def Wv.bV(v:Wv)(i:Int):Wv×wM:=match xB v.ws i with
 |none=>(v,⟨14,0,0⟩)
 |some p=>match mM p.b with
  |none=>(⟨v.cf,v.now,v.sub,v.aW,cR v.ws i,v.ref,v.app,v.bU⟩,⟨0,0,0⟩)
  |some m=>if p.to=9 then(⟨v.cf,v.now,v.sub,v.aW,(gG (cR v.ws i) v.ref v.app m).1.1,(gG (cR v.ws i) v.ref v.app m).1.2.1,(gG (cR v.ws i) v.ref v.app m).1.2.2,v.bU⟩,⟨0,(gG (cR v.ws i) v.ref v.app m).2,0⟩)
   else if p.to<0 then(⟨v.cf,v.now,v.sub,v.aW,cR v.ws i,v.ref,v.app,v.bU⟩,⟨0,0,0⟩)
   else match v.bU[p.to.toNat]? with
    |none=>(⟨v.cf,v.now,v.sub,v.aW,cR v.ws i,v.ref,v.app,v.bU⟩,⟨0,0,0⟩)
    |some n=>if n.up then(⟨v.cf,v.now,v.sub,v.aW,(dG (cR v.ws i) n m).1.1,v.ref,v.app,v.bU.set p.to.toNat (dG (cR v.ws i) n m).1.2⟩,(dG (cR v.ws i) n m).2)
     else(⟨v.cf,v.now,v.sub,v.aW,cR v.ws i,v.ref,v.app,v.bU⟩,⟨0,0,0⟩)
abbrev Wv.fC(v:Wv)(i:Nat)(n:Nd)(c:aX):Wv×wM:=(⟨v.cf,v.now,(kA v.sub n c).1,v.aW,v.ws,v.ref,v.app,v.bU.set i (kA v.sub n c).2.1⟩,(kA v.sub n c).2.2)
abbrev Wv.Cj(v:Wv)(i:Nat)(n:Nd):Wv:=⟨v.cf,v.now,v.sub,v.aW,v.ws,v.ref,v.app,v.bU.set i n⟩
abbrev Wv.ask(v:Wv)(i:Nat)(n:Nd)(st:cH):Wv×wM:=(⟨v.cf,v.now,v.sub,v.aW,(yI v.bU.length v.ws n st).1.1,v.ref,v.app,v.bU.set i (yI v.bU.length v.ws n st).1.2⟩,(yI v.bU.length v.ws n st).2)
abbrev Wv.qD(v:Wv)(i:Nat)(n:Nd)(r:Int):Wv×wM:=(⟨v.cf,v.now,v.sub,(oO v.cf v.now v.ws v.aW n r).1.2.1,(oO v.cf v.now v.ws v.aW n r).1.1,v.ref,v.app,v.bU.set i (oO v.cf v.now v.ws v.aW n r).1.2.2⟩,(oO v.cf v.now v.ws v.aW n r).2)
abbrev Wv.tick(v:Wv)(n:Int):Wv×wM:=(⟨v.cf,(uD v.now n).1,v.sub,v.aW,v.ws,v.ref,v.app,v.bU⟩,(uD v.now n).2)
abbrev Wv.rY(v:Wv)(st:cH):Wv×wM:=(⟨v.cf,v.now,v.sub,v.aW,(lP v.ws st).1,v.ref,v.app,v.bU⟩,(lP v.ws st).2)
noncomputable abbrev Wv.Mf(v:Wv)(i:Nat)(n:Nd)(st:cH):Wv×wM:=(⟨v.cf,v.now,v.sub,v.aW,v.ws,(wF v.ref n st).1.1,v.app,v.bU.set i (wF v.ref n st).1.2⟩,(wF v.ref n st).2)
def Wv.qA(v:Wv)(dC:Int):Wv×wM:=match v.bU[0]? with
 |none=>(v,⟨0,0,0⟩)
 |some p=>(v.Cj 0 (mT p dC).1,(mT p dC).2)
noncomputable def Wv.SB(v:Wv)(i:Nat)(n:Nd)(st:cH):Wv×wM :=
 if st.kind=1 then v.fC i n st.c
 else if st.kind=2 then(v.Cj i n.sync.1,⟨n.sync.2,0,0⟩)
 else if st.kind=3 then v.ask i n st
 else if st.kind=4 then v.qA st.n
 else if st.kind=5 then v.qD i n st.r
 else if st.kind=6 then v.tick st.n
 else if st.kind=7 then v.bV st.i
 else if 8≤st.kind∧st.kind≤10 then v.rY st
 else v.Mf i n st
noncomputable def Wv.step(v:Wv)(st:cH):Wv×wM :=
 if st.check≠0 then(v,⟨st.check,0,0⟩)
 else match v.bU[st.r.toNat]? with
  |none=>(v,⟨4,0,0⟩)
  |some n=>v.SB st.r.toNat n st
section
variable {t:Nat} {v v':Wv} {i:Nat} {n:Nd}
theorem Wv.ok.to(h:v.ok t)(hcf:v'.cf=v.cf)(hl:v'.bU.length=v.bU.length)(hn:0≤v'.now∧v'.now≤1073741824)(hs:0≤v'.sub∧v'.sub≤48)(hx:v'.aW.length≤v.aW.length+48)(ha:v'.app.length≤v.app.length+1)(hp:sU v'.ws):v'.ok (t+1) :=
 ⟨by rw[hcf];exact h.cV,by rw[hl,hcf];exact h.len,hn,hs,by have:=h.aW;omega,by have:=h.app;omega,hp⟩
theorem Wv.ok.same(h:v.ok t):v.ok (t+1):=h.to rfl rfl h.now h.sub o_ o_ h.pk
theorem Wv.ok.Cj(h:v.ok t)(i:Nat)(n:Nd):(v.Cj i n).ok (t+1):=h.to rfl (aAt ..) h.now h.sub (aCe ..) (aCe ..) h.pk
theorem Wv.ok.fC(h:v.ok t)(i:Nat)(n:Nd)(c:aX):(v.fC i n c).1.ok (t+1):=h.to rfl (aAt ..) h.now (IC h.sub n c) (aCe ..) (aCe ..) h.pk
theorem Wv.ok.ask(h:v.ok t)(i:Nat)(n:Nd)(st:cH):(v.ask i n st).1.ok (t+1):=h.to rfl (aAt ..) h.now h.sub (aCe ..) (aCe ..) (by
 show sU (yI v.bU.length v.ws n st).1.1;unfold yI;split
 ·exact h.pk
 split
 ·exact h.pk
 ·exact BG h.pk _)
theorem Wv.ok.qD(h:v.ok t)(i:Nat)(hn:n.ok)(r:Int):(v.qD i n r).1.ok (t+1):=h.to rfl (aAt ..) h.now h.sub (by
 show(jN r v.now v.ws v.aW (n.qD v.cf v.now).2.1).2.length≤_;rw[AV];have:=HY hn v.cf v.now;omega) (aCe ..) (F5 _ _ _ h.pk)
theorem Wv.ok.tick(h:v.ok t)(n:Int):(v.tick n).1.ok (t+1):=h.to rfl rfl (Nx h.now n) h.sub (aCe ..) (aCe ..) h.pk
theorem Wv.ok.rY(h:v.ok t)(st:cH):(v.rY st).1.ok (t+1):=h.to rfl rfl h.now h.sub (aCe ..) (aCe ..) (IY h.pk st)
theorem Wv.ok.Mf(h:v.ok t)(i:Nat)(n:Nd)(st:cH):(v.Mf i n st).1.ok (t+1):=h.to rfl (aAt ..) h.now h.sub (aCe ..) (aCe ..) h.pk
theorem Wv.ok.bV(h:v.ok t)(i:Int):(v.bV i).1.ok (t+1):=by
 unfold Wv.bV;have same:Wv.ok (t+1) ⟨v.cf,v.now,v.sub,v.aW,cR v.ws i,v.ref,v.app,v.bU⟩:=h.to rfl rfl h.now h.sub (aCe ..) (aCe ..) (BS h.pk i);split
 ·exact h.same
 split
 ·exact same
 split
 ·exact h.to rfl rfl h.now h.sub (aCe ..) (SQ _ _ _ _) (VI (BS h.pk i) _ _ _)
 split
 ·exact same
 split
 ·exact same
 split
 ·exact h.to rfl (aAt ..) h.now h.sub (aCe ..) (aCe ..) (Qj (BS h.pk i) _ _)
 ·exact same
end
def oL(P:List Ov)(g t:Nat)(z:Wv×wM):Ending→List aL→Prop:=λe H'=>∃Q,e=.returned (.agg z.2.cs.toArray)∧H'=[aQ (P++Q) g (t+1) z.1,aI (P++Q)]
theorem EA{t:Nat}(h:t≤1000000):kt t≤10000000000000:=by simp only[kt];omega
theorem Bf{t:Nat}{d:Int}(h:d≤10000):kt t+d≤kt (t+1):=by simp only[kt];omega
section
variable (E:Env) {P:List Ov} {g gr:Nat} {t:Nat} {v:Wv} {x:AM} {n:Nd} {i:Nat} (ho:v.ok t) (hx:x.gs.length=v.bU.length) (ht:t≤1000000)
include ho hx ht
theorem K0(hg:x.gs[i]?=some gr)(hn:v.bU[i]?=some n)(c:aX)(hc:dQ c.n):G E 53 [pt g,pt gr,.agg c.cs.toArray] (wL P g (kt t) v x++[aI P]) (oL P g t (v.fC i n c)):=by
 have _:=ht;dsimp only[wL,List.cons_append,List.nil_append];refine aK.pre (vR (k:=kt t) hg hn (.aM (.aM (.aM (.aM (.aM .aN)))))) ?_;refine aK.pre (aB.lB (l:=[aJ g 121 (wC x v.now v.aW.length v.cf v.bU.length v.sub),bZ P gr v.cf n (kt t),aI P]) aC) (aK.post (aK.beside λM hE=>Pf M P g gr x v.now v.aW.length v.cf v.bU.length v.sub n (kt t) c hc ho.sub) ?_);rintro e H' ⟨H1,⟨Q,rfl,rfl⟩,rfl⟩;dsimp only[List.cons_append,List.nil_append];exact⟨_,BZ (t:=t) (v:=v) (v':=(v.fC i n c).1) (aCq t) rfl hg hn (show kt t≤kt (t+1) from uX (aCq t)) (ho.fC i n c) hx rfl rfl rfl aC,Q,rfl,rfl⟩
theorem WR(hg:x.gs[i]?=some gr)(hn:v.bU[i]?=some n)(st:cH):G E 55 [pt g,pt gr,.agg st.cs.toArray] (wL P g (kt t) v x++[aI P]) (oL P g t (v.ask i n st)):=by
 dsimp only[wL,List.cons_append,List.nil_append];refine aK.pre (vR (k:=kt t) hg hn (.aM (.aM (.aM (.aM (.aM .aN)))))) ?_;refine aK.pre (aB.lB (l:=[aJ g 121 (wC x v.now v.aW.length v.cf v.bU.length v.sub),bZ P gr v.cf n (kt t),aZ x.gw v.ws,own vE x.nA v.bU.length x.nc x.gs]) aC) (aK.post (aK.beside λM hE=>Xw M P g gr x v.now v.aW.length v.cf v.bU.length v.sub n (kt t) v.ws st ho.rK.2 ho.rK.1 (EA ht) hx) ?_);rintro e H' ⟨H1,⟨rfl,rfl⟩,rfl⟩;dsimp only[List.cons_append,List.nil_append];exact⟨[aQ P g (t+1) (v.ask i n st).1,aI P],BZ (t:=t) (v:=v) (v':=(v.ask i n st).1) (Q:=[]) (aCq t) (aAc P).symm hg hn (Bf (d:=2048) sD) (ho.ask i n st) hx rfl rfl rfl aC,[],rfl,by rw[aAc]⟩
theorem S7(hg:x.gs[i]?=some gr)(hn:v.bU[i]?=some n):G E 54 [pt gr] (wL P g (kt t) v x++[aI P]) (λe H'=>e=.returned (.int .i64 n.sync.2)∧H'=[aQ P g (t+1) (v.Cj i n.sync.1),aI P]):=by
 dsimp only[wL,List.cons_append,List.nil_append];refine aK.pre (vR (k:=kt t) hg hn (.aM (.aM (.aM (.aM (.aM .aN)))))) ?_;refine aK.pre (aB.lB (l:=[bZ P gr v.cf n (kt t)]) aC) (aK.post (aK.beside λM hE=>KU M P gr v.cf n (kt t) (EA ht)) ?_);rintro e H' ⟨H1,⟨rfl,rfl⟩,rfl⟩;dsimp only[List.cons_append,List.nil_append];exact⟨_,BZ (t:=t) (v:=v) (v':=v.Cj i n.sync.1) (Q:=[]) (aCq t) (aAc P).symm hg hn (Bf (d:=2048) sD) (ho.Cj i _) hx rfl rfl rfl aC,rfl,rfl⟩
theorem LZ(dC:Int):G E 56 [pt g,.int .i64 dC] (wL P g (kt t) v x++[aI P]) (oL P g t (v.qA dC)):=by
 have _:=ht;obtain⟨n,hn⟩:=ho.node (i:=0) (by have:=ho.rK;omega);obtain⟨gr,hg⟩:∃gr,x.gs[0]?=some gr:=⟨_,aAa (by have:=ho.rK;omega)⟩
 have hcm:v.qA dC=(v.Cj 0 (mT n dC).1,(mT n dC).2):=by unfold Wv.qA;rw[hn]
 rw[hcm];dsimp only[wL,List.cons_append,List.nil_append];refine aK.pre (vR (k:=kt t) hg hn (.aM (.aM (.aM (.aM (.aM .aN)))))) ?_;refine aK.pre (aB.lB (l:=[aJ g 121 (wC x v.now v.aW.length v.cf v.bU.length v.sub),bZ P gr v.cf n (kt t),own vE x.nA v.bU.length x.nc x.gs,aI P]) aC) (aK.post (aK.beside λM hE=>Ol M P g gr x v.now v.aW.length v.cf v.bU.length v.sub n (kt t) dC ho.rK.2 ho.rK.1 hg) ?_);rintro e H' ⟨H1,⟨Q,rfl,rfl⟩,rfl⟩;dsimp only[List.cons_append,List.nil_append];exact⟨_,BZ (t:=t) (v:=v) (v':=v.Cj 0 (mT n dC).1) (aCq t) rfl hg hn (show kt t≤kt (t+1) from uX (aCq t)) (ho.Cj 0 _) hx rfl rfl rfl aC,Q,rfl,rfl⟩
theorem SU(hg:x.gs[i]?=some gr)(hn:v.bU[i]?=some n)(r:Int):G E 57 [pt g,pt gr,.int .i64 r] (wL P g (kt t) v x++[aI P]) (oL P g t (v.qD i n r)):=by
 dsimp only[wL,List.cons_append,List.nil_append];refine aK.pre (vR (k:=kt t) hg hn (.aM (.aM (.aM (.aM (.aM .aN)))))) ?_;refine aK.Y1 (l:=O4 P gr v.cf n (kt t)) (p:=λ_:Nh=>n.ok) .aN (λhok=>?_);obtain⟨_,hok⟩:=hok;refine aK.pre (aB.lB (l:=[aJ g 121 (wC x v.now v.aW.length v.cf v.bU.length v.sub),bZ P gr v.cf n (kt t),aZ x.gw v.ws,own mK x.sA v.aW.length x.sc v.aW,aI P]) aC) (aK.post (aK.beside λM hE=>Uh M P g gr x v.now v.cf v.bU.length v.sub n (kt t) v.ws v.aW r (by have:=ho.now;unfold dQ;omega) (EA ht) (by have:=ho.aW;omega)) ?_);rintro e H' ⟨H1,⟨Q,sA,sc,rfl,rfl⟩,rfl⟩;dsimp only[List.cons_append,List.nil_append];exact⟨_,BZ (t:=t) (v:=v) (v':=(v.qD i n r).1) (x':=⟨x.gw,x.gg,sA,sc,x.nA,x.nc,x.gs⟩) (aCq t) rfl hg hn (Bf (d:=2048) sD) (ho.qD i hok r) hx rfl rfl rfl aC,Q,rfl,rfl⟩
theorem Qf(m:Int):G E 58 [pt g,.int .i64 m] (wL P g (kt t) v x++[aI P]) (oL P g t (v.tick m)):=by
 have _:=ht;dsimp only[wL,List.cons_append,List.nil_append];refine aK.pre (aB.lB (l:=[aJ g 121 (wC x v.now v.aW.length v.cf v.bU.length v.sub)]) aC) (aK.post (aK.beside λM hE=>U8 M g x v.now v.aW.length v.cf v.bU.length v.sub m ho.now) ?_);rintro e H' ⟨H1,⟨rfl,rfl⟩,rfl⟩;dsimp only[List.cons_append,List.nil_append];exact⟨[aQ P g (t+1) (v.tick m).1,aI P],Di (t:=t) (v:=v) (v':=(v.tick m).1) (x':=x) (Q:=[]) (aCq t) (aAc P).symm (ho.tick m) hx rfl rfl rfl aC,[],rfl,by rw[aAc]⟩
theorem JF(st:cH)(hst:dQ st.n):G E 60 [pt g,.agg st.cs.toArray] (wL P g (kt t) v x++[aI P]) (oL P g t (v.rY st)):=by
 have _:=ht;dsimp only[wL,List.cons_append,List.nil_append];refine aK.pre (aB.lB (l:=[aJ g 121 (wC x v.now v.aW.length v.cf v.bU.length v.sub),aZ x.gw v.ws]) aC) (aK.post (aK.beside λM hE=>Md M g x v.now v.aW.length v.cf v.bU.length v.sub v.ws st hst) ?_);rintro e H' ⟨H1,⟨rfl,rfl⟩,rfl⟩;dsimp only[List.cons_append,List.nil_append];exact⟨[aQ P g (t+1) (v.rY st).1,aI P],Di (t:=t) (v:=v) (v':=(v.rY st).1) (x':=x) (Q:=[]) (aCq t) (aAc P).symm (ho.rY st) hx rfl rfl rfl aC,[],rfl,by rw[aAc]⟩
theorem RI(hg:x.gs[i]?=some gr)(hn:v.bU[i]?=some n)(st:cH)(hst:0≤st.n∧st.n≤2147483647):G E 61 [pt g,pt gr,.agg st.cs.toArray] (wL P g (kt t) v x++[aI P]) (oL P g t (v.Mf i n st)):=by
 dsimp only[wL,List.cons_append,List.nil_append];refine aK.pre (vR (k:=kt t) hg hn (.aM (.aM (.aM (.aM (.aM .aN)))))) ?_;refine aK.pre (aB.lB (l:=[aJ g 121 (wC x v.now v.aW.length v.cf v.bU.length v.sub),bZ P gr v.cf n (kt t),cK x.gg v.ref v.app,aI P]) aC) (aK.post (aK.beside λM hE=>Uy M P g gr x v.now v.aW.length v.cf v.bU.length v.sub n (kt t) v.ref v.app st (EA ht) hst) ?_);rintro e H' ⟨H1,⟨Q,rfl,rfl⟩,rfl⟩;dsimp only[List.cons_append,List.nil_append];exact⟨_,BZ (t:=t) (v:=v) (v':=(v.Mf i n st).1) (aCq t) rfl hg hn (Bf (d:=4128) sD) (ho.Mf i n st) hx rfl rfl rfl aC,Q,rfl,rfl⟩
end
section
variable (E:Env) {P:List Ov} {g:Nat} {t:Nat} {v:Wv} {x:AM} (ho:v.ok t) (hx:x.gs.length=v.bU.length) (ht:t≤1000000)
include ho hx ht
theorem Jl(j:Int):G E 59 [pt g,.int .i64 j] (wL P g (kt t) v x++[aI P]) (oL P g t (v.bV j)):=by
 have hok:=ho.bV j;dsimp only[wL,List.cons_append,List.nil_append];cases hw:xB v.ws j with
 |none =>
  have hd:v.bV j=(v,⟨14,0,0⟩):=by unfold Wv.bV;rw[hw]
  rw[hd] at hok⊢;refine aK.pre (aB.lB (l:=[aJ g 121 (wC x v.now v.aW.length v.cf v.bU.length v.sub),aZ x.gw v.ws]) aC) (aK.post (aK.beside λM hE=>CR M g x v.now v.aW.length v.cf v.bU.length v.sub v.ws j hw) ?_);rintro e H' ⟨H1,⟨rfl,rfl⟩,rfl⟩;dsimp only[List.cons_append,List.nil_append];exact⟨[aQ P g (t+1) v,aI P],Di (t:=t) (v:=v) (v':=v) (x':=x) (Q:=[]) (aCq t) (aAc P).symm hok hx rfl rfl rfl aC,[],rfl,by rw[aAc]⟩
 |some p =>
  have hlen:=PE ho.pk hw;have take (hd:v.bV j=(⟨v.cf,v.now,v.sub,v.aW,cR v.ws j,v.ref,v.app,v.bU⟩,⟨0,0,0⟩)) {R:List aL} (hr:R=[cK x.gg v.ref v.app,own mK x.sA v.aW.length x.sc v.aW,own vE x.nA v.bU.length x.nc x.gs,aO (nP P v.cf (kt t)) (x.gs.zip v.bU),aI P])
    (law:∀M,G M 59 [pt g,.int .i64 j] [aJ g 121 (wC x v.now v.aW.length v.cf v.bU.length v.sub),aZ x.gw v.ws] (cM (.agg (⟨0,0,0⟩:wM).cs.toArray) [aJ g 121 (wC x v.now v.aW.length v.cf v.bU.length v.sub),aZ x.gw (cR v.ws j)])) :
    G E 59 [pt g,.int .i64 j] ([aJ g 121 (wC x v.now v.aW.length v.cf v.bU.length v.sub),aZ x.gw v.ws]++R) (oL P g t (v.bV j)):=by
   rw[hd] at hok⊢;refine aK.post (aK.beside λM hE=>law M) ?_;rintro e H' ⟨H1,⟨rfl,rfl⟩,rfl⟩;subst hr;dsimp only[List.cons_append,List.nil_append];exact⟨[aQ P g (t+1) ⟨v.cf,v.now,v.sub,v.aW,cR v.ws j,v.ref,v.app,v.bU⟩,aI P],Di (t:=t) (v:=v) (x':=x) (Q:=[]) (aCq t) (aAc P).symm hok hx rfl rfl rfl aC,[],rfl,by rw[aAc]⟩
  cases hm:mM p.b with
  |none =>
   refine take (by unfold Wv.bV;rw[hw];dsimp only;rw[hm]) rfl (λM=>DE M g x v.now v.aW.length v.cf v.bU.length v.sub v.ws j p hw hm hlen)
  |some m =>
   by_cases h9:p.to=9
   ·have hd:v.bV j=(⟨v.cf,v.now,v.sub,v.aW,(gG (cR v.ws j) v.ref v.app m).1.1,(gG (cR v.ws j) v.ref v.app m).1.2.1,(gG (cR v.ws j) v.ref v.app m).1.2.2,v.bU⟩,⟨0,(gG (cR v.ws j) v.ref v.app m).2,0⟩):=by unfold Wv.bV;rw[hw];dsimp only;rw[hm];dsimp only;rw[if_pos h9]
    rw[hd] at hok⊢;refine aK.pre (aB.lB (l:=[aJ g 121 (wC x v.now v.aW.length v.cf v.bU.length v.sub),aZ x.gw v.ws,cK x.gg v.ref v.app]) aC) (aK.post (aK.beside λM hE=>aHa M g x v.now v.aW.length v.cf v.bU.length v.sub v.ws j p hw m hm hlen h9 v.ref v.app (by have:=ho.app;omega)) ?_);rintro e H' ⟨H1,⟨rfl,rfl⟩,rfl⟩;dsimp only[List.cons_append,List.nil_append];exact⟨[aQ P g (t+1) ⟨v.cf,v.now,v.sub,v.aW,(gG (cR v.ws j) v.ref v.app m).1.1,(gG (cR v.ws j) v.ref v.app m).1.2.1,(gG (cR v.ws j) v.ref v.app m).1.2.2,v.bU⟩,aI P],Di (t:=t) (v:=v) (x':=x) (Q:=[]) (aCq t) (aAc P).symm hok hx rfl rfl rfl aC,[],rfl,by rw[aAc]⟩
   ·by_cases h0:p.to<0
    ·exact take (by unfold Wv.bV;rw[hw];dsimp only;rw[hm];dsimp only;rw[if_neg h9,if_pos h0]) rfl (λM=>yV M g x v.now v.aW.length v.cf v.bU.length v.sub v.ws j p hw m hm hlen h9 ho.rK.2 ho.rK.1 (.inl h0))
    ·have hto:p.to=(p.to.toNat:Int):=o_;cases hn:v.bU[p.to.toNat]? with
     |none =>
      refine take (by unfold Wv.bV;rw[hw];dsimp only;rw[hm];dsimp only;rw[if_neg h9,if_neg h0,hn]) rfl (λM=>yV M g x v.now v.aW.length v.cf v.bU.length v.sub v.ws j p hw m hm hlen h9 ho.rK.2 ho.rK.1 (.inr ?_));have:=aBx.1 hn;omega
     |some n =>
      obtain⟨gr,hg⟩:∃gr,x.gs[p.to.toNat]?=some gr:=⟨_,aAa (by have:=(aAd.1 hn).1;omega)⟩
      cases hu:n.up with
      |true =>
       have hd:v.bV j=(⟨v.cf,v.now,v.sub,v.aW,(dG (cR v.ws j) n m).1.1,v.ref,v.app,v.bU.set p.to.toNat (dG (cR v.ws j) n m).1.2⟩,(dG (cR v.ws j) n m).2):=by unfold Wv.bV;rw[hw];dsimp only;rw[hm];dsimp only;rw[if_neg h9,if_neg h0,hn];dsimp only;rw[if_pos hu]
       rw[hd] at hok⊢;refine aK.pre (vR (k:=kt t) hg hn (.aM (.aM (.aM (.aM (.aM .aN)))))) ?_;refine aK.pre (aB.lB (l:=[aJ g 121 (wC x v.now v.aW.length v.cf v.bU.length v.sub),bZ P gr v.cf n (kt t),aZ x.gw v.ws,aI P,own vE x.nA v.bU.length x.nc x.gs]) aC) (aK.post (aK.beside λM hE=>E9 M P g gr x v.now v.aW.length v.cf v.bU.length v.sub n (kt t) v.ws j p hw m hm hlen p.to.toNat hto ho.rK.2 hg hu (EA ht)) ?_);rintro e H' ⟨H1,⟨Q,rfl,rfl⟩,rfl⟩;dsimp only[List.cons_append,List.nil_append];exact⟨_,BZ (t:=t) (v:=v) (aCq t) rfl hg hn (Bf (d:=2048) sD) hok hx rfl rfl rfl aC,Q,rfl,rfl⟩
      |false =>
       have hd:v.bV j=(⟨v.cf,v.now,v.sub,v.aW,cR v.ws j,v.ref,v.app,v.bU⟩,⟨0,0,0⟩):=by unfold Wv.bV;rw[hw];dsimp only;rw[hm];dsimp only;rw[if_neg h9,if_neg h0,hn];dsimp only;rw[if_neg (by rw[hu];decide)]
       rw[hd] at hok⊢;refine aK.pre (vR (k:=kt t) hg hn (.aM (.aM (.aM (.aM (.aM .aN)))))) ?_;refine aK.pre (aB.lB (l:=[aJ g 121 (wC x v.now v.aW.length v.cf v.bU.length v.sub),bZ P gr v.cf n (kt t),aZ x.gw v.ws,own vE x.nA v.bU.length x.nc x.gs]) aC) (aK.post (aK.beside λM hE=>Ew M P g gr x v.now v.aW.length v.cf v.bU.length v.sub n (kt t) v.ws j p hw m hm hlen p.to.toNat hto ho.rK.2 hg hu) ?_);rintro e H' ⟨H1,⟨rfl,rfl⟩,rfl⟩;dsimp only[List.cons_append,List.nil_append];refine⟨[aQ P g (t+1) ⟨v.cf,v.now,v.sub,v.aW,cR v.ws j,v.ref,v.app,v.bU⟩,aI P],BZ (t:=t) (v:=v) (Q:=[]) (aCq t) (aAc P).symm hg hn (Int.le_trans (aCd _) (uX (aCq t))) hok hx ?_ rfl rfl aC,[],rfl,by rw[aAc]⟩;exact(mN hn).symm
end
theorem N8(E:Env)(P:List Ov)(g:Nat)(t:Nat)(v:Wv)(ht:t≤1000000)(st:cH)(hc:dQ st.c.n):G E 10 [pt g,.agg st.cs.toArray] [aQ P g t v,aI P] (oL P g t (v.step st)):=by
 refine aK.fp .aN (λx hxx=>?_);obtain⟨ho,hx⟩:=hxx;have rK:=ho.rK;have his:=λM hb=>Ix M g x v.now v.aW.length v.cf v.bU.length v.sub hb rK.2;rw[decide_eq_true o_] at his;have fl:=λM e=>tD M e;have same:∀ {M:Env} {H R:List aL},cS (wL P g (kt t) v x) H R→aB M H (aQ P g (t+1) v::R):=λhp=>Di (t:=t) (v:=v) (v':=v) (x':=x) (Q:=[]) (aCq t) (aAc P).symm ho.same hx rfl rfl rfl hp;unfold Wv.step;by_cases hck:st.check=0
 case neg =>
  rw[if_pos hck];have hU:=λM=>Bd M st;generalize st.check=ck at *;dsimp only[wL,List.cons_append,List.nil_append] at same⊢;refine t_ func10 ntmps10 ?_;repeat first|refine v_ ?_|intro
  refine eV his ?_;repeat first|refine v_ ?_|intro
  refine bK hU ?_;repeat first|refine v_ ?_|intro
  refine bK (λM=>fl M ck) ?_;repeat first|refine v_ ?_|intro
  exact cI (H':=[aQ P g (t+1) v,aI P]) rfl aF rfl rfl rfl aS rfl (aB.trans (same aC) aA) ⟨[],rfl,by rw[aAc]⟩
 obtain⟨⟨k1,o9⟩,⟨⟨r0,r255⟩,_⟩,⟨_,n0,n1⟩,_⟩:=cH.bR hck;have hU:=λM=>Bd M st;rw[hck] at hU;rw[if_neg (by rw[hck];decide)];have hr:st.r=(st.r.toNat:Int):=o_;cases hn:v.bU[st.r.toNat]? with
 |none =>
  have:=aBx.1 hn;have aty:=λM hb=>EN M g x v.now v.aW.length v.cf v.bU.length v.sub st.r hb rK.2 rK.1 (.inr o_);dsimp only[wL,List.cons_append,List.nil_append] at same⊢;refine t_ func10 ntmps10 ?_;repeat first|refine v_ ?_|intro
  refine eV his ?_;repeat first|refine v_ ?_|intro
  refine bK hU ?_;repeat first|refine v_ ?_|intro
  refine eV aty ?_;repeat first|refine v_ ?_|intro
  refine bK (λM=>fl M 4) ?_;repeat first|refine v_ ?_|intro
  exact cI (H':=[aQ P g (t+1) v,aI P]) rfl aF rfl rfl rfl aS rfl (aB.trans (same aC) aA) ⟨[],rfl,by rw[aAc]⟩
 |some n =>
  obtain⟨gr,hg⟩:∃gr,x.gs[st.r.toNat]?=some gr:=⟨_,aAa (by have:=(aAd.1 hn).1;omega)⟩
  have aty:=λM hb hG=>qW M g x v.now v.aW.length v.cf v.bU.length v.sub st.r.toNat gr hb rK.2 hG hg;rw[←hr] at aty;show G E _ _ _ (oL P g t (v.SB st.r.toNat n st));generalize st.r.toNat=i at *;have hI64:dQ st.n:=by unfold dQ;omega
  have sb:=λM=>K0 M (P:=P) (g:=g) ho hx ht hg hn st.c hc;have sy:=λM=>S7 M (P:=P) (g:=g) ho hx ht hg hn;have ak:=λM=>WR M (P:=P) (g:=g) ho hx ht hg hn st;have cm:=λM=>LZ M (P:=P) (g:=g) ho hx ht st.n;have pm:=λM=>SU M (P:=P) (g:=g) ho hx ht hg hn st.r;have tk:=λM=>Qf M (P:=P) (g:=g) ho hx ht st.n;have dl:=λM=>Jl M (P:=P) (g:=g) ho hx ht st.i;have ds:=λM=>JF M (P:=P) (g:=g) ho hx ht st hI64;have hm:=λM=>RI M (P:=P) (g:=g) ho hx ht hg hn st ⟨n0,n1⟩;clear same;dsimp only[wL,List.cons_append,List.nil_append] at sb sy ak cm pm tk dl ds hm⊢;refine t_ func10 ntmps10 ?_;repeat first|refine v_ ?_|intro
  refine eV his ?_;repeat first|refine v_ ?_|intro
  refine bK hU ?_;repeat first|refine v_ ?_|intro
  refine DY aty ?_;unfold Wv.SB;by_cases h1:st.kind=1
  ·rw[if_pos h1];repeat first|refine v_ ?_|intro
   refine bW sb ?_;rintro e H' ⟨Q,rfl,rfl⟩;repeat first|refine v_ ?_|intro
   exact cI rfl aF rfl rfl rfl aS rfl aA (⟨Q,rfl,rfl⟩)
  rw[if_neg h1];by_cases h2:st.kind=2
  ·rw[if_pos h2];repeat first|refine v_ ?_|intro
   refine bK sy ?_;repeat first|refine v_ ?_|intro
   refine bK (λM=>fl M n.sync.2) ?_;repeat first|refine v_ ?_|intro
   exact cI (H':=[aQ P g (t+1) (v.Cj i n.sync.1),aI P]) rfl aF rfl rfl rfl aS rfl aA ⟨[],rfl,by rw[aAc]⟩
  rw[if_neg h2];by_cases h3:st.kind=3
  ·rw[if_pos h3];repeat first|refine v_ ?_|intro
   refine bW ak ?_;rintro e H' ⟨Q,rfl,rfl⟩;repeat first|refine v_ ?_|intro
   exact cI rfl aF rfl rfl rfl aS rfl aA (⟨Q,rfl,rfl⟩)
  rw[if_neg h3];by_cases h4:st.kind=4
  ·rw[if_pos h4];repeat first|refine v_ ?_|intro
   refine bW cm ?_;rintro e H' ⟨Q,rfl,rfl⟩;repeat first|refine v_ ?_|intro
   exact cI rfl aF rfl rfl rfl aS rfl aA (⟨Q,rfl,rfl⟩)
  rw[if_neg h4];by_cases h5:st.kind=5
  ·rw[if_pos h5];repeat first|refine v_ ?_|intro
   refine bW pm ?_;rintro e H' ⟨Q,rfl,rfl⟩;repeat first|refine v_ ?_|intro
   exact cI rfl aF rfl rfl rfl aS rfl aA (⟨Q,rfl,rfl⟩)
  rw[if_neg h5];by_cases h6:st.kind=6
  ·rw[if_pos h6];repeat first|refine v_ ?_|intro
   refine bW tk ?_;rintro e H' ⟨Q,rfl,rfl⟩;repeat first|refine v_ ?_|intro
   exact cI rfl aF rfl rfl rfl aS rfl aA (⟨Q,rfl,rfl⟩)
  rw[if_neg h6];by_cases h7:st.kind=7
  ·rw[if_pos h7];repeat first|refine v_ ?_|intro
   refine bW dl ?_;rintro e H' ⟨Q,rfl,rfl⟩;repeat first|refine v_ ?_|intro
   exact cI rfl aF rfl rfl rfl aS rfl aA (⟨Q,rfl,rfl⟩)
  rw[if_neg h7];by_cases h8:st.kind=8
  ·rw[if_pos (show 8≤st.kind∧st.kind≤10 by omega)];repeat first|refine v_ ?_|intro
   refine bW ds ?_;rintro e H' ⟨Q,rfl,rfl⟩;repeat first|refine v_ ?_|intro
   exact cI rfl aF rfl rfl rfl aS rfl aA (⟨Q,rfl,rfl⟩)
  by_cases h9:st.kind=9
  ·rw[if_pos (show 8≤st.kind∧st.kind≤10 by omega)];repeat first|refine v_ ?_|intro
   refine bW ds ?_;rintro e H' ⟨Q,rfl,rfl⟩;repeat first|refine v_ ?_|intro
   exact cI rfl aF rfl rfl rfl aS rfl aA (⟨Q,rfl,rfl⟩)
  by_cases h10:st.kind=10
  ·rw[if_pos (show 8≤st.kind∧st.kind≤10 by omega)];repeat first|refine v_ ?_|intro
   refine bW ds ?_;rintro e H' ⟨Q,rfl,rfl⟩;repeat first|refine v_ ?_|intro
   exact cI rfl aF rfl rfl rfl aS rfl aA (⟨Q,rfl,rfl⟩)
  rw[if_neg (show ¬(8≤st.kind∧st.kind≤10) by omega)];repeat first|refine v_ ?_|intro
  refine bW hm ?_;rintro e H' ⟨Q,rfl,rfl⟩;repeat first|refine v_ ?_|intro
  exact cI rfl aF rfl rfl rfl aS rfl aA (⟨Q,rfl,rfl⟩)
theorem BR{E:Env}{P:List Ov}{g t:Nat}{v:Wv}{x:AM}{H R:List aL}(ho:v.ok t)(hx:x.gs.length=v.bU.length)(hp:cS (wL P g (kt t) v x) H R):aB E H (aQ P g t v::R):=aB.fp (l:=wL P g (kt t) v) (x:=x) ⟨ho,hx⟩ hp
section
variable (E:Env) (P:List Ov) (g:Nat) (t:Nat) (v:Wv)
theorem zT{f:FuncId}{args:Array Value}{R:List aL}{Q:Ending→List aL→Prop}(h:∀x:AM,v.ok t→x.gs.length=v.bU.length→aK prog E f args ([aJ g 121 (wC x v.now v.aW.length v.cf v.bU.length v.sub),aZ x.gw v.ws,cK x.gg v.ref v.app,own mK x.sA v.aW.length x.sc v.aW,own vE x.nA v.bU.length x.nc x.gs,aO (nP P v.cf (kt t)) (x.gs.zip v.bU)]++R) Q):aK prog E f args (aQ P g t v::R) Q :=
 aK.fp .aN λx hx=>h x hx.1 hx.2
theorem xU:G E 66 [pt g] [aQ P g t v] (cM (.agg v.cf.cs.toArray) [aQ P g t v]):=by
 refine zT E P g t v λx ho hx=>?_;have rK:=ho.rK;have his:=λM hb=>Ix M g x v.now v.aW.length v.cf v.bU.length v.sub hb rK.2;rw[decide_eq_true o_] at his;dsimp only[List.cons_append,List.nil_append];refine t_ func66 ntmps66 ?_;repeat first|refine v_ ?_|intro
 refine eV his ?_;repeat first|refine v_ ?_|intro
 exact cI (H':=[aQ P g t v]) (cs:=v.cf.cs) rfl aF rfl rfl rfl aS rfl (aB.trans (BR (x:=x) ho hx aC) aA) ⟨rfl,rfl⟩
theorem CF:G E 26 [pt g] [aQ P g t v] λe H'=>∃g2,e=.returned (pt g2)∧H'=[aZ g2 v.ws,aQ P g t v]:=by
 refine zT E P g t v λx ho hx=>?_;have rK:=ho.rK;have his:=λM hb=>Ix M g x v.now v.aW.length v.cf v.bU.length v.sub hb rK.2;rw[decide_eq_true o_] at his;dsimp only[List.cons_append,List.nil_append];refine t_ func26 ntmps26 ?_;repeat first|refine v_ ?_|intro
 refine eV his ?_;repeat first|refine v_ ?_|intro
 refine bW (λM=>S8 M x.gw v.ws) ?_;rintro e H' ⟨g2,rfl,rfl⟩;repeat first|refine v_ ?_|intro
 exact aR (H':=[aZ g2 v.ws,aQ P g t v]) rfl aF (aB.trans (BR (x:=x) ho hx aC) aA) ⟨g2,rfl,rfl⟩
theorem zZ(ht:t≤1000000):G E 21 [pt g] [aQ P g t v] λe H'=>∃g2,e=.returned (pt g2)∧H'=[cK g2 v.ref v.app,aQ P g t v]:=by
 refine zT E P g t v λx ho hx=>?_;have rK:=ho.rK;have ha:=ho.app;have his:=λM hb=>Ix M g x v.now v.aW.length v.cf v.bU.length v.sub hb rK.2;rw[decide_eq_true o_] at his;dsimp only[List.cons_append,List.nil_append];refine t_ func21 ntmps21 ?_;repeat first|refine v_ ?_|intro
 refine eV his ?_;repeat first|refine v_ ?_|intro
 refine bW (λM=>Qz M x.gg v.ref v.app (by omega)) ?_;rintro e H' ⟨g2,rfl,rfl⟩;repeat first|refine v_ ?_|intro
 exact aR (H':=[cK g2 v.ref v.app,aQ P g t v]) rfl aF (aB.trans (BR (x:=x) ho hx aC) aA) ⟨g2,rfl,rfl⟩
theorem Zj(r:Nat)(n:Nd)(hn:v.bU[r]?=some n):G E 78 [pt g,.int .i64 r] [aQ P g t v] (cM (.bool n.up) [aQ P g t v]):=by
 refine zT E P g t v λx ho hx=>?_;have rK:=ho.rK;obtain⟨gr,hg⟩:∃gr,x.gs[r]?=some gr:=⟨_,aAa (by have:=(aAd.1 hn).1;omega)⟩
 have aty:=λM hb hG=>qW M g x v.now v.aW.length v.cf v.bU.length v.sub r gr hb rK.2 hG hg;dsimp only[List.cons_append,List.nil_append];refine aK.pre (vR (k:=kt t) hg hn (.aM (.aM (.aM (.aM (.aM .aN)))))) ?_;have up:=λM=>TI M P gr v.cf n (kt t);generalize n.up=b at up⊢;refine t_ func78 ntmps78 ?_;repeat first|refine v_ ?_|intro
 refine DY aty ?_;repeat first|refine v_ ?_|intro
 refine bK up ?_;repeat first|refine v_ ?_|intro
 exact aR (H':=[aQ P g t v]) rfl aF (BZ (t:=t) (v:=v) (v':=v) (x':=x) (Q:=[]) (aAf t) (aAc P).symm hg hn (aCd _) ho hx (mN hn).symm rfl rfl aC) ⟨rfl,rfl⟩
end
def wt(p:fD):Nat:=match mM p.b with
 |none=>1
 |some m=>if p.to=9∨m.kind=1 then 2 else 1
def nL(ws:List fD):Nat:=(ws.map wt).sum
theorem IN(p:fD):1≤wt p∧wt p≤2:=by
 unfold wt;split
 ·omega
 split<;>omega
theorem RL(ws:List fD):nL ws≤2*ws.length:=by
 induction ws with
 |nil=>exact aAf _
 |cons p ws ih =>
  have h1:nL (p::ws)=wt p+nL ws:=rfl;have:=(IN p).2;rw[h1,aAs];omega
theorem PR(ws:List fD)(p:fD):nL (ws++[p])=nL ws+wt p:=by unfold nL;simp
theorem OZ{m m':Mg}(h:m.check=0)(h':m'.check=0)(e:m.enc=m'.enc):m.kind=m'.kind:=by
 have s1:=Mg.size h;have s2:=Mg.size h';have f1:=Frm.yY (t:=[]) s1.1 o_;have f2:=Frm.yY (t:=[]) s2.1 o_;rw[aAc] at f1 f2;have e':Frm.fr m.body=Frm.fr m'.body:=e;rw[e',f2] at f1;injection f1 with f1
 injection f1 with f1 _
 have k1:=(Mg.bR h).1;have k2:=(Mg.bR h').1;have g1:m.body[0]?=some (UInt8.ofNat m.kind.toNat):=by unfold Mg.body;simp[fI,be]
 have g2:m'.body[0]?=some (UInt8.ofNat m'.kind.toNat):=by unfold Mg.body;simp[fI,be]
 rw[←f1,g2] at g1;injection g1 with g1
 have g3:=congrArg UInt8.toNat g1;simp only[aEy] at g3;omega
theorem GI{ws:List fD}{m:Mg}(hk:m.kind≠1)(ht:m.check=0→m.to≠9):nL (jW ws m).1≤nL ws+1:=by
 unfold jW;by_cases hc:m.check=0
 ·rw[if_neg (by rw[hc];decide)];show nL (zX ws ⟨m.to,m.enc,false⟩).1≤_;unfold zX;split
  ·exact aCq _
  ·show nL (ws++[_])≤_;rw[PR];have:wt ⟨m.to,m.enc,false⟩=1:=by
    unfold wt;split
    ·rfl
    ·rename_i m' hm;obtain⟨h1,h2,_⟩:=tU hm;have:=OZ h1 hc h2;rw[if_neg];rintro(h|h)
     ·exact ht hc h
     ·exact hk (this.symm.trans h)
   omega
 ·rw[if_pos hc];exact aCq _
theorem V0{m:Mg}(h:(DB m).check=0):(DB m).to≠9:=by
 have h2:=(Mg.bR h).2.1;unfold Mg.nT at h2;rw[if_neg (show ¬(DB m).kind=3 from(by decide:¬(4:Int)=3)),if_pos (show(DB m).kind=4 from rfl)] at h2;simp[wV] at h2;omega
theorem PD(s:Sv)(m:Mg):(lR s m).kind≠1:=by
 unfold lR;split
 ·exact(show(2:Int)≠1 by decide)
 ·exact(show(0:Int)≠1 by decide)
theorem WE{s:Sv}{m:Mg}(h:(lR s m).check=0):(lR s m).to≠9:=by
 have h0:=(Mg.bR h).1;have h2:=(Mg.bR h).2.1;have hk:(lR s m).kind≠3∧(lR s m).kind≠4:=by
  unfold lR;split
  ·exact⟨(show(2:Int)≠3 by decide),(show(2:Int)≠4 by decide)⟩
  ·exact⟨(show(0:Int)≠3 by decide),(show(0:Int)≠4 by decide)⟩
 unfold Mg.nT at h2;rw[if_neg hk.1,if_neg hk.2] at h2;simp[wV] at h2;omega
theorem Ad{v:Wv}{p:fD}{ws:List fD}(h:v.ws=p::ws):nL (v.bV 0).1.ws<nL v.ws:=by
 have hw:xB v.ws 0=some p:=by rw[h];rfl
 have htk:cR v.ws 0=ws:=by rw[h];rfl
 have hs:nL v.ws=wt p+nL ws:=by rw[h];rfl
 have hp:=(IN p).1;unfold Wv.bV;rw[hw];dsimp only;rw[htk];cases hm:mM p.b with
 |none=>show nL ws<_;omega
 |some m =>
  dsimp only;by_cases h9:p.to=9
  ·rw[if_pos h9];have h2:wt p=2:=by unfold wt;rw[hm];exact if_pos (.inl h9)
   show nL (gG ws v.ref v.app m).1.1<_;unfold gG;split
   ·have:=GI (ws:=ws) (m:=DB m) (show(4:Int)≠1 by decide) V0;show nL (jW ws (DB m)).1<_;omega
   ·show nL ws<_;omega
  ·rw[if_neg h9];split
   ·show nL ws<_;omega
   split
   ·show nL ws<_;omega
   split
   ·rename_i n _ _;show nL (dG ws n m).1.1<_;unfold dG;split
    ·rename_i hk;have h2:wt p=2:=by unfold wt;rw[hm];exact if_pos (.inr hk)
     split
     ·show nL ws<_;omega
     ·have:=GI (ws:=ws) (m:=lR n.sync.1.s m) (PD _ _) WE;show nL (jW ws (lR n.sync.1.s m)).1<_;omega
    split
    ·show nL ws<_;omega
    split
    ·show nL ws<_;omega
    ·show nL ws<_;omega
   ·show nL ws<_;omega
noncomputable def Wv.run(v:Wv)(l:List cH):Wv:=l.foldl (λv st=>(v.step st).1) v
structure Dv where
 w:Wv
 short:Bool
noncomputable def Dv.pE(d:Dv)(st:cH):Dv:=⟨(d.w.step st).1,d.short||(!decide (st.kind=15)&&decide ((d.w.step st).2.code=10))⟩
noncomputable def Dv.J1(d:Dv)(l:List cH):Dv:=l.foldl Dv.pE d
noncomputable def AW(f:Nat→List cH):Nat→Nat→Dv→Dv
 |_,0,d=>d
 |r,k+1,d=>AW f (r+1) k (d.J1 (f r))
noncomputable def Dv.all(d:Dv)(i:Nat)(f:Nat→List cH):Dv:=AW f i (d.w.bU.length - i) d
def pB(kind r i n:Int):cH:=⟨kind,r,i,n,mW⟩
noncomputable def nJ:Nat→Dv→Nat→Dv×Nat
 |0,d,n=>(d,n)
 |k+1,d,n=>match d.w.ws with
  | []=>(d,n)
  |_::_=>nJ k (d.pE (pB 7 0 0 0)) (n+1)
noncomputable def Dv.bV(d:Dv):Dv:=(nJ (nL d.w.ws) d 0).1
def pH(kind:Int)(r:Nat):List cH:=[pB kind r 0 0]
def AK(r:Nat):List cH:=[pB 3 r 0 0]
def EH(r:Nat):List cH:=[pB 3 r 0 0,pB 3 0 r 0]
noncomputable def Wv.round(v:Wv):Dv :=
 (((((((((Dv.mk v false).bV.all 0 (pH 15)).all 1 EH).bV).pE (pB 4 0 0 16)).all 1 AK).bV).all 0 (pH 5)).bV).pE (pB 6 0 0 v.cf.cap)
noncomputable def Wv.state(v:Wv)(r:Nat):Sv:=match v.bU[r]? with
 |some n=>n.state
 |none=>Qb 0
def Wv.up(v:Wv)(r:Nat):Bool:=match v.bU[r]? with
 |some n=>n.up
 |none=>false
noncomputable def vY(v:Wv):Nat→Nat→Bool
 |_,0=>true
 |r,k+1=>if v.up r∧(v.state r).quiet=true∧(v.state r).v.l=(v.state 0).v.l then vY v (r+1) k else false
noncomputable def Wv.quiet(v:Wv):Bool:=match v.ws with
 | []=>vY v 0 v.bU.length
 |_::_=>false
noncomputable def xY:Nat→Wv→Bool→Nat→Wv×Nat×Bool
 |0,v,sh,n=>(v,n,sh)
 |k+1,v,sh,n=>if v.quiet then(v,n,sh) else xY k v.round.w (v.round.short||sh) (n+1)
noncomputable def Wv.start(v:Wv):Wv:=((((Dv.mk v false).pE (pB 11 0 0 0)).all 0 (pH 14)).all 0 (pH 13)).w
noncomputable def Wv.fair(v:Wv)(k:Nat):Wv×Nat×Bool:=xY k v.start false 0
theorem IK(v:Wv)(i:Int):(v.bV i).1.cf=v.cf∧(v.bV i).1.bU.length=v.bU.length:=by
 unfold Wv.bV;split
 ·exact⟨rfl,rfl⟩
 split
 ·exact⟨rfl,rfl⟩
 split
 ·exact⟨rfl,rfl⟩
 split
 ·exact⟨rfl,rfl⟩
 split
 ·exact⟨rfl,rfl⟩
 split
 ·exact⟨rfl,aAt ..⟩
 ·exact⟨rfl,rfl⟩
theorem L6(v:Wv)(i:Int):(v.qA i).1.cf=v.cf∧(v.qA i).1.bU.length=v.bU.length:=by
 unfold Wv.qA;split
 ·exact⟨rfl,rfl⟩
 ·exact⟨rfl,aAt ..⟩
theorem Eg(v:Wv)(st:cH):(v.step st).1.cf=v.cf∧(v.step st).1.bU.length=v.bU.length:=by
 unfold Wv.step;split
 ·exact⟨rfl,rfl⟩
 split
 ·exact⟨rfl,rfl⟩
 unfold Wv.SB;split
 ·exact⟨rfl,aAt ..⟩
 split
 ·exact⟨rfl,aAt ..⟩
 split
 ·exact⟨rfl,aAt ..⟩
 split
 ·exact L6 v _
 split
 ·exact⟨rfl,aAt ..⟩
 split
 ·exact⟨rfl,rfl⟩
 split
 ·exact IK v _
 split
 ·exact⟨rfl,rfl⟩
 ·exact⟨rfl,aAt ..⟩
theorem oY(d:Dv)(st:cH):(d.pE st).w.cf=d.w.cf∧(d.pE st).w.bU.length=d.w.bU.length:=Eg d.w st
theorem Ck:∀(l:List cH) (d:Dv),(d.J1 l).w.cf=d.w.cf∧(d.J1 l).w.bU.length=d.w.bU.length
 | [],_=>⟨rfl,rfl⟩
 |st::l,d=>⟨(Ck l (d.pE st)).1.trans (oY d st).1,(Ck l (d.pE st)).2.trans (oY d st).2⟩
theorem Ce(f:Nat→List cH):∀(k r:Nat) (d:Dv),(AW f r k d).w.cf=d.w.cf∧(AW f r k d).w.bU.length=d.w.bU.length
 |0,_,_=>⟨rfl,rfl⟩
 |k+1,r,d=>⟨(Ce f k (r+1) _).1.trans (Ck _ d).1,(Ce f k (r+1) _).2.trans (Ck _ d).2⟩
theorem oZ(d:Dv)(i:Nat)(f:Nat→List cH):(d.all i f).w.cf=d.w.cf∧(d.all i f).w.bU.length=d.w.bU.length:=Ce f _ _ d
theorem Cd:∀(k:Nat) (d:Dv) (n:Nat),(nJ k d n).1.w.cf=d.w.cf∧(nJ k d n).1.w.bU.length=d.w.bU.length
 |0,_,_=>⟨rfl,rfl⟩
 |k+1,d,n=>by
  unfold nJ;split
  ·exact⟨rfl,rfl⟩
  ·exact⟨(Cd k _ _).1.trans (oY d _).1,(Cd k _ _).2.trans (oY d _).2⟩
theorem uC(d:Dv):d.bV.w.cf=d.w.cf∧d.bV.w.bU.length=d.w.bU.length:=Cd _ d 0
end Go.Proofs.YtmilalkjbojciaaGreat.Sep
namespace Go.Proofs.YtmilalkjbojciaaGreat.Sep
open Oct
theorem aHt{α:Type}{a b x y:List α}(h:a++x=b++y)(hl:a.length=b.length):a=b∧x=y:=aGc h hl
theorem TC{l:List aX}(h48:l.length≤48)(hm:∀c∈l,c.may=true):AU l=dP l:=by
 unfold AU;rw[if_neg o_,if_pos (aDm.2 hm)]
theorem ofNat_inj{m n:Nat}(hm:m<256)(hn:n<256)(h:UInt8.ofNat m=UInt8.ofNat n):m=n:=by
 have h1:=congrArg UInt8.toNat h;simp only[aEy] at h1;omega
theorem aHe{l m:List aX}(hl:l.length≤48)(hm:m.length≤48)(kl:∀c∈l,c.may=true)(km:∀c∈m,c.may=true)(ol:∀c∈l,c.ok)(om:∀c∈m,c.ok){x y:List UInt8}(h:AU l++x=AU m++y):l=m∧x=y:=by
 rw[TC hl kl,TC hm km] at h;have hlen:l.length=m.length:=by
  unfold dP at h;rw[aCj,aCj] at h;injection h with h1 _
  exact ofNat_inj o_ o_ h1
 obtain⟨h1,h2⟩:=aHt h (by rw[lZ,lZ,hlen]);refine⟨?_,h2⟩;have g1:=aGz hl (aDm.2 kl) λc hc=>(ol c hc).2.2.2.2.2.1;have g2:=aGz hm (aDm.2 km) λc hc=>(om c hc).2.2.2.2.2.1;rw[h1,g2] at g1;exact(aDk g1).symm
theorem aHm:∀ {l m:List bH},l.length=m.length→(∀e∈l,e.may=true∧e.ok)→(∀e∈m,e.may=true∧e.ok)→∀ {x y:List UInt8},l.flatMap Gs++x=m.flatMap Gs++y→l=m∧x=y
 | [],[],_,_,_,_,_,h=>⟨rfl,h⟩
 |e::l,f::m,hn,hl,hm,x,y,h=>by
  have he:=hl e aBo;have hf:=hm f aBo;rw[aDy,aDy,aAb,aAb,Bm he.1,Bm hf.1] at h;obtain⟨h1,h2⟩:=aHt h (by rw[e.bD,f.bD]);obtain⟨h3,h4⟩:=aHm (by simpa using hn) (λz hz=>hl z (aBl _ hz)) (λz hz=>hm z (aBl _ hz)) h2;have g1:=HH he.1 he.2.2.1.2.2.1;have g2:=HH hf.1 hf.2.2.1.2.2.1;rw[h1,g2] at g1;rw[aDk g1,h3];exact⟨rfl,h4⟩
theorem aIs{p q:dS}(hp:JO p)(hq:JO q){x y:List UInt8}(h:NM p++x=NM q++y):p.made=q.made∧p.l=q.l∧x=y:=by
 have a0:=hp.1.tS;have a1:=hp.1.nK;have b0:=hq.1.tS;have b1:=hq.1.nK;have a2:=hp.1.len;have b2:=hq.1.len;unfold NM at h;simp only[aCj,aBq] at h;injection h with h1 h
 injection h with h2 h
 have e1:p.made.toNat=q.made.toNat:=ofNat_inj o_ o_ h1;have e2:p.l.length=q.l.length:=ofNat_inj o_ o_ h2;obtain⟨h3,h4⟩:=aHm e2 (λe he=>⟨hp.2.may e he,hp.1.sE e he⟩) (λe he=>⟨hq.2.may e he,hq.1.sE e he⟩) h;exact⟨by omega,h3,h4⟩
theorem aHu:∀ {ps qs:List dS},ps.length=qs.length→JL ps→JL qs→ps.flatMap NM=qs.flatMap NM→∀(i:Nat) (p q:dS),ps[i]?=some p→qs[i]?=some q→p.made=q.made∧p.l=q.l
 | [],_,_,_,_,_,i,p,q,hp,_=>by simp at hp
 |a::ps,b::qs,hn,ha,hb,h,i,p,q,hp,hq=>by
  rw[aDy,aDy] at h;obtain⟨h1,h2,h3⟩:=aIs (ha a aBo) (hb b aBo) h;cases i with
  |zero =>
   have e1:=aDk hp;have e2:=aDk hq;subst e1 e2;exact⟨h1,h2⟩
  |succ i=>exact aHu (by simpa using hn) (λz hz=>ha z (aBl _ hz)) (λz hz=>hb z (aBl _ hz)) h3 i p q (by simpa using hp) (by simpa using hq)
theorem aIm{s z:Sv}(hs:Gd s)(hz:Gd z)(hr:s.r=z.r)(h:fJ s=fJ z):s=z:=by
 unfold fJ at h;rw[aAb,aAb] at h;have n1:=hs.v.len;have n2:=hz.v.len;obtain⟨h1,h⟩:=aHe o_ o_ (λc hc=>hs.v.may (aDn _ hc)) (λc hc=>hz.v.may (aDn _ hc)) hs.v.T4 hz.v.T4 h;obtain⟨h2,h⟩:=aHe o_ o_ (λc hc=>hs.v.may (aCp _ hc)) (λc hc=>hz.v.may (aCp _ hc)) hs.v.TZ hz.v.TZ h;have f1:=hs.v.MM;have f2:=hz.v.MM;rw[h1,h2,f2] at f1;have hv:s.v=z.v:=by
  have e1:=congrArg Prod.fst (aDk f1);have e2:=congrArg Prod.snd (aDk f1);dsimp only at e1 e2;generalize hsv:s.v=sv at *;generalize hzv:z.v=zv at *;cases sv;cases zv;dsimp only at h1 h2 e1 e2;rw[h1,h2,e1,e2]
 have hn:s.ps.length=z.ps.length:=by
  have a:=hs.n;have b:=hz.n;rw[hv,hr] at a;omega
 have hp:s.ps=z.ps:=by
  apply aCk;intro i;by_cases hi:i<s.ps.length
  ·have e1:s.ps[i]?=some s.ps[i]:=aAa hi;have e2:z.ps[i]?=some (z.ps[i]'o_):=aAa o_;obtain⟨g1,g2⟩:=aHu hn hs.ch hz.ch h i _ _ e1 e2;have w1:=hs.w i _ e1;have w2:=hz.w i _ e2;rw[hv,hr,w2] at w1;have w3:=aDk w1;rw[e1,e2];generalize s.ps[i]=p at *;generalize z.ps[i]'o_=q at *;cases p;cases q;dsimp only at g1 g2 w3;rw[g1,g2,w3]
  ·rw[aCo o_,aCo o_]
 cases s;cases z;dsimp only at hv hp hr;rw[hv,hp,hr]
theorem Rc.aJj{x y:Rc}(h:x.r=y.r):x=y:=by
 cases x<;>cases y<;>simp only[Rc.r,R1,R2,R3,R4,pD.mk.injEq] at h<;>simp_all
theorem Rc.aJl{x y:Rc}(hx:x.may=true∧x.ok)(hy:y.may=true∧y.ok)(h:x.b=y.b):x=y:=by
 have h1:=Km hx.1 hx.2;rw[h,Km hy.1 hy.2] at h1;exact(Rc.aJj (aDk h1)).symm
theorem aHj:∀ {l m:List Rc},(∀x∈l,x.may=true∧x.ok)→(∀x∈m,x.may=true∧x.ok)→l.map Rc.b=m.map Rc.b→l=m
 | [],[],_,_,_=>rfl
 | [],_::_,_,_,h=>by simp at h
 |_::_,[],_,_,h=>by simp at h
 |x::l,y::m,hl,hm,h=>by
  simp only[aCi,aGa] at h;rw[Rc.aJl (hl x aBo) (hm y aBo) h.1,aHj (λz hz=>hl z (aBl _ hz)) (λz hz=>hm z (aBl _ hz)) h.2]
theorem Lc.inj{r:Int}{z y:Lc}(hz:z.ok r)(hy:y.ok r)(h:z.bs=y.bs):z=y:=by
 obtain⟨b,l⟩:=z;obtain⟨c,m⟩:=y;unfold Lc.bs Gb at h;dsimp only at h;have key:∀ {s:Sv} {k l:List Rc},[5::fJ s]++k.map Rc.b=[]++l.map Rc.b→False:=by
  intro s k l h;cases l with
  |nil=>simp at h
  |cons x l =>
   simp only[aBq,aCj,aCi,aGa] at h;have:=x.xW.2.2;rw[←h.1] at this;exact this rfl
 cases b with
 |none =>
  cases c with
  |none =>
   have e:l=m:=aHj hz.l hy.l (by simpa using h);rw[e]
  |some t=>exact(key h.symm).elim
 |some s =>
  cases c with
  |none=>exact(key h).elim
  |some t =>
   simp only[aCj,aBq,aGa,true_and] at h;have h1:=hz.base s rfl;have h2:=hy.base t rfl;have e:l=m:=aHj hz.l hy.l h.2;rw[e,aIm h1.1 h2.1 (h1.2.trans h2.2.symm) h.1]
theorem aHk{r:Int}{z:Lc}{bF:List (List UInt8)}(hz:z.ok r)(h:z.bs=bF):vG r bF=z:=by
 obtain⟨h1,h2⟩:=Dl ⟨z,hz,h⟩;exact Lc.inj h1 hz (h2.trans h.symm)
end Go.Proofs.YtmilalkjbojciaaGreat.Sep
namespace Go.Proofs.YtmilalkjbojciaaGreat.Sep
theorem aHv{l:List aX}{x c:aX}:x∈lG l c↔x∈l∨x=c:=by
 unfold lG;have h:x∈l↔x∈l.take (uI l c)∨x∈l.drop (uI l c):=by rw[←aBg,aAx]
 rw[h];simp only[aBg,aAp];constructor
 ·rintro((h|h)|h)
  ·exact .inl (.inl h)
  ·exact .inr h
  ·exact .inl (.inr h)
 ·rintro((h|h)|h)
  ·exact .inl (.inl h)
  ·exact .inr h
  ·exact .inl (.inr h)
def Sv.all(s:Sv):List aX:=s.v.l++s.v.t
theorem aIf(s:Sv)(hs:Gd s)(x:Rc):(s.doc x).1.v=s.v ∨
  (∃c,x=.lI c∧(s.doc x).1.v.l=s.v.l∧gT s.v.known s.v.times c=true∧∀d,d∈(s.doc x).1.v.t↔d∈s.v.t∨d=c) ∨
  (∃a c p q,x=.rI a∧(s.doc x).2=0∧s.v.t=p++c::q∧c.id=a∧(s.doc x).1.v=⟨s.v.l++[c],p++q,s.v.known,s.v.times⟩):=by
 cases x with
 |lI c =>
  rw[show s.doc (.lI c)=s.pE c from rfl];unfold Sv.pE;by_cases hm:c.may=true
  ·rw[if_pos hm];rcases Hj s.v c with⟨h1,h2⟩|⟨h1,h2,h3,h4⟩
   ·rw[if_neg h1];exact .inl h2
   ·rw[if_pos h1];have e:(Sv.again ⟨(sV s.v c).1,s.ps,s.r⟩).v=(sV s.v c).1:=rfl;refine .inr (.inl ⟨c,rfl,?_,h3,λd=>?_⟩)
    ·rw[e,h4]
    ·rw[e,h4,AA hs.v h3];exact aHv
  ·rw[if_neg hm];exact .inl rfl
 |rI a =>
  rw[show s.doc (.rI a)=s.KE a from rfl];unfold Sv.KE;by_cases hm:a.may=true
  ·rw[if_pos hm];rcases C4 s.v a with⟨h1,h2⟩|⟨h1,p,c,q,h3,h4,h5,h6⟩
   ·rw[if_neg h1];exact .inl h2
   ·rw[if_pos h1];exact .inr (.inr ⟨a,c,p,q,rfl,h1,h3,h4,h6⟩)
  ·rw[if_neg hm];exact .inl rfl
 |DG k now =>
  rw[show s.doc (.DG k now)=s.MO k now from rfl];unfold Sv.MO;split<;>exact .inl rfl
 |qJ k =>
  rw[show s.doc (.qJ k)=s.Ls k from rfl];unfold Sv.Ls;split<;>exact .inl rfl
theorem aIk{s:Sv}(hs:Gd s)(x:Rc):s.v.l <+: (s.doc x).1.v.l∧∀c∈s.all,c∈(s.doc x).1.all:=by
 unfold Sv.all;rcases aIf s hs x with h|⟨c,_,h1,_,h2⟩|⟨a,c,p,q,_,_,h1,_,h2⟩
 ·rw[h];exact⟨aFz _,λc hc=>hc⟩
 ·rw[h1];refine⟨aFz _,λd hd=>?_⟩;rcases aBg.1 hd with hd|hd
  ·exact aDn _ hd
  ·exact aCp _ ((h2 d).2 (.inl hd))
 ·rw[h2];refine⟨aGf _ _,λd hd=>?_⟩;rw[h1] at hd;simp only[aBg,aEj,aAk,or_false] at hd⊢;rcases hd with hd|hd|rfl|hd<;>simp[*]
theorem aIp(s:Sv)(l m:List Rc):F9 s (l++m)=F9 (F9 s l) m:=by unfold F9;rw[List.foldl_append]
theorem aHf:∀ {l:List Rc} {s:Sv},Gd s→(∀x∈l,x.may=true∧x.ok)→s.v.l <+: (F9 s l).v.l∧∀c∈s.all,c∈(F9 s l).all
 | [],s,_,_=>⟨aFz _,λc hc=>hc⟩
 |x::l,s,hs,hl=>by
  obtain⟨h1,h2⟩:=aIk hs x;obtain⟨h3,h4⟩:=aHf (l:=l) (hs.doc (hl x aBo).2) λy hy=>hl y (aBl _ hy);exact⟨h1.trans h3,λc hc=>h4 c (h2 c hc)⟩
theorem Gd.uniq{s:Sv}(h:Gd s){c d:aX}(hc:c∈s.all)(hd:d∈s.all)(hid:c.id=d.id):c=d:=by
 have hn:=aHl h.v.MM;have key:∀ {l:List aX},(l.map aX.id).Nodup→c∈l→d∈l→c=d:=by
  intro l
  induction l with
  |nil=>exact λ_ h=>(aAk h).elim
  |cons x l ih =>
   intro hn hc hd;rw[aCi,List.nodup_cons] at hn;rcases aEj.1 hc with rfl|hc'<;>rcases aEj.1 hd with rfl|hd'
   ·rfl
   ·exact absurd (aFn.2 ⟨d,hd',hid.symm⟩) hn.1
   ·exact absurd (aFn.2 ⟨c,hc',hid⟩) hn.1
   ·exact ih hn.2 hc' hd'
 exact key hn hc hd
def may(l:List Rc):Prop:=∀x∈l,x.may=true∧x.ok
def Ext(S s:Sv):Prop:=∃l,may l∧s=F9 S l
theorem Ext.refl(s:Sv):Ext s s:=⟨[],λ_ h=>(aAk h).elim,rfl⟩
theorem Ext.grow{S s:Sv}(h:Ext S s)(hS:Gd S):S.v.l <+: s.v.l∧(∀c∈S.all,c∈s.all)∧Gd s∧s.r=S.r:=by
 obtain⟨l,h1,rfl⟩:=h;obtain⟨h2,h3⟩:=aHf hS h1;obtain⟨h4,h5⟩:=Rm h1 hS;exact⟨h2,h3,h4,h5⟩
structure Nv(n:Nd):Prop where
 ok:n.ok
 b:n.up=true→n.lc.base.isSome=true→1≤n.ls.kE
theorem aHg{r:Int}{z:Lc}(hz:z.ok r){j:Nat}(hb:z.base.isSome=true→1≤j):∃k,vG r (z.bs.take j)=⟨z.base,z.l.take k⟩∧(z.bs.length≤j→z.l.take k=z.l):=by
 obtain⟨base,l⟩:=z;cases base with
 |none =>
  refine⟨j,aHk ⟨hz.rep,hz.base,λx hx=>hz.l x (aBs hx)⟩ ?_,λh=>aAj ?_⟩
  ·unfold Lc.bs Gb;simp[]
  ·unfold Lc.bs Gb at h;simpa using h
 |some s =>
  have:=hb rfl;obtain⟨j,rfl⟩:∃i,j=i+1:=⟨j - 1,by omega⟩
  refine⟨j,aHk ⟨hz.rep,hz.base,λx hx=>hz.l x (aBs hx)⟩ ?_,λh=>aAj ?_⟩
  ·unfold Lc.bs Gb;simp[]
  ·unfold Lc.bs Gb at h;simpa using h
theorem aIi{n:Nd}{z:Lc}(hz:z.ok n.r){i j:Nat}(hij:i≤j)(hb:z.base.isSome=true→1≤i):Ext ((vG n.r (z.bs.take i)).sv n.r) ((vG n.r (z.bs.take j)).sv n.r)∧Ext ((vG n.r (z.bs.take j)).sv n.r) (z.sv n.r):=by
 have key:∀ {m:Lc} {k:Nat},m.ok n.r→Ext (Lc.sv n.r ⟨m.base,m.l.take k⟩) (m.sv n.r):=λ{m k} hm=>by
  refine⟨m.l.drop k,λx hx=>hm.l x (aDw hx),?_⟩;show F9 _ _=F9 (F9 _ _) _;rw[←aIp,aAx]
 obtain⟨k,hk,_⟩:=aHg hz (j:=j) λh=>aBw (hb h) hij;have hok:Lc.ok n.r ⟨z.base,z.l.take k⟩:=⟨hz.rep,hz.base,λx hx=>hz.l x (aBs hx)⟩
 have e:Lc.bs ⟨z.base,z.l.take k⟩=z.bs.take j:=by
  rw[←hk];obtain⟨z',h1,h2⟩:=hz.take j;exact(Dl ⟨z',h1,h2⟩).2
 obtain⟨k2,hk2,_⟩:=aHg hok (j:=i) hb;refine⟨?_,by rw[hk];exact key hz⟩;have e2:z.bs.take i=(z.bs.take j).take i:=by rw[aEn,aBr hij]
 rw[e2,←e,hk2,e,hk];exact key hok
structure Dur(n n':Nd):Prop where
 r:n'.r=n.r
 a:Ext n.stored n'.stored
 b:Ext n'.stored n.state
 c:n'.state=n.state∨n'.state=n'.stored
theorem G3{n:Nd}(h:n.up=true):n.state=n.s:=by unfold Nd.state;rw[if_pos h]
theorem SY{n:Nd}(h:n.up=false):n.state=n.stored:=by unfold Nd.state;rw[if_neg (by rw[h];decide)]
theorem Nv.qO{n:Nd}(h:Nv n)(hu:n.up=true):n.qO=n.lc.bs.take n.ls.kE:=by
 rw[(h.ok.lc hu).2.1];exact xZ (h.ok.inv hu).1
theorem Nv.ext{n:Nd}(h:Nv n):Ext n.stored n.state:=by
 by_cases hu:n.up=true
 ·rw[G3 hu];obtain⟨h1,_,h3⟩:=h.ok.lc hu;rw[h3];unfold Nd.stored;rw[h.qO hu];exact(aIi h1 (aAf _) (h.b hu)).2
 ·rw[SY (by simpa using hu)];exact Ext.refl _
theorem Dur.refl{n:Nd}(h:Nv n):Dur n n:=⟨rfl,Ext.refl _,h.ext,.inl rfl⟩
theorem NY{n n':Nd}(hr:n'.r=n.r)(hN:n'.ls.N=n.ls.N)(hD:n'.ls.D=n.ls.D):n'.stored=n.stored:=by
 unfold Nd.stored Nd.qO;rw[hr,hN,hD]
theorem Nv.write{n:Nd}(h:Nv n)(hu:n.up=true){x:Rc}(hx:x.ok):Nv (n.write x).1∧(n.write x).1.up=true∧(n.write x).1.r=n.r∧(n.write x).1.stored=n.stored ∧
  (((n.write x).2≠0∧(n.write x).1.s=n.s)∨((n.write x).2=0∧(n.s.doc x).2=0∧(n.write x).1.s=(n.s.doc x).1)):=by
 have hok:=h.ok.write hx hu;unfold Nd.write at hok⊢;by_cases hd:(n.s.doc x).2=0
 ·rw[if_pos hd] at hok⊢;by_cases ha:(n.ls.append x.b).1=0
  ·rw[if_pos ha] at hok⊢;have hbl:=x.xW;rcases tI (s:=n.ls) (b:=x.b) with e|⟨_,_,_,_,e⟩
   ·refine⟨⟨hok,λ_ hb=>?_⟩,hu,rfl,NY rfl ?_ ?_,.inr ⟨rfl,hd,rfl⟩⟩
    ·dsimp only;rw[e];exact h.b hu hb
    ·dsimp only;rw[e]
    ·dsimp only;rw[e]
   ·refine⟨⟨hok,λ_ hb=>?_⟩,hu,rfl,NY rfl ?_ ?_,.inr ⟨rfl,hd,rfl⟩⟩
    ·dsimp only;rw[e];exact h.b hu hb
    ·dsimp only;rw[e]
    ·dsimp only;rw[e]
  ·rw[if_neg ha] at hok⊢;exact⟨h,hu,rfl,rfl,.inl ⟨ha,rfl⟩⟩
 ·rw[if_neg hd];exact⟨h,hu,rfl,rfl,.inl ⟨hd,rfl⟩⟩
theorem aIe{z:Lc}(h:z.base.isSome=true):1≤z.bs.length:=by
 obtain⟨b,l⟩:=z;cases b with
 |none=>cases h
 |some s=>unfold Lc.bs Gb;simp
theorem Nz{n:Nd}{z:Lc}(hz:z.ok n.r)(h:n.qO=z.bs):n.stored=z.sv n.r:=by
 unfold Nd.stored;rw[aHk hz h.symm]
theorem Nv.sync{n:Nd}(h:Nv n):Nv n.sync.1∧Dur n n.sync.1∧(n.sync.2=0→n.up=true∧n.sync.1.up=true∧n.sync.1.s=n.s∧n.sync.1.stored=n.s):=by
 have hok:=h.ok.sync;have hext:=h.ext;unfold Nd.sync at hok⊢;by_cases hu:n.up=true
 ·rw[if_pos hu] at hok⊢;rw[G3 hu] at hext;obtain⟨i1,i2⟩:=h.ok.inv hu;obtain⟨l1,l2,l3⟩:=h.ok.lc hu;by_cases hc:n.ls.sync.1=0
  ·rw[if_pos hc] at hok⊢;cases hq:iT n.ls.aG n.ls.pos n.ls.cG.length
   ·have hs:=Kd i2 hq;have hst:Nd.stored ⟨n.r,n.ls.sync.2,true,n.lc,n.s⟩=n.s:=by
     rw[l3];refine Nz l1 ?_;have hinv:=i1.synced (fY n.ls.aG n.ls.pos n.ls.cG.length);rw[l2,hs];exact(xZ hinv).trans (aAj (aAf _))
    refine⟨⟨hok,λ_ hb=>?_⟩,⟨rfl,?_,?_,?_⟩,λ_=>⟨hu,rfl,rfl,hst⟩⟩
    ·rw[hs];dsimp only;rw[←l2];exact aIe hb
    ·rw[hst];exact hext
    ·rw[hst,G3 hu];exact Ext.refl _
    ·exact .inl (by rw[G3 hu];exact G3 rfl)
   ·rw[F7 i2 hq] at hc;cases hc
  ·rw[if_neg hc] at hok⊢;obtain⟨k,k1,_,_,k4⟩:=MI i1 i2 hc;have hdk:Nd.qO ⟨n.r,n.ls.sync.2,false,n.lc,n.s⟩=n.lc.bs.take k:=by rw[l2];exact k1
   obtain⟨f1,f2⟩:=aIi l1 k4 (h.b hu);have hst:Nd.stored ⟨n.r,n.ls.sync.2,false,n.lc,n.s⟩=(vG n.r (n.lc.bs.take k)).sv n.r:=by unfold Nd.stored;rw[hdk]
   refine⟨⟨hok,λhu=>by cases hu⟩,⟨rfl,?_,?_,.inr (SY rfl)⟩,λh=>by cases h⟩
   ·rw[hst];unfold Nd.stored;rw[h.qO hu];exact f1
   ·rw[hst,G3 hu,l3];exact f2
 ·rw[if_neg hu];exact⟨h,Dur.refl h,λh=>by cases h⟩
theorem Nv.CA{n:Nd}(h:Nv n):Nv n.CA∧Dur n n.CA:=by
 have e:n.CA.stored=n.stored:=NY rfl rfl rfl;exact⟨⟨h.ok.CA,λhu=>by cases hu⟩,rfl,by rw[e];exact Ext.refl _,by rw[e];exact h.ext,.inr (SY rfl)⟩
theorem Nv.rO{n:Nd}(h:Nv n):Nv n.rO.1∧Dur n n.rO.1:=by
 have hok:=h.ok.rO;unfold Nd.rO at hok⊢;by_cases hu:n.up=true
 ·rw[if_pos hu];exact⟨h,Dur.refl h⟩
 ·rw[if_neg hu] at hok⊢;have hinv:Inv (LS.open n.ls.N n.ls.D (-1)):=Inv.open h.ok.len h.ok.n0 h.ok.n1;obtain⟨z1,z2⟩:=Dl h.ok.qO;have hst:n.opened.stored=n.stored:=by
   refine Nz (z:=vG n.r n.qO) z1 ?_;rw[z2];exact(xZ hinv).trans (aAj (aAf _))
  refine⟨⟨hok,λ_ hb=>?_⟩,rfl,by rw[hst];exact Ext.refl _,by rw[hst];exact h.ext,.inr ?_⟩
  ·have:=aIe hb;show 1≤(LS.open n.ls.N n.ls.D (-1)).bF.length;have e:(vG n.r n.qO).bs=(LS.open n.ls.N n.ls.D (-1)).bF:=z2;rw[←e];exact this
  ·rw[hst];exact G3 rfl
theorem Nv.arm{n:Nd}(h:Nv n){k:Int}(hk:k≤9223372036854775807):Nv (n.arm k)∧Dur n (n.arm k):=by
 have hok:=h.ok.arm hk;unfold Nd.arm at hok⊢;by_cases hu:n.up=true
 ·rw[if_pos hu] at hok⊢;have e:Nd.stored ⟨n.r,n.ls.arm k,true,n.lc,n.s⟩=n.stored:=NY rfl rfl rfl;exact⟨⟨hok,λ_=>h.b hu⟩,rfl,by rw[e];exact Ext.refl _,by rw[e];exact h.ext,.inl (by rw[G3 hu];exact G3 rfl)⟩
 ·rw[if_neg hu];exact⟨h,Dur.refl h⟩
theorem Nv.pack{n:Nd}(h:Nv n):Nv n.pack.1∧Dur n n.pack.1:=by
 have hok:=h.ok.pack;have hext:=h.ext;unfold Nd.pack at hok⊢;by_cases hu:n.up=true
 ·rw[if_pos hu] at hok⊢;rw[G3 hu] at hext;obtain⟨i1,i2⟩:=h.ok.inv hu;obtain⟨l1,l2,l3⟩:=h.ok.lc hu;have hg:=h.ok.gd hu;have hnew:Lc.ok n.r ⟨some n.s,[]⟩:=⟨h.ok.rep,(λs hs=>by injection hs with hs;subst hs;exact hg),λx hx=>(aAk hx).elim⟩
  obtain⟨f1,f2,f3⟩:=JS i1 i2 n.At;by_cases hc:(n.ls.swap n.At).1=0
  ·rw[if_pos hc] at hok⊢;have hinv:=i1.swap i2 n.At hc;have hrecs:=QH hc;have hst:Nd.stored ⟨n.r,(n.ls.swap n.At).2,true,⟨some n.s,[]⟩,n.s⟩=n.s:=by
    refine Nz (z:=⟨some n.s,[]⟩) hnew ?_;show(LS.open (n.ls.swap n.At).2.N (n.ls.swap n.At).2.D (-1)).bF=[5::fJ n.s]++[];rw[xZ hinv,hrecs.1,hrecs.2.1];rfl
   refine⟨⟨hok,λ_ _=>?_⟩,rfl,by rw[hst];exact hext,by rw[hst,G3 hu];exact Ext.refl _,.inl (by rw[G3 hu];exact G3 rfl)⟩;show 1≤(n.ls.swap n.At).2.kE;rw[hrecs.2.1];exact aAf _
  ·rw[if_neg hc] at hok⊢;by_cases hc2:(n.ls.swap n.At).1=19
   ·rw[if_pos hc2] at hok⊢;have hst:Nd.stored ⟨n.r,(n.ls.swap n.At).2,false,n.lc,n.s⟩=n.stored∨Nd.stored ⟨n.r,(n.ls.swap n.At).2,false,n.lc,n.s⟩=n.s:=by
     rcases f3 with⟨f3,_⟩|⟨f3,_⟩
     ·refine .inl ?_;unfold Nd.stored;rw[show n.qO=n.ls.bF.take n.ls.kE from xZ i1,←f3];show(vG n.r (Frm.cZ (bB (n.ls.swap n.At).2.D (n.ls.swap n.At).2.N _))).sv n.r=_;rw[f1]
     ·refine .inr (Nz (z:=⟨some n.s,[]⟩) hnew ?_);show Frm.cZ (bB (n.ls.swap n.At).2.D (n.ls.swap n.At).2.N _)=[5::fJ n.s]++[];rw[f1,f3];rfl
    refine⟨⟨hok,λhu=>by cases hu⟩,rfl,?_,?_,.inr (SY rfl)⟩
    ·rcases hst with e|e<;>rw[e]
     ·exact Ext.refl _
     ·exact hext
    ·rw[G3 hu];rcases hst with e|e<;>rw[e]
     ·exact hext
     ·exact Ext.refl _
   ·rw[if_neg hc2];exact⟨h,Dur.refl h⟩
 ·rw[if_neg hu];exact⟨h,Dur.refl h⟩
theorem Nv.new{r:Int}{N:Nat}(hr:0≤r∧r≤3)(h0:1≤N)(h1:N≤64):Nv (Nd.new r N)∧(Nd.new r N).stored=Qb r∧(Nd.new r N).state=Qb r:=by
 have hi:=Inv.new h0 h1;refine⟨⟨Nd.ok.new hr h0 h1,λ_ hb=>by cases hb⟩,?_,G3 rfl⟩;exact Nz (z:=⟨none,[]⟩) (Lc.E3 hr) (xZ hi)
noncomputable def D0(bU:List Nd):List aX:=match bU[0]? with
 |some n=>n.stored.v.l
 |none=>[]
def Kn(bU:List Nd)(c:aX):Prop:=∃(j:Nat) (n:Nd),bU[j]?=some n∧c.id.rep=j∧c∈n.stored.all
structure NI(bU:List Nd):Prop where
 nv:∀(i:Nat) (n:Nd),bU[i]?=some n→Nv n∧n.r=i
 rI:∀(i:Nat) (n:Nd),bU[i]?=some n→i≠0→n.state.v.l <+: D0 bU
 own:∀(i:Nat) (n:Nd),bU[i]?=some n→∀c∈n.state.all,c.id.rep≠i→Kn bU c
def okM(bU:List Nd)(m:Mg):Prop:=(m.kind=2→m.ids <+: ((D0 bU).drop m.base.toNat).map aX.id)∧∀c∈m.iS,Kn bU c
structure Le(bU nds':List Nd):Prop where
 d:D0 bU <+: D0 nds'
 k:∀c,Kn bU c→Kn nds' c
theorem Le.refl(bU:List Nd):Le bU bU:=⟨aFz _,λ_ h=>h⟩
theorem Le.trans{a b c:List Nd}(h:Le a b)(k:Le b c):Le a c:=⟨h.d.trans k.d,λx hx=>k.k x (h.k x hx)⟩
theorem N9{α:Type}{a b:List α}(h:a <+: b)(n:Nat):a.drop n <+: b.drop n:=by
 obtain⟨t,rfl⟩:=h;rw[aGj];exact aGf _ _
theorem Pj{α β:Type}{a b:List α}(f:α→β)(h:a <+: b):a.map f <+: b.map f:=by
 obtain⟨t,rfl⟩:=h;rw[aBk];exact aGf _ _
theorem okM.mono{a b:List Nd}(h:Le a b){m:Mg}(hm:okM a m):okM b m:=⟨λhk=>(hm.1 hk).trans (Pj _ (N9 h.d _)),λc hc=>h.k c (hm.2 c hc)⟩
section
variable {bU:List Nd} {i:Nat} {n n':Nd}
theorem ML(hn:bU[i]?=some n)(j:Nat):(bU.set i n')[j]?=if j=i then some n' else bU[j]?:=by
 have hi:=(aAd.1 hn).1;by_cases h:j=i
 ·subst h;rw[if_pos rfl,aGh hi]
 ·rw[if_neg h,aEq (aFh h)]
theorem Le.set(hn:bU[i]?=some n)(h1:n.stored.v.l <+: n'.stored.v.l)(h2:∀c∈n.stored.all,c∈n'.stored.all):Le bU (bU.set i n'):=by
 constructor
 ·unfold D0;rw[ML hn];by_cases h:0=i
  ·subst h;rw[if_pos rfl,hn];exact h1
  ·rw[if_neg h];exact aFz _
 ·rintro c ⟨j,m,hm,hr,hc⟩;by_cases h:j=i
  ·subst h;rw[hn] at hm;have e:=aDk hm;subst e;exact⟨j,n',by rw[ML hn,if_pos rfl],hr,h2 c hc⟩
  ·exact⟨j,m,by rw[ML hn,if_neg h];exact hm,hr,hc⟩
theorem NI.set(h:NI bU)(hn:bU[i]?=some n)(hv:Nv n')(hr:n'.r=n.r)(hl:Le bU (bU.set i n'))(h1:i≠0→n'.state.v.l <+: D0 bU)(h2:∀c∈n'.state.all,c.id.rep≠i→Kn bU c):NI (bU.set i n'):=by
 refine⟨λj m hm=>?_,λj m hm hj=>?_,λj m hm c hc hcj=>?_⟩
 ·rw[ML hn] at hm;split at hm
  ·have e:=aDk hm;subst e;subst j;exact⟨hv,hr.trans (h.nv i n hn).2⟩
  ·exact h.nv j m hm
 ·rw[ML hn] at hm;split at hm
  ·have e:=aDk hm;subst e;subst j;exact(h1 hj).trans hl.d
  ·exact(h.rI j m hm hj).trans hl.d
 ·rw[ML hn] at hm;split at hm
  ·have e:=aDk hm;subst e;subst j;exact hl.k c (h2 c hc hcj)
  ·exact hl.k c (h.own j m hm c hc hcj)
theorem NI.gd(h:NI bU)(hn:bU[i]?=some n):Gd n.stored∧Gd n.state∧n.stored.r=i∧n.state.r=i∧n.stored.v.l <+: n.state.v.l∧∀c∈n.stored.all,c∈n.state.all:=by
 obtain⟨hv,hr⟩:=h.nv i n hn;obtain⟨h1,h2⟩:=hv.ok.stored;obtain⟨h3,h4,h5,h6⟩:=hv.ext.grow h1;exact⟨h1,h5,h2.trans hr,h6.trans (h2.trans hr),h3,h4⟩
theorem NI.kE(h:NI bU)(hn:bU[i]?=some n)(hv:Nv n')(hd:Dur n n'):NI (bU.set i n')∧Le bU (bU.set i n'):=by
 obtain⟨g1,g2,_,_,_,_⟩:=h.gd hn;obtain⟨a1,a2,a3,_⟩:=hd.a.grow g1;obtain⟨b1,b2,_,_⟩:=hd.b.grow a3;have hl:=Le.set hn a1 a2;refine⟨h.set hn hv hd.r hl (λhi=>?_) (λc hc hci=>?_),hl⟩
 ·rcases hd.c with e|e<;>rw[e]
  ·exact h.rI i n hn hi
  ·exact b1.trans (h.rI i n hn hi)
 ·refine h.own i n hn c ?_ hci;rcases hd.c with e|e<;>rw[e] at hc
  ·exact hc
  ·exact b2 c hc
def aHn(bU:List Nd)(i:Nat)(s:Sv):Rc→Prop
 | .lI c=>c.id.rep=i∨Kn bU c
 | .rI a=>i=0∨s.v.l.map aX.id++[a] <+: (D0 bU).map aX.id
 |_=>True
theorem NI.write(h:NI bU)(hn:bU[i]?=some n)(hu:n.up=true){x:Rc}(hx:x.ok)(ha:(n.s.doc x).2=0→aHn bU i n.s x):NI (bU.set i (n.write x).1)∧Le bU (bU.set i (n.write x).1)∧Le (bU.set i (n.write x).1) bU:=by
 obtain⟨hv,hr⟩:=h.nv i n hn;obtain⟨w1,w2,w3,w4,w5⟩:=hv.write hu hx;obtain⟨g1,g2,_,_,g3,g4⟩:=h.gd hn;have hst:=G3 hu;have hst2:(n.write x).1.state=(n.write x).1.s:=G3 w2;have hl:Le bU (bU.set i (n.write x).1):=Le.set hn (by rw[w4];exact aFz _) (by rw[w4];exact λ_ h=>h);have hl2:Le (bU.set i (n.write x).1) bU:=by
  have e:(bU.set i (n.write x).1)[i]?=some (n.write x).1:=by rw[ML hn,if_pos rfl]
  have:=Le.set (n':=n) e (by rw[w4];exact aFz _) (by rw[w4];exact λ_ h=>h);rw[aGk] at this;have e2:bU.set i n=bU:=by
   obtain⟨hi,rfl⟩:=aAd.1 hn;exact List.set_getElem_self hi
  rw[e2] at this;exact this
 refine⟨?_,hl,hl2⟩;rcases w5 with⟨_,e⟩|⟨_,hz,e⟩
 ·refine h.set hn w1 w3 hl (λhi=>?_) (λc hc hci=>?_)
  ·rw[hst2,e,←hst];exact h.rI i n hn hi
  ·rw[hst2,e,←hst] at hc;exact h.own i n hn c hc hci
 ·have ha:=ha hz;rw[hst] at g2 g3 g4;have own:=h.own i n hn;have rI:=h.rI i n hn;rw[hst] at own rI;rcases aIf n.s g2 x with hd|⟨c,hc,h1,_,h2⟩|⟨a,c,p,q,hxa,_,hp,hca,hd⟩
  ·refine h.set hn w1 w3 hl (λhi=>?_) (λc hc hci=>?_)
   ·rw[hst2,e,hd];exact rI hi
   ·rw[hst2,e] at hc;unfold Sv.all at hc;rw[hd] at hc;exact own c hc hci
  ·refine h.set hn w1 w3 hl (λhi=>?_) (λd hdm hdi=>?_)
   ·rw[hst2,e,h1];exact rI hi
   ·rw[hst2,e] at hdm;unfold Sv.all at hdm;rw[h1] at hdm;rcases aBg.1 hdm with hm|hm
    ·exact own d (aDn _ hm) hdi
    ·rcases(h2 d).1 hm with hm|rfl
     ·exact own d (aCp _ hm) hdi
     ·subst hc;rcases ha with ha|ha
      ·exact absurd ha hdi
      ·exact ha
  ·have hcm:c∈n.s.all:=aCp _ (by rw[hp];simp);refine h.set hn w1 w3 hl (λhi=>?_) (λd hdm hdi=>?_)
   ·subst hxa;rcases ha with ha|ha
    ·exact absurd ha hi
    rw[hst2,e,hd];obtain⟨t,ht⟩:=rI hi;rw[←ht] at ha⊢;rw[aBk] at ha;have ha:=(List.prefix_append_right_inj _).1 ha;cases t with
    |nil=>simp at ha
    |cons d t =>
     have had:a=d.id:=by
      obtain⟨z,hz⟩:=ha;simp only[aCi,aCj,aBq,aGa] at hz;exact hz.1
     have hdD:d∈D0 bU:=by rw[←ht];simp
     have hid:c.id=d.id:=hca.trans had;have hcd:c=d:=by
      unfold D0 at hdD;cases h0:bU[0]? with
      |none=>rw[h0] at hdD;exact(aAk hdD).elim
      |some n0 =>
       rw[h0] at hdD;dsimp only at hdD;obtain⟨z1,z2,_,_,_,z4⟩:=h.gd h0;have hd0:d∈n0.stored.all:=aDn _ hdD;have own0:=h.own 0 n0 h0 d (z4 d hd0);by_cases hci:c.id.rep=i
       ·have hdr:d.id.rep≠((0:Nat):Int):=by rw[←hid,hci];omega
        obtain⟨j,m,hm,hj,hdm⟩:=own0 hdr;have hji:j=i:=by rw[←hid,hci] at hj;omega
        subst hji;rw[hn] at hm;have e:=aDk hm;subst e;exact g2.uniq hcm (g4 d hdm) hid
       ·obtain⟨j,m,hm,hj,hcj⟩:=own c hcm hci;obtain⟨y1,_,_,_,_,_⟩:=h.gd hm;by_cases hj0:j=0
        ·subst hj0;rw[h0] at hm;have e:=aDk hm;subst e;exact y1.uniq hcj hd0 hid
        ·have hdr:d.id.rep≠((0:Nat):Int):=by rw[←hid,hj];omega
         obtain⟨j2,m2,hm2,hj2,hdm⟩:=own0 hdr;have hjj:j2=j:=by rw[←hid,hj] at hj2;omega
         subst hjj;rw[hm] at hm2;have e:=aDk hm2;subst e;exact y1.uniq hcj hdm hid
     rw[hcd];exact⟨t,by simp⟩
   ·rw[hst2,e] at hdm;unfold Sv.all at hdm;rw[hd] at hdm;refine own d ?_ hdi;unfold Sv.all;rw[hp];simp only[aBg,aEj,aAk,or_false] at hdm⊢;rcases hdm with(hdm|hdm)|hdm|hdm<;>simp[*]
def G5(bU:List Nd)(i:Nat):Sv→List Rc→Prop
 |_,[]=>True
 |s,x::l=>x.ok∧((s.doc x).2=0→aHn bU i s x∧G5 bU i (s.doc x).1 l)
theorem aHn.le{a b:List Nd}(h:Le a b){s:Sv}{x:Rc}(hx:aHn a i s x):aHn b i s x:=by
 cases x with
 |lI c=>exact hx.imp id (h.k c)
 |rI c=>exact hx.imp id λk=>k.trans (Pj _ h.d)
 |_=>trivial
theorem G5.le{a b:List Nd}(h:Le a b):∀ {l:List Rc} {s:Sv},G5 a i s l→G5 b i s l
 | [],_,_=>trivial
 |_::_,_,hl=>⟨hl.1,λhz=>⟨(hl.2 hz).1.le h,G5.le h (hl.2 hz).2⟩⟩
structure Wrt(bU:List Nd)(i:Nat)(n':Nd):Prop where
 h:NI (bU.set i n')
 a:Le bU (bU.set i n')
 b:Le (bU.set i n') bU
 u:n'.up=true
theorem NI.AQ:∀ {l:List Rc} {k:Nat} {n:Nd} {bU:List Nd},NI bU→bU[i]?=some n→n.up=true→G5 bU i n.s l→Wrt bU i (n.AQ l k).1
 | [],k,n,bU,h,hn,hu,_=>by
  have e:bU.set i n=bU:=by
   obtain⟨hi,rfl⟩:=aAd.1 hn;exact List.set_getElem_self hi
  exact⟨by show NI (bU.set i n);rw[e];exact h,by show Le _ (bU.set i n);rw[e];exact Le.refl _,by show Le (bU.set i n) _;rw[e];exact Le.refl _,hu⟩
 |x::l,k,n,bU,h,hn,hu,ha=>by
  obtain⟨h1,h2,h3⟩:=h.write hn hu ha.1 λhz=>(ha.2 hz).1;obtain⟨w1,w2,w3,w4,w5⟩:=(h.nv i n hn).1.write hu ha.1;unfold Nd.AQ;by_cases hc:(n.write x).2=0
  ·rw[if_pos hc];have hat:(bU.set i (n.write x).1)[i]?=some (n.write x).1:=by rw[ML hn,if_pos rfl]
   have hal:G5 (bU.set i (n.write x).1) i (n.write x).1.s l:=by
    rcases w5 with⟨e,_⟩|⟨_,hz,e⟩
    ·exact absurd hc e
    ·rw[e];exact(ha.2 hz).2.le h2
   obtain⟨r1,r2,r3,r4⟩:=NI.AQ (l:=l) (k:=k+1) h1 hat w2 hal;rw[aGk] at r1 r2 r3;exact⟨r1,h2.trans r2,r3.trans h3,r4⟩
  ·rw[if_neg hc];exact⟨h1,h2,h3,w2⟩
end
theorem aHp{s:Sv}{c:aX}(h:(s.doc (.lI c)).2≠0):(s.doc (.lI c)).1=s:=by
 rw[show s.doc (.lI c)=s.pE c from rfl] at h⊢;unfold Sv.pE at h⊢;by_cases hm:c.may=true
 ·rw[if_pos hm] at h⊢;rcases Hj s.v c with⟨h1,h2⟩|⟨h1,_⟩
  ·dsimp only;rw[if_neg h1,h2]
  ·exact absurd h1 h
 ·rw[if_neg hm]
theorem aIa{s:Sv}{a:bJ}(h:(s.doc (.rI a)).2=0):∃c,c.id=a∧(s.doc (.rI a)).1.v.l=s.v.l++[c]:=by
 rw[show s.doc (.rI a)=s.KE a from rfl] at h⊢;unfold Sv.KE at h⊢;by_cases hm:a.may=true
 ·rw[if_pos hm] at h⊢;rcases C4 s.v a with⟨h1,h2⟩|⟨h1,p,c,q,h3,h4,h5,h6⟩
  ·exact absurd h h1
  ·refine⟨c,h4,?_⟩;dsimp only;rw[if_pos h1];show(fZ s.v a).1.l=_;rw[h6]
 ·rw[if_neg hm] at h;cases h
theorem aIb{s:Sv}(hs:Gd s)(c:aX):(s.doc (.lI c)).1.v.l=s.v.l:=by
 rcases aIf s hs (.lI c) with h|⟨_,_,h,_⟩|⟨a,_,_,_,h,_⟩
 ·rw[h]
 ·exact h
 ·cases h
section
variable {bU:List Nd} {i:Nat}
theorem Xc:∀ {l:List aX} {s:Sv} {out:List Rc},(∀c∈l,c.ok∧Kn bU c)→Gd s→∃new,(l.foldl (λz c=>eE z (.lI c)) (s,out)).2=out++new ∧
  (∀tail,G5 bU i (l.foldl (λz c=>eE z (.lI c)) (s,out)).1 tail→G5 bU i s (new++tail))∧(l.foldl (λz c=>eE z (.lI c)) (s,out)).1.v.l=s.v.l∧Gd (l.foldl (λz c=>eE z (.lI c)) (s,out)).1
 | [],s,out,_,hs=>⟨[],by simp,λ_ h=>h,rfl,hs⟩
 |c::l,s,out,hl,hs=>by
  obtain⟨hc,hk⟩:=hl c aBo;have hl2:=λd hd=>hl d (aBl c hd);rw[aFj];by_cases hz:(s.doc (.lI c)).2=0
  ·have e:eE (s,out) (.lI c)=((s.doc (.lI c)).1,out++[.lI c]):=by unfold eE;rw[if_pos hz]
   rw[e];obtain⟨new,h1,h2,h3,h4⟩:=Xc (l:=l) (s:=(s.doc (.lI c)).1) (out:=out++[.lI c]) hl2 (hs.doc (x:=.lI c) hc);refine⟨.lI c::new,by rw[h1];simp,λtail ht=>⟨hc,λ_=>⟨.inr hk,h2 tail ht⟩⟩,h3.trans (aIb hs c),h4⟩
  ·have e:eE (s,out) (.lI c)=(s,out):=by unfold eE;rw[if_neg hz];exact Prod.ext (aHp hz) rfl
   rw[e];exact Xc hl2 hs
theorem aHd:∀ {ids:List bJ} {s:Sv} {out:List Rc},(i=0∨s.v.l.map aX.id++ids <+: (D0 bU).map aX.id)→∃cs,comms s out ids=out++cs∧G5 bU i s cs
 | [],s,out,_=>⟨[],by unfold comms;simp,trivial⟩
 |a::ids,s,out,h=>by
  unfold comms;by_cases hz:(s.doc (.rI a)).2=0
  ·rw[if_pos hz];obtain⟨c,hca,hl⟩:=aIa hz;obtain⟨cs,h1,h2⟩:=aHd (ids:=ids) (s:=(s.doc (.rI a)).1) (out:=out++[.rI a]) (h.imp id λh=>by
    rw[hl,aBk,aAb];rw[←hca] at h;exact h)
   refine⟨.rI a::cs,by rw[h1];simp,trivial,λ_=>⟨h.imp id λh=>?_,h2⟩⟩;refine List.IsPrefix.trans ?_ h;rw[List.append_cons (bs:=ids)];exact aGf _ _
  ·rw[if_neg hz];exact⟨[],by simp,trivial⟩
theorem aHq(h:NI bU){n:Nd}(hn:bU[i]?=some n)(hu:n.up=true){m:Mg}(hm:okM bU m)(hok:m.ok):G5 bU i n.s (kL n.s m):=by
 unfold kL;by_cases hc:m.check=0∧m.kind=2∧m.to=n.s.r
 ·rw[if_pos hc];obtain⟨f1,f2,f3,f4,f5⟩:=Mg.Ei hc.1 hc.2.1;obtain⟨_,g2,_,_,_,_⟩:=h.gd hn;rw[G3 hu] at g2;obtain⟨new,h1,h2,h3,h4⟩:=Xc (bU:=bU) (i:=i) (l:=m.iS) (s:=n.s) (out:=[]) (λc hcm=>⟨Jj (aDm.1 f4 c hcm) (hok.1 c hcm),hm.2 c hcm⟩) g2;have e:tryAll n.s m.iS=m.iS.foldl (λz c=>eE z (.lI c)) (n.s,[]):=rfl;rw[←e] at h1 h2 h3 h4;rw[aBq] at h1;split
  ·rw[h1];have:=h2 [] trivial
   rwa [aAc] at this
  ·rename_i hb;obtain⟨cs,c1,c2⟩:=aHd (bU:=bU) (i:=i) (ids:=m.ids.drop (min ((tryAll n.s m.iS).1.v.l.length - m.base.toNat) m.ids.length)) (s:=(tryAll n.s m.iS).1) (out:=(tryAll n.s m.iS).2) (by
    by_cases hi:i=0
    ·exact .inl hi
    refine .inr ?_;rw[h3] at hb⊢;have rI:=h.rI i n hn hi;rw[G3 hu] at rI;have hids:=hm.1 hc.2.1;obtain⟨t,ht⟩:=rI;have hD:(D0 bU).map aX.id=n.s.v.l.map aX.id++((D0 bU).drop n.s.v.l.length).map aX.id:=by
     rw[←ht,aBk,List.drop_left]
    rw[hD];refine(List.prefix_append_right_inj _).2 ?_;by_cases hq:n.s.v.l.length - m.base.toNat≤m.ids.length
    ·rw[aBr hq];have:=N9 hids (n.s.v.l.length - m.base.toNat);rw[←List.map_drop,aBt,show m.base.toNat+(n.s.v.l.length - m.base.toNat)=n.s.v.l.length by omega] at this;exact this
    ·rw[aFe o_,aCy];exact aGd)
   rw[c1,h1];exact h2 cs c2
 ·rw[if_neg hc];trivial
structure Pk(bU:List Nd)(p:fD):Prop where
 a:p.broken=false→∃m:Mg,m.check=0∧p.b=m.enc
 b:∀m,mM p.b=some m→okM bU m
def PkL(bU:List Nd)(ws:List fD):Prop:=∀p∈ws,Pk bU p
theorem PkL.le{a b:List Nd}(h:Le a b){ws:List fD}(hp:PkL a ws):PkL b ws:=λp hpm=>⟨(hp p hpm).a,λm hm=>((hp p hpm).b m hm).mono h⟩
theorem PkL.put{ws:List fD}(h:PkL bU ws){p:fD}(hp:Pk bU p):PkL bU (zX ws p).1:=by
 unfold zX;split
 ·exact h
 ·intro q hq;rcases aBg.1 hq with hq|hq
  ·exact h q hq
  ·rw[aAp.1 hq];exact hp
theorem PkL.post{ws:List fD}(h:PkL bU ws){m:Mg}(hm:m.check=0→m.ok∧okM bU m):PkL bU (jW ws m).1:=by
 unfold jW;split
 ·exact h
 ·rename_i hc;have hc:m.check=0:=Classical.not_not.1 hc;obtain⟨h1,h2⟩:=hm hc;refine h.put ⟨λ_=>⟨m,hc,rfl⟩,λm' hm'=>?_⟩;have hm':mM m.enc=some m':=hm';rw[MR hc h1] at hm';rw[←aDk hm'];exact h2
theorem okM.plain{m:Mg}(hk:m.kind≠2)(hc:m.iS=[]):okM bU m:=⟨λh=>absurd h hk,λc h=>by rw[hc] at h;cases h⟩
theorem PkL.take{ws:List fD}(h:PkL bU ws)(j:Int):PkL bU (cR ws j):=by
 unfold cR;split
 ·exact h
 ·exact λp hp=>h p (aGe hp)
theorem aIz(b:UInt8)(k:Nat)(hk:k<8):Dg b k≠b:=by
 intro h;have h1:=congrArg UInt8.toNat h;have hp2:2 ^ k<2 ^ 8:=Nat.pow_lt_pow_right sD hk;have hx:b.toNat ^^^ 2 ^ k<256:=Nat.xor_lt_two_pow (n:=8) (aEr b) hp2;rw[Dg,aEy,aEc hx] at h1;have h2:b.toNat ^^^ (b.toNat ^^^ 2 ^ k)=b.toNat ^^^ b.toNat:=by rw[h1]
 rw[←Nat.xor_assoc,Nat.xor_self,Nat.zero_xor] at h2;have:=Nat.two_pow_pos k;omega
theorem PkL.rY{ws:List fD}(h:PkL bU ws)(st:cH):PkL bU (lP ws st).1:=by
 unfold lP;split
 ·exact h
 split
 ·unfold NZ;split
  ·exact h
  ·exact h.take _
 split
 ·unfold Co;split
  ·rename_i p hp;obtain⟨k,_,hk⟩:=uP hp;exact h.put (h p (aAi hk))
  ·exact h
 split
 ·exact h
 ·unfold CU;split
  ·rename_i p hp;obtain⟨k,hik,hk⟩:=uP hp;split
   ·exact h
   ·rename_i hc;simp only[not_or,Int.not_lt,Int.not_le] at hc;obtain⟨hb,_,hlen⟩:=hc;have hb:p.broken=false:=by simpa using hb
    intro q hq;rcases aCr hq with hq|hq
    ·exact h q hq
    ·rw[hq];obtain⟨m,hm,he⟩:=(h p (aAi hk)).a hb;have hl:p.b.length=m.body.length+7:=by rw[he];exact Frm.bO _
     have hlt:st.n.toNat / 8<p.b.length:=o_;have:mM (tJ p.b st.n.toNat)=none:=by
      unfold tJ;rw[he];rw[he] at hlt;refine aHr (by rw[←hl,he];exact hlt) λhx=>?_;rw[aAa hlt] at hx;have hx:=aDk hx;rw[aBb,aAa hlt] at hx;exact aIz _ _ (Nat.mod_lt _ sD) hx.symm
     refine⟨λhf=>?_,λm' hm'=>?_⟩
     ·cases hf
     ·have hm':mM (tJ p.b st.n.toNat)=some m':=hm';rw[this] at hm';cases hm'
  ·exact h
theorem aIc(h:NI bU){n:Nd}(hn:bU[i]?=some n)(hs:n.stored=n.s)(hu:n.up=true)(m:Mg):(lR n.s m).ok∧okM bU (lR n.s m):=by
 obtain⟨g1,g2,_,_,_,_⟩:=h.gd hn;have own:=h.own i n hn;have rI:=h.rI i n hn;rw[G3 hu] at g2 own rI;have hall:∀c∈(E8 n.s m).take 8,c∈n.s.all:=λc hc=>(aGb.1 (aBs hc)).1;unfold lR;split
 ·refine⟨⟨λc hc=>?_,dQ.zero⟩,λ_=>?_,λc hc=>?_⟩
  ·have:=hall c hc;unfold Sv.all at this;rcases aBg.1 this with h|h
   ·exact(g2.v.T4 c h).2.2.2.2.2.1
   ·exact(g2.v.TZ c h).2.2.2.2.2.1
  ·show(oX n.s m).take 16 <+: ((D0 bU).drop m.base.toNat).map aX.id;refine(List.take_prefix _ _).trans ?_;unfold oX;have hl:n.s.v.l <+: D0 bU:=by
    by_cases hi:i=0
    ·subst hi;unfold D0;rw[hn];dsimp only;rw[hs];exact aFz _
    ·exact rI hi
   by_cases hb:m.base.toNat≤n.s.v.l.length
   ·rw[aBr hb];exact Pj _ (N9 hl _)
   ·rw[aFe o_,aCy];exact aGd
  ·have hc:=hall c hc;by_cases hi:c.id.rep=i
   ·exact⟨i,n,hn,hi,by rw[hs];exact hc⟩
   ·exact own c hc hi
 ·exact⟨⟨λc hc=>(aAk hc).elim,⟨by decide,by decide⟩⟩,okM.plain sD rfl⟩
theorem aIr{id:bJ}{s:dS}(h:s.ok){q:dK}(hq:next id s.made s.l s.w=some q):q.bC.ok:=by
 unfold next at hq;split at hq
 ·rename_i e he;split at hq
  ·rw[←aDk hq];have:e∈s.l:=by
    unfold AP at he;split at he
    ·split at he
     ·rename_i h1 _;have:=aDk he;subst this;exact aAi h1
     ·cases he
    ·cases he
   exact(h.sE e this).2.1
  ·cases hq
 ·unfold fresh at hq;split at hq
  ·rename_i f hf;split at hq
   ·rw[←aDk hq];exact h.Lk f (aAi hf)
   ·cases hq
  ·cases hq
theorem aIg{s:Sv}(h:Gd s)(cf:fU)(now:Int):∀q∈s.ready cf now,q.bC.ok:=by
 unfold Sv.ready;generalize s.ps.length=k
 induction k with
 |zero=>exact λq hq=>(aAk hq).elim
 |succ k ih =>
  intro q hq;rw[jP] at hq;rcases aBg.1 hq with hq|hq
  ·exact ih q hq
  ·split at hq
   ·rename_i p hp;unfold fL at hq;split at hq
    ·rename_i hr;rw[aAp] at hq;have hJ:=h.ch p (aAi hp);unfold Ej at hr;have hs:=(aAv _ _).mp hr |>.1;unfold dS.Yr at hq;cases hx:next (RT s.r k) p.made p.l p.w with
     |none=>rw[hx] at hs;cases hs
     |some y=>rw[hx] at hq;subst hq;exact aIr hJ.1 hx
    ·cases hq
   ·cases hq
theorem PkL.aJb{r now:Int}:∀ {l:List dK} {ws:List fD} {aW:List fM},PkL bU ws→(∀q∈l,q.bC.ok)→PkL bU (jN r now ws aW l).1
 | [],_,_,h,_=>h
 |q::l,ws,aW,h,hl=>PkL.aJb (l:=l) (h.post λ_=>⟨⟨λc hc=>(aAk hc).elim,(hl q aBo).2.2.1⟩,okM.plain (show(3:Int)≠2 by decide) rfl⟩) λx hx=>hl x (aBl _ hx)
end
end Go.Proofs.YtmilalkjbojciaaGreat.Sep
