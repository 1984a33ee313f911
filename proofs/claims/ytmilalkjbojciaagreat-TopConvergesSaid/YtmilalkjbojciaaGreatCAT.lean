/- Part AT: what it needs. No condition. -/
import Derived.Test.YtmilalkjbojciaaGreatCAS
set_option linter.all false
set_option maxRecDepth 100000
set_option maxHeartbeats 8000000
open Go.Proofs.Tryz
namespace Go.Proofs.YtmilalkjbojciaaGreat.Sep
open Go.RowKit Reg Oct
open Mem hiding Rd
def jS:Ty Nat where
 val g:=pt g
 size:=1
 bytes:=8
 tid:=122
 zero:=.pointer none
 hlen _:=rfl
 kL a u h:=by simp[Value.cells] at h;subst h;rfl
 fZ:=sD
 hzero:=rfl
 lF:=q_
 mQ:=.inr ⟨q_,λ_=>rfl⟩
instance:pH 122 Nat jS:=⟨rfl⟩
instance:pR jS 8:=⟨rfl⟩
instance:iB 121 [.pointer none,.pointer none,a! 0,.slice none 0 0,a! 0,a! 0,a! 0,a! 0,a! 0,.slice none 0 0,a! 0] [(0,4),(4,5),(9,1),(10,1)]:=⟨⟨q_,q_⟩⟩
instance:iB 118 [.pointer none,.pointer none,a! 0,.slice none 0 0] [(0,1),(1,1),(2,1),(3,1)]:=⟨⟨q_,q_⟩⟩
structure lX where
 gw:Nat
 gg:Nat
 sA:Option Addr
 sc:Nat
 nA:Option Addr
 nc:Nat
 gs:List Nat
abbrev wC(x:lX)(now:Int)(sn:Nat)(cf:bW)(nn:Nat)(sub:Int):List p!:=[pt x.gw,pt x.gg,a! now,.slice x.sA sn x.sc,a! cf.eD,a! cf.nI,a! cf.cO,a! cf.base,a! cf.cap,.slice x.nA nn x.nc,a! sub]
def jJ(ws:List bX)(m:Mg):List bX×Int:=if m.check≠0 then(ws,0) else((tB ws ⟨m.to,m.enc,false⟩).1,if (tB ws ⟨m.to,m.enc,false⟩).2 then 1 else 0)
def tM(m:Mg):Mg:=⟨4,9,m.fr,0,0,0,0,0,[],[],m.key,ez⟩
section
variable (E:Env) (g:Nat) (x:lX) (now:Int) (sn:Nat) (cf:bW) (nn:Nat) (sub:Int) (ws:List bX)
theorem IV(m:Mg)(A:Option Addr)(n c:Nat)(B:Option Addr)(k d:Nat)(hI:Rd E gJ A n c m.ids)(hC:Rd E bO B k d m.cL):G E 113 [pt g,.agg (fV m A n c B k d).toArray] [aE g 121 (wC x now sn cf nn sub),cI x.gw ws] (bL (.int .i64 (jJ ws m).2) [aE g 121 (wC x now sn cf nn sub),cI x.gw (jJ ws m).1]):=by
 unfold jJ;by_cases hc:m.check=0
 ·rw[if_neg (by rw[hc];decide)];have hsz:=Mg.size hc;have put:=λM hI hC=>S8 (E:=M) (m:=m) (A:=A) (n:=n) (c:=c) (B:=B) (k:=k) (d:=d) hI hC hc;have wp:=λM X nx cx hr hnx=>aIs M x.gw ws m.to X nx cx m.enc hr hnx;generalize tB ws ⟨m.to,m.enc,false⟩=r at *;obtain⟨ws',ok⟩:=r;dsimp only at wp⊢;cases ok with
  |true =>
   refine t_ func113 ntmps113 ?_;refine a_ ?_;intros
   refine rO put ?_;rintro e H' ⟨O,oc,rfl,rfl⟩;refine a_ ?_
   rename_i g3;refine rB (l_ [0,1,2,3,4,5,6,7,8,9] (g_ 10 (l_ [11,12] .nil))) ([aE g 121 _,aE g3 195 _]) ?_;refine a_ ?_
   refine uO (λM h1=>wp M O (m.body.length+7) oc h1 (by omega)) ?_;refine a_ ?_
   exact aS
  |false =>
   refine t_ func113 ntmps113 ?_;refine a_ ?_;intros
   refine rO put ?_;rintro e H' ⟨O,oc,rfl,rfl⟩;refine a_ ?_
   rename_i g3;refine rB (l_ [0,1,2,3,4,5,6,7,8,9] (g_ 10 (l_ [11,12] .nil))) ([aE g 121 _,aE g3 195 _]) ?_;refine a_ ?_
   refine uO (λM h1=>wp M O (m.body.length+7) oc h1 (by omega)) ?_;refine a_ ?_
   exact aS
 ·rw[if_pos hc];have put:=λM hI hC=>S7 (E:=M) (m:=m) (A:=A) (n:=n) (c:=c) (B:=B) (k:=k) (d:=d) hI hC hc;refine t_ func113 ntmps113 ?_;refine a_ ?_;intros
  refine oE put ?_;refine a_ ?_
  rename_i g3;refine rB (l_ [0,1,2,3,4,5,6,7,8,9] (g_ 10 (l_ [11,12] .nil))) ([aE g 121 _,aE g3 195 _]) ?_;refine a_ ?_
  exact aS
end
section
variable (E:Env) (g:Nat) (x:lX) (now:Int) (sn:Nat) (cf:bW) (nn:Nat) (sub:Int) (ws:List bX)
def DY(e:Int):G E 50 [a! e] [] (bL (.agg (⟨e,0,0⟩:iX).cs.toArray) []):=by
 refine p_ func50 ntmps50 ?_;intros
 exact gE
def Ei(hb:gX E g (wC x now sn cf nn sub))(a:nn<=4):G E 49 [pt g] [] (bL (.bool (decide ((0:Int)<nn))) []):=by
 refine p_ func49 ntmps49 ?_
 exact aS
def O5(r:Int)(hb:gX E g (wC x now sn cf nn sub))(b:nn<=4)(c:1<=nn)(e:r<0\/(nn:Int)<=r):G E 52 [pt g,a! r] [] (bL (.pointer none) []):=by
 have a:=λM hb=>Ei M g x now sn cf nn sub hb b;rw[d! o_] at a;have d:decide (0<=r/\r<=(nn:Int) - 1)=false:=e! o_;refine p_ func52 ntmps52 ?_
 refine z_ a ?_
 exact aS
def Eh(r:Nat)(b:Nat)(hb:gX E g (wC x now sn cf nn sub))(e:nn<=4)(c:Rd E jS x.nA nn x.nc x.gs)(f:x.gs[r]?=some b):G E 52 [pt g,a! r] [] (bL (pt b) []):=by
 have i:=c.len;have d:=(cH.1 f).1;have a:=λM hb=>Ei M g x now sn cf nn sub hb e;rw[d! o_] at a;have h:decide (0<=(r:Int)/\(r:Int)<=(nn:Int) - 1)=true:=d! o_;refine p_ func52 ntmps52 ?_
 refine z_ a ?_
 exact aS
end
def iQ(ws:List bX)(r:Int)(l:List aM)(m:Mg):(List bX×Int×List aM)×Int :=
 if (tR r l ⟨m.key,m.bD⟩).2 then(((jJ ws (tM m)).1,(tR r l ⟨m.key,m.bD⟩).1.1,(tR r l ⟨m.key,m.bD⟩).1.2),(jJ ws (tM m)).2) else((ws,(tR r l ⟨m.key,m.bD⟩).1.1,(tR r l ⟨m.key,m.bD⟩).1.2),0)
def tE(now n:Int):Int×iX:=if (1<=n/\n<=1000)/\now+n<=1073741824 then(now+n,⟨0,now+n,0⟩) else(now,⟨4,0,0⟩)
def tD(sub:Int)(n:Nd)(c:aI):Int×Nd×iX :=
 if 48<=sub then(sub,n,⟨3,0,0⟩)
 else if (n.lV c).2.2≠0 then(sub,(n.lV c).1,⟨(n.lV c).2.2,0,0⟩)
 else(sub+1,(n.lV c).1,⟨0,(n.lV c).2.1.id.seq,(iZ (n.lV c).1.s.v (n.lV c).2.1.id).1.code⟩)
def aHk{n:Nd}{c:aI}(h:(n.lV c).2.2=0):(n.lV c).1.up=true:=by
 unfold Nd.lV at h⊢;split at h
 ·rename_i b;rw[c! b];split at h
  ·rename_i a;rw[c! a];split;all_goals
    rw[Ek];exact b
  ·rename_i a;rw[b! a];exact b
 ·cases h
section
variable (E:Env) (P:List Ov) (g:Nat) (x:lX) (now:Int) (sn:Nat) (cf:bW) (nn:Nat) (sub:Int) (ws:List bX)
theorem aRu(r:Int)(l:List aM)(hl:l.length<=1000000)(m:Mg)(A:Option Addr)(n c:Nat)(B:Option Addr)(k d:Nat):G E 122 [pt g,.agg (fV m A n c B k d).toArray] [aE g 121 (wC x now sn cf nn sub),cI x.gw ws,eX x.gg r l] (bL (.int .i64 (iQ ws r l m).2) [aE g 121 (wC x now sn cf nn sub),cI x.gw (iQ ws r l m).1.1,eX x.gg (iQ ws r l m).1.2.1 (iQ ws r l m).1.2.2]):=by
 have gdo:=λM=>j7 M x.gg r l ⟨m.key,m.bD⟩ hl;have post:=λM=>IV M g x now sn cf nn sub ws (tM m) none 0 0 none 0 0 (Rd.nil _ _) (Rd.nil _ _);unfold iQ;generalize tR r l ⟨m.key,m.bD⟩=q at *;generalize jJ ws (tM m)=p at *;obtain⟨⟨r',l'⟩,ok⟩:=q;obtain⟨ws',a⟩:=p;dsimp only at gdo post⊢;cases ok with
 |true =>
  simp only[if_true];refine t_ func122 ntmps122 ?_;refine a_ ?_;intros
  rename_i g3;refine rB (l_ [0,1,2,3,4,5,6,7,8] (g_ 9 (n_ 10 .nil))) ([aE g 121 _,aE g3 195 _]) ?_;refine a_ ?_
  refine cP gdo ?_;refine a_ ?_
  refine aP post ?_;refine a_ ?_
  exact aS
 |false =>
  simp only[tG,if_false];refine t_ func122 ntmps122 ?_;refine a_ ?_;intros
  rename_i g3;refine rB (l_ [0,1,2,3,4,5,6,7,8] (g_ 9 (n_ 10 .nil))) ([aE g 121 _,aE g3 195 _]) ?_;refine a_ ?_
  refine cP gdo ?_;refine a_ ?_
  exact aS
def aHn(n:Int)(f:0<=now/\now<=1073741824):G E 58 [pt g,a! n] [aE g 121 (wC x now sn cf nn sub)] (bL (.agg (tE now n).2.cs.toArray) [aE g 121 (wC x (tE now n).1 sn cf nn sub)]):=by
 have c:=λM=>DY M 4;unfold tE;by_cases h:(1<=n/\n<=1000)/\now+n<=1073741824
 ·rw[c! h];have b:decide (1<=n/\n<=1000)=true:=d! h.1;have e:=h.2;refine p_ func58 ntmps58 ?_;intros;exact gE
 ·rw[b! h];by_cases a:1<=n/\n<=1000;have b:decide (1<=n/\n<=1000)=true:=d! a;have d:1073741824<now+n:=o_;rotate_left;have b:decide (1<=n/\n<=1000)=false:=e! a;all_goals
   refine p_ func58 ntmps58 ?_;intros;refine r_ c ?_;exact gE
end
section
variable (E:Env) (P:List Ov) (g gr:Nat) (x:lX) (now:Int) (sn:Nat) (cf:bW) (nn:Nat) (sub:Int) (n:Nd) (k:Int)
theorem aFe(c:aI)(hc:bQ c.n)(hs:0<=sub/\sub<=48):G E 53 [pt g,pt gr,.agg c.cs.toArray] [aE g 121 (wC x now sn cf nn sub),bA P gr cf n k,aQ P] λe H'=>∃Q,e=.returned (.agg (tD sub n c).2.2.cs.toArray)/\H'=[aE g 121 (wC x now sn cf nn (tD sub n c).1),bA (P++Q) gr cf (tD sub n c).2.1 k,aQ (P++Q)]:=by
 have fl:=λM e=>DY M e;have sb:=λM=>aOw M P gr cf n k c hc;have mono0:aZ [bA P gr cf n k,aQ P] [bA (P++[]) gr cf n k,aQ (P++[])]:=by rw[aY];exact aZ.refl
 have hup:=λh=>aHk (n:=n) (c:=c) h;unfold tD;by_cases h48:48<=sub
 ·rw[if_pos h48];refine t_ func53 ntmps53 ?_;refine a_ ?_;intros
  refine aP (λM=>fl M 3) ?_;refine a_ ?_
  exact eP (H':=[aE g 121 (wC x now sn cf nn sub),bA (P++[]) gr cf n k,aQ (P++[])]) rfl aJ rfl rfl rfl aV rfl (by rw[aY];exact aC) ⟨[],rfl,rfl⟩
 ·rw[if_neg h48];generalize n.lV c=res at *;obtain⟨n2,c2,code⟩:=res;dsimp only at sb hup⊢;by_cases h0:code=0
  ·subst h0;rw[if_neg sD];have hu:=hup rfl;refine t_ func53 ntmps53 ?_;refine a_ ?_;intros
   refine aU sb ?_;rintro e H' ⟨Q,rfl,rfl⟩;refine a_ ?_
   rename_i g5 g6;have st:=λM=>EK M (P++Q) gr cf n2 k;simp only[hu,if_true] at st;refine C.cW (X:=Ov×Nat) (λy=>[(5,pt g5),(6,pt g6),(8,pt y.2)]) (λy=>[aE y.2 141 y.1.cs,aE g5 34 c2.cs,aE g6 36 Gq.cs,aE g 121 (wC x now sn cf nn (sub+1)),bA (P++Q) gr cf n2 k,aQ (P++Q)]) (λy=>y.1.d=(iZ n2.s.v c2.id).1) ?_ ?_
   ·refine rB (l_ [0,3,4] (.two 1 (.two 2 (.two 5 (l_ [6,7,8,9] (g_ 10 (g_ 11 (l_ [12,13] .nil)))) 10 (g_ 5 (l_ [6,7,8,9] (g_ 11 (l_ [12,13] .nil))))) 10 (g_ 2 (g_ 5 (l_ [6,7,8,9] (g_ 11 (l_ [12,13] .nil)))))) 10 (g_ 1 (g_ 2 (g_ 5 (l_ [6,7,8,9] (g_ 11 (l_ [12,13] .nil)))))))) ([aE g5 34 _]) ?_;refine a_ ?_
    refine Dr.two ?_ ?_
    ·refine lC rfl sD bB sK aH (λM hE=>st M) ?_;rintro e H' ⟨gs,rfl,rfl⟩;refine a_ ?_
     refine Dr.two ?_ ?_
     ·refine lC rfl sD bB sK aH (λM hE=>uW M (P++Q) gs n2.s) ?_;rintro e H' ⟨gl,rfl,rfl⟩;refine a_ ?_
      refine Dr.two ?_ ?_
      ·refine lC rfl sD bB sK aH (λM hE=>KX M (P++Q) gl n2.s.v c2.id) ?_;rintro e H' ⟨o,ho,rfl,rfl⟩;refine h_ ?_;intros
       rename_i g8;exact⟨(o,g8),aK,aC,ho⟩
      ·refine h_ ?_;intros
       refine eI (λM=>KX M (P++Q) gl n2.s.v c2.id) ?_;rintro e H' ⟨o,ho,rfl,rfl⟩;refine h_ ?_
       rename_i g8;exact⟨(o,g8),aK,aC,ho⟩
     ·refine h_ ?_;intros
      refine eI (λM=>uW M (P++Q) gs n2.s) ?_;rintro e H' ⟨gl,rfl,rfl⟩;refine h_ ?_
      refine eI (λM=>KX M (P++Q) gl n2.s.v c2.id) ?_;rintro e H' ⟨o,ho,rfl,rfl⟩;refine h_ ?_
      rename_i g8;exact⟨(o,g8),aK,aC,ho⟩
    ·refine h_ ?_;intros
     refine eI st ?_;rintro e H' ⟨gs,rfl,rfl⟩;refine h_ ?_
     refine eI (λM=>uW M (P++Q) gs n2.s) ?_;rintro e H' ⟨gl,rfl,rfl⟩;refine h_ ?_
     refine eI (λM=>KX M (P++Q) gl n2.s.v c2.id) ?_;rintro e H' ⟨o,ho,rfl,rfl⟩;refine h_ ?_
     rename_i g8;exact⟨(o,g8),aK,aC,ho⟩
   ·rintro⟨o,g8⟩ F ho;dsimp only at ho⊢;have hco:(iZ n2.s.v c2.id).1.code=o.code:=by rw[<-ho];rfl
    rw[hco];refine a_ ?_
    exact eP rfl aJ rfl rfl rfl aV rfl aC (⟨Q,rfl,rfl⟩)
  ·rw[if_pos h0];refine t_ func53 ntmps53 ?_;refine a_ ?_;intros
   refine aU sb ?_;rintro e H' ⟨Q,rfl,rfl⟩;refine a_ ?_
   refine aP (λM=>fl M code) ?_;refine a_ ?_
   exact eP rfl aJ rfl rfl rfl aV rfl aC (⟨Q,rfl,rfl⟩)
end
def vZ(nn:Nat)(ws:List bX)(n:Nd)(st:cK):(List bX×Nd)×iX :=
 if (st.i<0\/(nn:Int)<=st.i)\/st.i=st.r then((ws,n),⟨4,0,0⟩)
 else if n.sync.2≠0 then((ws,n.sync.1),⟨n.sync.2,0,0⟩)
 else(((jJ ws (tN n.sync.1.s st.i)).1,n.sync.1),⟨0,(jJ ws (tN n.sync.1.s st.i)).2,0⟩)
def VJ{n:Nd}(h:n.sync.2=0):n.sync.1.up=true:=by
 unfold Nd.sync at h⊢;split at h
 ·rename_i b;rw[c! b];split at h
  ·rename_i a;rw[c! a]
  ·cases h
 ·cases h
section
variable (E:Env) (P:List Ov) (g gr:Nat) (x:lX) (now:Int) (sn:Nat) (cf:bW) (nn:Nat) (sub:Int) (n:Nd) (k:Int) (ws:List bX)
theorem aGm(st:cK)(hn:nn<=4)(h1:1<=nn)(hk:k<=10000000000000)(hgs:x.gs.length=nn):G E 55 [pt g,pt gr,.agg st.cs.toArray] [aE g 121 (wC x now sn cf nn sub),bA P gr cf n k,cI x.gw ws,own jS x.nA nn x.nc x.gs] (bL (.agg (vZ nn ws n st).2.cs.toArray) [aE g 121 (wC x now sn cf nn sub),bA P gr cf (vZ nn ws n st).1.2 (k+2048),cI x.gw (vZ nn ws n st).1.1,own jS x.nA nn x.nc x.gs]):=by
 have fl:=λM e=>DY M e;have sy:=λM=>KG M P gr cf n k hk;have hup:=VJ (n:=n);have mono:aZ [bA P gr cf n k] [bA P gr cf n (k+2048)]:=by
  have:=bA.mono (P:=P) (Q:=[]) (g:=gr) (cf:=cf) (n:=n) (show k<=k+2048 by omega);rw[aY] at this;exact this
 unfold vZ;by_cases hr:st.i<0\/(nn:Int)<=st.i
 ·rw[if_pos (.inl hr)];have atn:=λM hb=>O5 M g x now sn cf nn sub st.i hb hn h1 hr;refine t_ func55 ntmps55 ?_;refine a_ ?_;intros
  refine cV atn ?_;refine a_ ?_
  refine aP (λM=>fl M 4) ?_;refine a_ ?_
  exact eP (H':=[aE g 121 (wC x now sn cf nn sub),bA P gr cf n (k+2048),cI x.gw ws,own jS x.nA nn x.nc x.gs]) rfl aJ rfl rfl rfl aV rfl (aB.trans (aB.imp mono aH) aC) ⟨rfl,rfl⟩
 ·obtain⟨kd,rr,ii,nm,cc⟩:=st;dsimp only at hr⊢;obtain⟨j,rfl⟩:=zI (show 0<=ii by omega);have hlt:j<x.gs.length:=o_;have aty:=λM hb hG=>Eh M g x now sn cf nn sub j (x.gs[j]'hlt) hb hn hG (bS hlt);generalize x.gs[j]'hlt=gj at aty;by_cases he:(j:Int)=rr
  ·rw[if_pos (.inr he)];refine t_ func55 ntmps55 ?_;refine a_ ?_;intros
   refine oE aty ?_;refine a_ ?_
   refine aP (λM=>fl M 4) ?_;refine a_ ?_
   exact eP (H':=[aE g 121 (wC x now sn cf nn sub),bA P gr cf n (k+2048),cI x.gw ws,own jS x.nA nn x.nc x.gs]) rfl aJ rfl rfl rfl aV rfl (aB.trans (aB.imp mono aH) aC) ⟨rfl,rfl⟩
  ·rw[if_neg o_];clear mono;generalize n.sync=res at *;obtain⟨n2,code⟩:=res;dsimp only at sy hup⊢;by_cases h0:code=0
   ·subst h0;rw[if_neg sD];have hu:=hup rfl;have st2:=λM=>EK M P gr cf n2 (k+2048);simp only[hu,if_true] at st2;have post:=λM=>IV M g x now sn cf nn sub ws (tN n2.s j) none 0 0 none 0 0 (Rd.nil _ _) (Rd.nil _ _);generalize jJ ws (tN n2.s j)=p at *;obtain⟨ws2,a⟩:=p;dsimp only at post⊢;refine t_ func55 ntmps55 ?_;refine a_ ?_;intros
    refine oE aty ?_;refine a_ ?_
    refine aP sy ?_;refine a_ ?_
    rename_i g5 g6;refine rB (l_ [0,1,2,3,5,6] (g_ 4 (g_ 7 (g_ 8 (n_ 9 (g_ 10 .nil)))))) ([aE g5 39 _]) ?_;refine a_ ?_
    refine eI st2 ?_;rintro e H' ⟨gs,rfl,rfl⟩;refine a_ ?_
    refine cP (λM=>aCj M P gs n2.s j) ?_;refine a_ ?_
    refine cP post ?_;refine a_ ?_
    exact gE
   ·rw[if_pos h0];refine t_ func55 ntmps55 ?_;refine a_ ?_;intros
    refine oE aty ?_;refine a_ ?_
    refine aP sy ?_;refine a_ ?_
    refine aP (λM=>fl M code) ?_;refine a_ ?_
    exact gE
end
def oT:Nat->Nd->Nat->Nd×iX
 |0,n,i=>(n,⟨0,i,0⟩)
 |k+1,n,i=>match n.s.v.t[0]? with
  |none=>(n,⟨0,i,0⟩)
  |some c=>if (n.take [.cD c.id]).2.2=0 then oT k (n.take [.cD c.id]).1 (i+1) else((n.take [.cD c.id]).1,⟨(n.take [.cD c.id]).2.2,i,0⟩)
def zD(n:Nd)(a:Int):Nd×iX:=if 1<=a/\a<=16 then(if n.up then oT a.toNat n 0 else(n,⟨19,0,0⟩)) else(n,⟨4,0,0⟩)
def VK:∀(l:List Rc) (n:Nd) (i:Nat),(n.oP l i).1.up=n.up
 | [],_,_=>rfl
 |x::l,n,i=>by
  unfold Nd.oP;split
  ·rw[VK l,Ek]
  ·exact Ek n x
def aJh(n:Nd)(l:List Rc):(n.take l).1.up=n.up:=by
 unfold Nd.take;split
 ·exact VK l n 0
 ·rfl
section
variable (E:Env) (P:List Ov) (g gr:Nat) (x:lX) (now:Int) (sn:Nat) (cf:bW) (nn:Nat) (sub:Int) (n:Nd) (k:Int)
theorem aDf(cO:Int)(hn:nn<=4)(h1:1<=nn)(hgs:x.gs[0]?=some gr):G E 56 [pt g,a! cO] [aE g 121 (wC x now sn cf nn sub),bA P gr cf n k,own jS x.nA nn x.nc x.gs,aQ P] λe H'=>∃Q,e=.returned (.agg (zD n cO).2.cs.toArray)/\H'=[aE g 121 (wC x now sn cf nn sub),bA (P++Q) gr cf (zD n cO).1 k,own jS x.nA nn x.nc x.gs,aQ (P++Q)]:=by
 have fl:=λM e=>DY M e;unfold zD;by_cases hm:1<=cO/\cO<=16
 ·rw[c! hm];have hd:decide (1<=cO/\cO<=16)=true:=d! hm;obtain⟨m,rfl⟩:=zI (show 0<=cO by omega);have up:=λM=>CB M P gr cf n k;by_cases hu:n.up=true
  ·rw[c! hu];rw[hu] at up;rw[jK];refine p_ func56 ntmps56 ?_;intros
   refine r_ up ?_
   rename_i g4;refine C.scan (Y:=Nd×List Ov) (l:=List.range m) (show m=(List.range m).length by rw[Ll]) (λi y=>[(1,a! m),(4,pt g4),(5,pt gr),(25,a! m),(26,a! i)])
    (λi y=>[aE g4 36 Gq.cs,aE g 121 (wC x now sn cf nn sub),bA (P++y.2) gr cf y.1 k,own jS x.nA nn x.nc x.gs,aQ (P++y.2)]) (λi y=>y.1.up=true/\oT m n 0=oT (m - i) y.1 i) (n,[]) aK (by dsimp only;rw[aY];exact aC) ⟨hu,rfl⟩ ?_ ?_
   ·rintro i ⟨n2,Q⟩ j F hi hj ⟨hu2,hc⟩;dsimp only at hu2 hc⊢;have st:=λM=>EK M (P++Q) gr cf n2 k;simp only[hu2,if_true] at st;have hlt:i<m:=by have:=(cH.1 hj).1;rwa [Ll] at this
    have⟨q,hq⟩:∃q,m - i=q+1:=⟨m - i - 1,o_⟩
    rw[hq,oT] at hc;have fst:=λM gl=>aEp M (P++Q) gl n2.s.v;cases ht:n2.s.v.t with
    |nil =>
     rw[ht] at hc fst;simp only[List.getElem?_nil] at hc;rw[hc];refine a_ ?_
     refine u_ st ?_;intro gs
     refine u_ (λM=>uW M (P++Q) gs n2.s) ?_;intro gl
     refine r_ (λM=>fst M gl) ?_;intros
     exact eP rfl aJ rfl rfl rfl aV rfl aC (⟨Q,rfl,rfl⟩)
    |cons c t =>
     rw[ht] at hc fst;simp only[List.getElem?_cons_zero,oD] at hc fst;have tk:=λM A c2 (hr:Rd M jC A 1 c2 [⟨2,mG,c.id,wW,0⟩])=>NW M (P++Q) gr cf n2 k A 1 c2 [.cD c.id] hr (by simp[Rc.ok]) o_;have hu3:=aJh n2 [.cD c.id];generalize n2.take [.cD c.id]=res at *;have⟨n3,z,code⟩:=res;dsimp only at hc tk hu3;by_cases h0:code=0
     ·subst h0;rw[c! rfl] at hc;refine a_ ?_
      refine u_ st ?_;intro gs
      refine u_ (λM=>uW M (P++Q) gs n2.s) ?_;intro gl
      refine r_ (λM=>fst M gl) ?_;intros
      refine r_ (λM=>EJ M c.id) ?_;intros
      refine C_ (λM=>tk M _ _) ?_;intro Q2
      exact⟨(n3,Q++Q2),aK,(by dsimp only;rw[<-bF];exact aC),hu3.trans hu2,by rw[show m - (i+1)=q by omega];exact hc⟩
     ·rw[b! h0] at hc;rw[hc];refine a_ ?_
      refine u_ st ?_;intro gs
      refine u_ (λM=>uW M (P++Q) gs n2.s) ?_;intro gl
      refine r_ (λM=>fst M gl) ?_;intros
      refine r_ (λM=>EJ M c.id) ?_;intros
      refine C_ (λM=>tk M _ _) ?_;intro Q2
      exact eP (H':=[aE g 121 (wC x now sn cf nn sub),bA (P++(Q++Q2)) gr cf n3 k,own jS x.nA nn x.nc x.gs,aQ (P++(Q++Q2))]) rfl aJ rfl rfl rfl aV rfl (by rw[<-bF];exact aC) ⟨Q++Q2,rfl,rfl⟩
   ·rintro⟨n2,Q⟩ F ⟨hu2,hc⟩;dsimp only at hu2 hc⊢;rw[BZ,oT] at hc;rw[hc];refine a_ ?_
    exact eP rfl aJ rfl rfl rfl aV rfl aC (⟨Q,rfl,rfl⟩)
  ·rw[b! hu];rw[Bool.eq_false_iff.2 hu] at up;refine p_ func56 ntmps56 ?_;intros
   refine r_ up ?_
   refine r_ (λM=>fl M 19) ?_
   exact eP (H':=[aE g 121 (wC x now sn cf nn sub),bA (P++[]) gr cf n k,own jS x.nA nn x.nc x.gs,aQ (P++[])]) rfl aJ rfl rfl rfl aV rfl (by rw[aY];exact aC) ⟨[],rfl,rfl⟩
 ·rw[b! hm];have hd:decide (1<=cO/\cO<=16)=false:=e! hm;refine p_ func56 ntmps56 ?_;intros
  refine r_ (λM=>fl M 4) ?_
  exact eP (H':=[aE g 121 (wC x now sn cf nn sub),bA (P++[]) gr cf n k,own jS x.nA nn x.nc x.gs,aQ (P++[])]) rfl aJ rfl rfl rfl aV rfl (by rw[aY];exact aC) ⟨[],rfl,rfl⟩
end
def qI(r:Int)(q:aM):Mg:=⟨3,r,9,0,0,0,0,0,[],[],q.key,q.bD⟩
def IT(r now:Int)(z:List bX×List nO)(q:aM):List bX×List nO:=((jJ z.1 (qI r q)).1,z.2++[⟨r,now,q.key,q.bD⟩])
def rN(r now:Int)(ws:List bX)(bI:List nO)(l:List aM):List bX×List nO:=l.foldl (IT r now) (ws,bI)
def aKq{r now:Int}{ws:List bX}{bI:List nO}{l:List aM}{i:Nat}{q:aM}(h:l[i]?=some q):rN r now ws bI (l.take (i+1))=IT r now (rN r now ws bI (l.take i)) q:=Cy h
def Vp(r now:Int)(ws:List bX)(bI:List nO)(l:List aM):(rN r now ws bI l).2.length=bI.length+l.length:=by
 have:∀(l:List aM) (z:List bX×List nO),(l.foldl (IT r now) z).2.length=z.2.length+l.length:=by
  intro l
  induction l with
  |nil=>exact λz=>rfl
  |cons q l a=>intro z;rw[CX,a];unfold IT;simp;omega
 exact this l (ws,bI)
def VV(now:Int):∀(l:List aM) (n:Nd) (acc:List aM),(n.tries now l acc).2.1.length<=acc.length+l.length
 | [],_,acc=>by unfold Nd.tries;simp
 |q::l,n,acc=>by
  unfold Nd.tries;split
  ·refine iR (VV now l _ _) ?_;simp;omega
  ·simp
def Tr{n:Nd}(h:n.ok)(cf:bW)(now:Int):(n.iV cf now).2.1.length<=48:=by
 unfold Nd.iV;split
 ·rename_i c;have a:=(h.gd c).1.np;have b:=T4 n.s cf now;split
  ·have:=VV now (n.s.ready cf now) n [];simp at this;dsimp only;omega
  ·exact bY _
 ·exact bY _
def xM(cf:bW)(now:Int)(ws:List bX)(bI:List nO)(n:Nd)(r:Int):(List bX×List nO×Nd)×iX :=
 (((rN r now ws bI (n.iV cf now).2.1).1,(rN r now ws bI (n.iV cf now).2.1).2,(n.iV cf now).1),⟨(n.iV cf now).2.2,(n.iV cf now).2.1.length,0⟩)
section
variable (E:Env) (P:List Ov) (g gr:Nat) (x:lX) (now:Int) (cf:bW) (nn:Nat) (sub:Int) (n:Nd) (k:Int) (ws:List bX) (bI:List nO)
theorem aMj(r:Int)(hnow:bQ now)(hk:k<=10000000000000)(hsl:bI.length<=100000000):G E 57 [pt g,pt gr,.int .i64 r] [aE g 121 (wC x now bI.length cf nn sub),bA P gr cf n k,cI x.gw ws,own sV x.sA bI.length x.sc bI,aQ P] λe H'=>∃Q sA sc,e=.returned (.agg (xM cf now ws bI n r).2.cs.toArray)/\H'=[aE g 121 (wC ⟨x.gw,x.gg,sA,sc,x.nA,x.nc,x.gs⟩ now (xM cf now ws bI n r).1.2.1.length cf nn sub),bA (P++Q) gr cf (xM cf now ws bI n r).1.2.2 (k+2048),cI x.gw (xM cf now ws bI n r).1.1,own sV sA (xM cf now ws bI n r).1.2.1.length sc (xM cf now ws bI n r).1.2.1,aQ (P++Q)]:=by
 refine aF.Jg (p:=λ_:Nh=>n.ok) (l:=AH P gr cf n k) (Has.bJ Has.aR) λ⟨_,hok⟩=>?_;have hpl:=Tr hok cf now;have rE:=λM=>aCp M P gr cf n k now hnow hk;unfold xM;generalize n.iV cf now=res at *;obtain⟨n2,reqs,code⟩:=res;dsimp only at hpl rE⊢;refine t_ func57 ntmps57 ?_;refine a_ ?_;intros
 refine aU rE ?_;rintro e H' ⟨Q,A,m,c,hm,hmc,rfl,rfl⟩;refine a_ ?_
 rename_i g6;have hmax:=cS;refine C.scan (Y:=Option Addr×Nat) (l:=reqs) hm (λi y=>[(0,pt g),(2,.int .i64 r),(6,pt g6),(7,.slice A m c),(8,.int .i64 code),(21,.slice A m c),(22,.int .i64 m),(23,.int .i64 i)])
  (λi y=>[aE g6 36 Gq.cs,own cF A m c reqs,aE g 121 (wC ⟨x.gw,x.gg,y.1,y.2,x.nA,x.nc,x.gs⟩ now (rN r now ws bI (reqs.take i)).2.length cf nn sub),cI x.gw (rN r now ws bI (reqs.take i)).1,own sV y.1 (rN r now ws bI (reqs.take i)).2.length y.2 (rN r now ws bI (reqs.take i)).2,bA (P++Q) gr cf n2 (k+2048),aQ (P++Q)]) (λ_ _=>True) (x.sA,x.sc) aK (by dsimp only[List.take_zero,rN,List.foldl_nil];exact aC) trivial ?_ ?_
 ·rintro i ⟨sA,sc⟩ q F hi hq -;dsimp only;have hlen:=Vp r now ws bI (reqs.take i);rw[dR] at hlen;rw[aKq hq];generalize rN r now ws bI (reqs.take i)=z at *;obtain⟨ws1,s1⟩:=z;dsimp only[IT] at hlen⊢;rw[bR,xU];have post:=λM=>IV M g ⟨x.gw,x.gg,sA,sc,x.nA,x.nc,x.gs⟩ now s1.length cf nn sub ws1 (qI r q) none 0 0 none 0 0 (Rd.nil _ _) (Rd.nil _ _);generalize jJ ws1 (qI r q)=p at *;obtain⟨ws2,a⟩:=p;dsimp only at post⊢;refine a_ ?_;intros
  rename_i g10;refine rB (l_ [0,1,2,3,4,5,6,7,8] (g_ 9 .nil)) ([aE g 121 _,aE g10 79 _]) ?_;refine a_ ?_
  refine cP post ?_;refine a_ ?_
  refine C.fL 22 (l_ [0,1,2,3,4,5,6,7,8,9,10,11,12,13,14,15,16] (g_ 17 (g_ 18 (l_ [19,20,21] (g_ 22 .nil))))) ([aE g 121 _,aE g10 79 _]) q_ q_ aC ?_;refine a_ ?_
  refine Dr.mK rfl (by rintro k ⟨⟩;decide) bB (S.Af (T:=sV) (e1:=(⟨r,now,q.key,q.bD⟩:nO)) rfl cQ rfl rH (by rfl) sD) ?_;rintro v H' ⟨gz,rfl,rfl⟩;refine⟨aC,?_⟩;refine a_ ?_;intros
  rename_i sA' sc' h3 h4;exact⟨(sA',sc'),aK,aC,trivial⟩
 ·rintro⟨sA,sc⟩ F -;dsimp only;rw[hm,gY];refine a_ ?_
  exact eP rfl aJ rfl rfl rfl aV rfl aC (⟨Q,sA,sc,rfl,rfl⟩)
end
def O0(ws:List bX)(i:Int):Int:=((jI ws i).map bX.to).getD (-1)
def Oz(ws:List bX)(i:Int):Bool:=((jI ws i).map bX.broken).getD false
def K9(ws:List bX)(i:Int):List bX:=match jI ws i with
 |none=>ws
 |some _=>eK ws i
def CR(ws:List bX)(st:cK):List bX×iX :=
 if O0 ws st.i<0 then(ws,⟨14,0,0⟩)
 else if st.kind=8 then(K9 ws st.i,⟨0,0,0⟩)
 else if st.kind=9 then((DV ws st.i).1,⟨if (DV ws st.i).2 then 0 else 10,0,0⟩)
 else if Oz ws st.i then(ws,⟨9,0,0⟩)
 else((DW ws st.i st.n).1,⟨if (DW ws st.i st.n).2 then 0 else 4,0,0⟩)
section
variable (E:Env) (g:Nat) (x:lX) (now:Int) (sn:Nat) (cf:bW) (nn:Nat) (sub:Int) (ws:List bX)
theorem aAo(st:cK)(hn:bQ st.n):G E 60 [pt g,.agg st.cs.toArray] [aE g 121 (wC x now sn cf nn sub),cI x.gw ws] (bL (.agg (CR ws st).2.cs.toArray) [aE g 121 (wC x now sn cf nn sub),cI x.gw (CR ws st).1]):=by
 have fl:=λM e=>DY M e;have to:=λM=>En M x.gw ws st.i;have tk:=λM=>El M x.gw ws st.i;have cp:=λM=>aJr M x.gw ws st.i;have br:=λM=>aCo M x.gw ws st.i;have fp:=λM=>aAi M x.gw ws st.i st.n hn;unfold CR K9;rw[show((jI ws st.i).map bX.to).getD (-1)=O0 ws st.i from rfl] at to;rw[show((jI ws st.i).map bX.broken).getD false=Oz ws st.i from rfl] at br;generalize O0 ws st.i=tov at *;generalize Oz ws st.i=brv at *;generalize DW ws st.i st.n=flv at *;generalize DV ws st.i=cpv at *;by_cases h1:tov<0
 ·rw[if_pos h1];refine t_ func60 ntmps60 ?_;refine a_ ?_;intros
  rename_i g3 g4;refine rB (l_ [0,1,2,3,4,5,6] (g_ 7 (n_ 8 .nil))) ([aE g 121 _,aE g3 39 _]) ?_;refine a_ ?_
  refine cP to ?_;refine a_ ?_
  refine aP (λM=>fl M 14) ?_;refine a_ ?_
  exact gE
 ·rw[if_neg h1];by_cases h8:st.kind=8
  ·rw[if_pos h8];cases ha:jI ws st.i with
   |none =>
    rw[ha] at tk;refine t_ func60 ntmps60 ?_;refine a_ ?_;intros
    rename_i g3 g4;refine rB (l_ [0,1,2,3,4,5,6] (g_ 7 (n_ 8 .nil))) ([aE g 121 _,aE g3 39 _]) ?_;refine a_ ?_
    refine cP to ?_;refine a_ ?_
    refine rB (l_ [0,1,2,3,4,5,6] (g_ 7 .nil)) ([aE g 121 _,aE g3 39 _]) ?_;refine a_ ?_
    refine cP tk ?_;refine a_ ?_
    exact gE
   |some p =>
    rw[ha] at tk;refine t_ func60 ntmps60 ?_;refine a_ ?_;intros
    rename_i g3 g4;refine rB (l_ [0,1,2,3,4,5,6] (g_ 7 (n_ 8 .nil))) ([aE g 121 _,aE g3 39 _]) ?_;refine a_ ?_
    refine cP to ?_;refine a_ ?_
    refine rB (l_ [0,1,2,3,4,5,6] (g_ 7 .nil)) ([aE g 121 _,aE g3 39 _]) ?_;refine a_ ?_
    refine eI tk ?_;rintro e H' ⟨_,_,_,_,rfl,rfl⟩;refine a_ ?_
    exact gE
  ·rw[if_neg h8];by_cases h9:st.kind=9
   ·rw[if_pos h9];obtain⟨wc,ok⟩:=cpv;dsimp only at cp⊢;cases ok with
    |true =>
     simp only[if_true];refine t_ func60 ntmps60 ?_;refine a_ ?_;intros
     rename_i g3 g4;refine rB (l_ [0,1,2,3,4,5,6] (g_ 7 (n_ 8 .nil))) ([aE g 121 _,aE g3 39 _]) ?_;refine a_ ?_
     refine cP to ?_;refine a_ ?_
     refine rB (l_ [0,1,2,3,4,5,6] (g_ 7 (n_ 8 .nil))) ([aE g 121 _,aE g3 39 _]) ?_;refine a_ ?_
     refine cP cp ?_;refine a_ ?_
     exact gE
    |false =>
     simp only[tG,if_false];refine t_ func60 ntmps60 ?_;refine a_ ?_;intros
     rename_i g3 g4;refine rB (l_ [0,1,2,3,4,5,6] (g_ 7 (n_ 8 .nil))) ([aE g 121 _,aE g3 39 _]) ?_;refine a_ ?_
     refine cP to ?_;refine a_ ?_
     refine rB (l_ [0,1,2,3,4,5,6] (g_ 7 (n_ 8 .nil))) ([aE g 121 _,aE g3 39 _]) ?_;refine a_ ?_
     refine cP cp ?_;refine a_ ?_
     refine aP (λM=>fl M 10) ?_;refine a_ ?_
     exact gE
   ·rw[if_neg h9];cases brv with
    |true =>
     simp only[if_true];refine t_ func60 ntmps60 ?_;refine a_ ?_;intros
     rename_i g3 g4;refine rB (l_ [0,1,2,3,4,5,6] (g_ 7 (n_ 8 .nil))) ([aE g 121 _,aE g3 39 _]) ?_;refine a_ ?_
     refine cP to ?_;refine a_ ?_
     refine rB (l_ [0,1,2,3,4,5,6] (g_ 7 (n_ 8 .nil))) ([aE g 121 _,aE g3 39 _]) ?_;refine a_ ?_
     refine cP br ?_;refine a_ ?_
     refine aP (λM=>fl M 9) ?_;refine a_ ?_
     exact gE
    |false =>
     simp only[tG,if_false];obtain⟨wf,ok⟩:=flv;dsimp only at fp⊢;cases ok with
     |true =>
      simp only[if_true];refine t_ func60 ntmps60 ?_;refine a_ ?_;intros
      rename_i g3 g4;refine rB (l_ [0,1,2,3,4,5,6] (g_ 7 (n_ 8 .nil))) ([aE g 121 _,aE g3 39 _]) ?_;refine a_ ?_
      refine cP to ?_;refine a_ ?_
      refine rB (l_ [0,1,2,3,4,5,6] (g_ 7 (n_ 8 .nil))) ([aE g 121 _,aE g3 39 _]) ?_;refine a_ ?_
      refine cP br ?_;refine a_ ?_
      refine rB (l_ [0,1,2,3,4,5,6,7,8] (g_ 9 (l_ [10,11] .nil))) ([aE g 121 _,aE g3 39 _]) ?_;refine a_ ?_
      refine cP fp ?_;refine a_ ?_
      exact gE
     |false =>
      simp only[tG,if_false];refine t_ func60 ntmps60 ?_;refine a_ ?_;intros
      rename_i g3 g4;refine rB (l_ [0,1,2,3,4,5,6] (g_ 7 (n_ 8 .nil))) ([aE g 121 _,aE g3 39 _]) ?_;refine a_ ?_
      refine cP to ?_;refine a_ ?_
      refine rB (l_ [0,1,2,3,4,5,6] (g_ 7 (n_ 8 .nil))) ([aE g 121 _,aE g3 39 _]) ?_;refine a_ ?_
      refine cP br ?_;refine a_ ?_
      refine rB (l_ [0,1,2,3,4,5,6,7,8] (g_ 9 (l_ [10,11] .nil))) ([aE g 121 _,aE g3 39 _]) ?_;refine a_ ?_
      refine cP fp ?_;refine a_ ?_
      refine aP (λM=>fl M 4) ?_;refine a_ ?_
      exact gE
end
noncomputable def vD(r:Int)(n:Nd)(st:cK):(Int×Nd)×iX :=
 if st.kind=11 then(if 255<st.n then((r,n),⟨4,0,0⟩) else((fC st.n 0 255,n),⟨0,0,0⟩))
 else if st.kind=12 then(if n.up then((r,n.wO),⟨0,0,0⟩) else((r,n),⟨19,0,0⟩))
 else if st.kind=13 then((r,n.qJ.1),⟨n.qJ.2,0,0⟩)
 else if st.kind=15 then((r,n.pack.1),⟨n.pack.2,0,0⟩)
 else if st.kind=14 then(if 4096<st.n then((r,n),⟨4,0,0⟩) else if n.up then((r,n.arm (st.n - 1)),⟨0,0,0⟩) else((r,n),⟨19,0,0⟩))
 else((r,n),⟨0,0,0⟩)
def bA.wZ{P:List Ov}{g:Nat}{cf:bW}{n:Nd}{k k':Int}(h:k<=k'):aZ [bA P g cf n k] [bA P g cf n k']:=by
 have:=bA.mono (P:=P) (Q:=[]) (g:=g) (cf:=cf) (n:=n) h;rw[aY] at this;exact this
section
variable (E:Env) (P:List Ov) (g gr:Nat) (x:lX) (now:Int) (sn:Nat) (cf:bW) (nn:Nat) (sub:Int) (n:Nd) (k:Int) (r:Int) (l:List aM)
theorem aOe(st:cK)(hk:k<=10000000000000)(hn:0<=st.n/\st.n<=2147483647):G E 61 [pt g,pt gr,.agg st.cs.toArray] [aE g 121 (wC x now sn cf nn sub),bA P gr cf n k,eX x.gg r l,aQ P] λe H'=>∃Q,e=.returned (.agg (vD r n st).2.cs.toArray)/\H'=[aE g 121 (wC x now sn cf nn sub),bA (P++Q) gr cf (vD r n st).1.2 (k+4128),eX x.gg (vD r n st).1.1 l,aQ (P++Q)]:=by
 have fl:=λM e=>DY M e;have up:=λM=>CB M P gr cf n k;unfold vD;by_cases h11:st.kind=11
 ·rw[if_pos h11];by_cases h255:255<st.n
  ·rw[if_pos h255];refine t_ func61 ntmps61 ?_;refine a_ ?_;intros
   refine aP (λM=>fl M (4)) ?_;refine a_ ?_
   exact eP (H':=[aE g 121 (wC x now sn cf nn sub),bA (P++[]) gr cf n (k+4128),eX x.gg r l,aQ (P++[])]) rfl aJ rfl rfl rfl aV rfl (by rw[aY];exact aB.trans (aB.imp (bA.wZ (show k<=k+4128 by omega)) aH) aC) ⟨[],rfl,rfl⟩
  ·rw[if_neg h255];refine t_ func61 ntmps61 ?_;refine a_ ?_;intros
   rename_i g5 g6;refine rB (l_ [0,1,2,3,4,5,6] (g_ 7 .nil)) ([aE g 121 _,aE g5 39 _]) ?_;refine a_ ?_
   refine cP (λM=>o7 M x.gg r l st.n) ?_;refine a_ ?_
   exact eP (H':=[aE g 121 (wC x now sn cf nn sub),bA (P++[]) gr cf n (k+4128),eX x.gg (fC st.n 0 255) l,aQ (P++[])]) rfl aJ rfl rfl rfl aV rfl (by rw[aY];exact aB.trans (aB.imp (bA.wZ (show k<=k+4128 by omega)) aH) aC) ⟨[],rfl,rfl⟩
 rw[if_neg h11];by_cases h12:st.kind=12
 ·rw[if_pos h12];have cr:=λM=>aAv M P gr cf n k;cases hu:n.up with
  |true =>
   rw[hu] at cr;simp only[if_true] at cr⊢;refine t_ func61 ntmps61 ?_;refine a_ ?_;intros
   refine aP cr ?_;refine a_ ?_
   exact eP (H':=[aE g 121 (wC x now sn cf nn sub),bA (P++[]) gr cf n.wO (k+4128),eX x.gg r l,aQ (P++[])]) rfl aJ rfl rfl rfl aV rfl (by rw[aY];exact aB.trans (aB.imp (bA.wZ (show k<=k+4128 by omega)) aH) aC) ⟨[],rfl,rfl⟩
  |false =>
   rw[hu] at cr;simp only[tG,if_false] at cr⊢;refine t_ func61 ntmps61 ?_;refine a_ ?_;intros
   refine aP cr ?_;refine a_ ?_
   refine aP (λM=>fl M (19)) ?_;refine a_ ?_
   exact eP (H':=[aE g 121 (wC x now sn cf nn sub),bA (P++[]) gr cf n (k+4128),eX x.gg r l,aQ (P++[])]) rfl aJ rfl rfl rfl aV rfl (by rw[aY];exact aB.trans (aB.imp (bA.wZ (show k<=k+4128 by omega)) aH) aC) ⟨[],rfl,rfl⟩
 rw[if_neg h12];by_cases h13:st.kind=13
 ·rw[if_pos h13];have rs:=λM=>aHq M P gr cf n k hk;generalize n.qJ=res at *;obtain⟨n2,code⟩:=res;dsimp only at rs⊢;refine t_ func61 ntmps61 ?_;refine a_ ?_;intros
  refine aU rs ?_;rintro e H' ⟨Q,rfl,rfl⟩;refine a_ ?_
  refine aP (λM=>fl M (code)) ?_;refine a_ ?_
  exact eP (H':=[aE g 121 (wC x now sn cf nn sub),bA (P++Q) gr cf n2 (k+4128),eX x.gg r l,aQ (P++Q)]) rfl aJ rfl rfl rfl aV rfl (aB.trans (aB.imp (bA.wZ (show k+2048<=k+4128 by omega)) aH) aC) ⟨Q,rfl,rfl⟩
 rw[if_neg h13];by_cases h15:st.kind=15
 ·rw[if_pos h15];have pk:=λM=>aJo M P gr cf n k hk;generalize n.pack=res at *;obtain⟨n2,code⟩:=res;dsimp only at pk⊢;refine t_ func61 ntmps61 ?_;refine a_ ?_;intros
  refine aP pk ?_;refine a_ ?_
  refine aP (λM=>fl M (code)) ?_;refine a_ ?_
  exact eP (H':=[aE g 121 (wC x now sn cf nn sub),bA (P++[]) gr cf n2 (k+4128),eX x.gg r l,aQ (P++[])]) rfl aJ rfl rfl rfl aV rfl (by rw[aY];exact aB.trans (aB.imp (bA.wZ (show k+4128<=k+4128 by omega)) aH) aC) ⟨[],rfl,rfl⟩
 rw[if_neg h15];by_cases h14:st.kind=14
 ·rw[if_pos h14];by_cases h4096:4096<st.n
  ·rw[if_pos h4096];refine t_ func61 ntmps61 ?_;refine a_ ?_;intros
   refine aP (λM=>fl M (4)) ?_;refine a_ ?_
   exact eP (H':=[aE g 121 (wC x now sn cf nn sub),bA (P++[]) gr cf n (k+4128),eX x.gg r l,aQ (P++[])]) rfl aJ rfl rfl rfl aV rfl (by rw[aY];exact aB.trans (aB.imp (bA.wZ (show k<=k+4128 by omega)) aH) aC) ⟨[],rfl,rfl⟩
  ·rw[if_neg h4096];cases hu:n.up with
   |true =>
    rw[hu] at up;simp only[if_true];refine t_ func61 ntmps61 ?_;refine a_ ?_;intros
    refine aP up ?_;refine a_ ?_
    refine aP (λM=>aCv M P gr cf n k (st.n - 1) (by omega)) ?_;refine a_ ?_
    exact eP (H':=[aE g 121 (wC x now sn cf nn sub),bA (P++[]) gr cf (n.arm (st.n - 1)) (k+4128),eX x.gg r l,aQ (P++[])]) rfl aJ rfl rfl rfl aV rfl (by rw[aY];exact aB.trans (aB.imp (bA.wZ (show k<=k+4128 by omega)) aH) aC) ⟨[],rfl,rfl⟩
   |false =>
    rw[hu] at up;simp only[tG,if_false];refine t_ func61 ntmps61 ?_;refine a_ ?_;intros
    refine aP up ?_;refine a_ ?_
    refine aP (λM=>fl M (19)) ?_;refine a_ ?_
    exact eP (H':=[aE g 121 (wC x now sn cf nn sub),bA (P++[]) gr cf n (k+4128),eX x.gg r l,aQ (P++[])]) rfl aJ rfl rfl rfl aV rfl (by rw[aY];exact aB.trans (aB.imp (bA.wZ (show k<=k+4128 by omega)) aH) aC) ⟨[],rfl,rfl⟩
 rw[if_neg h14];refine t_ func61 ntmps61 ?_;refine a_ ?_;intros
 exact eP (H':=[aE g 121 (wC x now sn cf nn sub),bA (P++[]) gr cf n (k+4128),eX x.gg r l,aQ (P++[])]) rfl aJ rfl rfl rfl aV rfl (by rw[aY];exact aB.trans (aB.imp (bA.wZ (show k<=k+4128 by omega)) aH) aC) ⟨[],rfl,rfl⟩
end
def rM(s:Sv)(m:Mg):Mg:=if answers s m then wM s m else mz
def eC(ws:List bX)(n:Nd)(m:Mg):(List bX×Nd)×iX :=
 if m.kind=1 then
  (if n.sync.2≠0 then((ws,n.sync.1),⟨0,0,0⟩) else(((jJ ws (rM n.sync.1.s m)).1,n.sync.1),⟨0,(jJ ws (rM n.sync.1.s m)).2,0⟩))
 else if m.kind=2 then((ws,(n.take (gS n.s m)).1),⟨(n.take (gS n.s m)).2.2,(n.take (gS n.s m)).2.1,0⟩)
 else if (n.s.doc (.cR m.key)).2≠0 then((ws,n),⟨0,0,0⟩)
 else((ws,(n.take [.cR m.key]).1),⟨(n.take [.cR m.key]).2.2,(n.take [.cR m.key]).2.1,0⟩)
def Rd.front{α:Type}{E:Env}{T:Ty α}{A:n!}{a c:Nat}{l:List α}(h:Rd E T A a c l)(k:Nat):Rd E T A (min a k) (min a k) (l.take k):=by
 have f:=h.len;have e:=h.cap;have b:=h.upto (k:=min a k) (m:=min a k) o_ (bM _) o_;by_cases d:k<=a
 ·rw[E9 d] at b⊢;exact b
 ·rw[nM o_] at b⊢;rw[fX o_] at b⊢;exact b
def VZ{s:Sv}{l:List aI}{x:Rc}(h:x∈(tryAll s l).2):∃c∈l,x=.cB c:=by
 have:∀(l:List aI) (z:Sv×List Rc),x∈(l.foldl (λz c=>fP z (.cB c)) z).2->x∈z.2\/∃c∈l,x=.cB c:=by
  intro l
  induction l with
  |nil=>exact λz h=>.inl h
  |cons c l b =>
   intro z h;rw[CX] at h;rcases b _ h with h|⟨d,a,rfl⟩
   ·unfold fP at h;dsimp only at h;split at h
    ·rcases eL.1 h with h|h
     ·exact .inl h
     ·exact .inr ⟨c,jW,eM.1 h⟩
    ·exact .inl h
   ·exact .inr ⟨d,kF _ a,rfl⟩
 rcases this l (s,[]) h with h|h
 ·cases h
 ·exact h
def Qa{x:Rc}:∀ {l:List aL} {s:Sv} {out:List Rc},x∈comms s out l->x∈out\/∃a,x=.cD a
 | [],_,_,h=>.inl h
 |a::l,s,out,h=>by
  unfold comms at h;split at h
  ·rcases Qa h with h|h
   ·rcases eL.1 h with h|h
    ·exact .inl h
    ·exact .inr ⟨a,eM.1 h⟩
   ·exact .inr h
  ·exact .inl h
def aNv{s:Sv}{m:Mg}(h:m.ok):∀x∈gS s m,x.ok:=by
 intro x d;unfold gS at d;split at d
 ·rename_i b;have⟨_,_,_,i,_⟩:=Mg.D4 b.1 b.2.1;have e:∀x∈(tryAll s m.cL).2,x.ok:=λx d=>by
   obtain⟨c,f,rfl⟩:=VZ d;exact EE (qR.1 i c f) (h.1 c f)
  split at d
  ·exact e x d
  ·rcases Qa d with d|⟨a,rfl⟩
   ·exact e x d
   ·trivial
 ·cases d
def aF.pre{P:t!}{E:Env}{f:FuncId}{args:Array p!}{H H2:List aG}{Q:Ending->List aG->Prop}(hc:aB E H H2)(k:aF P E f args H2 Q):aF P E f args H Q:=λhd w hw=>k hd w (hc w hw)
section
variable (E:Env) (P:List Ov) (g gr:Nat) (x:lX) (now:Int) (sn:Nat) (cf:bW) (nn:Nat) (sub:Int) (n:Nd) (k:Int) (ws:List bX)
theorem aGa(m:Mg)(A:Option Addr)(na c:Nat)(B:Option Addr)(nb d:Nat)(hI:Rd E gJ A na c m.ids)(hC:Rd E bO B nb d m.cL)(hok:m.ok)(hu:n.up=true)(h2:m.kind=2):G E 123 [pt g,pt gr,.agg (fV m A na c B nb d).toArray] [aE g 121 (wC x now sn cf nn sub),bA P gr cf n k,cI x.gw ws,aQ P] λe H'=>∃Q,e=.returned (.agg (eC ws n m).2.cs.toArray)/\H'=[aE g 121 (wC x now sn cf nn sub),bA (P++Q) gr cf (eC ws n m).1.2 k,cI x.gw (eC ws n m).1.1,aQ (P++Q)]:=by
 have st:=λM=>EK M P gr cf n k;simp only[hu,if_true] at st;unfold eC;rw[if_neg o_,if_pos h2];have hto:=aNv (s:=n.s) (m:=m) hok;have tkk:=λM gs hI hC=>aJa M P gs n.s m A na c B nb d hI hC hok;have tk:=λ(M:Env) Q X qc (hr:Rd M jC X (gS n.s m).length qc ((gS n.s m).map Rc.r)) h100=>aF.pre (show aB M [bA P gr cf n k,aQ (P++Q)] [bA (P++Q) gr cf n k,aQ (P++Q)] from aB.imp (bA.mono (dV k)) aH) (NW M (P++Q) gr cf n k X (gS n.s m).length qc (gS n.s m) hr hto h100);generalize gS n.s m=tl at *;generalize n.take tl=res at *;obtain⟨n2,z,code⟩:=res;dsimp only at tk⊢;refine t_ func123 ntmps123 ?_;refine a_ ?_;intros
 rename_i g5 g6;refine rB (l_ [0,2] (g_ 1 (g_ 3 (n_ 4 .nil)))) ([aE g5 195 _]) ?_;refine a_ ?_
 refine eI st ?_;rintro e H' ⟨gs,rfl,rfl⟩;refine a_ ?_
 refine Da (λM=>tkk M gs) ?_;rintro e H' ⟨Q,X,qc,h1,h100,rfl,rfl⟩;refine a_ ?_
 refine cU (λM h1=>tk M Q X qc h1 (by omega)) ?_;rintro e H' ⟨Q2,rfl,rfl⟩;refine a_ ?_
 exact eP (H':=[aE g 121 (wC x now sn cf nn sub),bA (P++(Q++Q2)) gr cf n2 k,cI x.gw ws,aQ (P++(Q++Q2))]) rfl aJ rfl rfl rfl aV rfl (by rw[<-bF];exact aC) ⟨Q++Q2,rfl,rfl⟩
end
end Go.Proofs.YtmilalkjbojciaaGreat.Sep
