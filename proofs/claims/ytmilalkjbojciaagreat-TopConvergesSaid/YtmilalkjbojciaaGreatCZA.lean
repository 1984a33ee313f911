/- Part ZA: what it needs. No condition. -/
import Derived.Test.YtmilalkjbojciaaGreatCAV
set_option linter.all false
set_option maxRecDepth 100000
set_option maxHeartbeats 8000000
open Go.Proofs.Tryz
namespace Go.Proofs.YtmilalkjbojciaaGreat.Sep
variable{A:dT}{R:List aG}{m:Mg}{t:Nat}
section
open Go.RowKit Reg Oct
open Mem hiding Rd
section
variable (E:Env) (P:List Ov) (g gr:Nat) (x:lX) (now:Int) (sn:Nat) (cf:bW) (nn:Nat) (sub:Int) (n:Nd) (k:Int) (ws:List bX)
def aIh(m:Mg)(A:n!)(na c:Nat)(B:n!)(nb d:Nat)(hI:Rd E gJ A na c m.ids)(hC:Rd E bO B nb d m.cL)(hk:k<=10000000000000)(h1:m.kind=1):G E 123 [pt g,pt gr,.agg (fV m A na c B nb d).toArray] [aE g 121 (wC x now sn cf nn sub),bA P gr cf n k,cI x.gw ws] (bL (.agg (eC ws n m).2.cs.toArray) [aE g 121 (wC x now sn cf nn sub),bA P gr cf (eC ws n m).1.2 (k+2048),cI x.gw (eC ws n m).1.1]):=by
 have sy:=λM=>KG M P gr cf n k hk;have hup:=VJ (n:=n);unfold eC;rw[c! h1];generalize n.sync=res at *;obtain⟨n2,code⟩:=res;dsimp only at sy hup⊢;by_cases h0:code=0
 ·subst h0;rw[b! sD];have hu:=hup rfl;have st:=λM=>EK M P gr cf n2 (k+2048);simp only[hu,if_true] at st;by_cases hyes:answers n2.s m
  ·rw[show rM n2.s m=wM n2.s m from c! hyes];have vJ:=λM gs hI hC=>aRf M P gs n2.s m A na c B nb d hI hC hyes;have post:=λ(M:Env) X a z Y b y hX hY=>IV M g x now sn cf nn sub ws (wM n2.s m) X a z Y b y hX hY;generalize hp:jJ ws (wM n2.s m)=p at *;obtain⟨ws2,v⟩:=p;dsimp only at post⊢;refine t_ func123 ntmps123 ?_;repeat first|refine v_ ?_|refine Dr.two ?_ ?_|intro
   refine aP sy ?_;repeat first|refine v_ ?_|refine Dr.two ?_ ?_|intro
   rename_i g5 g6;refine C.cW (X:=n!×Nat×Nat×n!×Nat×Nat×Nat) (λy=>[(0,pt g),(6,pt g6),(8,pt y.2.2.2.2.2.2)]) (λy=>[aE y.2.2.2.2.2.2 195 (fV (wM n2.s m) y.1 (min y.2.1 16) (min y.2.1 16) y.2.2.2.1 (min y.2.2.2.2.1 8) (min y.2.2.2.2.1 8)),own gJ y.1 y.2.1 y.2.2.1 (pW n2.s m),own bO y.2.2.2.1 y.2.2.2.2.1 y.2.2.2.2.2.1 (zR n2.s m),aE g6 36 Gq.cs,aE g 121 (wC x now sn cf nn sub),bA P gr cf n2 (k+2048),cI x.gw ws]) (λ_=>True) ?_ ?_
   ·refine rB (l_ [0,2] (.two 1 (.two 3 (l_ [4,5,6] (g_ 7 (g_ 8 (n_ 9 .nil)))) 7 (g_ 3 (l_ [4,5,6] (g_ 8 (n_ 9 .nil))))) 7 (g_ 1 (g_ 3 (l_ [4,5,6] (g_ 8 (n_ 9 .nil))))))) ([aE g5 195 _]) ?_;repeat first|refine v_ ?_|intro
    refine Dr.two ?_ ?_
    ·refine lC rfl sD bB sK aH (λM hE=>st M) ?_;rintro e H' ⟨gs,rfl,rfl⟩;repeat first|refine v_ ?_|intro
     refine Dr.two ?_ ?_;refine lC rfl sD bB sK aH (λM hE=>vJ M gs (hI.sub hE) (hC.sub hE)) ?_;rotate_left;repeat first|refine bN ?_|intro
     refine Da (λM=>vJ M gs) ?_;all_goals
      rintro e H' ⟨X,a,z,K2,b,y,ha,rfl,rfl⟩;repeat first|refine bN ?_|intro
      rename_i g8;exact⟨(X,a,z,K2,b,y,g8),aK,aC,trivial⟩
    ·repeat first|refine bN ?_|intro
     refine eI st ?_;rintro e H' ⟨gs,rfl,rfl⟩;repeat first|refine bN ?_|intro
     refine Da (λM=>vJ M gs) ?_;rintro e H' ⟨X,a,z,K2,b,y,ha,rfl,rfl⟩;repeat first|refine bN ?_|intro
     rename_i g8;exact⟨(X,a,z,K2,b,y,g8),aK,aC,trivial⟩
   ·rintro⟨X,a,z,K2,b,y,g8⟩ F -;dsimp only;repeat first|refine v_ ?_|refine Dr.two ?_ ?_|intro
    refine rB (l_ [0,1,2,3] (g_ 4 (n_ 5 (g_ 6 .nil)))) ([aE g8 195 _]) ?_;repeat first|refine v_ ?_|refine Dr.two ?_ ?_|intro
    refine cg rfl sD bB sK aH (λM hE=>post M X (min a 16) (min a 16) K2 (min b 8) (min b 8) (Rd.front (show Rd M gJ X a z (pW n2.s m) from bK) 16) (Rd.front (show Rd M bO K2 b y (zR n2.s m) from bK) 8)) ?_;rintro e H' ⟨rfl,rfl⟩;repeat first|refine v_ ?_|refine Dr.two ?_ ?_|intro
    exact gE
  ·rw[show rM n2.s m=mz from b! hyes];have vJ:=λM gs hI hC=>aRn M P gs n2.s m A na c B nb d hI hC hyes;have post:=λ(M:Env)=>IV M g x now sn cf nn sub ws mz none 0 0 none 0 0 (Rd.nil _ _) (Rd.nil _ _);generalize jJ ws mz=p at *;obtain⟨ws2,v⟩:=p;dsimp only at post⊢;refine t_ func123 ntmps123 ?_;repeat first|refine v_ ?_|refine Dr.two ?_ ?_|intro
   refine aP sy ?_;repeat first|refine v_ ?_|refine Dr.two ?_ ?_|intro
   rename_i g5 g6;refine C.cW (X:=Nat) (λy=>[(0,pt g),(6,pt g6),(8,pt y)]) (λy=>[aE y 195 (fV mz none 0 0 none 0 0),aE g6 36 Gq.cs,aE g 121 (wC x now sn cf nn sub),bA P gr cf n2 (k+2048),cI x.gw ws]) (λ_=>True) ?_ ?_
   ·refine rB (l_ [0,2] (.two 1 (.two 3 (l_ [4,5,6] (g_ 7 (g_ 8 (n_ 9 .nil)))) 7 (g_ 3 (l_ [4,5,6] (g_ 8 (n_ 9 .nil))))) 7 (g_ 1 (g_ 3 (l_ [4,5,6] (g_ 8 (n_ 9 .nil))))))) ([aE g5 195 _]) ?_;repeat first|refine v_ ?_|intro
    refine Dr.two ?_ ?_
    ·refine lC rfl sD bB sK aH (λM hE=>st M) ?_;rintro e H' ⟨gs,rfl,rfl⟩;repeat first|refine v_ ?_|intro
     refine Dr.two ?_ ?_;refine lC rfl sD bB sK aH (λM hE=>vJ M gs (hI.sub hE) (hC.sub hE)) ?_;rintro e H' ⟨rfl,rfl⟩;rotate_left;repeat first|refine bN ?_|intro
     refine vN (λM=>vJ M gs) ?_;all_goals
      repeat first|refine bN ?_|intro
      rename_i g8;exact⟨g8,aK,aC,trivial⟩
    ·repeat first|refine bN ?_|intro
     refine eI st ?_;rintro e H' ⟨gs,rfl,rfl⟩;repeat first|refine bN ?_|intro
     refine vN (λM=>vJ M gs) ?_;repeat first|refine bN ?_|intro
     rename_i g8;exact⟨g8,aK,aC,trivial⟩
   ·rintro g8 F -;repeat first|refine v_ ?_|refine Dr.two ?_ ?_|intro
    refine rB (l_ [0,1,2,3] (g_ 4 (n_ 5 (g_ 6 .nil)))) ([aE g8 195 _]) ?_;repeat first|refine v_ ?_|refine Dr.two ?_ ?_|intro
    refine cP post ?_;repeat first|refine v_ ?_|refine Dr.two ?_ ?_|intro
    exact gE
 ·rw[c! h0];refine t_ func123 ntmps123 ?_;repeat first|refine v_ ?_|refine Dr.two ?_ ?_|intro
  refine aP sy ?_;repeat first|refine v_ ?_|refine Dr.two ?_ ?_|intro
  exact gE
end
def aOc(E:Env):G E 69 [.pointer none] [] (bL (.bool false) []):=by
 refine p_ func69 ntmps69 ?_
 exact aS
section
variable (E:Env) (P:List Ov) (g:Nat) (x:lX) (now:Int) (sn:Nat) (cf:bW) (nn:Nat) (sub:Int) (ws:List bX)
def aRm(i:Int)(h:jI ws i=none):G E 59 [pt g,a! i] [aE g 121 (wC x now sn cf nn sub),cI x.gw ws] (bL (.agg (⟨14,0,0⟩:iX).cs.toArray) [aE g 121 (wC x now sn cf nn sub),cI x.gw ws]):=by
 have a:=λM e=>DY M e;have to:=λM=>En M x.gw ws i;have tk:=λM=>El M x.gw ws i;rw[h] at to tk;refine p_ func59 ntmps59 ?_;intros
 refine r_ to ?_
 refine r_ tk ?_
 refine r_ (λM=>a M 14) ?_
 exact gE
theorem aPv(i:Int)(p:bX)(h:jI ws i=some p)(hb:kO p.b=none)(a:p.b.length<=1000000):G E 59 [pt g,a! i] [aE g 121 (wC x now sn cf nn sub),cI x.gw ws] (bL (.agg (⟨0,0,0⟩:iX).cs.toArray) [aE g 121 (wC x now sn cf nn sub),cI x.gw (eK ws i)]):=by
 have to:=λM=>En M x.gw ws i;have tk:=λM=>El M x.gw ws i;rw[h] at to tk;have gt:=λ(M:Env) A n c d b=>HZ (E:=M) (A:=A) (n:=n) (c:=c) p.b d b;rw[hb] at gt;refine p_ func59 ntmps59 ?_;intros
 refine r_ to ?_
 refine u_ tk ?_;intro A n c f
 refine cl sD sK aH (λM e=>gt M A n c bK (by have:=(show Rd M bH A n c p.b from bK).len;omega)) (b_ ?_);intros
 exact gE
end
section
variable (E:Env) (P:List Ov) (g:Nat) (x:lX) (now:Int) (sn:Nat) (cf:bW) (nn:Nat) (sub:Int) (ws:List bX)
def aQp(i:Int)(p:bX)(h:jI ws i=some p)(m:Mg)(hb:kO p.b=some m)(k:p.b.length<=1000000)(j:p.to=9)(r:Int)(l:List aM)(f:l.length<=1000000):G E 59 [pt g,a! i] [aE g 121 (wC x now sn cf nn sub),cI x.gw ws,eX x.gg r l] (bL (.agg (⟨0,(iQ (eK ws i) r l m).2,0⟩:iX).cs.toArray) [aE g 121 (wC x now sn cf nn sub),cI x.gw (iQ (eK ws i) r l m).1.1,eX x.gg (iQ (eK ws i) r l m).1.2.1 (iQ (eK ws i) r l m).1.2.2]):=by
 have to:=λM=>En M x.gw ws i;have tk:=λM=>El M x.gw ws i;rw[h] at to tk;simp only[Dk,oD,j] at to;have gt:=λ(M:Env) A n c t f=>HZ (E:=M) (A:=A) (n:=n) (c:=c) p.b t f;rw[hb] at gt;have rq:=λM O a c B b d=>aRu M g x now sn cf nn sub (eK ws i) r l f m O a c B b d;generalize iQ (eK ws i) r l m=q at *;obtain⟨⟨w,F,D⟩,v⟩:=q;dsimp only at rq⊢;refine t_ func59 ntmps59 ?_;repeat first|refine v_ ?_|intro
 refine aP to ?_;repeat first|refine v_ ?_|intro
 refine aU tk ?_;rintro e o ⟨A,n,c,z,rfl,rfl⟩;repeat first|refine v_ ?_|intro
 refine cl sD sK aH (λM y=>gt M A n c bK (by have:=(show Rd M bH A n c p.b from bK).len;omega)) ?_;rintro e o ⟨O,a,u,B,b,d,rfl,rfl⟩;repeat first|refine v_ ?_|intro
 rename_i s;refine rB (l_ [0,1,2,3] (g_ 4 (n_ 5 (g_ 6 .nil)))) ([aE s 195 _]) ?_;repeat first|refine v_ ?_|intro
 refine cP (λM=>rq M O a u B b d) ?_;repeat first|refine v_ ?_|intro
 exact gE
end
section
variable (E:Env) (P:List Ov) (g gr:Nat) (x:lX) (now:Int) (sn:Nat) (cf:bW) (nn:Nat) (sub:Int) (n:Nd) (k:Int) (ws:List bX)
def Vs(i:Int)(p:bX)(h:jI ws i=some p)(m:Mg)(hb:kO p.b=some m)(l:p.b.length<=1000000)(v:p.to≠9)(o:nn<=4)(s:1<=nn)(j:p.to<0\/(nn:Int)<=p.to):G E 59 [pt g,a! i] [aE g 121 (wC x now sn cf nn sub),cI x.gw ws] (bL (.agg (⟨0,0,0⟩:iX).cs.toArray) [aE g 121 (wC x now sn cf nn sub),cI x.gw (eK ws i)]):=by
 have to:=λM=>En M x.gw ws i;have tk:=λM=>El M x.gw ws i;rw[h] at to tk;simp only[Dk,oD] at to;have gt:=λ(M:Env) A n c u t=>HZ (E:=M) (A:=A) (n:=n) (c:=c) p.b u t;rw[hb] at gt;have f:=λM hb=>O5 M g x now sn cf nn sub p.to hb o s j;refine t_ func59 ntmps59 ?_;repeat first|refine v_ ?_|intro
 refine aP to ?_;repeat first|refine v_ ?_|intro
 refine aU tk ?_;rintro e r ⟨A,q,c,o,rfl,rfl⟩;repeat first|refine v_ ?_|intro
 refine cl sD sK aH (λM w=>gt M A q c bK (by have:=(show Rd M bH A q c p.b from bK).len;omega)) ?_;rintro e r ⟨O,a,y,B,b,d,rfl,rfl⟩;repeat first|refine v_ ?_|intro
 refine cV f ?_;repeat first|refine v_ ?_|intro
 refine aP aOc ?_;repeat first|refine v_ ?_|intro
 exact gE
def aPb(i:Int)(p:bX)(h:jI ws i=some p)(m:Mg)(hb:kO p.b=some m)(o:p.b.length<=1000000)(j:Nat)(v:p.to=j)(q:nn<=4)(f:x.gs[j]?=some gr)(D:n.up=false):G E 59 [pt g,a! i] [aE g 121 (wC x now sn cf nn sub),bA P gr cf n k,cI x.gw ws,own jS x.nA nn x.nc x.gs] (bL (.agg (⟨0,0,0⟩:iX).cs.toArray) [aE g 121 (wC x now sn cf nn sub),bA P gr cf n k,cI x.gw (eK ws i),own jS x.nA nn x.nc x.gs]):=by
 refine aF.fact (p:=nn=x.gs.length) (λw H=>by obtain⟨F,t,_⟩:=H.has (a:=own jS x.nA nn x.nc x.gs) aV;exact(Az t).1) λhnl=>?_;have w:=(cH.1 f).1;have to:=λM=>En M x.gw ws i;have tk:=λM=>El M x.gw ws i;rw[h] at to tk;simp only[Dk,oD] at to;have gt:=λ(M:Env) A n c z y=>HZ (E:=M) (A:=A) (n:=n) (c:=c) p.b z y;rw[hb] at gt;rw[v] at to;have J:(j:Int)≠9:=o_;have l:=λM hb u=>Eh M g x now sn cf nn sub j gr hb q u f;have up:=λM=>CB M P gr cf n k;rw[D] at up;refine t_ func59 ntmps59 ?_;repeat first|refine v_ ?_|intro
 refine aP to ?_;repeat first|refine v_ ?_|intro
 refine aU tk ?_;rintro e s ⟨A,r,c,q,rfl,rfl⟩;repeat first|refine v_ ?_|intro
 refine cl sD sK aH (λM K=>gt M A r c bK (by have:=(show Rd M bH A r c p.b from bK).len;omega)) ?_;rintro e s ⟨O,a,N,B,b,d,rfl,rfl⟩;repeat first|refine v_ ?_|intro
 refine oE l ?_;repeat first|refine v_ ?_|intro
 refine aP up ?_;repeat first|refine v_ ?_|intro
 exact gE
end
section
variable (E:Env) (P:List Ov) (g gr:Nat) (x:lX) (now:Int) (sn:Nat) (cf:bW) (nn:Nat) (sub:Int) (n:Nd) (k:Int) (ws:List bX)
theorem aCe(m:Mg)(A:n!)(a c:Nat)(B:n!)(b d:Nat)(o:Rd E gJ A a c m.ids)(l:Rd E bO B b d m.cL)(q:m.ok)(s:n.up=true)(p:k<=10000000000000):G E 123 [pt g,pt gr,.agg (fV m A a c B b d).toArray] [aE g 121 (wC x now sn cf nn sub),bA P gr cf n k,cI x.gw ws,aQ P] λe f=>∃Q,e=.returned (.agg (eC ws n m).2.cs.toArray)/\f=[aE g 121 (wC x now sn cf nn sub),bA (P++Q) gr cf (eC ws n m).1.2 (k+2048),cI x.gw (eC ws n m).1.1,aQ (P++Q)]:=by
 by_cases j:m.kind=1
 ·refine aF.mono (aF.beside (Hp:=[aE g 121 (wC x now sn cf nn sub),bA P gr cf n k,cI x.gw ws]) (R:=[aQ P]) λM h=>aIh M P g gr x now sn cf nn sub n k ws m A a c B b d (o.sub h) (l.sub h) p j) ?_;rintro e f ⟨r,⟨rfl,rfl⟩,rfl⟩;exact⟨[],rfl,by rw[aY];rfl⟩
 ·have i:∀Q,aB E [aE g 121 (wC x now sn cf nn sub),bA (P++Q) gr cf (eC ws n m).1.2 k,cI x.gw (eC ws n m).1.1,aQ (P++Q)] [aE g 121 (wC x now sn cf nn sub),bA (P++Q) gr cf (eC ws n m).1.2 (k+2048),cI x.gw (eC ws n m).1.1,aQ (P++Q)]:=λQ=>aB.eG (aZ.cons aZ.refl (aZ.cons (bA.wZ o_) aZ.refl))
  grind [aF.post,aGa,aJe]
end
section
variable (E:Env) (P:List Ov) (g gr:Nat) (x:lX) (now:Int) (sn:Nat) (cf:bW) (nn:Nat) (sub:Int) (n:Nd) (k:Int) (ws:List bX)
def aQg(i:Int)(p:bX)(h:jI ws i=some p)(m:Mg)(hb:kO p.b=some m)(u:p.b.length<=1000000)(j:Nat)(J:p.to=j)(U:nn<=4)(l:x.gs[j]?=some gr)(v:n.up=true)(N:k<=10000000000000):G E 59 [pt g,a! i] [aE g 121 (wC x now sn cf nn sub),bA P gr cf n k,cI x.gw ws,aQ P,own jS x.nA nn x.nc x.gs] λe o=>∃Q,e=.returned (.agg (eC (eK ws i) n m).2.cs.toArray)/\o=[aE g 121 (wC x now sn cf nn sub),bA (P++Q) gr cf (eC (eK ws i) n m).1.2 (k+2048),cI x.gw (eC (eK ws i) n m).1.1,aQ (P++Q),own jS x.nA nn x.nc x.gs]:=by
 refine aF.fact (p:=nn=x.gs.length) (λw Z=>by obtain⟨F,y,_⟩:=Z.has (a:=own jS x.nA nn x.nc x.gs) aV;exact(Az y).1) λhnl=>?_;have K:=(cH.1 l).1;have r:=(AE hb).2.2;have to:=λM=>En M x.gw ws i;have tk:=λM=>El M x.gw ws i;rw[h] at to tk;simp only[Dk,oD] at to;have gt:=λ(M:Env) A n c X R=>HZ (E:=M) (A:=A) (n:=n) (c:=c) p.b X R;rw[hb] at gt;rw[J] at to;have h9:(j:Int)≠9:=o_;have q:=λM hb D=>Eh M g x now sn cf nn sub j gr hb U D l;have up:=λM=>CB M P gr cf n k;rw[v] at up;have f:=λM O a s B b d H z=>aCe M P g gr x now sn cf nn sub n k (eK ws i) m O a s B b d H z r v N;generalize eC (eK ws i) n m=t at *;obtain⟨⟨a8,n2⟩,vJ⟩:=t;dsimp only at f⊢;refine t_ func59 ntmps59 ?_;repeat first|refine v_ ?_|intro
 refine aP to ?_;repeat first|refine v_ ?_|intro
 refine aU tk ?_;rintro e o ⟨A,w,c,W,rfl,rfl⟩;repeat first|refine v_ ?_|intro
 refine cl sD sK aH (λM hE=>gt M A w c bK (by have:=(show Rd M bH A w c p.b from bK).len;omega)) ?_;rintro e o ⟨O,a,s,B,b,d,rfl,rfl⟩;repeat first|refine v_ ?_|intro
 refine oE q ?_;repeat first|refine v_ ?_|intro
 refine aP up ?_;repeat first|refine v_ ?_|intro
 refine rO (λM=>f M O a s B b d) ?_;rintro e o ⟨Q,rfl,rfl⟩;repeat first|refine v_ ?_|intro
 exact eP rfl aJ rfl rfl rfl aV rfl aC (⟨Q,rfl,rfl⟩)
end
instance:GR 176 [a! 0,a! 0,a! 0,a! 0,a! 0] [(0,1),(1,1),(2,1),(3,1),(4,1)] 1:=⟨⟨q_,q_,rfl⟩⟩
instance:zH 176 [a! 0,a! 0,a! 0,a! 0,a! 0]:=⟨q_⟩
def bW.dI(c:bW):Prop:=(1<=c.eD/\c.eD<=4)/\(1<=c.nI/\c.nI<=64)/\(1<=c.cO/\c.cO<=8)/\(1<=c.base/\c.base<=64)/\1<=c.cap/\c.cap<=64
instance (c:bW):Decidable c.dI:=by unfold bW.dI;infer_instance
def Vq(E:Env)(c:bW):G E 47 [.agg c.cs.toArray] [] (bL (a! (if c.dI then 0 else 6)) []):=by
 refine t_ func47 ntmps47 ?_;repeat first|refine v_ ?_|intro
 rename_i g1 g3;obtain⟨qs,hqs⟩:∃qs:List Int,qs=[c.eD,c.nI,c.cO,c.base,c.cap]:=⟨_,rfl⟩;obtain⟨ts,hts⟩:∃ts:List Int,ts=[4,64,8,64,64]:=⟨_,rfl⟩;refine C.scan (Y:=Unit) (l:=qs.zip ts) (n:=5) (by subst hqs hts;rfl) (λi _=>[(3,pt g3),(17,.agg (cells qs).toArray),(18,a! i)])
  (λ_ _=>[aE g3 176 (cells ts)]) (λi _=>∀j z,j<i->(qs.zip ts)[j]?=some z->1<=z.1/\z.1<=z.2) () (by subst hqs hts;exact⟨rfl,rfl,rfl,trivial⟩) (by subst hqs hts;show aB E _ [aE g3 176 [a! 4,a! 64,a! 8,a! 64,a! 64]];exact aC) (λj z hj=>by omega) ?_ ?_
 ·rintro i ⟨⟩ ⟨a,b⟩ F hi hz hinv;have hz1:qs[i]?=some a:=(Lk.1 hz).1;have hz2:ts[i]?=some b:=(Lk.1 hz).2;have hA:(cells qs)[i]?=some (a! a):=by simp[cells,hz1]
  have hB:(cells ts)[i]?=some (a! b):=by simp[cells,hz2]
  by_cases hr:1<=a/\a<=b
  ·have hd:decide (1<=a/\a<=b)=true:=d! hr;repeat first|refine v_ ?_|intro
   refine⟨(),aK,aC,λj z hj hz'=>?_⟩;by_cases hji:j<i
   ·exact hinv j z hji hz'
   ·obtain rfl:j=i:=o_;rw[hz] at hz';injection hz' with hz';subst hz';exact hr
  ·have hd:decide (1<=a/\a<=b)=false:=e! hr;have hf:¬c.dI:=λhf=>by
    subst hqs hts;unfold bW.dI at hf;rcases(show i=0\/i=1\/i=2\/i=3\/i=4 by omega) with rfl|rfl|rfl|rfl|rfl<;>(injection hz1 with hz1;injection hz2 with hz2;subst hz1 hz2;omega)
   rw[b! hf];repeat first|refine v_ ?_|intro
   exact aS
 ·rintro⟨⟩ F hinv;subst hqs hts;have h0:=hinv 0 _ o_ rfl;have h1:=hinv 1 _ o_ rfl;have h2:=hinv 2 _ o_ rfl;have h3:=hinv 3 _ o_ rfl;have h4:=hinv 4 _ o_ rfl;rw[c! (show c.dI from⟨h0,h1,h2,h3,h4⟩)];repeat first|refine v_ ?_|intro
  exact aS
structure Wv where
 cf:bW
 now:Int
 sub:Int
 bI:List nO
 ws:List bX
 ref:Int
 app:List aM
 aD:List Nd
def rD(ws:List bX):Prop:=(∀p∈ws,p.b.length<=1000000)/\ws.length<=128
structure Wv.ok(t:Nat)(v:Wv):Prop where
 dI:v.cf.dI
 len:(v.aD.length:Int)=v.cf.eD
 now:0<=v.now/\v.now<=1073741824
 sub:0<=v.sub/\v.sub<=48
 bI:v.bI.length<=48*t
 app:v.app.length<=t
 pk:rD v.ws
def Wv.ok.fK{v:Wv}(h:v.ok t):1<=v.aD.length/\v.aD.length<=4:=by
 have a:=h.dI.1;have b:=h.len;omega
def Wv.ok.node{v:Wv}(_h:v.ok t){i:Nat}(hi:i<v.aD.length):∃n,v.aD[i]?=some n:=⟨_,bS hi⟩
abbrev nP(P:List Ov)(cf:bW)(k:Int)(z:Nat×Nd):aG:=bA P z.1 cf z.2 k
abbrev wL(P:List Ov)(g:Nat)(k:Int)(v:Wv)(x:lX):List aG:=[aE g 121 (wC x v.now v.bI.length v.cf v.aD.length v.sub),cI x.gw v.ws,eX x.gg v.ref v.app,own sV x.sA v.bI.length x.sc v.bI,own jS x.nA v.aD.length x.nc x.gs,aT (nP P v.cf k) (x.gs.zip v.aD)]
abbrev kt(t:Nat):Int:=((10000*t:Nat):Int)
theorem Fe{t':Nat}(h:t<=t'):kt t<=kt t':=by grind
def dD(P:List Ov)(g:Nat)(t:Nat)(v:Wv):aG:=tQ (λx:lX=>v.ok t/\x.gs.length=v.aD.length) (wL P g (kt t) v)
def aZ.Sr{X:Type}{f a:X->aG}(h:∀z,aZ [f z] [a z]):∀l:List X,aZ (l.map f) (l.map a)
 | []=>aZ.refl
 |x::l=>aZ.cons (h x) (aZ.Sr h l)
def aZ.HA{X:Type}{f a:X->aG}{l:List X}(h:∀z,aZ [f z] [a z]):aZ [aT f l] [aT a l]:=λF w o=>by
 have⟨c,p,j,q,m,r⟩:=o;have⟨G,d,e⟩:=aZ.Sr h l c w m;exact⟨G,⟨G,λ_=>False,λb=>by simp,λ_ _ h=>h,d,λ_ h=>h⟩,λb hb=>(j b).2 (.inl (e b hb))⟩
theorem aIj{α c:Type}{l:List α}{m:List c}{i:Nat}{a:α}{b:c}(h:l[i]?=some a):(l.zip m).set i (a,b)=l.zip (m.set i b):=by
 refine uH λj=>?_
 grind
def aB.jQ{E:Env}{H l:List aG}(h:fJ l H R):aB E H (l++R):=aB.imp aZ.refl h
section
variable {E:Env} {H R:List aG} {P Q PQ:List Ov} {g gr:Nat} {t t':Nat} {v v':Wv} {x x':lX} {n n':Nd} {i:Nat} {k k' k2:Int} {cf:bW}
def AU(a:x.gs[i]?=some gr)(c:v.aD[i]?=some n)(b:Has (aT (nP P cf k) (x.gs.zip v.aD)) H R):aB E H (bA P gr cf n k::aT (nP P cf k) ((x.gs.zip v.aD).eraseIdx i)::R) :=
 aB.out (f:=nP P cf k) (x:=(gr,n)) b (Lk.2 ⟨a,c⟩)
def aJd(a:x.gs[i]?=some gr)(h:v.aD[i]?=some n)(c:k<=k2)(d:k'<=k2)(j:fJ [bA (P++Q) gr cf n' k',aT (nP P cf k) ((x.gs.zip v.aD).eraseIdx i)] H R):aB E H (aT (nP (P++Q) cf k2) (x.gs.zip (v.aD.set i n'))::R):=by
 have e:i<(x.gs.zip v.aD).length:=(cH.1 (Lk.2 ⟨a,h⟩:(x.gs.zip v.aD)[i]?=some (gr,n))).1;have b:aB E H (bA (P++Q) gr cf n' k2::aT (nP (P++Q) cf k2) ((x.gs.zip v.aD).eraseIdx i)::R):=aB.imp (aZ.cons (bA.wZ d) (aZ.HA (λz=>bA.mono (P:=P) (Q:=Q) c))) j;rw[<-aIj a];exact b.trans (aB.nC (f:=nP (P++Q) cf k2) (x:=(gr,n')) (.cons .aR (.cons .aR .nil)) (JV e))
def zC(r:t<=t')(b:PQ=P++Q)(p:x'.gs[i]?=some gr)(q:v.aD[i]?=some n)(o:k'<=kt t')(s:v'.ok t')(c:x'.gs.length=v.aD.length)(a:v'.aD=v.aD.set i n'){nn f:Nat}(d:nn=v.aD.length)(e:f=v'.bI.length)
  (m:fJ [aE g 121 (wC x' v'.now f v'.cf nn v'.sub),cI x'.gw v'.ws,eX x'.gg v'.ref v'.app,own sV x'.sA f x'.sc v'.bI,own jS x'.nA nn x'.nc x'.gs,bA PQ gr v'.cf n' k',aT (nP P v'.cf (kt t)) ((x'.gs.zip v.aD).eraseIdx i)] H R):aB E H (dD PQ g t' v'::R):=by
 subst b;have j:v'.aD.length=v.aD.length:=by rw[a,iM]
 subst e;rw[d,<-j] at m;have h:=aB.imp (E:=E) aZ.refl m;dsimp only[k!,l!] at h;refine h.trans (aB.trans (aJd (x:=x') (v:=v) (cf:=v'.cf) (k2:=kt t') (Q:=Q) p q (Fe r) o aH) ?_);rw[<-a];exact aB.fp (l:=wL (P++Q) g (kt t') v') (x:=x') ⟨s,by rw[j];exact c⟩ aH
def GI(m:t<=t')(b:PQ=P++Q)(o:v'.ok t')(c:x'.gs.length=v.aD.length)(a:v'.aD=v.aD){nn f:Nat}(d:nn=v.aD.length)(e:f=v'.bI.length)
  (j:fJ [aE g 121 (wC x' v'.now f v'.cf nn v'.sub),cI x'.gw v'.ws,eX x'.gg v'.ref v'.app,own sV x'.sA f x'.sc v'.bI,own jS x'.nA nn x'.nc x'.gs,aT (nP P v'.cf (kt t)) (x'.gs.zip v.aD)] H R):aB E H (dD PQ g t' v'::R):=by
 subst b e;rw[d,<-a] at j;have h:=aB.imp (E:=E) aZ.refl j;dsimp only[k!,l!] at h;refine h.trans (aB.trans (aB.imp (A:=[aT (nP P v'.cf (kt t)) (x'.gs.zip v'.aD)]) (B:=[aT (nP (P++Q) v'.cf (kt t')) (x'.gs.zip v'.aD)]) (aZ.HA (λz=>bA.mono (P:=P) (Q:=Q) (Fe m))) aH) ?_);dsimp only[k!,l!];exact aB.fp (l:=wL (P++Q) g (kt t') v') (x:=x') ⟨o,by rw[a];exact c⟩ aH
end
theorem Tk{ws:List bX}{p:bX}(h:rD ws)(b:p.b.length<=1000000):rD (tB ws p).1:=by
 unfold tB;split
 ·exact h
 ·refine⟨λq a=>?_,by show(ws++[p]).length<=128;rw[bR,xU];omega⟩;rcases eL.1 a with a|a
  ·exact h.1 q a
  ·grind
theorem KO{ws:List bX}(h:rD ws)(m:Mg):rD (jJ ws m).1:=by
 unfold jJ;split
 ·exact h
 ·rename_i a;have a:m.check=0:=LR.1 a;refine Tk h ?_;have:=Mg.size a;have:m.enc.length=m.body.length+7:=Frm.jO _;grind
theorem KP{ws:List bX}(h:rD ws)(i:Int):rD (eK ws i):=by
 unfold eK;split
 ·exact h
 ·exact⟨λp a=>h.1 p (PS a),iR (List.eraseIdx_sublist ..).length_le h.2⟩
theorem Nq{ws:List bX}(h:rD ws){i:Int}{p:bX}(b:jI ws i=some p):p.b.length<=1000000:=by
 have⟨k,_,a⟩:=CQ b;exact h.1 p (dG a)
theorem aKo{ws:List bX}(h:rD ws)(r:Int)(l:List aM)(m:Mg):rD (iQ ws r l m).1.1:=by
 grind [iQ,KO]
def Tl{r now:Int}:∀(l:List aM) (ws:List bX) (bI:List nO),rD ws->rD (rN r now ws bI l).1
 | [],_,_,h=>h
 |_q::l,_ws,_sent,h=>Tl l _ _ (KO h _)
theorem aAu{ws:List bX}(h:rD ws)(st:cK):rD (CR ws st).1:=by
 unfold CR;split
 ·exact h
 split
 ·grind [K9,KP]
 split
 ·grind [DV,Tk,Nq]
 split
 ·exact h
 ·unfold DW;split
  ·rename_i p b;split
   ·exact h
   ·refine⟨λq a=>?_,by show(ws.set _ _).length<=128;rw[iM];exact h.2⟩;rcases Ca a with a|a
    ·exact h.1 q a
    ·grind [zZ,Nq]
  ·exact h
theorem aEi{ws:List bX}(h:rD ws)(n:Nd)(m:Mg):rD (eC ws n m).1.1:=by
 grind [eC,KO]
theorem Wp(ws:List bX)(r:Int)(l:List aM)(m:Mg):(iQ ws r l m).1.2.2.length<=l.length+1:=by
 grind [tR,iQ]
theorem aMr{sub:Int}(h:0<=sub/\sub<=48)(n:Nd)(c:aI):0<=(tD sub n c).1/\(tD sub n c).1<=48:=by
 grind [tD]
theorem aOn{now:Int}(h:0<=now/\now<=1073741824)(n:Int):0<=(tE now n).1/\(tE now n).1<=1073741824:=by
 grind [tE]
def Wv.bZ(v:Wv)(i:Int):Wv×iX:=match jI v.ws i with
 |none=>(v,⟨14,0,0⟩)
 |some p=>match kO p.b with
  |none=>(⟨v.cf,v.now,v.sub,v.bI,eK v.ws i,v.ref,v.app,v.aD⟩,⟨0,0,0⟩)
  |some m=>if p.to=9 then(⟨v.cf,v.now,v.sub,v.bI,(iQ (eK v.ws i) v.ref v.app m).1.1,(iQ (eK v.ws i) v.ref v.app m).1.2.1,(iQ (eK v.ws i) v.ref v.app m).1.2.2,v.aD⟩,⟨0,(iQ (eK v.ws i) v.ref v.app m).2,0⟩)
   else if p.to<0 then(⟨v.cf,v.now,v.sub,v.bI,eK v.ws i,v.ref,v.app,v.aD⟩,⟨0,0,0⟩)
   else match v.aD[p.to.toNat]? with
    |none=>(⟨v.cf,v.now,v.sub,v.bI,eK v.ws i,v.ref,v.app,v.aD⟩,⟨0,0,0⟩)
    |some n=>if n.up then(⟨v.cf,v.now,v.sub,v.bI,(eC (eK v.ws i) n m).1.1,v.ref,v.app,v.aD.set p.to.toNat (eC (eK v.ws i) n m).1.2⟩,(eC (eK v.ws i) n m).2)
     else(⟨v.cf,v.now,v.sub,v.bI,eK v.ws i,v.ref,v.app,v.aD⟩,⟨0,0,0⟩)
abbrev Wv.lV(v:Wv)(i:Nat)(n:Nd)(c:aI):Wv×iX:=(⟨v.cf,v.now,(tD v.sub n c).1,v.bI,v.ws,v.ref,v.app,v.aD.set i (tD v.sub n c).2.1⟩,(tD v.sub n c).2.2)
abbrev Wv.yX(v:Wv)(i:Nat)(n:Nd):Wv:=⟨v.cf,v.now,v.sub,v.bI,v.ws,v.ref,v.app,v.aD.set i n⟩
abbrev Wv.ask(v:Wv)(i:Nat)(n:Nd)(st:cK):Wv×iX:=(⟨v.cf,v.now,v.sub,v.bI,(vZ v.aD.length v.ws n st).1.1,v.ref,v.app,v.aD.set i (vZ v.aD.length v.ws n st).1.2⟩,(vZ v.aD.length v.ws n st).2)
abbrev Wv.iV(v:Wv)(i:Nat)(n:Nd)(r:Int):Wv×iX:=(⟨v.cf,v.now,v.sub,(xM v.cf v.now v.ws v.bI n r).1.2.1,(xM v.cf v.now v.ws v.bI n r).1.1,v.ref,v.app,v.aD.set i (xM v.cf v.now v.ws v.bI n r).1.2.2⟩,(xM v.cf v.now v.ws v.bI n r).2)
abbrev Wv.tick(v:Wv)(n:Int):Wv×iX:=(⟨v.cf,(tE v.now n).1,v.sub,v.bI,v.ws,v.ref,v.app,v.aD⟩,(tE v.now n).2)
abbrev Wv.Bm(v:Wv)(st:cK):Wv×iX:=(⟨v.cf,v.now,v.sub,v.bI,(CR v.ws st).1,v.ref,v.app,v.aD⟩,(CR v.ws st).2)
noncomputable abbrev Wv.Al(v:Wv)(i:Nat)(n:Nd)(st:cK):Wv×iX:=(⟨v.cf,v.now,v.sub,v.bI,v.ws,(vD v.ref n st).1.1,v.app,v.aD.set i (vD v.ref n st).1.2⟩,(vD v.ref n st).2)
def Wv.uM(v:Wv)(a:Int):Wv×iX:=match v.aD[0]? with
 |none=>(v,⟨0,0,0⟩)
 |some p=>(v.yX 0 (zD p a).1,(zD p a).2)
noncomputable def Wv.wP(v:Wv)(i:Nat)(n:Nd)(st:cK):Wv×iX :=
 if st.kind=1 then v.lV i n st.c
 else if st.kind=2 then(v.yX i n.sync.1,⟨n.sync.2,0,0⟩)
 else if st.kind=3 then v.ask i n st
 else if st.kind=4 then v.uM st.n
 else if st.kind=5 then v.iV i n st.r
 else if st.kind=6 then v.tick st.n
 else if st.kind=7 then v.bZ st.i
 else if 8<=st.kind/\st.kind<=10 then v.Bm st
 else v.Al i n st
noncomputable def Wv.step(v:Wv)(st:cK):Wv×iX :=
 if st.check≠0 then(v,⟨st.check,0,0⟩)
 else match v.aD[st.r.toNat]? with
  |none=>(v,⟨4,0,0⟩)
  |some n=>v.wP st.r.toNat n st
section
variable {t:Nat} {v v':Wv} {i:Nat} {n:Nd}
def Wv.ok.to(h:v.ok t)(a:v'.cf=v.cf)(b:v'.aD.length=v.aD.length)(c:0<=v'.now/\v'.now<=1073741824)(e:0<=v'.sub/\v'.sub<=48)(g:v'.bI.length<=v.bI.length+48)(f:v'.app.length<=v.app.length+1)(d:rD v'.ws):v'.ok (t+1) :=
 ⟨by rw[a];exact h.dI,by rw[b,a];exact h.len,c,e,by have:=h.bI;omega,by have:=h.app;omega,d⟩
theorem Wv.ok.same(h:v.ok t):v.ok (t+1):=h.to rfl rfl h.now h.sub o_ o_ h.pk
def Wv.ok.yX(h:v.ok t)(i:Nat)(n:Nd):(v.yX i n).ok (t+1):=h.to rfl (iM ..) h.now h.sub (rT ..) (rT ..) h.pk
def Wv.ok.lV(h:v.ok t)(i:Nat)(n:Nd)(c:aI):(v.lV i n c).1.ok (t+1):=h.to rfl (iM ..) h.now (aMr h.sub n c) (rT ..) (rT ..) h.pk
theorem Wv.ok.ask(h:v.ok t)(i:Nat)(n:Nd)(st:cK):(v.ask i n st).1.ok (t+1):=h.to rfl (iM ..) h.now h.sub (rT ..) (rT ..) (by
 show rD (vZ v.aD.length v.ws n st).1.1;unfold vZ;split
 ·exact h.pk
 split
 ·exact h.pk
 ·exact KO h.pk _)
def Wv.ok.iV(h:v.ok t)(i:Nat)(a:n.ok)(r:Int):(v.iV i n r).1.ok (t+1):=h.to rfl (iM ..) h.now h.sub (by
 show(rN r v.now v.ws v.bI (n.iV v.cf v.now).2.1).2.length<=_;rw[Vp];have:=Tr a v.cf v.now;omega) (rT ..) (Tl _ _ _ h.pk)
def Wv.ok.tick(h:v.ok t)(n:Int):(v.tick n).1.ok (t+1):=h.to rfl rfl (aOn h.now n) h.sub (rT ..) (rT ..) h.pk
def Wv.ok.Bm(h:v.ok t)(st:cK):(v.Bm st).1.ok (t+1):=h.to rfl rfl h.now h.sub (rT ..) (rT ..) (aAu h.pk st)
def Wv.ok.Al(h:v.ok t)(i:Nat)(n:Nd)(st:cK):(v.Al i n st).1.ok (t+1):=h.to rfl (iM ..) h.now h.sub (rT ..) (rT ..) h.pk
theorem Wv.ok.bZ(h:v.ok t)(i:Int):(v.bZ i).1.ok (t+1):=by
 unfold Wv.bZ;have same:Wv.ok (t+1) ⟨v.cf,v.now,v.sub,v.bI,eK v.ws i,v.ref,v.app,v.aD⟩:=h.to rfl rfl h.now h.sub (rT ..) (rT ..) (KP h.pk i);split
 ·exact h.same
 split
 ·exact same
 split
 ·exact h.to rfl rfl h.now h.sub (rT ..) (Wp _ _ _ _) (aKo (KP h.pk i) _ _ _)
 split
 ·exact same
 split
 ·exact same
 split
 ·exact h.to rfl (iM ..) h.now h.sub (rT ..) (rT ..) (aEi (KP h.pk i) _ _)
 ·exact same
end
def zP(P:List Ov)(g t:Nat)(z:Wv×iX):Ending->List aG->Prop:=λe a=>∃Q,e=.returned (.agg z.2.cs.toArray)/\a=[dD (P++Q) g (t+1) z.1,aQ (P++Q)]
theorem EB(h:t<=1000000):kt t<=10000000000000:=by grind
theorem HP{d:Int}(h:d<=10000):kt t+d<=kt (t+1):=by grind
section
variable (E:Env) {P:List Ov} {g gr:Nat} {t:Nat} {v:Wv} {x:lX} {n:Nd} {i:Nat} (ho:v.ok t) (hx:x.gs.length=v.aD.length) (ht:t<=1000000)
include ho hx ht
def aBs(a:x.gs[i]?=some gr)(b:v.aD[i]?=some n)(c:aI)(d:bQ c.n):G E 53 [pt g,pt gr,.agg c.cs.toArray] (wL P g (kt t) v x++[aQ P]) (zP P g t (v.lV i n c)):=by
 have _:=ht;dsimp only[wL,k!,l!];refine aF.pre (AU (k:=kt t) a b (.bJ (.bJ (.bJ (.bJ (.bJ .aR)))))) ?_;refine aF.pre (aB.jQ (l:=[aE g 121 (wC x v.now v.bI.length v.cf v.aD.length v.sub),bA P gr v.cf n (kt t),aQ P]) aH) (aF.post (aF.beside λM j=>aFe M P g gr x v.now v.bI.length v.cf v.aD.length v.sub n (kt t) c d ho.sub) ?_);rintro e f ⟨h,⟨Q,rfl,rfl⟩,rfl⟩;dsimp only[k!,l!];exact⟨_,zC (t:=t) (v:=v) (v':=(v.lV i n c).1) (pV t) rfl a b (show kt t<=kt (t+1) from Fe (pV t)) (ho.lV i n c) hx rfl rfl rfl aH,Q,rfl,rfl⟩
def aSe(a:x.gs[i]?=some gr)(b:v.aD[i]?=some n)(st:cK):G E 55 [pt g,pt gr,.agg st.cs.toArray] (wL P g (kt t) v x++[aQ P]) (zP P g t (v.ask i n st)):=by
 dsimp only[wL,k!,l!];refine aF.pre (AU (k:=kt t) a b (.bJ (.bJ (.bJ (.bJ (.bJ .aR)))))) ?_;refine aF.pre (aB.jQ (l:=[aE g 121 (wC x v.now v.bI.length v.cf v.aD.length v.sub),bA P gr v.cf n (kt t),cI x.gw v.ws,own jS x.nA v.aD.length x.nc x.gs]) aH) (aF.post (aF.beside λM h=>aGm M P g gr x v.now v.bI.length v.cf v.aD.length v.sub n (kt t) v.ws st ho.fK.2 ho.fK.1 (EB ht) hx) ?_);rintro e c ⟨f,⟨rfl,rfl⟩,rfl⟩;dsimp only[k!,l!];exact⟨[dD P g (t+1) (v.ask i n st).1,aQ P],zC (t:=t) (v:=v) (v':=(v.ask i n st).1) (Q:=[]) (pV t) (aY P).symm a b (HP (d:=2048) sD) (ho.ask i n st) hx rfl rfl rfl aH,[],rfl,by rw[aY]⟩
def aMy(b:x.gs[i]?=some gr)(c:v.aD[i]?=some n):G E 54 [pt gr] (wL P g (kt t) v x++[aQ P]) (λe a=>e=.returned (a! n.sync.2)/\a=[dD P g (t+1) (v.yX i n.sync.1),aQ P]):=by
 dsimp only[wL,k!,l!];refine aF.pre (AU (k:=kt t) b c (.bJ (.bJ (.bJ (.bJ (.bJ .aR)))))) ?_;refine aF.pre (aB.jQ (l:=[bA P gr v.cf n (kt t)]) aH) (aF.post (aF.beside λM h=>KG M P gr v.cf n (kt t) (EB ht)) ?_);rintro e a ⟨f,⟨rfl,rfl⟩,rfl⟩;dsimp only[k!,l!];exact⟨_,zC (t:=t) (v:=v) (v':=v.yX i n.sync.1) (Q:=[]) (pV t) (aY P).symm b c (HP (d:=2048) sD) (ho.yX i _) hx rfl rfl rfl aH,rfl,rfl⟩
def aEc(a:Int):G E 56 [pt g,a! a] (wL P g (kt t) v x++[aQ P]) (zP P g t (v.uM a)):=by
 have _:=ht;have⟨n,d⟩:=ho.node (i:=0) (by have:=ho.fK;omega);have⟨gr,c⟩:∃gr,x.gs[0]?=some gr:=⟨_,bS (by have:=ho.fK;omega)⟩
 have b:v.uM a=(v.yX 0 (zD n a).1,(zD n a).2):=by unfold Wv.uM;rw[d]
 rw[b];dsimp only[wL,k!,l!];refine aF.pre (AU (k:=kt t) c d (.bJ (.bJ (.bJ (.bJ (.bJ .aR)))))) ?_;refine aF.pre (aB.jQ (l:=[aE g 121 (wC x v.now v.bI.length v.cf v.aD.length v.sub),bA P gr v.cf n (kt t),own jS x.nA v.aD.length x.nc x.gs,aQ P]) aH) (aF.post (aF.beside λM j=>aDf M P g gr x v.now v.bI.length v.cf v.aD.length v.sub n (kt t) a ho.fK.2 ho.fK.1 c) ?_);rintro e f ⟨h,⟨Q,rfl,rfl⟩,rfl⟩;dsimp only[k!,l!];exact⟨_,zC (t:=t) (v:=v) (v':=v.yX 0 (zD n a).1) (pV t) rfl c d (show kt t<=kt (t+1) from Fe (pV t)) (ho.yX 0 _) hx rfl rfl rfl aH,Q,rfl,rfl⟩
def aJt(hg:x.gs[i]?=some gr)(hn:v.aD[i]?=some n)(r:Int):G E 57 [pt g,pt gr,a! r] (wL P g (kt t) v x++[aQ P]) (zP P g t (v.iV i n r)):=by
 dsimp only[wL,k!,l!];refine aF.pre (AU (k:=kt t) hg hn (.bJ (.bJ (.bJ (.bJ (.bJ .aR)))))) ?_;refine aF.Jg (l:=AH P gr v.cf n (kt t)) (p:=λ_:Nh=>n.ok) .aR (λhok=>?_);have⟨_,hok⟩:=hok;refine aF.pre (aB.jQ (l:=[aE g 121 (wC x v.now v.bI.length v.cf v.aD.length v.sub),bA P gr v.cf n (kt t),cI x.gw v.ws,own sV x.sA v.bI.length x.sc v.bI,aQ P]) aH) (aF.post (aF.beside λM hE=>aMj M P g gr x v.now v.cf v.aD.length v.sub n (kt t) v.ws v.bI r (by have:=ho.now;unfold bQ;omega) (EB ht) (by have:=ho.bI;omega)) ?_);rintro e H' ⟨H1,⟨Q,sA,sc,rfl,rfl⟩,rfl⟩;dsimp only[k!,l!];exact⟨_,zC (t:=t) (v:=v) (v':=(v.iV i n r).1) (x':=⟨x.gw,x.gg,sA,sc,x.nA,x.nc,x.gs⟩) (pV t) rfl hg hn (HP (d:=2048) sD) (ho.iV i hok r) hx rfl rfl rfl aH,Q,rfl,rfl⟩
def aOm(m:Int):G E 58 [pt g,a! m] (wL P g (kt t) v x++[aQ P]) (zP P g t (v.tick m)):=by
 have _:=ht;dsimp only[wL,k!,l!];refine aF.pre (aB.jQ (l:=[aE g 121 (wC x v.now v.bI.length v.cf v.aD.length v.sub)]) aH) (aF.post (aF.beside λM c=>aHn M g x v.now v.bI.length v.cf v.aD.length v.sub m ho.now) ?_);rintro e a ⟨b,⟨rfl,rfl⟩,rfl⟩;dsimp only[k!,l!];exact⟨[dD P g (t+1) (v.tick m).1,aQ P],GI (t:=t) (v:=v) (v':=(v.tick m).1) (x':=x) (Q:=[]) (pV t) (aY P).symm (ho.tick m) hx rfl rfl rfl aH,[],rfl,by rw[aY]⟩
def aBk(st:cK)(a:bQ st.n):G E 60 [pt g,.agg st.cs.toArray] (wL P g (kt t) v x++[aQ P]) (zP P g t (v.Bm st)):=by
 have _:=ht;dsimp only[wL,k!,l!];refine aF.pre (aB.jQ (l:=[aE g 121 (wC x v.now v.bI.length v.cf v.aD.length v.sub),cI x.gw v.ws]) aH) (aF.post (aF.beside λM d=>aAo M g x v.now v.bI.length v.cf v.aD.length v.sub v.ws st a) ?_);rintro e b ⟨c,⟨rfl,rfl⟩,rfl⟩;dsimp only[k!,l!];exact⟨[dD P g (t+1) (v.Bm st).1,aQ P],GI (t:=t) (v:=v) (v':=(v.Bm st).1) (x':=x) (Q:=[]) (pV t) (aY P).symm (ho.Bm st) hx rfl rfl rfl aH,[],rfl,by rw[aY]⟩
def aGn(b:x.gs[i]?=some gr)(c:v.aD[i]?=some n)(st:cK)(a:0<=st.n/\st.n<=2147483647):G E 61 [pt g,pt gr,.agg st.cs.toArray] (wL P g (kt t) v x++[aQ P]) (zP P g t (v.Al i n st)):=by
 dsimp only[wL,k!,l!];refine aF.pre (AU (k:=kt t) b c (.bJ (.bJ (.bJ (.bJ (.bJ .aR)))))) ?_;refine aF.pre (aB.jQ (l:=[aE g 121 (wC x v.now v.bI.length v.cf v.aD.length v.sub),bA P gr v.cf n (kt t),eX x.gg v.ref v.app,aQ P]) aH) (aF.post (aF.beside λM j=>aOe M P g gr x v.now v.bI.length v.cf v.aD.length v.sub n (kt t) v.ref v.app st (EB ht) a) ?_);rintro e f ⟨h,⟨Q,rfl,rfl⟩,rfl⟩;dsimp only[k!,l!];exact⟨_,zC (t:=t) (v:=v) (v':=(v.Al i n st).1) (pV t) rfl b c (HP (d:=4128) sD) (ho.Al i n st) hx rfl rfl rfl aH,Q,rfl,rfl⟩
end
section
variable (E:Env) {P:List Ov} {g:Nat} {t:Nat} {v:Wv} {x:lX} (ho:v.ok t) (hx:x.gs.length=v.aD.length) (ht:t<=1000000)
include ho hx ht
theorem aEr(j:Int):G E 59 [pt g,a! j] (wL P g (kt t) v x++[aQ P]) (zP P g t (v.bZ j)):=by
 have a:=ho.bZ j;dsimp only[wL,k!,l!];cases f:jI v.ws j with
 |none =>
  have c:v.bZ j=(v,⟨14,0,0⟩):=by grind [Wv.bZ]
  rw[c] at a⊢;refine aF.pre (aB.jQ (l:=[aE g 121 (wC x v.now v.bI.length v.cf v.aD.length v.sub),cI x.gw v.ws]) aH) (aF.post (aF.beside λM y=>aRm M g x v.now v.bI.length v.cf v.aD.length v.sub v.ws j f) ?_);rintro e s ⟨u,⟨rfl,rfl⟩,rfl⟩;dsimp only[k!,l!];exact⟨[dD P g (t+1) v,aQ P],GI (t:=t) (v:=v) (v':=v) (x':=x) (Q:=[]) (pV t) (aY P).symm a hx rfl rfl rfl aH,[],rfl,by rw[aY]⟩
 |some p =>
  have b:=Nq ho.pk f;have take (c:v.bZ j=(⟨v.cf,v.now,v.sub,v.bI,eK v.ws j,v.ref,v.app,v.aD⟩,⟨0,0,0⟩)) {R:List aG} (hr:R=[eX x.gg v.ref v.app,own sV x.sA v.bI.length x.sc v.bI,own jS x.nA v.aD.length x.nc x.gs,aT (nP P v.cf (kt t)) (x.gs.zip v.aD),aQ P])
    (law:∀M,G M 59 [pt g,a! j] [aE g 121 (wC x v.now v.bI.length v.cf v.aD.length v.sub),cI x.gw v.ws] (bL (.agg (⟨0,0,0⟩:iX).cs.toArray) [aE g 121 (wC x v.now v.bI.length v.cf v.aD.length v.sub),cI x.gw (eK v.ws j)])) :
    G E 59 [pt g,a! j] ([aE g 121 (wC x v.now v.bI.length v.cf v.aD.length v.sub),cI x.gw v.ws]++R) (zP P g t (v.bZ j)):=by
   rw[c] at a⊢;refine aF.post (aF.beside λM y=>law M) ?_;rintro e s ⟨u,⟨rfl,rfl⟩,rfl⟩;subst hr;dsimp only[k!,l!];exact⟨[dD P g (t+1) ⟨v.cf,v.now,v.sub,v.bI,eK v.ws j,v.ref,v.app,v.aD⟩,aQ P],GI (t:=t) (v:=v) (x':=x) (Q:=[]) (pV t) (aY P).symm a hx rfl rfl rfl aH,[],rfl,by rw[aY]⟩
  cases o:kO p.b with
  |none =>
   grind [Wv.bZ,aPv]
  |some m =>
   by_cases w:p.to=9
   ·have c:v.bZ j=(⟨v.cf,v.now,v.sub,v.bI,(iQ (eK v.ws j) v.ref v.app m).1.1,(iQ (eK v.ws j) v.ref v.app m).1.2.1,(iQ (eK v.ws j) v.ref v.app m).1.2.2,v.aD⟩,⟨0,(iQ (eK v.ws j) v.ref v.app m).2,0⟩):=by grind [Wv.bZ]
    rw[c] at a⊢;refine aF.pre (aB.jQ (l:=[aE g 121 (wC x v.now v.bI.length v.cf v.aD.length v.sub),cI x.gw v.ws,eX x.gg v.ref v.app]) aH) (aF.post (aF.beside λM y=>aQp M g x v.now v.bI.length v.cf v.aD.length v.sub v.ws j p f m o b w v.ref v.app (by have:=ho.app;omega)) ?_);rintro e s ⟨u,⟨rfl,rfl⟩,rfl⟩;dsimp only[k!,l!];exact⟨[dD P g (t+1) ⟨v.cf,v.now,v.sub,v.bI,(iQ (eK v.ws j) v.ref v.app m).1.1,(iQ (eK v.ws j) v.ref v.app m).1.2.1,(iQ (eK v.ws j) v.ref v.app m).1.2.2,v.aD⟩,aQ P],GI (t:=t) (v:=v) (x':=x) (Q:=[]) (pV t) (aY P).symm a hx rfl rfl rfl aH,[],rfl,by rw[aY]⟩
   ·by_cases z:p.to<0
    ·exact take (by grind [Wv.bZ]) rfl (λM=>Vs M g x v.now v.bI.length v.cf v.aD.length v.sub v.ws j p f m o b w ho.fK.2 ho.fK.1 (.inl z))
    ·have r:p.to=(p.to.toNat:Int):=o_;cases q:v.aD[p.to.toNat]? with
     |none =>
      refine take (by grind [Wv.bZ]) rfl (λM=>Vs M g x v.now v.bI.length v.cf v.aD.length v.sub v.ws j p f m o b w ho.fK.2 ho.fK.1 (.inr ?_));grind
     |some n =>
      have⟨h,i⟩:∃h,x.gs[p.to.toNat]?=some h:=⟨_,bS (by grind)⟩
      cases A:n.up with
      |true =>
       have c:v.bZ j=(⟨v.cf,v.now,v.sub,v.bI,(eC (eK v.ws j) n m).1.1,v.ref,v.app,v.aD.set p.to.toNat (eC (eK v.ws j) n m).1.2⟩,(eC (eK v.ws j) n m).2):=by grind [Wv.bZ]
       rw[c] at a⊢;refine aF.pre (AU (k:=kt t) i q (.bJ (.bJ (.bJ (.bJ (.bJ .aR)))))) ?_;refine aF.pre (aB.jQ (l:=[aE g 121 (wC x v.now v.bI.length v.cf v.aD.length v.sub),bA P h v.cf n (kt t),cI x.gw v.ws,aQ P,own jS x.nA v.aD.length x.nc x.gs]) aH) (aF.post (aF.beside λM y=>aQg M P g h x v.now v.bI.length v.cf v.aD.length v.sub n (kt t) v.ws j p f m o b p.to.toNat r ho.fK.2 i A (EB ht)) ?_);rintro e s ⟨u,⟨Q,rfl,rfl⟩,rfl⟩;dsimp only[k!,l!];exact⟨_,zC (t:=t) (v:=v) (pV t) rfl i q (HP (d:=2048) sD) a hx rfl rfl rfl aH,Q,rfl,rfl⟩
      |false =>
       have c:v.bZ j=(⟨v.cf,v.now,v.sub,v.bI,eK v.ws j,v.ref,v.app,v.aD⟩,⟨0,0,0⟩):=by unfold Wv.bZ;rw[f];dsimp only;rw[o];dsimp only;rw[b! w,b! z,q];dsimp only;rw[b! (by grind)]
       rw[c] at a⊢;refine aF.pre (AU (k:=kt t) i q (.bJ (.bJ (.bJ (.bJ (.bJ .aR)))))) ?_;refine aF.pre (aB.jQ (l:=[aE g 121 (wC x v.now v.bI.length v.cf v.aD.length v.sub),bA P h v.cf n (kt t),cI x.gw v.ws,own jS x.nA v.aD.length x.nc x.gs]) aH) (aF.post (aF.beside λM y=>aPb M P g h x v.now v.bI.length v.cf v.aD.length v.sub n (kt t) v.ws j p f m o b p.to.toNat r ho.fK.2 i A) ?_);rintro e s ⟨u,⟨rfl,rfl⟩,rfl⟩;dsimp only[k!,l!];refine⟨[dD P g (t+1) ⟨v.cf,v.now,v.sub,v.bI,eK v.ws j,v.ref,v.app,v.aD⟩,aQ P],zC (t:=t) (v:=v) (Q:=[]) (pV t) (aY P).symm i q (BX (dV _) (Fe (pV t))) a hx ?_ rfl rfl aH,[],rfl,by rw[aY]⟩;grind [CL]
end
def Vu(E:Env)(P:List Ov)(g:Nat)(t:Nat)(v:Wv)(j:t<=1000000)(st:cK)(hc:bQ st.c.n):G E 10 [pt g,.agg st.cs.toArray] [dD P g t v,aQ P] (zP P g t (v.step st)):=by
 refine aF.fp .aR (λx r=>?_);obtain⟨b,c⟩:=r;have fK:=b.fK;have h:=λM hb=>Ei M g x v.now v.bI.length v.cf v.aD.length v.sub hb fK.2;rw[d! o_] at h;have p:=λM e=>DY M e;have same:∀ {M:Env} {H R:List aG},fJ (wL P g (kt t) v x) H R->aB M H (dD P g (t+1) v::R):=λhp=>GI (t:=t) (v:=v) (v':=v) (x':=x) (Q:=[]) (pV t) (aY P).symm b.same c rfl rfl rfl hp;unfold Wv.step;by_cases f:st.check=0
 case neg =>
  rw[c! f];have dH:=λM=>Uj M st;generalize st.check=X at *;dsimp only[wL,k!,l!] at same⊢;refine t_ func10 ntmps10 ?_;repeat first|refine v_ ?_|intro
  refine cV h ?_;repeat first|refine v_ ?_|intro
  refine aP dH ?_;repeat first|refine v_ ?_|intro
  refine aP (λM=>p M X) ?_;repeat first|refine v_ ?_|intro
  exact eP (H':=[dD P g (t+1) v,aQ P]) rfl aJ rfl rfl rfl aV rfl (aB.trans (same aH) aC) ⟨[],rfl,by rw[aY]⟩
 obtain⟨⟨k1,SC⟩,⟨⟨r0,O⟩,_⟩,⟨_,n0,n1⟩,_⟩:=cK.jZ f;have dH:=λM=>Uj M st;rw[f] at dH;rw[b! (by rw[f];decide)];have hr:st.r=(st.r.toNat:Int):=o_;cases k:v.aD[st.r.toNat]? with
 |none =>
  have:=CY.1 k;have d:=λM hb=>O5 M g x v.now v.bI.length v.cf v.aD.length v.sub st.r hb fK.2 fK.1 (.inr o_);dsimp only[wL,k!,l!] at same⊢;refine t_ func10 ntmps10 ?_;repeat first|refine v_ ?_|intro
  refine cV h ?_;repeat first|refine v_ ?_|intro
  refine aP dH ?_;repeat first|refine v_ ?_|intro
  refine cV d ?_;repeat first|refine v_ ?_|intro
  refine aP (λM=>p M 4) ?_;repeat first|refine v_ ?_|intro
  exact eP (H':=[dD P g (t+1) v,aQ P]) rfl aJ rfl rfl rfl aV rfl (aB.trans (same aH) aC) ⟨[],rfl,by rw[aY]⟩
 |some n =>
  obtain⟨q,l⟩:∃q,x.gs[st.r.toNat]?=some q:=⟨_,bS (by have:=(cH.1 k).1;omega)⟩;have d:=λM hb hG=>Eh M g x v.now v.bI.length v.cf v.aD.length v.sub st.r.toNat q hb fK.2 hG l;rw[<-hr] at d;show G E _ _ _ (zP P g t (v.wP st.r.toNat n st));generalize st.r.toNat=i at *;have m:bQ st.n:=by unfold bQ;omega
  have U:=λM=>aBs M (P:=P) (g:=g) b c j l k st.c hc;have W:=λM=>aMy M (P:=P) (g:=g) b c j l k;have s:=λM=>aSe M (P:=P) (g:=g) b c j l k st;have u:=λM=>aEc M (P:=P) (g:=g) b c j st.n;have N:=λM=>aJt M (P:=P) (g:=g) b c j l k st.r;have tk:=λM=>aOm M (P:=P) (g:=g) b c j st.n;have w:=λM=>aEr M (P:=P) (g:=g) b c j st.i;have o:=λM=>aBk M (P:=P) (g:=g) b c j st m;have K:=λM=>aGn M (P:=P) (g:=g) b c j l k st ⟨n0,n1⟩;clear same;dsimp only[wL,k!,l!] at U W s u N tk w o K⊢;refine t_ func10 ntmps10 ?_;repeat first|refine v_ ?_|intro
  refine cV h ?_;repeat first|refine v_ ?_|intro
  refine aP dH ?_;repeat first|refine v_ ?_|intro
  refine oE d ?_;unfold Wv.wP;by_cases y:st.kind=1
  ·rw[c! y];repeat first|refine v_ ?_|intro
   refine aU U ?_;rintro e a ⟨Q,rfl,rfl⟩;repeat first|refine v_ ?_|intro
   exact eP rfl aJ rfl rfl rfl aV rfl aC (⟨Q,rfl,rfl⟩)
  rw[b! y];by_cases z:st.kind=2
  ·rw[c! z];repeat first|refine v_ ?_|intro
   refine aP W ?_;repeat first|refine v_ ?_|intro
   refine aP (λM=>p M n.sync.2) ?_;repeat first|refine v_ ?_|intro
   exact eP (H':=[dD P g (t+1) (v.yX i n.sync.1),aQ P]) rfl aJ rfl rfl rfl aV rfl aC ⟨[],rfl,by rw[aY]⟩
  rw[b! z];by_cases A:st.kind=3
  ·rw[c! A];repeat first|refine v_ ?_|intro
   refine aU s ?_;rintro e a ⟨Q,rfl,rfl⟩;repeat first|refine v_ ?_|intro
   exact eP rfl aJ rfl rfl rfl aV rfl aC (⟨Q,rfl,rfl⟩)
  rw[b! A];by_cases B:st.kind=4
  ·rw[c! B];repeat first|refine v_ ?_|intro
   refine aU u ?_;rintro e a ⟨Q,rfl,rfl⟩;repeat first|refine v_ ?_|intro
   exact eP rfl aJ rfl rfl rfl aV rfl aC (⟨Q,rfl,rfl⟩)
  rw[b! B];by_cases D:st.kind=5
  ·rw[c! D];repeat first|refine v_ ?_|intro
   refine aU N ?_;rintro e a ⟨Q,rfl,rfl⟩;repeat first|refine v_ ?_|intro
   exact eP rfl aJ rfl rfl rfl aV rfl aC (⟨Q,rfl,rfl⟩)
  rw[b! D];by_cases F:st.kind=6
  ·rw[c! F];repeat first|refine v_ ?_|intro
   refine aU tk ?_;rintro e a ⟨Q,rfl,rfl⟩;repeat first|refine v_ ?_|intro
   exact eP rfl aJ rfl rfl rfl aV rfl aC (⟨Q,rfl,rfl⟩)
  rw[b! F];by_cases J:st.kind=7
  ·rw[c! J];repeat first|refine v_ ?_|intro
   refine aU w ?_;rintro e a ⟨Q,rfl,rfl⟩;repeat first|refine v_ ?_|intro
   exact eP rfl aJ rfl rfl rfl aV rfl aC (⟨Q,rfl,rfl⟩)
  rw[b! J];by_cases h8:st.kind=8
  ·rw[c! (show 8<=st.kind/\st.kind<=10 by omega)];repeat first|refine v_ ?_|intro
   refine aU o ?_;rintro e a ⟨Q,rfl,rfl⟩;repeat first|refine v_ ?_|intro
   exact eP rfl aJ rfl rfl rfl aV rfl aC (⟨Q,rfl,rfl⟩)
  by_cases h9:st.kind=9
  ·rw[c! (show 8<=st.kind/\st.kind<=10 by omega)];repeat first|refine v_ ?_|intro
   refine aU o ?_;rintro e a ⟨Q,rfl,rfl⟩;repeat first|refine v_ ?_|intro
   exact eP rfl aJ rfl rfl rfl aV rfl aC (⟨Q,rfl,rfl⟩)
  by_cases Z:st.kind=10
  ·rw[c! (show 8<=st.kind/\st.kind<=10 by omega)];repeat first|refine v_ ?_|intro
   refine aU o ?_;rintro e a ⟨Q,rfl,rfl⟩;repeat first|refine v_ ?_|intro
   exact eP rfl aJ rfl rfl rfl aV rfl aC (⟨Q,rfl,rfl⟩)
  rw[b! (show ¬(8<=st.kind/\st.kind<=10) by omega)];repeat first|refine v_ ?_|intro
  refine aU K ?_;rintro e a ⟨Q,rfl,rfl⟩;repeat first|refine v_ ?_|intro
  exact eP rfl aJ rfl rfl rfl aV rfl aC (⟨Q,rfl,rfl⟩)
def LF{E:Env}{P:List Ov}{g:Nat}{v:Wv}{x:lX}{H:List aG}(a:v.ok t)(c:x.gs.length=v.aD.length)(b:fJ (wL P g (kt t) v x) H R):aB E H (dD P g t v::R):=aB.fp (l:=wL P g (kt t) v) (x:=x) ⟨a,c⟩ b
section
variable (E:Env) (P:List Ov) (g:Nat) (t:Nat) (v:Wv)
def Eg{f:FuncId}{args:Array p!}{Q:Ending->List aG->Prop}(h:∀x:lX,v.ok t->x.gs.length=v.aD.length->aF prog E f args ([aE g 121 (wC x v.now v.bI.length v.cf v.aD.length v.sub),cI x.gw v.ws,eX x.gg v.ref v.app,own sV x.sA v.bI.length x.sc v.bI,own jS x.nA v.aD.length x.nc x.gs,aT (nP P v.cf (kt t)) (x.gs.zip v.aD)]++R) Q):aF prog E f args (dD P g t v::R) Q :=
 aF.fp .aR λx a=>h x a.1 a.2
def IU:G E 66 [pt g] [dD P g t v] (bL (.agg v.cf.cs.toArray) [dD P g t v]):=by
 refine Eg E P g t v λx b c=>?_;have fK:=b.fK;have a:=λM hb=>Ei M g x v.now v.bI.length v.cf v.aD.length v.sub hb fK.2;rw[d! o_] at a;dsimp only[k!,l!];refine p_ func66 ntmps66 ?_;intros
 refine z_ a ?_
 exact eP (H':=[dD P g t v]) (cs:=v.cf.cs) rfl aJ rfl rfl rfl aV rfl (aB.trans (LF (x:=x) b c aH) aC) ⟨rfl,rfl⟩
def aCz:G E 104 [pt g] [dD P g t v] (bL (a! v.now) [dD P g t v]):=by
 refine Eg E P g t v λx b c=>?_;have fK:=b.fK;have a:=λM hb=>Ei M g x v.now v.bI.length v.cf v.aD.length v.sub hb fK.2;rw[d! o_] at a;dsimp only[k!,l!];refine p_ func104 ntmps104 ?_
 refine z_ a ?_
 exact aX (H':=[dD P g t v]) rfl aJ (aB.trans (LF (x:=x) b c aH) aC) ⟨rfl,rfl⟩
def Vv:G E 26 [pt g] [dD P g t v] λe c=>∃a,e=.returned (pt a)/\c=[cI a v.ws,dD P g t v]:=by
 refine Eg E P g t v λx d f=>?_;have fK:=d.fK;have b:=λM hb=>Ei M g x v.now v.bI.length v.cf v.aD.length v.sub hb fK.2;rw[d! o_] at b;dsimp only[k!,l!];refine p_ func26 ntmps26 ?_
 refine z_ b ?_
 refine u_ (λM=>aMz M x.gw v.ws) ?_;intro a
 exact aX (H':=[cI a v.ws,dD P g t v]) rfl aJ (aB.trans (LF (x:=x) d f aH) aC) ⟨a,rfl,rfl⟩
def LG(i:t<=1000000):G E 21 [pt g] [dD P g t v] λe d=>∃a,e=.returned (pt a)/\d=[eX a v.ref v.app,dD P g t v]:=by
 refine Eg E P g t v λx c f=>?_;have fK:=c.fK;have h:=c.app;have b:=λM hb=>Ei M g x v.now v.bI.length v.cf v.aD.length v.sub hb fK.2;rw[d! o_] at b;dsimp only[k!,l!];refine p_ func21 ntmps21 ?_
 refine z_ b ?_
 refine u_ (λM=>j6 M x.gg v.ref v.app o_) ?_;intro a
 exact aX (H':=[eX a v.ref v.app,dD P g t v]) rfl aJ (aB.trans (LF (x:=x) c f aH) aC) ⟨a,rfl,rfl⟩
def aIl(r:Nat)(n:Nd)(c:v.aD[r]?=some n):G E 78 [pt g,a! r] [dD P g t v] (bL (.bool n.up) [dD P g t v]):=by
 refine Eg E P g t v λx f i=>?_;have fK:=f.fK;have⟨a,e⟩:∃a,x.gs[r]?=some a:=⟨_,bS (by have:=(cH.1 c).1;omega)⟩
 have d:=λM hb h=>Eh M g x v.now v.bI.length v.cf v.aD.length v.sub r a hb fK.2 h e;dsimp only[k!,l!];refine aF.pre (AU (k:=kt t) e c (.bJ (.bJ (.bJ (.bJ (.bJ .aR)))))) ?_;have up:=λM=>CB M P a v.cf n (kt t);generalize n.up=b at up⊢;refine p_ func78 ntmps78 ?_
 refine F_ d ?_
 refine r_ up ?_
 exact aX (H':=[dD P g t v]) rfl aJ (zC (t:=t) (v:=v) (v':=v) (x':=x) (Q:=[]) (bM t) (aY P).symm e c (dV _) f i (CL c).symm rfl rfl aH) ⟨rfl,rfl⟩
end
def wt(p:bX):Nat:=match kO p.b with
 |none=>1
 |some m=>if p.to=9\/m.kind=1 then 2 else 1
def iD(ws:List bX):Nat:=(ws.map wt).sum
theorem LJ(p:bX):1<=wt p/\wt p<=2:=by
 grind [wt]
theorem aEl(ws:List bX):iD ws<=2*ws.length:=by
 induction ws with
 |nil=>exact bM _
 |cons p ws a =>
  grind [iD,wt,LJ]
theorem aRk(ws:List bX)(p:bX):iD (ws++[p])=iD ws+wt p:=by grind [iD]
theorem Y1{b:Mg}(h:m.check=0)(f:b.check=0)(e:m.enc=b.enc):m.kind=b.kind:=by
 have k:=Mg.size h;have l:=Mg.size f;have a:=Frm.HF (t:=[]) k.1 o_;have d:=Frm.HF (t:=[]) l.1 o_;rw[aY] at a d;have g:Frm.fr m.body=Frm.fr b.body:=e;rw[g,d] at a;injection a with a
 injection a with a _
 have k1:=(Mg.jZ h).1;have k2:=(Mg.jZ f).1;have c:m.body[0]?=some (UInt8.ofNat m.kind.toNat):=by grind [Mg.body,cX,be]
 have i:b.body[0]?=some (UInt8.ofNat b.kind.toNat):=by grind [Mg.body,cX,be]
 rw[<-a,i] at c;injection c with c
 have j:=j! UInt8.toNat c;simp only[FG] at j;omega
theorem aNn{ws:List bX}(b:m.kind≠1)(c:m.check=0->m.to≠9):iD (jJ ws m).1<=iD ws+1:=by
 unfold jJ;by_cases a:m.check=0
 ·rw[b! (by grind)];show iD (tB ws ⟨m.to,m.enc,false⟩).1<=_;unfold tB;split
  ·grind
  ·grind [iD,aRk,wt,AE,Y1]
 ·grind
theorem WY(h:(tM m).check=0):(tM m).to≠9:=by
 have a:=(Mg.jZ h).2.1
 grind [Mg.xD,tM,nG]
theorem Wl(s:Sv)(m:Mg):(rM s m).kind≠1:=by
 unfold rM;split
 ·exact(show(2:Int)≠1 by decide)
 ·exact(show(0:Int)≠1 by decide)
theorem Wm{s:Sv}(h:(rM s m).check=0):(rM s m).to≠9:=by
 have a:=(Mg.jZ h).1;have b:=(Mg.jZ h).2.1;have c:(rM s m).kind≠3/\(rM s m).kind≠4:=by
  unfold rM;split
  ·exact⟨(show(2:Int)≠3 by decide),(show(2:Int)≠4 by decide)⟩
  ·exact⟨(show(0:Int)≠3 by decide),(show(0:Int)≠4 by decide)⟩
 grind [Mg.xD,nG]
theorem O9{v:Wv}{p:bX}{ws:List bX}(h:v.ws=p::ws):iD (v.bZ 0).1.ws<iD v.ws:=by
 have c:jI v.ws 0=some p:=by rw[h];rfl
 have a:eK v.ws 0=ws:=by rw[h];rfl
 have b:iD v.ws=wt p+iD ws:=by rw[h];rfl
 grind (splits:=20) [LJ,Wv.bZ,kO,iD,wt,iQ,aNn,tM,WY,jJ,eC,rM,Wl,Wm]
noncomputable def Wv.run(v:Wv)(l:List cK):Wv:=l.foldl (λv st=>(v.step st).1) v
structure Dv where
 w:Wv
 short:Bool
noncomputable def Dv.dB(d:Dv)(st:cK):Dv:=⟨(d.w.step st).1,d.short||(!decide (st.kind=15)&&decide ((d.w.step st).2.code=10))⟩
noncomputable def Dv.oH(d:Dv)(l:List cK):Dv:=l.foldl Dv.dB d
noncomputable def yD(f:Nat->List cK):Nat->Nat->Dv->Dv
 |_,0,d=>d
 |r,k+1,d=>yD f (r+1) k (d.oH (f r))
noncomputable def Dv.all(d:Dv)(i:Nat)(f:Nat->List cK):Dv:=yD f i (d.w.aD.length - i) d
def bP(a r i n:Int):cK:=⟨a,r,i,n,mG⟩
noncomputable def pJ:Nat->Dv->Nat->Dv×Nat
 |0,d,n=>(d,n)
 |k+1,d,n=>match d.w.ws with
  | []=>(d,n)
  |_::_=>pJ k (d.dB (bP 7 0 0 0)) (n+1)
noncomputable def Dv.bZ(d:Dv):Dv:=(pJ (iD d.w.ws) d 0).1
def eV(a:Int)(r:Nat):List cK:=[bP a r 0 0]
def tY(r:Nat):List cK:=[bP 3 r 0 0]
def xE(r:Nat):List cK:=[bP 3 r 0 0,bP 3 0 r 0]
noncomputable def Wv.round(v:Wv):Dv :=
 (((((((((Dv.mk v false).bZ.all 0 (eV 15)).all 1 xE).bZ).dB (bP 4 0 0 16)).all 1 tY).bZ).all 0 (eV 5)).bZ).dB (bP 6 0 0 v.cf.cap)
noncomputable def Wv.state(v:Wv)(r:Nat):Sv:=match v.aD[r]? with
 |some n=>n.state
 |none=>xI 0
def Wv.up(v:Wv)(r:Nat):Bool:=match v.aD[r]? with
 |some n=>n.up
 |none=>false
noncomputable def AM(v:Wv):Nat->Nat->Bool
 |_,0=>true
 |r,k+1=>if v.up r/\(v.state r).quiet=true/\(v.state r).v.l=(v.state 0).v.l then AM v (r+1) k else false
noncomputable def Wv.quiet(v:Wv):Bool:=match v.ws with
 | []=>AM v 0 v.aD.length
 |_::_=>false
noncomputable def vM:Nat->Wv->Bool->Nat->Wv×Nat×Bool
 |0,v,a,n=>(v,n,a)
 |k+1,v,a,n=>if v.quiet then(v,n,a) else vM k v.round.w (v.round.short||a) (n+1)
noncomputable def Wv.start(v:Wv):Wv:=((((Dv.mk v false).dB (bP 11 0 0 0)).all 0 (eV 14)).all 0 (eV 13)).w
noncomputable def Wv.fair(v:Wv)(k:Nat):Wv×Nat×Bool:=vM k v.start false 0
theorem Yg(v:Wv)(i:Int):(v.bZ i).1.cf=v.cf/\(v.bZ i).1.aD.length=v.aD.length:=by
 grind [Wv.bZ]
theorem YQ(v:Wv)(i:Int):(v.uM i).1.cf=v.cf/\(v.uM i).1.aD.length=v.aD.length:=by
 grind [Wv.uM]
theorem Oa(v:Wv)(st:cK):(v.step st).1.cf=v.cf/\(v.step st).1.aD.length=v.aD.length:=by
 unfold Wv.step;split
 ·grind
 split;all_goals grind [Wv.wP,List.length_set,YQ,Yg]
def zV(d:Dv)(st:cK):(d.dB st).w.cf=d.w.cf/\(d.dB st).w.aD.length=d.w.aD.length:=Oa d.w st
def G8:∀(l:List cK) (d:Dv),(d.oH l).w.cf=d.w.cf/\(d.oH l).w.aD.length=d.w.aD.length
 | [],_=>⟨rfl,rfl⟩
 |st::l,d=>⟨(G8 l (d.dB st)).1.trans (zV d st).1,(G8 l (d.dB st)).2.trans (zV d st).2⟩
def MV(f:Nat->List cK):∀(k r:Nat) (d:Dv),(yD f r k d).w.cf=d.w.cf/\(yD f r k d).w.aD.length=d.w.aD.length
 |0,_,_=>⟨rfl,rfl⟩
 |k+1,r,d=>⟨(MV f k (r+1) _).1.trans (G8 _ d).1,(MV f k (r+1) _).2.trans (G8 _ d).2⟩
def zQ(d:Dv)(i:Nat)(f:Nat->List cK):(d.all i f).w.cf=d.w.cf/\(d.all i f).w.aD.length=d.w.aD.length:=MV f _ _ d
theorem MX:∀(k:Nat) (d:Dv) (n:Nat),(pJ k d n).1.w.cf=d.w.cf/\(pJ k d n).1.w.aD.length=d.w.aD.length
 |0,_,_=>⟨rfl,rfl⟩
 |k+1,d,n=>by
  unfold pJ;split
  ·grind
  ·exact⟨(MX k _ _).1.trans (zV d _).1,(MX k _ _).2.trans (zV d _).2⟩
def Ct(d:Dv):d.bZ.w.cf=d.w.cf/\d.bZ.w.aD.length=d.w.aD.length:=MX _ d 0
def pB(N k:Nat):List Nd:=(List.range k).map λ(r:Nat)=>Nd.new (r:Int) N
def aBg(N k:Nat):pB N (k+1)=pB N k++[Nd.new k N]:=by unfold pB;rw[List.range_succ,gP];rfl
def KC(N k:Nat):(pB N k).length=k:=by unfold pB;rw[fB,Ll]
abbrev Wv.new(cf:bW):Wv:=⟨cf,0,0,[],[],0,[],pB cf.nI.toNat cf.eD.toNat⟩
def Wv.aAk{cf:bW}(h:cf.dI):(Wv.new cf).ok 1 :=
 ⟨h,by show((pB _ _).length:Int)=cf.eD;rw[KC];have:=h.1;omega,⟨dV _,by show(0:Int)<=_;omega⟩,⟨dV _,by show(0:Int)<=_;omega⟩,bY _,bY _,⟨λp a=>(cZ a).elim,bY _⟩⟩
section
variable (E:Env) (P:List Ov)
def aFi(cf:bW)(a:¬cf.dI):G E 8 [.agg cf.cs.toArray] [] (bL (.tuple #[.pointer none,a! 6]) []):=by
 have dH:=λM=>Vq M cf;rw[b! a] at dH;refine p_ func8 ntmps8 ?_;intros
 refine r_ dH ?_
 exact mZ
def aNq(cf:bW)(w:cf.dI):G E 8 [.agg cf.cs.toArray] [aQ P] λe u=>∃Q g,e=.returned (.tuple #[pt g,a! 0])/\u=[dD (P++Q) g 1 (Wv.new cf),aQ (P++Q)]:=by
 have dH:=λM=>Vq M cf;rw[c! w] at dH;have⟨hr,hs,_⟩:=w;have Z:cf.nI=(cf.nI.toNat:Int):=o_;have v:cf.eD=(cf.eD.toNat:Int):=o_;have mk:∀ {M:Env} {H R:List aG} {Q:List Ov} {g:Nat} {x:lX},x.gs.length=cf.eD.toNat->fJ [aE g 121 (wC x 0 0 cf cf.eD.toNat 0),cI x.gw [],eX x.gg 0 [],own sV x.sA 0 x.sc [],own jS x.nA cf.eD.toNat x.nc x.gs,aT (nP (P++Q) cf 2048) (x.gs.zip (pB cf.nI.toNat cf.eD.toNat))] H R->aB M H (dD (P++Q) g 1 (Wv.new cf)::R):=by
  intro M H R Q g x hx hp;have z:=KC cf.nI.toNat cf.eD.toNat;have q:fJ ([aE g 121 (wC x 0 ([]:List nO).length cf (pB cf.nI.toNat cf.eD.toNat).length 0),cI x.gw [],eX x.gg 0 [],own sV x.sA ([]:List nO).length x.sc [],own jS x.nA (pB cf.nI.toNat cf.eD.toNat).length x.nc x.gs,aT (nP (P++Q) cf 2048) (x.gs.zip (pB cf.nI.toNat cf.eD.toNat))]) H R:=by rw[z];exact hp
  have k:=aB.imp (E:=M) aZ.refl q;dsimp only[k!,l!] at k;refine k.trans (aB.trans (aB.imp (A:=[aT (nP (P++Q) cf 2048) (x.gs.zip (pB cf.nI.toNat cf.eD.toNat))]) (B:=[aT (nP (P++Q) cf (kt 1)) (x.gs.zip (pB cf.nI.toNat cf.eD.toNat))]) (aZ.HA (λz=>bA.wZ sD)) aH) ?_);dsimp only[k!,l!];exact aB.fp (l:=wL (P++Q) g (kt 1) (Wv.new cf)) (x:=x) ⟨Wv.aAk ⟨hr,hs,‹_›⟩,by show x.gs.length=(pB _ _).length;rw[z];exact hx⟩ aH
 have nw:=λM O r s=>aGc M O (cf:=cf) r cf.nI.toNat s Z o_ o_;generalize cf.nI.toNat=N at *;have⟨n,hn⟩:∃n,cf.eD.toNat=n:=⟨_,rfl⟩
 rw[hn] at v mk;refine p_ func8 ntmps8 ?_;intros;refine r_ dH ?_;intros;rename_i d gw a c;have U:aB E [aE c 121 (wC ⟨gw,a,none,0,none,0,[]⟩ 0 0 cf 0 0),aE a 116 [.map none,.slice none 0 0,a! 0],aE gw 113 [.slice none 0 0],aE d 23 cf.cs,aQ P]
   [aE d 23 cf.cs,aE c 121 (wC ⟨gw,a,none,0,none,0,[]⟩ 0 0 cf 0 0),cI gw [],eX a 0 [],own sV none 0 0 [],own jS none 0 0 [],aT (nP (P++[]) cf 2048) [],aQ (P++[])]:=by
  have W:=cI.mk (E:=E) (R:=[aE c 121 (wC ⟨gw,a,none,0,none,0,[]⟩ 0 0 cf 0 0),aE a 116 [.map none,.slice none 0 0,a! 0],aE d 23 cf.cs,aQ P]) (g:=gw) (x:=⟨none,0,[]⟩) (ws:=[]) ⟨rfl,(λ_ h=>(cZ h).elim),by decide,by decide⟩;have k:=aB.trans (aB.trans (aB.trans (aB.nil iJ) (aB.pK oY)) (aB.cC (l:=wB gw ⟨none,0,[]⟩++[aE c 121 (wC ⟨gw,a,none,0,none,0,[]⟩ 0 0 cf 0 0),aE a 116 [.map none,.slice none 0 0,a! 0],aE d 23 cf.cs,aQ P]) (H:=[aT oY [],own iJ none 0 0 [],aE c 121 (wC ⟨gw,a,none,0,none,0,[]⟩ 0 0 cf 0 0),aE a 116 [.map none,.slice none 0 0,a! 0],aE gw 113 [.slice none 0 0],aE d 23 cf.cs,aQ P]) (by dsimp only[wB,wr,k!,l!,List.length_nil];exact aH))) W;have X:=eX.mk (E:=E) (R:=[cI gw [],aE c 121 (wC ⟨gw,a,none,0,none,0,[]⟩ 0 0 cf 0 0),aE d 23 cf.cs,aQ P]) (g:=a) (x:=⟨none,none,0⟩) (r:=0) (l:=[]) ⟨rfl,by decide,λ_=>rfl,by decide⟩;have p:=aB.trans (aB.trans (aB.trans k (aB.trans (aB.nil cF) aB.S6)) (aB.cC (l:=[aE a 116 [.map none,.slice none 0 0,a! 0],pN none [],own cF none 0 0 [],cI gw [],aE c 121 (wC ⟨gw,a,none,0,none,0,[]⟩ 0 0 cf 0 0),aE d 23 cf.cs,aQ P]) aH)) X;rw[aY];exact aB.trans (aB.trans p (aB.trans (aB.nil sV) (aB.trans (aB.nil jS) (aB.pK (nP P cf 2048))))) aC
 refine C.scan (Y:=List Ov×n!×Nat×List Nat) (l:=List.range n) (n:=n) Ll.symm (λi _=>[(1,pt d),(5,pt c),(21,a! n),(22,a! i)])
  (λi y=>[aE d 23 cf.cs,aE c 121 (wC ⟨gw,a,none,0,y.2.1,y.2.2.1,y.2.2.2⟩ 0 0 cf i 0),cI gw [],eX a 0 [],own sV none 0 0 [],own jS y.2.1 i y.2.2.1 y.2.2.2,aT (nP (P++y.1) cf 2048) (y.2.2.2.zip (pB N i)),aQ (P++y.1)]) (λi y=>y.2.2.2.length=i) ([],none,0,[]) (by rw[<-v];exact aK) U rfl ?_ ?_
 ·rintro i ⟨Q,D,J,gs⟩ r F hi j b;obtain rfl:i=r:=by rw[List.getElem?_range hi] at j;injection j
  dsimp only at b⊢;have t:=λM=>nw M (P++Q) i o_;refine a_ ?_
  refine C.fL 12 (l_ [0,1,2,3,4,5,6] (g_ 7 (g_ 8 (g_ 9 (l_ [10,11] (g_ 12 .nil)))))) ([aE d 23 _,aE c 121 _]) q_ q_ aC (a_ ?_);refine B_ t ?_;intro o m;intros;rename_i K p a8 a9;have hz:(gs++[m]).zip (pB N (i+1))=gs.zip (pB N i)++[(m,Nd.new i N)]:=by rw[aBg,List.zip_append (by rw[b,KC])];rfl
  refine⟨(Q++o,K,p,gs++[m]),aK,?_,by simp[b]⟩;dsimp only;rw[hz,<-bF];refine aB.trans (aB.imp (A:=[aT (nP (P++Q) cf 2048) (gs.zip (pB N i))]) (B:=[aT (nP (P++Q++o) cf 2048) (gs.zip (pB N i))]) (aZ.HA (λz=>bA.mono (dV _))) aH) ?_;dsimp only[k!,l!];exact aB.trans (aB.push (f:=nP (P++Q++o) cf 2048) (x:=(m,Nd.new i N)) aH) aC
 ·rintro⟨Q,D,J,gs⟩ F b;dsimp only at b⊢;refine a_ ?_;exact uX (H':=[dD (P++Q) c 1 (Wv.new cf),aQ (P++Q)]) rfl aJ aJ (aB.trans (mk (x:=⟨gw,a,none,0,D,J,gs⟩) b aH) aC) ⟨Q,c,rfl,rfl⟩
end
end
section
theorem MS{s:Sv}{c:aI}(h:(s.doc (.cB c)).2≠0):(s.doc (.cB c)).1=s:=by
 rw[show s.doc (.cB c)=s.dB c from rfl] at h⊢;unfold Sv.dB at h⊢;by_cases d:c.may=true
 ·rw[c! d] at h⊢;rcases Ff s.v c with⟨a,b⟩|⟨a,_⟩
  ·dsimp only;rw[b! a,b]
  ·grind
 ·grind
theorem Qo{s:Sv}{a:aL}(h:(s.doc (.cD a)).2=0):∃c,c.id=a/\(s.doc (.cD a)).1.v.l=s.v.l++[c]:=by
 rw[show s.doc (.cD a)=s.nS a from rfl] at h⊢;unfold Sv.nS at h⊢;by_cases f:a.may=true
 ·rw[c! f] at h⊢;rcases HQ s.v a with⟨b,g⟩|⟨b,p,c,q,j,d,k,e⟩
  ·grind
  ·refine⟨c,d,?_⟩;dsimp only;rw[c! b];show(pM s.v a).1.l=_;rw[e]
 ·grind
theorem Qn{s:Sv}(a:Gd s)(c:aI):(s.doc (.cB c)).1.v.l=s.v.l:=by
 grind [JN]
def Pg(c:aI):oA A (.cB c):=⟨(λk h=>by cases h),λk t h=>by cases h⟩
def Ph(c:aL):oA A (.cD c):=⟨(λk h=>by cases h),λk t h=>by cases h⟩
def Lz(c:bV):oA A (.fH c A.now):=⟨(λk h=>by cases h),λk t h=>by injection h with _ h;omega⟩
section
variable {A:dT} {aD:List Nd} {i:Nat}
theorem Om:∀ {l:List aI} {s:Sv} {out:List Rc},(∀c∈l,c.ok/\Kn aD c)->Gd s->∃new,(l.foldl (λz c=>fP z (.cB c)) (s,out)).2=out++new /\
  (∀tail,xN A aD i (l.foldl (λz c=>fP z (.cB c)) (s,out)).1 tail->xN A aD i s (new++tail))/\(l.foldl (λz c=>fP z (.cB c)) (s,out)).1.v.l=s.v.l/\Gd (l.foldl (λz c=>fP z (.cB c)) (s,out)).1
 | [],s,out,_,hs=>⟨[],s_,λ_ h=>h,rfl,hs⟩
 |c::l,s,out,hl,hs=>by
  have⟨hc,hk⟩:=hl c jW;have hl2:=λd hd=>hl d (kF c hd);rw[CX];by_cases hz:(s.doc (.cB c)).2=0
  ·have e:fP (s,out) (.cB c)=((s.doc (.cB c)).1,out++[.cB c]):=by grind [fP]
   rw[e];have⟨new,h1,h2,h3,h4⟩:=Om (l:=l) (s:=(s.doc (.cB c)).1) (out:=out++[.cB c]) hl2 (hs.doc (x:=.cB c) hc);refine⟨.cB c::new,by rw[h1];simp,λtail ht=>⟨⟨hc,Pg c⟩,λ_=>⟨hk,h2 tail ht⟩⟩,h3.trans (Qn hs c),h4⟩
  ·have e:fP (s,out) (.cB c)=(s,out):=by grind [fP,MS]
   rw[e];exact Om hl2 hs
theorem Qc:∀ {ids:List aL} {s:Sv} {out:List Rc},(i=0\/s.v.l.map aI.id++ids <+: (D0 aD).map aI.id)->∃cs,comms s out ids=out++cs/\xN A aD i s cs
 | [],s,out,_=>⟨[],by unfold comms;simp,trivial⟩
 |a::ids,s,out,h=>by
  unfold comms;by_cases d:(s.doc (.cD a)).2=0
  ·rw[c! d];have⟨c,b,g⟩:=Qo d;have⟨cs,e,f⟩:=Qc (ids:=ids) (s:=(s.doc (.cD a)).1) (out:=out++[.cD a]) (h.imp id λh=>by
    rw[g,gP,bF];rw[<-b] at h;exact h)
   refine⟨.cD a::cs,by rw[e];simp,⟨trivial,Ph a⟩,λ_=>⟨h.imp id λh=>?_,f⟩⟩
   grind [List.IsPrefix.trans,List.append_cons,bs,List.prefix_append]
  ·rw[b! d];exact⟨[],s_,trivial⟩
theorem aAp(h:NI A aD){n:Nd}(r:aD[i]?=some n)(u:n.up=true)(q:yQ A aD m)(g:m.ok):xN A aD i n.s (gS n.s m):=by
 unfold gS;by_cases b:m.check=0/\m.kind=2/\m.to=n.s.r
 ·rw[c! b];have⟨E,F,H,v,J⟩:=Mg.D4 b.1 b.2.1;have⟨_,j,_,_,_,_⟩:=h.gd r;rw[jH u] at j;have⟨new,f,k,o,w⟩:=Om (A:=A) (aD:=aD) (i:=i) (l:=m.cL) (s:=n.s) (out:=[]) (λc a=>⟨EE (qR.1 v c a) (g.1 c a),q.cL c a⟩) j;have e:tryAll n.s m.cL=m.cL.foldl (λz c=>fP z (.cB c)) (n.s,[]):=rfl;rw[<-e] at f k o w;rw[jD] at f;split
  ·rw[f];have:=k [] trivial;grind
  ·rename_i hb;have⟨cs,B,D⟩:=Qc (A:=A) (aD:=aD) (i:=i) (ids:=m.ids.drop (min ((tryAll n.s m.cL).1.v.l.length - m.base.toNat) m.ids.length)) (s:=(tryAll n.s m.cL).1) (out:=(tryAll n.s m.cL).2) (by
    by_cases p:i=0
    ·exact .inl p
    refine .inr ?_;rw[o] at hb⊢;have cD:=h.cD i n r p;rw[jH u] at cD;have d:=q.ids b.2.1;have⟨t,K⟩:=cD;have x:(D0 aD).map aI.id=n.s.v.l.map aI.id++((D0 aD).drop n.s.v.l.length).map aI.id:=by
     grind
    rw[x];refine(List.prefix_append_right_inj _).2 ?_;by_cases y:n.s.v.l.length - m.base.toNat<=m.ids.length
    ·rw[nM y];have:=KT d (n.s.v.l.length - m.base.toNat);rw[<-List.map_drop,pU,show m.base.toNat+(n.s.v.l.length - m.base.toNat)=n.s.v.l.length by omega] at this;exact this
    ·rw[E9 o_,uF];exact Ln)
   grind
 ·rw[b! b];trivial
structure Pk(A:dT)(aD:List Nd)(p:bX):Prop where
 a:p.broken=false->∃m:Mg,m.check=0/\p.b=m.enc
 b:∀m,kO p.b=some m->yQ A aD m/\p.to=m.to
def jY(A:dT)(aD:List Nd)(ws:List bX):Prop:=∀p∈ws,Pk A aD p
def jY.le{a b:List Nd}(h:Le A a b){ws:List bX}(d:jY A a ws):jY A b ws:=λp c=>⟨(d p c).a,λm e=>⟨((d p c).b m e).1.mono h,((d p c).b m e).2⟩⟩
theorem jY.put{ws:List bX}(h:jY A aD ws){p:bX}(b:Pk A aD p):jY A aD (tB ws p).1:=by
 unfold tB;split
 ·exact h
 ·intro q a;rcases eL.1 a with a|a
  ·exact h q a
  ·grind
theorem jY.post{ws:List bX}(h:jY A aD ws)(b:m.check=0->m.ok/\yQ A aD m):jY A aD (jJ ws m).1:=by
 unfold jJ;split
 ·exact h
 ·rename_i a;have a:m.check=0:=LR.1 a;have⟨d,e⟩:=b a;refine h.put ⟨λ_=>⟨m,a,rfl⟩,λm' c=>?_⟩;grind [kO,EF,Option.some.inj]
def yQ.plain(b:m.kind<=1)(a:m.cL=[]):yQ A aD m:=⟨λh=>by omega,(λc h=>by rw[a] at h;cases h),λh=>by omega,λh=>by omega⟩
theorem jY.take{ws:List bX}(h:jY A aD ws)(j:Int):jY A aD (eK ws j):=by
 unfold eK;split
 ·exact h
 ·exact λp a=>h p (PS a)
theorem aBa(b:UInt8)(k:Nat)(d:k<8):DS b k≠b:=by
 intro h;have c:=j! UInt8.toNat h;have a:2 ^ k<2 ^ 8:=Nat.pow_lt_pow_right sD d;have e:b.toNat ^^^ 2 ^ k<256:=Nat.xor_lt_two_pow (n:=8) (Ad b) a;rw[DS,FG,FA e] at c;have f:b.toNat ^^^ (b.toNat ^^^ 2 ^ k)=b.toNat ^^^ b.toNat:=by rw[c]
 grind
theorem jY.Bm{ws:List bX}(h:jY A aD ws)(st:cK):jY A aD (CR ws st).1:=by
 unfold CR;split
 ·exact h
 split
 ·unfold K9;split
  ·exact h
  ·exact h.take _
 split
 ·unfold DV;split
  ·rename_i p c;have⟨k,_,b⟩:=CQ c;exact h.put (h p (dG b))
  ·exact h
 split
 ·exact h
 ·unfold DW;split
  ·rename_i p c;have⟨k,g,b⟩:=CQ c;split
   ·exact h
   ·rename_i d;simp only[not_or,Int.not_lt,Int.not_le] at d;have⟨hb,_,e⟩:=d;have hb:p.broken=false:=by grind
    intro q a;rcases Ca a with a|a
    ·exact h q a
    ·rw[a];have⟨m,o,f⟩:=(h p (dG b)).a hb;have n:p.b.length=m.body.length+7:=by rw[f];exact Frm.jO _
     have j:st.n.toNat / 8<p.b.length:=o_;have:kO (zZ p.b st.n.toNat)=none:=by
      grind [zZ,aPm,List.getElem?_eq_getElem,Option.some.inj,aBa,Nat.mod_lt]
     refine⟨λhf=>?_,λm' l=>?_⟩;all_goals grind
  ·exact h
theorem Wn(h:NI A aD){n:Nd}(d:aD[i]?=some n)(g:n.stored=n.s)(j:n.up=true)(m:Mg):(rM n.s m).ok/\yQ A aD (rM n.s m):=by
 have⟨k,e,_,_,_,_⟩:=h.gd d;have own:=h.own i n d;have cD:=h.cD i n d;rw[jH j] at e own cD;have b:∀c∈(zR n.s m).take 8,c∈n.s.all:=λc a=>(uI.1 (mD a)).1;unfold rM;split
 ·refine⟨⟨λc a=>?_,bQ.zero⟩,λ_=>?_,λc a=>?_,λh=>i! (show(2:Int)=3 from h) sD,λh=>i! (show(2:Int)=4 from h) sD⟩
  ·have:=b c a;unfold Sv.all at this;rcases eL.1 this with h|h
   ·exact(e.v.qE c h).2.2.2.2.2.1
   ·exact(e.v.vS c h).2.2.2.2.2.1
  ·show(pW n.s m).take 16 <+: ((D0 aD).drop m.base.toNat).map aI.id;refine(List.take_prefix _ _).trans ?_;grind [pW,D0,List.prefix_refl,hb,Nat.min_eq_left,Nt,KT,Nat.min_eq_right,List.drop_length]
  ·have a:=b c a;by_cases f:c.id.rep=i
   ·exact⟨i,n,d,f,by rw[g];exact a⟩
   ·grind
 ·exact⟨⟨λc a=>(cZ a).elim,⟨by decide,by decide⟩⟩,yQ.plain sD rfl⟩
def Ce(s:Sv)(q:aM):Prop:=∃i:Nat,q.key.id=dC s.r i/\next (dC s.r i) (s.ps.getD i s0).made (s.ps.getD i s0).l (s.ps.getD i s0).w=some q
theorem NU{id:aL}{m:Int}{l:List aN}{w:List bE}{q:aM}(h:next id m l w=some q):q.key.id=id:=by
 unfold next at h;split at h
 ·grind
 ·obtain⟨_,f,_,rfl⟩:=C3 h;rfl
def TF{id:aL}{s:bC}(h:s.ok){q:aM}(a:next id s.made s.l s.w=some q):q.bD.ok:=by
 unfold next at a;split at a
 ·rename_i e b;split at a
  ·rw[<-iN a];exact(h.oJ e (dG (BN b).1)).2.1
  ·cases a
 ·obtain⟨_,f,c,rfl⟩:=C3 a;exact h.D1 f (dG c)
theorem N8{s:Sv}(h:Gd s)(cf:bW)(now:Int):(∀q∈s.ready cf now,q.bD.ok/\Ce s q)/\((s.ready cf now).map λq=>q.key.id).Nodup:=by
 unfold Sv.ready;have j:s.ps.length<=s.ps.length:=bM _;suffices H:∀k,k<=s.ps.length->(∀q∈gD (mC s.r cf now) s.ps k,(q.bD.ok/\Ce s q)/\∃i,i<k/\q.key.id=dC s.r i)/\((gD (mC s.r cf now) s.ps k).map λq=>q.key.id).Nodup from
  ⟨λq d=>((H _ j).1 q d).1,(H _ j).2⟩
 intro k;induction k with
 |zero=>exact λ_=>⟨λq d=>(cZ d).elim,List.Pairwise.nil⟩
 |succ k u =>
  intro w;have⟨g,l⟩:=u o_;have n:s.ps[k]?=some s.ps[k]:=bS o_;rw[gD,n];dsimp only;unfold mC;split
  ·rename_i o;have r:=h.ch _ (dG n);unfold sT at o;have p:=(fI _ _).mp o |>.1;unfold bC.DH;cases m:next (dC s.r k) s.ps[k].made s.ps[k].l s.ps[k].w with
   |none=>rw[m] at p;cases p
   |some y =>
    have f:=NU m;refine⟨λq d=>?_,?_⟩
    ·rcases eL.1 d with d|d
     ·have⟨a,i,b,c⟩:=g q d;exact⟨a,i,o_,c⟩
     ·rw[eM] at d;subst d;refine⟨⟨TF r.1 m,k,f,?_⟩,k,o_,f⟩;rw[qS,n];exact m
    ·rw[gP,Ab];refine⟨l,Cb.2 ⟨cZ,List.Pairwise.nil⟩,λa t b hb e=>?_⟩;obtain⟨q,d,rfl⟩:=jX.1 t;rw[jL,tI,eM] at hb;have⟨_,i,v,c⟩:=g q d;have:dC s.r i=dC s.r k:=by rw[<-c,e,hb];exact f
     have:=(D6 this).2;omega
  ·rw[aY];exact⟨λq d=>by have⟨a,i,b,c⟩:=g q d;exact⟨a,i,o_,c⟩,l⟩
def jY.Uo{r now:Int}:∀ {l:List aM} {ws:List bX} {bI:List nO},jY A aD ws->(∀q∈l,q.bD.ok/\Eu A aD q)->jY A aD (rN r now ws bI l).1
 | [],_,_,h,_=>h
 |q::l,ws,bI,h,b=>jY.Uo (l:=l) (h.post λ_=>⟨⟨λc a=>(cZ a).elim,(b q jW).1.2.2.1⟩,⟨λh=>i! (show(3:Int)=2 from h) sD,(λc a=>(cZ a).elim),λ_=>(b q jW).2,λh=>i! (show(3:Int)=4 from h) sD⟩⟩) λx c=>b x (kF _ c)
end
end
end Go.Proofs.YtmilalkjbojciaaGreat.Sep
