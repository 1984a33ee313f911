/- Part BY: what it needs. No condition. -/
import Derived.Test.YtmilalkjbojciaaGreatOAA
import Derived.Test.YtmilalkjbojciaaGreatOBW
import Derived.Test.YtmilalkjbojciaaGreatOBU
set_option maxRecDepth 100000
set_option maxHeartbeats 8000000
open Go.Proofs.Tryz
namespace Go.Proofs.YtmilalkjbojciaaGreat.Sep
open Go.RowKit Reg Oct
open Mem hiding Rd
def BE(E:Env)(f:FuncId)(cs:List Value)(F:Nat→List cH):Prop:=∀E' R,Sub E R E'→∀r:Nat,r≤4→aK prog E' f (.int .i64 r::cs).toArray [] λe H'=>∃A c,e=.returned (.slice A (F r).length c)∧H'=[own mX A (F r).length c (F r)]
def Sx(F:Nat→List cH):Prop:=∀r,(F r).length≤2∧∀st∈F r,dQ st.c.n
theorem rS{E:Env}{P:List Ov}{g t t':Nat}{v:Wv}{H R:List aL}(ht:t≤t')(hp:cS [aQ P g t v] H R):aB E H (aQ P g t' v::R):=by
 have:=aB.imp (E:=E) (aQ.mono (P:=P) (Q:=[]) ht) hp;rw[aAc] at this;exact this
theorem Uq(E:Env):BE E 135 [] AK:=λE' R hE r hr=>by
 refine t_ func135 ntmps135 ?_;repeat first|refine v_ ?_|intro
 refine L.fQ sD (S.QZ (T:=mX) (e1:=pB 3 r 0 0) rfl eS rfl FV (by rfl) sD) ?_;rintro _ _ ⟨_,rfl,rfl⟩;repeat first|refine v_ ?_|intro
 exact jQ ⟨_,_,rfl,rfl⟩
theorem YZ(E:Env):BE E 134 [] EH:=λE' R hE r hr=>by
 refine t_ func134 ntmps134 ?_;repeat first|refine v_ ?_|intro
 refine L.fQ sD (S.j8 (T:=mX) (e1:=pB 3 r 0 0) (e2:=pB 3 0 r 0) rfl eS eS rfl FV (by rfl) (by rfl) sD) ?_;rintro _ _ ⟨_,rfl,rfl⟩;repeat first|refine v_ ?_|intro
 exact jQ ⟨_,_,rfl,rfl⟩
theorem KW(E:Env)(g1:Nat)(kind:Int)(hb:gE E g1 [.int .i64 kind]):BE E 132 [pt g1] (pH kind):=λE' R hE r hr=>by
 have hb:=hb.sub hE;show G E' 132 [.int .i64 r,pt g1] [] _;refine t_ func132 ntmps132 ?_;repeat first|refine v_ ?_|intro
 refine L.fQ sD (S.QZ (T:=mX) (e1:=pB kind r 0 0) rfl eS rfl FV (by rfl) sD) ?_;rintro _ _ ⟨_,rfl,rfl⟩;repeat first|refine v_ ?_|intro
 exact jQ ⟨_,_,rfl,rfl⟩
theorem S4(E:Env)(kind:Int):G E 64 [.int .i64 kind] [] λe H'=>∃g1,e=.returned (.func (.func 132) #[] #[pt g1])∧H'=[aJ g1 3 [.int .i64 kind]]:=by
 refine t_ func64 ntmps64 ?_;repeat first|refine v_ ?_|intro
 exact jQ ⟨_,rfl,rfl⟩
theorem Am:dQ 0:=⟨by decide,by decide⟩
theorem Le:Sx AK:=λr=>⟨aCq 1,λst hst=>by rw[aAp.1 hst];exact Am⟩
theorem BL(kind:Int):Sx (pH kind):=λr=>⟨aCq 1,λst hst=>by rw[aAp.1 hst];exact Am⟩
theorem Nn:Sx EH:=λr=>⟨aAf 2,λst hst=>by
 rcases aEj.1 hst with h|h
 ·rw[h];exact Am
 ·rw[aAp.1 h];exact Am⟩
theorem Hu(F:Nat→List cH)(i k:Nat)(d:Dv):AW F i (k+1) d=AW F (i+1) k (d.J1 (F i)):=rfl
section
variable (E:Env) (P:List Ov) (gv g t:Nat) (d:Dv)
theorem XV(f:FuncId)(cs:List Value)(F:Nat→List cH)(hk:xA f=true)(law:BE E f cs F)(hF:Sx F)(i:Nat)(hi:i≤1)(ht:t≤999990)(hn:d.w.bU.length≤4∧(d.w.bU.length:Int)=d.w.cf.bN):G E 63 [pt gv,.int .i64 i,.func (.func f) #[] cs.toArray] (dA P gv g t d) λe H'=>∃Q,e=.returned (.tuple #[])∧H'=dA (P++Q) gv g (t+8) (d.all i F):=by
 obtain⟨n,hnn⟩:∃n,d.w.bU.length=n:=⟨_,rfl⟩
 have hall:AW F i (n - i) d=d.all i F:=by rw[←hnn];rfl
 generalize d.all i F=dE at *;dsimp only[dA];refine t_ func63 ntmps63 ?_;repeat first|refine v_ ?_|intro
 refine C.loop (X:=Nat×Dv×List Ov) (λx=>[(0,pt gv),(2,.func (.func f) #[] cs.toArray),(6,.int .i64 x.1)]) (λx=>[aJ gv 134 [pt g,.bool x.2.1.short],aQ (P++x.2.2) g (t+2*(x.1 - i)) x.2.1.w,aI (P++x.2.2)])
  (λx=>i≤x.1∧(x.1≤n∨x.1=i)∧AW F x.1 (n - x.1) x.2.1=dE∧x.2.1.w.cf=d.w.cf) (λx=>n - x.1) (i,d,[]) aD (by rw[aAc,aEi];exact aA) ⟨aAf _,.inr rfl,hall,rfl⟩ ?_
 rintro⟨r,⟨v1,sh⟩,y⟩ G ⟨h1,h2,h3,h4⟩;dsimp only at h1 h2 h3 h4⊢;have hrep:v1.cf.bN=n:=by rw[h4];omega
 have cfg:=λE'=>xU E' (P++y) g (t+2*(r - i)) v1;repeat first|refine v_ ?_|intro
 refine bK cfg ?_;by_cases hlt:r<n
 ·have hk1:n - r=(n - (r+1))+1:=by omega
  rw[hk1,Hu] at h3;have hcf:=(Ck (F r) ⟨v1,sh⟩).1;have dw:=λE' A c hr=>Yp E' (P++y) gv g (t+2*(r - i)) ⟨v1,sh⟩ A (F r).length c (F r) hr (by have:=(hF r).1;omega) (hF r).2;dsimp only[dA] at dw;generalize Dv.J1 ⟨v1,sh⟩ (F r)=d2 at *;repeat first|refine v_ ?_|intro
  refine cv sD rfl rfl hk .nil (λE' hE=>law E' _ hE r o_) ?_;rintro e H' ⟨A,c,rfl,rfl⟩;repeat first|refine v_ ?_|intro
  refine dX (λ(E':Env)=>dw E' A c) ?_;rintro e H' ⟨Q2,rfl,rfl⟩;repeat first|refine v_ ?_|intro
  exact⟨(r+1,d2,y++Q2),aD,by rw[←aAb];exact aB.trans (rS (show t+2*(r - i)+(F r).length≤t+2*(r+1 - i) by have:=(hF r).1;omega) aC) aA,⟨by dsimp only;omega,.inl hlt,h3,hcf.trans h4⟩,by dsimp only;omega⟩
 ·have hk0:n - r=0:=by omega
  rw[hk0] at h3;obtain rfl:(⟨v1,sh⟩:Dv)=dE:=h3;repeat first|refine v_ ?_|intro
  refine gO rfl (aB.trans (rS (show t+2*(r - i)≤t+8 by omega) aC) aA) ⟨y,rfl,rfl⟩
end
theorem Fz{v:Wv}(hn:1≤v.bU.length):(v.step (pB 7 0 0 0)).1=(v.bV 0).1:=by
 unfold Wv.step;rw[if_neg (show ¬(pB 7 0 0 0).check≠0 by decide)];have h0:(pB 7 0 0 0).r.toNat=0:=rfl;rw[h0,aAa (show 0<v.bU.length by omega)];rfl
theorem wY(k:Nat)(d:Dv)(n:Nat)(h:d.w.ws≠[]):nJ (k+1) d n=nJ k (d.pE (pB 7 0 0 0)) (n+1):=by
 show(match d.w.ws with|[]=>(d,n)|_::_=>nJ k (d.pE (pB 7 0 0 0)) (n+1))=_;cases hw:d.w.ws with
 |nil=>exact absurd hw h
 |cons p ws=>rfl
theorem qN(k:Nat)(d:Dv)(n:Nat)(h:d.w.ws=[]):nJ k d n=(d,n):=by
 cases k with
 |zero=>rfl
 |succ k =>
  show(match d.w.ws with|[]=>(d,n)|_::_=>nJ k (d.pE (pB 7 0 0 0)) (n+1))=_;rw[h]
theorem CH:∀(k:Nat) (d:Dv) (n:Nat) (j:Nat),1≤d.w.bU.length→nL d.w.ws≤k→nJ (k+j) d n=nJ k d n
 |0,d,n,j,_,h=>by
  have:d.w.ws=[]:=by
   cases hw:d.w.ws with
   |nil=>rfl
   |cons p ws=>rw[hw] at h;have:=(IN p).1;have e:nL (p::ws)=wt p+nL ws:=rfl;omega
  rw[qN _ d n this,qN _ d n this]
 |k+1,d,n,j,hn,h=>by
  by_cases hw:d.w.ws=[]
  ·rw[qN _ d n hw,qN _ d n hw]
  ·have e:k+1+j=(k+j)+1:=by omega
   rw[e,wY _ d n hw,wY _ d n hw];refine CH k _ _ j (by rw[(oY d _).2];exact hn) ?_;obtain⟨p,ws,hp⟩:∃p ws,d.w.ws=p::ws:=by
    cases hw2:d.w.ws with
    |nil=>exact absurd hw2 hw
    |cons p ws=>exact⟨p,ws,rfl⟩
   have:=Ad hp;show nL (d.w.step (pB 7 0 0 0)).1.ws≤k;rw[Fz hn];omega
section
variable (E:Env) (P:List Ov) (gv g t:Nat) (d:Dv)
theorem e8(ht:t≤999000)(hn:1≤d.w.bU.length):G E 133 [pt gv] (dA P gv g t d) λe H'=>∃Q n,e=.returned (.int .i64 n)∧H'=dA (P++Q) gv g (t+256) d.bV:=by
 refine aK.Y1 (p:=λx:AM=>d.w.ok t∧x.gs.length=d.w.bU.length) (l:=wL P g (kt t) d.w) (.aM .aN) (λhx=>?_);obtain⟨_,ho,_⟩:=hx;have hw:nL d.w.ws≤256:=by have:=RL d.w.ws;have:=ho.pk.2;omega
 clear ho;have hall:nJ (nL d.w.ws) d 0=(d.bV,(nJ (nL d.w.ws) d 0).2):=rfl;generalize d.bV=dE at *;generalize (nJ (nL d.w.ws) d 0).2=nE at *;dsimp only[dA];refine t_ func133 ntmps133 ?_;repeat first|refine v_ ?_|intro
 refine C.loop (X:=Dv×Nat×List Ov) (λx=>[(0,pt gv),(3,.int .i64 x.2.1)]) (λx=>[aJ gv 134 [pt g,.bool x.1.short],aQ (P++x.2.2) g (t+x.2.1) x.1.w,aI (P++x.2.2)])
  (λx=>x.2.1+nL x.1.w.ws≤256∧nJ (nL x.1.w.ws) x.1 x.2.1=(dE,nE)∧1≤x.1.w.bU.length) (λx=>nL x.1.w.ws) (d,0,[]) aD (by rw[aAc];exact aA) ⟨by dsimp only;omega,hall,hn⟩ ?_
 rintro⟨⟨v1,sh⟩,u,y⟩ G ⟨h1,h2,h3⟩;dsimp only at h1 h2 h3⊢;have wr:=λE'=>CF E' (P++y) g (t+u) v1;repeat first|refine v_ ?_|intro
 refine bW wr ?_;rintro e H' ⟨g2,rfl,rfl⟩;repeat first|refine v_ ?_|intro
 refine bK (λ(E':Env)=>Ko E' g2 v1.ws) ?_;cases hws:v1.ws with
 |nil =>
  rw[qN _ _ _ hws] at h2;injection h2 with h2 _
  subst h2;repeat first|refine v_ ?_|intro
  exact aR (H':=dA (P++y) gv g (t+256) ⟨v1,sh⟩) rfl aF (aB.trans (rS (show t+u≤t+256 by omega) aC) aA) ⟨y,_,rfl,rfl⟩
 |cons p ws =>
  have hne:v1.ws≠[]:=by rw[hws];exact List.cons_ne_nil _ _
  have hd:=Ad hws;have hk1:nL v1.ws=(nL v1.ws - 1)+1:=by omega
  have hlt:decide ((0:Int)<((p::ws).length:Nat))=true:=decide_eq_true (by rw[aAs];omega);rw[hk1,wY _ _ _ hne] at h2;have hw1:(Dv.pE ⟨v1,sh⟩ (pB 7 0 0 0)).w.ws=(v1.bV 0).1.ws:=by show(v1.step _).1.ws=_;rw[Fz h3]
  have hl1:=(oY ⟨v1,sh⟩ (pB 7 0 0 0)).2;have hmore:=CH (nL (Dv.pE ⟨v1,sh⟩ (pB 7 0 0 0)).w.ws) (Dv.pE ⟨v1,sh⟩ (pB 7 0 0 0)) (u+1) (nL v1.ws - 1 - nL (Dv.pE ⟨v1,sh⟩ (pB 7 0 0 0)).w.ws) (by rw[hl1];exact h3) (aAf _);rw[show nL (Dv.pE ⟨v1,sh⟩ (pB 7 0 0 0)).w.ws+(nL v1.ws - 1 - nL (Dv.pE ⟨v1,sh⟩ (pB 7 0 0 0)).w.ws)=nL v1.ws - 1 by rw[hw1];omega,h2] at hmore;rw[←hw1] at hd;have dw:=λE' A c hr=>Yp E' (P++y) gv g (t+u) ⟨v1,sh⟩ A 1 c [pB 7 0 0 0] hr o_ (λst hst=>by rw[aAp.1 hst];exact Am);have e1:Dv.J1 ⟨v1,sh⟩ [pB 7 0 0 0]=Dv.pE ⟨v1,sh⟩ (pB 7 0 0 0):=rfl;rw[e1] at dw;generalize Dv.pE ⟨v1,sh⟩ (pB 7 0 0 0)=d2 at *;dsimp only[dA] at dw;repeat first|refine v_ ?_|intro
  refine L.fQ sD (S.QZ (T:=mX) (e1:=pB 7 0 0 0) rfl eS rfl FV (by rfl) sD) ?_;rintro _ _ ⟨_,rfl,rfl⟩;repeat first|refine v_ ?_|intro
  refine dX (λ(E':Env)=>dw E' _ _) ?_;rintro e H' ⟨Q2,rfl,rfl⟩;repeat first|refine v_ ?_|intro
  have hd':nL d2.w.ws<nL (p::ws):=by rw[←hws];exact hd
  exact⟨(d2,u+1,y++Q2),aD,by rw[←aAb,←aDv];exact aA,⟨by dsimp only;omega,hmore.symm,by dsimp only;rw[hl1];exact h3⟩,by dsimp only;omega⟩
end
end Go.Proofs.YtmilalkjbojciaaGreat.Sep
