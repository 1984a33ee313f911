/- TopAlone returns true for every input: merged texts. -/
import Derived.Test.YtmilalkjbojciaaGreatLAU
import Derived.Test.YtmilalkjbojciaaGreatLAV
import Derived.Test.YtmilalkjbojciaaGreatLBC
set_option maxRecDepth 100000
set_option maxHeartbeats 8000000
open Go.Proofs.Tryz
namespace Go.Proofs.YtmilalkjbojciaaGreat.Sep
section
open Go.RowKit Reg Oct
open Mem hiding Rd
section
variable (E:Env) (P:List Ov) (g t:Nat) (v:Wv)
theorem aSc(r:Nat)(n:Nd)(hn:v.bU[r]?=some n)(hu:n.up=true)(_ht:t<=1000000):G E 13 [pt g,.int .i64 r] [aQ P g t v,aI P] λe H'=>∃Q g2,e=.returned (pt g2)/\H'=[dI (P++Q) g2 n.state,aQ (P++Q) g t v,aI (P++Q)]:=by
 refine zT E P g t v λx ho hx=>?_;have rK:=ho.rK;obtain⟨gr,hg⟩:∃gr,x.gs[r]?=some gr:=⟨_,aAa (by have:=(aAd.1 hn).1;omega)⟩
 have aty:=λM hb hG=>qW M g x v.now v.aW.length v.cf v.bU.length v.sub r gr hb rK.2 hG hg;dsimp only[List.cons_append,List.nil_append];refine aK.pre (vR (k:=kt t) hg hn (.aM (.aM (.aM (.aM (.aM .aN)))))) ?_;have up:=λM=>TI M P gr v.cf n (kt t);unfold Nd.state;rw[if_pos hu];have st:=λM=>wW M P gr v.cf n (kt t);rw[hu] at up st;simp only[if_true] at st;refine t_ func13 ntmps13 ?_;repeat first|refine v_ ?_|intro
 refine DY aty ?_;repeat first|refine v_ ?_|intro
 refine bK up ?_;repeat first|refine v_ ?_|intro
 refine bW st ?_;rintro e H' ⟨g2,rfl,rfl⟩;repeat first|refine v_ ?_|intro
 refine aR (H':=[dI P g2 n.s,aQ P g t v,aI P]) rfl aF (aB.trans (BZ (t:=t) (v:=v) (v':=v) (x':=x) (Q:=[]) (aAf t) (aAc P).symm hg hn (aCd _) ho hx (mN hn).symm rfl rfl aC) aA) ⟨[],g2,rfl,by rw[aAc]⟩
theorem aSd(ht:t<=1000000)(hn:(1<=v.bU.length/\v.bU.length<=4)/\(v.bU.length:Int)=v.cf.bN)(hU:Ups v):G E 19 [pt g] [aQ P g t v,aI P] λe H'=>∃Q,e=.returned (.bool v.quiet)/\H'=[aQ (P++Q) g t v,aI (P++Q)]:=by
 have cfg:=λM=>xU M P g t v;have wr:=λM=>CF M P g t v;have wl:=λM g2=>Ko M g2 v.ws;obtain⟨⟨h1,h4⟩,hrep⟩:=hn;have sta:=λM P r n hn=>aSc M P g t v r n hn (hU n (aAi hn)) ht;have upp:=λM P r n hn=>Zj M P g t v r n hn;have hq:v.quiet=if v.ws.length=0 then vY v 0 v.bU.length else false:=by
  unfold Wv.quiet;cases v.ws with
  |nil=>rfl
  |cons p ws=>rfl
 rw[hq];clear hq;generalize v.ws.length=wn at *;by_cases hw:wn=0
 case neg =>
  rw[if_neg hw];refine t_ func19 ntmps19 ?_;repeat first|refine v_ ?_|intro
  refine bK cfg ?_;repeat first|refine v_ ?_|intro
  refine bW wr ?_;rintro e H' ⟨g2,rfl,rfl⟩;repeat first|refine v_ ?_|intro
  refine bK (λM=>wl M g2) ?_;repeat first|refine v_ ?_|intro
  exact aR (H':=[aQ P g t v,aI P]) rfl aF aA ⟨[],rfl,by rw[aAc]⟩
 rw[if_pos hw];subst hw;obtain⟨n0,hn0⟩:∃n0,v.bU[0]?=some n0:=⟨_,aAa o_⟩
 have hs0:v.state 0=n0.state:=by unfold Wv.state;rw[hn0]
 obtain⟨n,hnn⟩:∃n,v.bU.length=n:=⟨_,rfl⟩
 rw[hnn] at hrep;refine t_ func19 ntmps19 ?_;repeat first|refine v_ ?_|intro
 refine bK cfg ?_;repeat first|refine v_ ?_|intro
 refine bW wr ?_;rintro e H' ⟨g2,rfl,rfl⟩;repeat first|refine v_ ?_|intro
 refine bK (λM=>wl M g2) ?_;repeat first|refine v_ ?_|intro
 refine bW (λM=>sta M P 0 n0 hn0) ?_;rintro e H' ⟨Q,g3,rfl,rfl⟩;repeat first|refine v_ ?_|intro
 refine bW (λM=>qQ M (P++Q) g3 n0.state) ?_;rintro e H' ⟨g4,rfl,rfl⟩;repeat first|refine v_ ?_|intro
 refine bW (λM=>iV M (P++Q) g4 n0.state.v) ?_;rintro e H' ⟨B,k,hk,rfl,rfl⟩;repeat first|refine v_ ?_|intro
 rw[hnn];generalize hl0:n0.state.v.l=l0 at *;refine C.loop (X:=Nat×List Ov) (λx=>[(0,pt g),(4,.slice B l0.length k),(22,.int .i64 n),(23,.int .i64 x.1)]) (λx=>[aQ (P++x.2) g t v,aI (P++x.2),own bE B l0.length k l0])
  (λx=>x.1<=n/\vY v x.1 (n - x.1)=vY v 0 n) (λx=>n - x.1) (0,Q) (by rw[<-hrep];exact aD) aA ⟨aAh _,by rw[Nat.sub_zero]⟩ ?_
 rintro⟨r,y⟩ G ⟨h5,h6⟩;dsimp only at h5 h6⊢;by_cases hlt:r<n
 ·obtain⟨nd,hnd⟩:∃nd,v.bU[r]?=some nd:=⟨_,aAa o_⟩
  have hst:v.state r=nd.state:=by unfold Wv.state;rw[hnd]
  have hup:v.up r=nd.up:=by unfold Wv.up;rw[hnd]
  have up1:=λM P=>upp M P r nd hnd;have h7:vY v r (n - r)=if nd.up/\nd.state.quiet=true/\nd.state.v.l=l0 then vY v (r+1) (n - (r+1)) else false:=by
   rw[show n - r=(n - (r+1))+1 by omega];show(if v.up r/\(v.state r).quiet=true/\(v.state r).v.l=(v.state 0).v.l then _ else _)=_;rw[hst,hup,hs0,hl0]
  rw[h7] at h6;have qt:=λM PP g5=>Vh M PP g5 nd.state;have lg:=λM PP g5=>qQ M PP g5 nd.state;generalize nd.up=bu at *;repeat first|refine v_ ?_|intro
  refine bW (λM=>sta M (P++y) r nd hnd) ?_;rintro e H' ⟨Q2,g5,rfl,rfl⟩;repeat first|refine v_ ?_|intro
  refine bK (λM=>up1 M _) ?_;cases bu with
  |false =>
   rw[if_neg (by rintro⟨h,_⟩;cases h)] at h6;rw[<-h6];repeat first|refine v_ ?_|intro
   exact aR (H':=[aQ (P++(y++Q2)) g t v,aI (P++(y++Q2))]) rfl aF (by rw[<-aAb];exact aA) ⟨y++Q2,rfl,rfl⟩
  |true =>
   generalize hqq:nd.state.quiet=qq at *;repeat first|refine v_ ?_|intro
   refine bK (λM=>qt M _ g5) ?_;cases qq with
   |false =>
    rw[if_neg (by rintro⟨_,h,_⟩;cases h)] at h6;rw[<-h6];repeat first|refine v_ ?_|intro
    exact aR (H':=[aQ (P++(y++Q2)) g t v,aI (P++(y++Q2))]) rfl aF (by rw[<-aAb];exact aA) ⟨y++Q2,rfl,rfl⟩
   |true =>
    repeat first|refine v_ ?_|intro
    refine bW (λM=>lg M _ g5) ?_;rintro e H' ⟨g6,rfl,rfl⟩;repeat first|refine v_ ?_|intro
    refine bW (λM=>iV M _ g6 nd.state.v) ?_;rintro e H' ⟨B2,k2,hk2,rfl,rfl⟩;repeat first|refine v_ ?_|intro
    refine DY (λM=>Sp M _ _ _ _ _ _ nd.state.v.l l0) ?_;by_cases hle:nd.state.v.l=l0
    ·have hd:(!decide (nd.state.v.l=l0))=false:=by rw[decide_eq_true hle];rfl
     rw[if_pos ⟨rfl,rfl,hle⟩] at h6;repeat first|refine v_ ?_|intro
     exact⟨(r+1,y++Q2),aD,by rw[<-aAb];exact aA,⟨by dsimp only;omega,h6⟩,by dsimp only;omega⟩
    ·have hd:(!decide (nd.state.v.l=l0))=true:=by rw[decide_eq_false hle];rfl
     rw[if_neg (λh=>hle h.2.2)] at h6;rw[<-h6];repeat first|refine v_ ?_|intro
     exact aR (H':=[aQ (P++(y++Q2)) g t v,aI (P++(y++Q2))]) rfl aF (by rw[<-aAb];exact aA) ⟨y++Q2,rfl,rfl⟩
 ·obtain rfl:r=n:=o_;rw[aEi] at h6;rw[<-h6];repeat first|refine v_ ?_|intro
  exact aR (H':=[aQ (P++y) g t v,aI (P++y)]) rfl aF aA ⟨y,rfl,rfl⟩
end
section
variable (E:Env) (P:List Ov) (gv g t:Nat) (d:Dv) (Iv:Wv->Prop)
theorem aRi(A:Option Addr)(m c:Nat)(l:List cH)(hr:Rd E mX A m c l)(hm:t+m<=1000000)(hl:∀st∈l,dQ st.c.n)(hK:aRv Iv l)(h0:Iv d.w):G E 62 [pt gv,.slice A m c] (dA P gv g t d) λe H'=>∃Q,e=.returned (.tuple #[])/\H'=dA (P++Q) gv g (t+m) (d.J1 l):=by
 have hlen:=hr.len;dsimp only[dA];refine t_ func62 ntmps62 ?_;repeat first|refine v_ ?_|refine Dr.two ?_ ?_|intro
 refine C.scan (Y:=List Ov) (l:=l) (n:=m) hlen (λi _=>[(0,pt gv),(7,.slice A m c),(8,.int .i64 m),(9,.int .i64 i)])
  (λi y=>[aJ gv 134 [pt g,.bool (d.J1 (l.take i)).short],aQ (P++y) g (t+i) (d.J1 (l.take i)).w,aI (P++y)]) (λ_ _=>True) [] aD (by rw[aAc];show aB E _ [aJ gv 134 [pt g,.bool d.short],aQ P g t d.w,aI P];exact aA) trivial ?_ ?_
 ·rintro i y st F hi hst -;have hI:=hl st (aAi hst);have hM:=(hK _ (aRx (l:=l.take i) (λv hv x hx=>hK v hv x (aBs hx)) h0) st (aAi hst)).1;rw[aIh hst];generalize d.J1 (l.take i)=d1 at *;obtain⟨v1,sh⟩:=d1;have jV:=λM=>aRd M (P++y) g (t+i) v1 o_ st hI hM;unfold Dv.pE;dsimp only;generalize v1.step st=z at *;obtain⟨v2,a⟩:=z;dsimp only at jV⊢;repeat first|refine v_ ?_|refine Dr.two ?_ ?_|intro
  rename_i g5;refine C.bL 7 (l_ [0,1,2,3,4] (.two 5 (g_ 6 (g_ 7 .nil)) 6 (g_ 5 (g_ 7 .nil)))) ([aJ gv 134 _,aJ g5 39 _]) q_ q_ aA ?_;repeat first|refine v_ ?_|intro
  refine Dr.two ?_ ?_
  ·refine yB rfl sD bA sK aC (λM hE=>jV M) ?_;rintro e H' ⟨Q2,rfl,rfl⟩;repeat first|refine v_ ?_|refine Dr.two ?_ ?_|intro
   cases sh with
   |true =>
    rw[aRt];repeat first|refine v_ ?_|refine Dr.two ?_ ?_|intro
    exact⟨y++Q2,aD,by rw[<-aAb,<-aDv];exact aA,trivial⟩
   |false =>
    by_cases hk:st.kind=15
    ·rw[show(false||(!decide (st.kind=15)&&decide (a.code=10)))=false by simp[hk]];have hd:decide (st.kind≠15)=false:=decide_eq_false o_;repeat first|refine v_ ?_|refine Dr.two ?_ ?_|intro
     exact⟨y++Q2,aD,by rw[<-aAb,<-aDv];exact aA,trivial⟩
    ·have hd:decide (st.kind≠15)=true:=decide_eq_true hk;rw[show(false||(!decide (st.kind=15)&&decide (a.code=10)))=decide (a.code=10) by simp[hk]];repeat first|refine v_ ?_|refine Dr.two ?_ ?_|intro
     exact⟨y++Q2,aD,by rw[<-aAb,<-aDv];exact aA,trivial⟩
  ·repeat first|refine v_ ?_|intro
   refine iO jV ?_;rintro e H' ⟨Q2,rfl,rfl⟩;repeat first|refine v_ ?_|refine Dr.two ?_ ?_|intro
   cases sh with
   |true =>
    rw[aRt];repeat first|refine v_ ?_|refine Dr.two ?_ ?_|intro
    exact⟨y++Q2,aD,by rw[<-aAb,<-aDv];exact aA,trivial⟩
   |false =>
    by_cases hk:st.kind=15
    ·rw[show(false||(!decide (st.kind=15)&&decide (a.code=10)))=false by simp[hk]];have hd:decide (st.kind≠15)=false:=decide_eq_false o_;repeat first|refine v_ ?_|refine Dr.two ?_ ?_|intro
     exact⟨y++Q2,aD,by rw[<-aAb,<-aDv];exact aA,trivial⟩
    ·have hd:decide (st.kind≠15)=true:=decide_eq_true hk;rw[show(false||(!decide (st.kind=15)&&decide (a.code=10)))=decide (a.code=10) by simp[hk]];repeat first|refine v_ ?_|refine Dr.two ?_ ?_|intro
     exact⟨y++Q2,aD,by rw[<-aAb,<-aDv];exact aA,trivial⟩
 ·rintro y F -;rw[show l.take m=l by rw[hlen,aAo]];repeat first|refine v_ ?_|refine Dr.two ?_ ?_|intro
  exact gO rfl aA (⟨y,rfl,rfl⟩)
theorem aRk(f:FuncId)(cs:List Value)(F:Nat->List cH)(hk:xA f=true)(law:BE E f cs F)(hF:Sx F)(hK:∀r,aRv Iv (F r))(h0:Iv d.w)(i:Nat)(hi:i<=1)(ht:t<=999990)(hn:d.w.bU.length<=4/\(d.w.bU.length:Int)=d.w.cf.bN):G E 63 [pt gv,.int .i64 i,.func (.func f) #[] cs.toArray] (dA P gv g t d) λe H'=>∃Q,e=.returned (.tuple #[])/\H'=dA (P++Q) gv g (t+8) (d.all i F):=by
 obtain⟨n,hnn⟩:∃n,d.w.bU.length=n:=⟨_,rfl⟩
 have hall:AW F i (n - i) d=d.all i F:=by rw[<-hnn];rfl
 generalize d.all i F=dE at *;dsimp only[dA];refine t_ func63 ntmps63 ?_;repeat first|refine v_ ?_|intro
 refine C.loop (X:=Nat×Dv×List Ov) (λx=>[(0,pt gv),(2,.func (.func f) #[] cs.toArray),(6,.int .i64 x.1)]) (λx=>[aJ gv 134 [pt g,.bool x.2.1.short],aQ (P++x.2.2) g (t+2*(x.1 - i)) x.2.1.w,aI (P++x.2.2)])
  (λx=>i<=x.1/\(x.1<=n\/x.1=i)/\AW F x.1 (n - x.1) x.2.1=dE/\x.2.1.w.cf=d.w.cf/\Iv x.2.1.w) (λx=>n - x.1) (i,d,[]) aD (by rw[aAc,aEi];exact aA) ⟨aAf _,.inr rfl,hall,rfl,h0⟩ ?_
 rintro⟨r,⟨v1,sh⟩,y⟩ G ⟨h1,h2,h3,h4,h5⟩;dsimp only at h1 h2 h3 h4 h5⊢;have hrep:v1.cf.bN=n:=by rw[h4];omega
 have cfg:=λM=>xU M (P++y) g (t+2*(r - i)) v1;repeat first|refine v_ ?_|intro
 refine bK cfg ?_;by_cases hlt:r<n
 ·have hk1:n - r=(n - (r+1))+1:=o_;rw[hk1,Hu] at h3;have hcf:=(Ck (F r) ⟨v1,sh⟩).1;have dw:=λM A c hr=>aRi M (P++y) gv g (t+2*(r - i)) ⟨v1,sh⟩ Iv A (F r).length c (F r) hr (by have:=(hF r).1;omega) (hF r).2 (hK r) h5;have h6:=aRx (d:=⟨v1,sh⟩) (hK r) h5;dsimp only[dA] at dw;generalize Dv.J1 ⟨v1,sh⟩ (F r)=d2 at *;repeat first|refine v_ ?_|intro
  refine cv sD rfl rfl hk .nil (λM hE=>law M _ hE r o_) ?_;rintro e H' ⟨A,c,rfl,rfl⟩;repeat first|refine v_ ?_|intro
  refine dX (λM=>dw M A c) ?_;rintro e H' ⟨Q2,rfl,rfl⟩;repeat first|refine v_ ?_|intro
  exact⟨(r+1,d2,y++Q2),aD,by rw[<-aAb];exact aB.trans (rS (show t+2*(r - i)+(F r).length<=t+2*(r+1 - i) by have:=(hF r).1;omega) aC) aA,⟨by dsimp only;omega,.inl hlt,h3,hcf.trans h4,h6⟩,by dsimp only;omega⟩
 ·have hk0:n - r=0:=o_;rw[hk0] at h3;obtain rfl:(⟨v1,sh⟩:Dv)=dE:=h3;repeat first|refine v_ ?_|intro
  refine gO rfl (aB.trans (rS (show t+2*(r - i)<=t+8 by omega) aC) aA) ⟨y,rfl,rfl⟩
theorem aRr(ht:t<=999000)(hn:1<=d.w.bU.length):G E 133 [pt gv] (dA P gv g t d) λe H'=>∃Q n,e=.returned (.int .i64 n)/\H'=dA (P++Q) gv g (t+256) d.bV:=by
 refine aK.Y1 (p:=λx:AM=>d.w.ok t/\x.gs.length=d.w.bU.length) (l:=wL P g (kt t) d.w) (.aM .aN) (λhx=>?_);obtain⟨_,ho,_⟩:=hx;have hw:nL d.w.ws<=256:=by have:=RL d.w.ws;have:=ho.pk.2;omega
 clear ho;have hall:nJ (nL d.w.ws) d 0=(d.bV,(nJ (nL d.w.ws) d 0).2):=rfl;generalize d.bV=dE at *;generalize (nJ (nL d.w.ws) d 0).2=nE at *;dsimp only[dA];refine t_ func133 ntmps133 ?_;repeat first|refine v_ ?_|intro
 refine C.loop (X:=Dv×Nat×List Ov) (λx=>[(0,pt gv),(3,.int .i64 x.2.1)]) (λx=>[aJ gv 134 [pt g,.bool x.1.short],aQ (P++x.2.2) g (t+x.2.1) x.1.w,aI (P++x.2.2)])
  (λx=>x.2.1+nL x.1.w.ws<=256/\nJ (nL x.1.w.ws) x.1 x.2.1=(dE,nE)/\1<=x.1.w.bU.length) (λx=>nL x.1.w.ws) (d,0,[]) aD (by rw[aAc];exact aA) ⟨by dsimp only;omega,hall,hn⟩ ?_
 rintro⟨⟨v1,sh⟩,u,y⟩ G ⟨h1,h2,h3⟩;dsimp only at h1 h2 h3⊢;have wr:=λM=>CF M (P++y) g (t+u) v1;repeat first|refine v_ ?_|intro
 refine bW wr ?_;rintro e H' ⟨g2,rfl,rfl⟩;repeat first|refine v_ ?_|intro
 refine bK (λM=>Ko M g2 v1.ws) ?_;cases hws:v1.ws with
 |nil =>
  rw[qN _ _ _ hws] at h2;injection h2 with h2 _
  subst h2;repeat first|refine v_ ?_|intro
  exact aR (H':=dA (P++y) gv g (t+256) ⟨v1,sh⟩) rfl aF (aB.trans (rS (show t+u<=t+256 by omega) aC) aA) ⟨y,_,rfl,rfl⟩
 |cons p ws =>
  have hne:v1.ws≠[]:=by rw[hws];exact List.cons_ne_nil _ _
  have hd:=Ad hws;have hk1:nL v1.ws=(nL v1.ws - 1)+1:=o_;have hlt:decide ((0:Int)<((p::ws).length:Nat))=true:=decide_eq_true (by rw[aAs];omega);rw[hk1,wY _ _ _ hne] at h2;have hw1:(Dv.pE ⟨v1,sh⟩ (pB 7 0 0 0)).w.ws=(v1.bV 0).1.ws:=by show(v1.step _).1.ws=_;rw[Fz h3]
  have hl1:=(oY ⟨v1,sh⟩ (pB 7 0 0 0)).2;have hmore:=CH (nL (Dv.pE ⟨v1,sh⟩ (pB 7 0 0 0)).w.ws) (Dv.pE ⟨v1,sh⟩ (pB 7 0 0 0)) (u+1) (nL v1.ws - 1 - nL (Dv.pE ⟨v1,sh⟩ (pB 7 0 0 0)).w.ws) (by rw[hl1];exact h3) (aAf _);rw[show nL (Dv.pE ⟨v1,sh⟩ (pB 7 0 0 0)).w.ws+(nL v1.ws - 1 - nL (Dv.pE ⟨v1,sh⟩ (pB 7 0 0 0)).w.ws)=nL v1.ws - 1 by rw[hw1];omega,h2] at hmore;rw[<-hw1] at hd;have dw:=λM A c hr=>aRi M (P++y) gv g (t+u) ⟨v1,sh⟩ (λ_=>True) A 1 c [pB 7 0 0 0] hr o_ (λst hst=>by rw[aAp.1 hst];exact Am) (aRu λst hst=>by rw[aAp.1 hst];exact .inl (.inr (of_decide_eq_true rfl))) trivial;have e1:Dv.J1 ⟨v1,sh⟩ [pB 7 0 0 0]=Dv.pE ⟨v1,sh⟩ (pB 7 0 0 0):=rfl;rw[e1] at dw;generalize Dv.pE ⟨v1,sh⟩ (pB 7 0 0 0)=d2 at *;dsimp only[dA] at dw;repeat first|refine v_ ?_|intro
  refine L.fQ sD (S.QZ (T:=mX) (e1:=pB 7 0 0 0) rfl eS rfl FV (by rfl) sD) ?_;rintro _ _ ⟨_,rfl,rfl⟩;repeat first|refine v_ ?_|intro
  refine dX (λM=>dw M _ _) ?_;rintro e H' ⟨Q2,rfl,rfl⟩;repeat first|refine v_ ?_|intro
  have hd':nL d2.w.ws<nL (p::ws):=by rw[<-hws];exact hd
  exact⟨(d2,u+1,y++Q2),aD,by rw[<-aAb,<-aDv];exact aA,⟨by dsimp only;omega,hmore.symm,by dsimp only;rw[hl1];exact h3⟩,by dsimp only;omega⟩
end
section
variable (E:Env) (P:List Ov) (g t:Nat) (v:Wv)
theorem aSg(r:Nat):aRv (λ_=>True) (EH r):=aRu λst hst=>by
 rcases aEj.1 hst with h|h
 ·rw[h];exact .inl (.inr (of_decide_eq_true rfl))
 ·rw[aAp.1 h];exact .inl (.inr (of_decide_eq_true rfl))
theorem aRj(ht:t<=990000)(hn:(1<=v.bU.length/\v.bU.length<=4)/\(v.bU.length:Int)=v.cf.bN):G E 67 [pt g] [aQ P g t v,aI P] λe H'=>∃Q,e=.returned (.bool v.round.short)/\H'=[aQ (P++Q) g (t+1200) v.round.w,aI (P++Q)]:=by
 have k1:xA 132=true:=q_;have k2:xA 134=true:=q_;have k3:xA 135=true:=q_;unfold Wv.round;have c0:∀d:Dv,d.w.cf=v.cf->d.w.bU.length=v.bU.length->d.w.bU.length<=4/\(d.w.bU.length:Int)=d.w.cf.bN:=λd h1 h2=>⟨by rw[h2];exact hn.1.2,by rw[h1,h2];exact hn.2⟩
 have dl:=λM P gv t (d:Dv) (h1:d.w.bU.length=v.bU.length) ht=>aRr M P gv g t d ht (by rw[h1];exact hn.1.1);have al:=λM P gv t (d:Dv) (h1:d.w.cf=v.cf/\d.w.bU.length=v.bU.length) f cs F hk law hF hK i hi ht=>aRk M P gv g t d (λ_=>True) f cs F hk law hF hK trivial i hi ht (c0 d h1.1 h1.2);have dw:=λM P gv t (d:Dv) A c st hr ht hI hK=>aRi M P gv g t d (λ_=>True) A 1 c [st] hr ht hI hK trivial;have e1:∀(d:Dv) st,Dv.J1 d [st]=d.pE st:=λd st=>rfl;simp only[e1] at dw;have dl0:=λM gv=>dl M P gv t ⟨v,false⟩ rfl o_;dsimp only[dA] at dl al dw dl0;obtain⟨d1,hd1⟩:∃d,(Dv.mk v false).bV=d:=⟨_,rfl⟩
 have b1:=uC ⟨v,false⟩;rw[hd1] at b1 dl0⊢;dsimp only at b1;obtain⟨d2,hd2⟩:∃d,d1.all 0 (pH 15)=d:=⟨_,rfl⟩
 have b2:=oZ d1 0 (pH 15);rw[hd2,b1.1,b1.2] at b2;rw[hd2];obtain⟨d3,hd3⟩:∃d,d2.all 1 EH=d:=⟨_,rfl⟩
 have b3:=oZ d2 1 EH;rw[hd3,b2.1,b2.2] at b3;rw[hd3];obtain⟨d4,hd4⟩:∃d,d3.bV=d:=⟨_,rfl⟩
 have b4:=uC d3;rw[hd4,b3.1,b3.2] at b4;rw[hd4];obtain⟨d5,hd5⟩:∃d,d4.pE (pB 4 0 0 16)=d:=⟨_,rfl⟩
 have b5:=oY d4 (pB 4 0 0 16);rw[hd5,b4.1,b4.2] at b5;rw[hd5];obtain⟨d6,hd6⟩:∃d,d5.all 1 AK=d:=⟨_,rfl⟩
 have b6:=oZ d5 1 AK;rw[hd6,b5.1,b5.2] at b6;rw[hd6];obtain⟨d7,hd7⟩:∃d,d6.bV=d:=⟨_,rfl⟩
 have b7:=uC d6;rw[hd7,b6.1,b6.2] at b7;rw[hd7];obtain⟨d8,hd8⟩:∃d,d7.all 0 (pH 5)=d:=⟨_,rfl⟩
 have b8:=oZ d7 0 (pH 5);rw[hd8,b7.1,b7.2] at b8;rw[hd8];obtain⟨d9,hd9⟩:∃d,d8.bV=d:=⟨_,rfl⟩
 have b9:=uC d8;rw[hd9,b8.1,b8.2] at b9;rw[hd9];obtain⟨d10,hd10⟩:∃d,d9.pE (pB 6 0 0 v.cf.cap)=d:=⟨_,rfl⟩
 rw[hd10];have cfg:=λM P t=>xU M P g t d9.w;rw[b9.1] at cfg;refine t_ func67 ntmps67 ?_;repeat first|refine v_ ?_|intro
 rename_i gv;refine bW (λM=>dl0 M gv) ?_;rintro e H' ⟨Q1,n1,rfl,rfl⟩;repeat first|refine v_ ?_|intro
 refine bW (λM=>S4 M 15) ?_;rintro e H' ⟨ga1,rfl,rfl⟩;repeat first|refine v_ ?_|intro
 refine cl sD sK aC (λM hE=>al M (P++Q1) gv (t+256) d1 b1 132 [pt ga1] (pH 15) k1 (KW M ga1 15 (gE.of hE aS)) (BL 15) (λr=>aRu λst hst=>by rw[aAp.1 hst];exact .inr ⟨rfl,.inr rfl⟩) 0 o_ o_) ?_;rintro e H' ⟨Q2,rfl,rfl⟩;rw[hd2];repeat first|refine v_ ?_|intro
 refine cl sD sK aC (λM hE=>al M (P++Q1++Q2) gv (t+256+8) d2 b2 134 [] EH k2 (YZ M) Nn aSg 1 o_ o_) ?_;rintro e H' ⟨Q3,rfl,rfl⟩;rw[hd3];repeat first|refine v_ ?_|intro
 refine bW (λM=>dl M (P++Q1++Q2++Q3) gv (t+256+8+8) d3 b3.2 (by omega)) ?_;rintro e H' ⟨Q4,n4,rfl,rfl⟩;rw[hd4];repeat first|refine v_ ?_|intro
 refine L.fQ sD (S.QZ (T:=mX) (e1:=pB 4 0 0 16) rfl eS rfl FV (by rfl) sD) ?_;rintro _ _ ⟨_,rfl,rfl⟩;repeat first|refine v_ ?_|intro
 refine cl sD sK aC (λM hE=>dw M (P++Q1++Q2++Q3++Q4) gv (t+256+8+8+256) d4 _ _ (pB 4 0 0 16) dB o_ (λst hst=>by rw[aAp.1 hst];exact Am) (aRu λst hst=>by rw[aAp.1 hst];exact .inl (.inr (of_decide_eq_true rfl)))) ?_;rintro e H' ⟨Q5,rfl,rfl⟩;rw[hd5];repeat first|refine v_ ?_|intro
 refine cl sD sK aC (λM hE=>al M (P++Q1++Q2++Q3++Q4++Q5) gv (t+256+8+8+256+1) d5 b5 135 [] AK k3 (Uq M) aHx (λr=>aRu λst hst=>by rw[aAp.1 hst];exact .inl (.inr (of_decide_eq_true rfl))) 1 o_ o_) ?_;rintro e H' ⟨Q6,rfl,rfl⟩;rw[hd6];repeat first|refine v_ ?_|intro
 refine bW (λM=>dl M (P++Q1++Q2++Q3++Q4++Q5++Q6) gv (t+256+8+8+256+1+8) d6 b6.2 (by omega)) ?_;rintro e H' ⟨Q7,n7,rfl,rfl⟩;rw[hd7];repeat first|refine v_ ?_|intro
 refine bW (λM=>S4 M 5) ?_;rintro e H' ⟨ga2,rfl,rfl⟩;repeat first|refine v_ ?_|intro
 refine cl sD sK aC (λM hE=>al M (P++Q1++Q2++Q3++Q4++Q5++Q6++Q7) gv (t+256+8+8+256+1+8+256) d7 b7 132 [pt ga2] (pH 5) k1 (KW M ga2 5 (gE.of hE aS)) (BL 5) (λr=>aRu λst hst=>by rw[aAp.1 hst];exact .inl (.inr (of_decide_eq_true rfl))) 0 o_ o_) ?_;rintro e H' ⟨Q8,rfl,rfl⟩;rw[hd8];repeat first|refine v_ ?_|intro
 refine bW (λM=>dl M (P++Q1++Q2++Q3++Q4++Q5++Q6++Q7++Q8) gv (t+256+8+8+256+1+8+256+8) d8 b8.2 (by omega)) ?_;rintro e H' ⟨Q9,n9,rfl,rfl⟩;rw[hd9];repeat first|refine v_ ?_|intro
 refine bK (λM=>cfg M (P++Q1++Q2++Q3++Q4++Q5++Q6++Q7++Q8++Q9) (t+256+8+8+256+1+8+256+8+256)) ?_;repeat first|refine v_ ?_|intro
 refine L.fQ sD (S.QZ (T:=mX) (e1:=pB 6 0 0 v.cf.cap) rfl eS rfl FV (by rfl) sD) ?_;rintro _ _ ⟨_,rfl,rfl⟩;repeat first|refine v_ ?_|intro
 refine cl sD sK aC (λM hE=>dw M (P++Q1++Q2++Q3++Q4++Q5++Q6++Q7++Q8++Q9) gv (t+256+8+8+256+1+8+256+8+256) d9 _ _ (pB 6 0 0 v.cf.cap) dB o_ (λst hst=>by rw[aAp.1 hst];exact Am) (aRu λst hst=>by rw[aAp.1 hst];exact .inl (.inr (of_decide_eq_true rfl)))) ?_;rintro e H' ⟨Q10,rfl,rfl⟩;rw[hd10];repeat first|refine v_ ?_|intro
 exact aR (H':=[aQ (P++(Q1++(Q2++(Q3++(Q4++(Q5++(Q6++(Q7++(Q8++(Q9++Q10)))))))))) g (t+1200) d10.w,aI (P++(Q1++(Q2++(Q3++(Q4++(Q5++(Q6++(Q7++(Q8++(Q9++Q10))))))))))]) rfl aF (by simp only[<-aAb];exact aB.trans (rS (show t+256+8+8+256+1+8+256+8+256+1<=t+1200 by omega) aC) aA) ⟨_,rfl,rfl⟩
theorem aRz:∀(k:Nat) (v:Wv) (sh:Bool) (m:Nat),aRw k v=true->Ups (xY k v sh m).1
 |0,_,_,_,h=>aRy h
 |k+1,v,sh,m,h=>by
  cases hq:v.quiet with
  |true=>rw[Fk hq];exact aRy h
  |false=>rw[OF hq];exact aRz k _ _ _ (aSf h hq)
theorem aSb{I:Wv->Prop}{F:Nat->List cH}(hK:∀r,aRv I (F r)):∀(k r:Nat) (d:Dv),I d.w->I (AW F r k d).w
 |0,_,_,h=>h
 |k+1,r,d,h=>aSb hK k (r+1) (d.J1 (F r)) (aRx (hK r) h)
theorem aSj{I:Wv->Prop}{F:Nat->List cH}{d:Dv}{i:Nat}(hK:∀r,aRv I (F r))(h:I d.w):I (d.all i F).w:=aSb hK _ _ _ h
theorem aRl(ht:t<=1000)(hn:(1<=v.bU.length/\v.bU.length<=4)/\(v.bU.length:Int)=v.cf.bN)(hu:Ups v)(hfu:aRw 40 v.start=true):G E 11 [pt g,.int .i64 40] [aQ P g t v,aI P] λe H'=>∃Q,e=.returned (.tuple #[.int .i64 (v.fair 40).2.1,.bool (v.fair 40).2.2])/\H'=[aQ (P++Q) g (t+50000) (v.fair 40).1,aI (P++Q)]:=by
 have k1:xA 132=true:=q_;have st0:=Py v;unfold Wv.fair;have hsd:v.start=((((Dv.mk v false).pE (pB 11 0 0 0)).all 0 (pH 14)).all 0 (pH 13)).w:=rfl;have s7:=aSa (st:=pB 11 0 0 0) rfl (.inl rfl);have x5:∀r,aRv Ups (pH 14 r):=λr=>aSa rfl (.inr (.inr rfl));have k13:∀r,aRv Ups (pH 13 r):=λr=>aSa rfl (.inr (.inl rfl));have u1:Ups ((Dv.mk v false).pE (pB 11 0 0 0)).w:=(s7 v hu _ aBo).2;have u2:Ups (((Dv.mk v false).pE (pB 11 0 0 0)).all 0 (pH 14)).w:=aSj x5 u1;have al:=λM P gv t (d:Dv) (h1:d.w.cf=v.cf/\d.w.bU.length=v.bU.length) f cs F hk law hF hK hI i hi ht=>aRk M P gv g t d Ups f cs F hk law hF hK hI i hi ht (by rw[h1.1,h1.2];exact⟨hn.1.2,hn.2⟩);have dw:=λM P gv A c hr=>aRi M P gv g t ⟨v,false⟩ Ups A 1 c [pB 11 0 0 0] hr o_ (λst hst=>by rw[aAp.1 hst];exact Am) s7 hu;have e1:∀(d:Dv) st,Dv.J1 d [st]=d.pE st:=λd st=>rfl;rw[e1] at dw;dsimp only[dA] at al dw;obtain⟨d1,hd1⟩:∃d,(Dv.mk v false).pE (pB 11 0 0 0)=d:=⟨_,rfl⟩
 have b1:=oY ⟨v,false⟩ (pB 11 0 0 0);rw[hd1] at b1 dw hsd u1 u2;dsimp only at b1;obtain⟨d2,hd2⟩:∃d,d1.all 0 (pH 14)=d:=⟨_,rfl⟩
 have b2:=oZ d1 0 (pH 14);rw[hd2,b1.1,b1.2] at b2;rw[hd2] at hsd u2;obtain⟨d3,hd3⟩:∃d,d2.all 0 (pH 13)=d:=⟨_,rfl⟩
 rw[hd3] at hsd;have hclamp:dF 40 0 100=40:=sD;have hfe:xY 40 v.start false 0=(xY 40 v.start false 0):=rfl;generalize hfE:xY 40 v.start false 0=fE at *;clear hfe;refine t_ func11 ntmps11 ?_;repeat first|refine v_ ?_|intro
 rename_i gv;refine L.fQ sD (S.QZ (T:=mX) (e1:=pB 11 0 0 0) rfl eS rfl FV (by rfl) sD) ?_;rintro _ _ ⟨_,rfl,rfl⟩;repeat first|refine v_ ?_|intro
 refine dX (λM=>dw M P gv _ _) ?_;rintro e H' ⟨Q1,rfl,rfl⟩;repeat first|refine v_ ?_|intro
 refine bW (λM=>S4 M 14) ?_;rintro e H' ⟨ga1,rfl,rfl⟩;repeat first|refine v_ ?_|intro
 refine cl sD sK aC (λM hE=>al M (P++Q1) gv (t+1) d1 b1 132 [pt ga1] (pH 14) k1 (KW M ga1 14 (gE.of hE aS)) (BL 14) x5 u1 0 o_ o_) ?_;rintro e H' ⟨Q2,rfl,rfl⟩;rw[hd2];repeat first|refine v_ ?_|intro
 refine bW (λM=>S4 M 13) ?_;rintro e H' ⟨ga2,rfl,rfl⟩;repeat first|refine v_ ?_|intro
 refine cl sD sK aC (λM hE=>al M (P++Q1++Q2) gv (t+1+8) d2 b2 132 [pt ga2] (pH 13) k1 (KW M ga2 13 (gE.of hE aS)) (BL 13) k13 u2 0 o_ o_) ?_;rintro e H' ⟨Q3,rfl,rfl⟩;rw[hd3,<-hsd];repeat first|refine v_ ?_|intro
 rw[hclamp];refine C.loop (X:=Nat×Wv×Bool×List Ov) (λx=>[(0,pt g),(1,.int .i64 40),(7,.bool x.2.2.1),(23,.int .i64 40),(24,.int .i64 x.1)]) (λx=>[aQ (P++x.2.2.2) g (t+100+1200*x.1) x.2.1,aI (P++x.2.2.2)])
  (λx=>x.1<=40/\xY (40 - x.1) x.2.1 x.2.2.1 x.1=fE/\x.2.1.cf=v.cf/\x.2.1.bU.length=v.bU.length/\aRw (40 - x.1) x.2.1=true) (λx=>40 - x.1) (0,v.start,false,Q1++(Q2++Q3)) aD (by simp only[<-aAb];exact aB.trans (rS (show t+1+8+8<=t+100+1200*0 by omega) aC) aA) ⟨aAh _,hfE,st0.1,st0.2,hfu⟩ ?_
 rintro⟨m,v1,sh,y⟩ G ⟨h1,h2,h3,h4,h5⟩;dsimp only at h1 h2 h3 h4 h5⊢;by_cases hlt:m<40
 ·have hn1:(1<=v1.bU.length/\v1.bU.length<=4)/\(v1.bU.length:Int)=v1.cf.bN:=by rw[h3,h4];exact hn
  have hrep:=hn1.2;have hrep1:=hn1.1.1;have cfg:=λM=>xU M (P++y) g (t+100+1200*m) v1;have qt:=λM=>aSd M (P++y) g (t+100+1200*m) v1 o_ hn1 (aRy h5);have rd:=λM P=>aRj M P g (t+100+1200*m) v1 o_ hn1;have rcf:=N2 v1;rw[show 40 - m=(40 - (m+1))+1 by omega] at h2 h5;cases hq:v1.quiet with
  |true =>
   rw[Fk hq] at h2;subst h2;rw[hq] at qt;repeat first|refine v_ ?_|intro
   refine bK cfg ?_;repeat first|refine v_ ?_|intro
   refine bW qt ?_;rintro e H' ⟨Q4,rfl,rfl⟩;repeat first|refine v_ ?_|intro
   exact vT (H':=[aQ (P++(y++Q4)) g (t+50000) v1,aI (P++(y++Q4))]) rfl aF aF (by simp only[<-aAb];exact aB.trans (rS (show t+100+1200*m<=t+50000 by omega) aC) aA) ⟨_,rfl,rfl⟩
  |false =>
   rw[OF hq] at h2;have h6:=aSf h5 hq;rw[hq] at qt;generalize v1.round=d4 at *;obtain⟨v4,sh4⟩:=d4;dsimp only at h2 rd rcf h6;repeat first|refine v_ ?_|intro
   refine bK cfg ?_;repeat first|refine v_ ?_|intro
   refine bW qt ?_;rintro e H' ⟨Q4,rfl,rfl⟩;repeat first|refine v_ ?_|intro
   refine bW (λM=>rd M (P++y++Q4)) ?_;rintro e H' ⟨Q5,rfl,rfl⟩;refine gk bG ?_;cases sh4 with
   |true =>
    repeat first|refine v_ ?_|intro
    exact⟨(m+1,v4,true,y++(Q4++Q5)),aD,by simp only[<-aAb];exact aA,⟨by dsimp only;omega,h2,rcf.1.trans h3,rcf.2.trans h4,h6⟩,by dsimp only;omega⟩
   |false =>
    repeat first|refine v_ ?_|intro
    exact⟨(m+1,v4,sh,y++(Q4++Q5)),aD,by simp only[<-aAb];exact aA,⟨by dsimp only;omega,h2,rcf.1.trans h3,rcf.2.trans h4,h6⟩,by dsimp only;omega⟩
 ·obtain rfl:m=40:=o_;have h2:(v1,40,sh)=fE:=h2;subst h2;repeat first|refine v_ ?_|intro
  rw[hclamp];exact vT (H':=[aQ (P++y) g (t+50000) v1,aI (P++y)]) rfl aF aF (aB.trans (rS (show t+100+1200*40<=t+50000 by omega) aC) aA) ⟨_,rfl,rfl⟩
end
section
variable (E:Env) (P:List Ov)
theorem aSl(cf:fU)(hf:cf.cV)(A:Option Addr)(m c:Nat)(l:List cH)(hr:Rd E mX A m c l)(hm:m<=256)(hl:∀st∈l,dQ st.c.n)(hK:aRv (λ_=>True) l):G E 86 [.agg cf.cs.toArray,.slice A m c,.func (.func 87) #[] #[]] [aI P] λe H'=>∃Q g,e=.returned (.tuple #[pt g,.int .i64 0])/\H'=[aQ (P++Q) g (m+1) ((Wv.new cf).run l),aI (P++Q)]:=by
 have nw:=λM=>aRn M P cf hf;have hlen:=hr.len;generalize Wv.new cf=v0 at *;refine t_ func86 ntmps86 ?_;repeat first|refine v_ ?_|intro
 refine bW nw ?_;rintro e H' ⟨Q,g,rfl,rfl⟩;repeat first|refine v_ ?_|intro
 rename_i g3;refine C.scan (Y:=List Ov) (l:=l) (n:=m) hlen (λi _=>[(2,.func (.func 87) #[] #[]),(8,pt g),(25,.slice A m c),(26,.int .i64 m),(27,.int .i64 i)])
  (λi y=>[aQ (P++y) g (i+1) (v0.run (l.take i)),aI (P++y)]) (λ_ _=>True) Q aD (by show aB E _ [aQ (P++Q) g 1 v0,aI (P++Q)];exact aA) trivial ?_ ?_
 ·rintro i y st F hi hst -;have hI:=hl st (aAi hst);have jV:=λM=>aRd M (P++y) g (i+1) (v0.run (l.take i)) o_ st hI (hK _ trivial st (aAi hst)).1;rw[Ox hst];generalize (v0.run (l.take i)).step st=z at *;obtain⟨v1,a⟩:=z;dsimp only at jV⊢;repeat first|refine v_ ?_|intro
  refine bW jV ?_;rintro e H' ⟨Q2,rfl,rfl⟩;repeat first|refine v_ ?_|intro
  refine cv sD rfl rfl rfl .nil (λM hE=>p8 M a) ?_;rintro e H' ⟨rfl,rfl⟩;repeat first|refine v_ ?_|intro
  exact⟨y++Q2,aD,by rw[<-aAb];exact aA,trivial⟩
 ·rintro y F -;rw[show l.take m=l by rw[hlen,aAo]];repeat first|refine v_ ?_|intro
  exact Cz ⟨y,g,rfl,rfl⟩
theorem aSk(cf:fU)(hf:cf.cV)(A:Option Addr)(m c:Nat)(l:List cH)(hr:Rd E mX A m c l)(hm:m<=256)(hl:∀st∈l,dQ st.c.n)(hK:aRv (λ_=>True) l):G E 24 [.agg cf.cs.toArray,.slice A m c] [aI P] λe H'=>∃Q g,e=.returned (.tuple #[pt g,.int .i64 0])/\H'=[aQ (P++Q) g (m+1) ((Wv.new cf).run l),aI (P++Q)]:=by
 have ea:=λM hr=>aSl M P cf hf A m c l hr hm hl hK;generalize (Wv.new cf).run l=v at *;refine t_ func24 ntmps24 ?_;repeat first|refine v_ ?_|intro
 refine dX ea ?_;rintro e H' ⟨Q,g,rfl,rfl⟩;repeat first|refine v_ ?_|intro
 exact Cz ⟨Q,g,rfl,rfl⟩
end
def Bb:fU:=⟨2,40,4,1,2⟩
def vW:List cH :=
 [⟨1,0,0,0,⟨⟨0,0⟩,0,1,2,0,9,⟨0,0⟩⟩⟩,⟨1,0,0,0,⟨⟨0,0⟩,0,2,1,0,50,⟨0,0⟩⟩⟩,⟨1,0,0,0,⟨⟨0,0⟩,0,9,2,0,3,⟨0,0⟩⟩⟩,
 ⟨4,0,0,9,mW⟩,⟨3,1,0,0,mW⟩,⟨7,0,0,0,mW⟩,⟨7,0,0,0,mW⟩,
 ⟨1,1,0,0,⟨⟨0,0⟩,0,3,1,2,4,⟨0,0⟩⟩⟩,⟨5,1,0,0,mW⟩,⟨7,0,0,0,mW⟩]
theorem Uv(E:Env):G E 45 [] [] (cM (.agg Bb.cs.toArray) []):=by
 refine t_ func45 ntmps45 ?_;repeat first|refine v_ ?_|intro
 exact cI (H':=[]) (cs:=[.int .i64 2,.int .i64 40,.int .i64 4,.int .i64 1,.int .i64 2]) rfl aF rfl rfl rfl aS rfl aA ⟨rfl,rfl⟩
theorem Uo(E:Env):G E 46 [] [] λe H'=>∃A c,e=.returned (.slice A 10 c)/\H'=[own mX A 10 c vW]:=by
 refine t_ func46 ntmps46 ?_;repeat first|refine v_ ?_|intro
 refine L.fQ sD (S.pP (T:=mX) (l:=vW) rfl rfl rfl rfl sD) ?_;rintro _ _ ⟨_,rfl,rfl⟩;repeat first|refine v_ ?_|intro
 exact jQ ⟨_,_,rfl,rfl⟩
noncomputable def aw:Wv:=(Wv.new Bb).run vW
noncomputable def fw:Wv×Nat×Bool:=aw.fair 40
theorem WO:aw.app.length=1:=q_
theorem VA:aw.bU.length=2:=q_
theorem US:aw.cf.bN=2:=q_
theorem Zi:decide (0<fw.2.1)=true:=q_
theorem NT:fw.2.2=false:=q_
theorem Uu:fw.1.bU.length=2:=q_
theorem Uj:fw.1.cf.bN=2:=q_
theorem Pe:fw.1.quiet=true:=q_
theorem Vn:(fw.1.state 0).v.l.length=4:=q_
instance (x:Int):Decidable (dQ x):=by unfold dQ;infer_instance
instance (x:bJ):Decidable x.ok:=by unfold bJ.ok;infer_instance
instance (x:aX):Decidable x.ok:=by unfold aX.ok;infer_instance
theorem YC:decide (∀c∈(fw.1.state 0).v.l,c.ok)=true:=q_
theorem UQ:decide ((GJ (fw.1.state 0).v.l).length<20)=true:=q_
theorem Vu:decide (FP fw.1.app=Ep (fw.1.state 0).v.l)=true:=q_
theorem Vs:fw.1.app.length=3:=q_
theorem PX:decide (∀st∈vW,dQ st.c.n)=true:=q_
theorem aSh:decide (∀st∈vW,(st.kind=1\/(3<=st.kind/\st.kind<=7))\/st.n=0/\(st.kind=11\/st.kind=15))=true:=q_
theorem aSm:aw.bU.all (·.up)=true:=q_
theorem aSe:aRw 40 aw.start=true:=q_
theorem aSi(E:Env):G E 7 [] [] (cM (.bool true) []):=by
 refine aK.pre (aB.kP dM) ?_;have hv:(Wv.new Bb).run vW=aw:=rfl;have hw0:aw.fair 40=fw:=rfl;have hU:Ups fw.1:=aRz 40 aw.start false 0 aSe;have hfine:Bb.cV:=sD;have hsok:∀st∈vW,dQ st.c.n:=of_decide_eq_true PX;have a1:=WO;have a3:Ups aw:=λn hn=>aDm.1 aSm n hn;have a2:(1<=aw.bU.length/\aw.bU.length<=4)/\(aw.bU.length:Int)=aw.cf.bN:=by rw[VA,US];decide
 have f1:=of_decide_eq_true Zi;have f2:=NT;have f3:(1<=fw.1.bU.length/\fw.1.bU.length<=4)/\(fw.1.bU.length:Int)=fw.1.cf.bN:=by rw[Uu,Uj];decide
 have f4:=Pe;have f5:=Vn;have f6:=of_decide_eq_true YC;have f7:=of_decide_eq_true UQ;have f8:=of_decide_eq_true Vu;have f9:=Vs;have wld:=λM A c hr=>aSk M [] Bb hfine A 10 c vW hr sD hsok (aRu (of_decide_eq_true aSh));rw[hv] at wld;have fr:=λM P g=>aRl M P g 11 aw sD a2 a3 aSe;rw[hw0] at fr;clear hv hw0;generalize aw=v at *;obtain⟨⟨v1,n,sh⟩,hf⟩:∃z,fw=z:=⟨_,rfl⟩
 rw[hf] at f1 f2 f3 f4 f5 f6 f7 f8 f9 fr hU;dsimp only at f1 f2 f3 f4 f5 f6 f7 f8 f9 fr hU;subst f2;obtain⟨n0,hn0⟩:∃n0,v1.bU[0]?=some n0:=⟨_,aAa o_⟩
 have hst:v1.state 0=n0.state:=by unfold Wv.state;rw[hn0]
 rw[hst] at f5 f6 f7 f8;have qt:=λM P g=>aSd M P g (11+50000) v1 sD f3 hU;rw[f4] at qt;have sta:=λM P g=>aSc M P g (11+50000) v1 0 n0 hn0 (hU n0 (aAi hn0)) sD;refine t_ func7 ntmps7 ?_;repeat first|refine v_ ?_|intro
 refine bK Uv ?_;repeat first|refine v_ ?_|intro
 refine bW Uo ?_;rintro e H' ⟨A,c,rfl,rfl⟩;repeat first|refine v_ ?_|intro
 refine dX (λM=>wld M A c) ?_;rintro e H' ⟨Q,g,rfl,rfl⟩;repeat first|refine v_ ?_|intro
 refine cl sD sK aC (λM hE=>zZ M _ g _ v sD) ?_;rintro e H' ⟨g2,rfl,rfl⟩;repeat first|refine v_ ?_|intro
 refine bW (λM=>oB M g2 v.ref v.app (by omega)) ?_;rintro e H' ⟨A2,c2,hc2,rfl,rfl⟩;repeat first|refine v_ ?_|intro
 refine bW (λM=>fr M _ g) ?_;rintro e H' ⟨Q2,rfl,rfl⟩;repeat first|refine v_ ?_|intro
 refine bW (λM=>sta M _ g) ?_;rintro e H' ⟨Q3,g3,rfl,rfl⟩;repeat first|refine v_ ?_|intro
 refine bW (λM=>qQ M _ g3 n0.state) ?_;rintro e H' ⟨g4,rfl,rfl⟩;repeat first|refine v_ ?_|intro
 refine bW (λM=>iV M _ g4 n0.state.v) ?_;rintro e H' ⟨B,k,hk,rfl,rfl⟩;repeat first|refine v_ ?_|intro
 refine bW (λM=>qt M _ g) ?_;rintro e H' ⟨Q4,rfl,rfl⟩;repeat first|refine v_ ?_|intro
 refine cl sD sK aC (λM hE=>zZ M _ g _ v1 sD) ?_;rintro e H' ⟨g5,rfl,rfl⟩;repeat first|refine v_ ?_|intro
 refine bW (λM=>oB M g5 v1.ref v1.app (by omega)) ?_;rintro e H' ⟨A5,c5,hc5,rfl,rfl⟩;repeat first|refine v_ ?_|intro
 refine C1 (λM h1 h2=>QR M A5 v1.app.length c5 v1.app h1 (by omega) (BK.rK (Nat.lt_of_le_of_lt (aMa v1.app ([],[])) (by rw[aDh];omega))) B n0.state.v.l.length k n0.state.v.l h2 f6 (by omega) (by omega) (BK.rK f7)) ?_;rintro e H' ⟨rfl,rfl⟩;rw[decide_eq_true f8];repeat first|refine v_ ?_|intro
 refine cl sD sK aC (λM hE=>zZ M _ g _ v1 sD) ?_;rintro e H' ⟨g6,rfl,rfl⟩;repeat first|refine v_ ?_|intro
 refine bW (λM=>oB M g6 v1.ref v1.app (by omega)) ?_;rintro e H' ⟨A6,c6,hc6,rfl,rfl⟩;repeat first|refine v_ ?_|intro
 exact aR rfl aF aA (⟨rJ,rfl⟩)
end
section
structure Calm(n:Nd)(k:Nat):Prop where
 up:n.up=true
 dead:n.ls.dead=false
 aG:n.ls.aG = -1
 n64:n.ls.N=64
 room:n.ls.pos+n.ls.cG.length+30*k<=2048
theorem aMp(a len:Nat):iT (-1) a len=false:=decide_eq_false o_
theorem aMn(a len:Nat):fY (-1) a len = -1:=by unfold fY;rw[if_neg o_,if_pos rfl]
theorem Calm.less{n:Nd}{k j:Nat}(h:Calm n k)(hj:j<=k):Calm n j:=⟨h.up,h.dead,h.aG,h.n64,by have:=h.room;omega⟩
theorem Calm.write{n:Nd}{k:Nat}(h:Calm n (k+1)){x:Rc}(hd:(n.s.doc x).2=0):∃n',n.write x=(n',0)/\Calm n' k/\n'.r=n.r/\n'.s=(n.s.doc x).1:=by
 have hb:=x.xW;have hr:=h.room;have hN:=h.n64;have ha:n.ls.append x.b=(0,⟨n.ls.N,n.ls.D,n.ls.bF++[x.b],n.ls.kE,n.ls.pos,n.ls.cG++Frm.fr x.b,n.ls.dead,n.ls.aG⟩):=by
  unfold LS.append;rw[if_neg o_,if_neg o_,if_neg o_]
 refine⟨⟨n.r,⟨n.ls.N,n.ls.D,n.ls.bF++[x.b],n.ls.kE,n.ls.pos,n.ls.cG++Frm.fr x.b,n.ls.dead,n.ls.aG⟩,n.up,⟨n.lc.base,n.lc.l++[x]⟩,(n.s.doc x).1⟩,?_,⟨h.up,h.dead,h.aG,hN,?_⟩,rfl,rfl⟩
 ·unfold Nd.write;rw[if_pos hd,ha,if_pos rfl]
 ·have:=Frm.bO x.b;dsimp only;rw[aAe];omega
theorem Calm.sync{n:Nd}{k:Nat}(h:Calm n k):∃n',n.sync=(n',0)/\Calm n' k/\n'.r=n.r/\n'.s=n.s:=by
 have hs:=Kd h.dead (show iT n.ls.aG n.ls.pos n.ls.cG.length=false by rw[h.aG];exact aMp _ _);have hr:=h.room;refine⟨⟨n.r,n.ls.sync.2,true,n.lc,n.s⟩,?_,⟨rfl,?_,?_,?_,?_⟩,rfl,rfl⟩
 ·unfold Nd.sync;rw[if_pos h.up,if_pos (by rw[hs])]
 all_goals dsimp only;rw[hs]
 ·show fY n.ls.aG _ _ = -1;rw[h.aG];exact aMn _ _
 ·exact h.n64
 ·show n.ls.pos+n.ls.cG.length+0+30*k<=2048;omega
theorem Calm.pack{n:Nd}{k:Nat}(h:Calm n 0)(hk:n.At.length+7+30*k<=2048):∃n',n.pack.1=n'/\Calm n' k/\n'.r=n.r/\n'.s=n.s:=by
 have hi:n.At.length=(fJ n.s).length+1:=rfl;have e1:rT n.ls = -1:=by show fY n.ls.aG 0 (32*n.ls.N) = -1;rw[h.aG];exact aMn _ _
 have e2:yA n.ls n.At = -1:=by show fY (rT n.ls) 0 _ = -1;rw[e1];exact aMn _ _
 have hs:n.ls.swap n.At=(0,⟨n.ls.N,nM n.ls n.At,[n.At],1,n.At.length+7,[],false,gX (yA n.ls n.At)⟩):=by
  have hN:=h.n64;unfold LS.swap;rw[if_neg o_,if_neg o_,if_neg o_,if_neg (by rw[h.dead];exact aAl),if_neg (by rw[h.aG,aMp];exact aAl),if_neg (by rw[e1,aMp];exact aAl),if_neg (by rw[e2];decide)]
 refine⟨_,rfl,?_⟩;unfold Nd.pack;rw[if_pos h.up,if_pos (by rw[hs])];refine⟨⟨rfl,?_,?_,?_,?_⟩,rfl,rfl⟩;all_goals dsimp only;rw[hs]
 ·show gX (yA n.ls n.At) = -1;rw[e2];rfl
 ·exact h.n64
 ·show n.At.length+7+0+30*k<=2048;omega
theorem aLi(r:Int)(i:Nat):(RT r i).rep=r/\1<=(RT r i).seq/\((RT r i).seq - 1).toNat=i/\(RT r i).seq=((i+1:Nat):Int):=⟨rfl,by show(1:Int)<=((i+1:Nat):Int);omega,by show(((i+1:Nat):Int) - 1).toNat=i;omega,rfl⟩
theorem aMk{r:Int}(hr:0<=r/\r<=3){i j:Nat}(hi:i<48)(hj:j<255):bP.may ⟨RT r i,(j:Int)+1,false⟩=true:=by
 obtain⟨h1,h2,_,h4⟩:=aLi r i;rw[bP.bY];dsimp only;rw[h1];omega
structure aOq(r:Int)(j:Nat)(ps:List dS)(q:dK):Prop where
 h:∃i p,ps[i]?=some p/\i<48/\q.key=⟨RT r i,(j:Int)+1,false⟩/\j<p.w.length/\q.bC.check=0/\dQ q.bC.n
section
variable {r:Int} {j:Nat} (hr:0<=r/\r<=3) (hj:j<255)
include hr hj
theorem aPm{s:Sv}(hs:s.r=r){now:Int}(hnow:0<=now/\now<=1073741824){i:Nat}{p:dS}(hp:s.ps[i]?=some p)(hi:i<48)(hd:Dn p j)(hw:j<p.w.length):s.doc (.DG ⟨RT r i,(j:Int)+1,false⟩ now)=(⟨s.v,s.ps.set i (p.gV (RT r i) now),r⟩,0):=by
 obtain⟨h1,h2,h3,h4⟩:=aLi r i;have hl:=(aAd.1 hp).1;have hg:s.ps.getD i s0=p:=by rw[aBb,hp];rfl
 obtain⟨k1,k2⟩:=hd.tA hj (RT r i) hw now;show s.MO _ now=_;unfold Sv.MO;rw[if_pos (by rw[aMk hr hi hj];exact decide_eq_true hnow)];unfold wJ;dsimp only;rw[if_pos ⟨h1.trans hs.symm,h2,by omega⟩,h3,hg,k1,k2,hs];rfl
theorem aPf{s:Sv}(hs:s.r=r){i:Nat}{p:dS}(hp:s.ps[i]?=some p)(hi:i<48)(hd:Tn p j):s.doc (.qJ ⟨RT r i,(j:Int)+1,false⟩)=(⟨s.v,s.ps.set i (p.qJ (RT r i) ⟨RT r i,(j:Int)+1,false⟩),r⟩,0):=by
 obtain⟨h1,h2,h3,h4⟩:=aLi r i;have hl:=(aAd.1 hp).1;have hg:s.ps.getD i s0=p:=by rw[aBb,hp];rfl
 obtain⟨_,_,k3⟩:=hd.qJ (RT r i);show s.Ls _=_;unfold Sv.Ls;rw[if_pos (aMk hr hi hj)];unfold wZ;dsimp only;rw[if_pos ⟨h1.trans hs.symm,h2,by omega⟩,h3,hg,k3,hs];rfl
theorem Calm.tries{now:Int}(hnow:0<=now/\now<=1073741824){k:Nat}:∀ {L acc:List dK} {n:Nd},Calm n (L.length+k)->n.s.r=r->(∀q∈L,aOq r j n.s.ps q)->(∀q∈L,∀i p,q.key.id=RT r i->n.s.ps[i]?=some p->Dn p j)->(L.map λq=>q.key.id).Nodup ->
  ∃n',n.tries now L acc=(n',acc++L,0)/\Calm n' k/\n'.r=n.r/\n'.s=⟨n.s.v,aKi r (λa p=>p.gV a now) (L.map λq=>q.key.id) n.s.ps,r⟩
 | [],acc,n,hc,hs,_,_,_=>⟨n,by unfold Nd.tries;rw[aAc],hc.less (by simp),rfl,by rw[aDo,aMf,<-hs]⟩
 |q::L,acc,n,hc,hs,hq,hdn,hnd=>by
  obtain⟨⟨i,p,hp,hi,hk,hw,hwt⟩⟩:=hq q aBo;have hid:q.key.id=RT r i:=by rw[hk]
  have hd:=aPm hr hj hs hnow hp hi (hdn q aBo i p hid hp) hw;rw[<-hk] at hd;obtain⟨n1,w1,w2,w3,w4⟩:=Calm.write (n:=n) (k:=L.length+k) (by rw[aAs] at hc;exact hc.less o_) (x:=.DG q.key now) (by rw[hd]);rw[hd] at w4;dsimp only at w4;rw[aCi,aQy,hid] at hnd;have hne:∀y∈L,∀i',y.key.id=RT r i'->i'≠i:=λy hy i' h1 h2=>hnd.1 (by rw[<-h2,<-h1];exact aFi (f:=λq:dK=>q.key.id) hy);obtain⟨n2,t1,t2,t3,t4⟩:=Calm.tries hnow (k:=k) (L:=L) (acc:=acc++[q]) (n:=n1) w2 (by rw[w4]) (λy hy=>by
   obtain⟨⟨i',p',hp',h2,h3,h4⟩⟩:=hq y (aBl _ hy);refine⟨i',p',?_,h2,h3,h4⟩;rw[w4];dsimp only;rw[aEq (aFh (hne y hy i' (by rw[h3])))];exact hp') (λy hy i' p' h1 h2=>by
   rw[w4] at h2;dsimp only at h2;rw[aEq (aFh (hne y hy i' h1))] at h2;exact hdn y (aBl _ hy) i' p' h1 h2) hnd.2
  refine⟨n2,?_,t2,t3.trans w3,?_⟩
  ·unfold Nd.tries;rw[w1,if_pos rfl,t1,aAb];rfl
  ·rw[t4,w4,aCi,hid,aLs hp hnd.1]
end
def aLl(r:Int)(q:dK):fD:=⟨9,(Vl r q).enc,false⟩
def aKr(r:Int)(q:dK):fD:=⟨r,(DB (Vl r q)).enc,false⟩
structure aLb(r:Int)(q:dK):Prop where
 r:0<=r/\r<=3
 k:q.key.may=true
 w:q.bC.check=0
 n:dQ q.bC.n
theorem aLb.u5{r:Int}{q:dK}(h:aLb r q):(Vl r q).check=0:=by
 have e1:wV r=true:=decide_eq_true h.r;unfold Mg.check;refine(if_pos ⟨(by decide:(1:Int)<=3),(by decide:(3:Int)<=4)⟩).trans ((if_pos ?_).trans (if_pos rfl));show((wV r&&decide ((9:Int)=9))&&(q.key.may&&decide (q.bC.check=0)))=true;rw[e1,h.k,decide_eq_true h.w];rfl
theorem aLb.qJ{r:Int}{q:dK}(h:aLb r q):(DB (Vl r q)).check=0:=by
 have e1:wV r=true:=decide_eq_true h.r;unfold Mg.check;refine(if_pos ⟨(by decide:(1:Int)<=4),(by decide:(4:Int)<=4)⟩).trans ((if_pos ?_).trans (if_pos rfl));show((decide ((9:Int)=9)&&wV r)&&q.key.may)=true;rw[e1,h.k];rfl
theorem aLb.aPb{r:Int}{q:dK}(h:aLb r q):mM (aLl r q).b=some (Vl r q):=MR h.u5 ⟨λ_ hc=>(aAk hc).elim,h.n⟩
theorem aLb.aPg{r:Int}{q:dK}(h:aLb r q):mM (aKr r q).b=some (DB (Vl r q)):=MR h.qJ ⟨λ_ hc=>(aAk hc).elim,dQ.zero⟩
theorem aMu{r now:Int}:∀ {L:List dK} {ws:List fD} {aW:List fM},(∀q∈L,aLb r q)->ws.length+L.length<=128->(jN r now ws aW L).1=ws++L.map (aLl r)
 | [],ws,_,_,_=>by rw[aDo,aAc];rfl
 |q::L,ws,aW,h,hl=>by
  rw[aAs] at hl;have e:(jW ws (Vl r q)).1=ws++[aLl r q]:=by
   unfold jW;rw[if_neg (λhn=>hn (h q aBo).u5)];unfold zX;rw[if_neg o_];rfl
  show(jN r now (jW ws (Vl r q)).1 _ L).1=_;rw[e,aMu (λx hx=>h x (aBl _ hx)) (by rw[aAe,aDa];omega),aCi,aAb];rfl
theorem aNo:∀(k:Nat) (d:Dv) (n m:Nat),(nJ k d n).1=(nJ k d m).1
 |0,_,_,_=>rfl
 |k+1,d,n,m=>by
  by_cases hw:d.w.ws=[]
  ·rw[qN _ d n hw,qN _ d m hw]
  ·rw[wY _ d n hw,wY _ d m hw,aNo k _ (n+1) (m+1)]
theorem aLn{d:Dv}(h:d.w.ws=[]):d.bV=d:=by
 unfold Dv.bV;rw[qN _ d 0 h]
theorem aMw{d:Dv}{p:fD}{ws:List fD}(h:d.w.ws=p::ws)(hn:1<=d.w.bU.length):d.bV=(d.pE (pB 7 0 0 0)).bV:=by
 have hw:=Ad h;have e:(d.pE (pB 7 0 0 0)).w=(d.w.bV 0).1:=Fz hn;obtain⟨j,hj⟩:∃j,nL d.w.ws=(nL (d.w.bV 0).1.ws+j)+1:=⟨nL d.w.ws - 1 - nL (d.w.bV 0).1.ws,by omega⟩
 unfold Dv.bV;rw[hj,wY _ d 0 (by rw[h];exact List.cons_ne_nil _ _),<-e,CH _ _ _ _ (by rw[(oY d _).2];exact hn) (aAf _)];exact aNo _ _ _ _
theorem aQe(p:fD)(ws:List fD):xB (p::ws) 0=some p:=rfl
theorem aPe{cf:fU}{now sub:Int}{aW:List fM}{ws:List fD}{app:List dK}{bU:List Nd}{r:Int}{q:dK}{sh:Bool}(hq:aLb r q)(hn:1<=bU.length)(hk:q.key∉app.map dK.key)(hl:ws.length<128) :
  ∃sh',(Dv.mk ⟨cf,now,sub,aW,aLl r q::ws,0,app,bU⟩ sh).bV=(Dv.mk ⟨cf,now,sub,aW,ws++[aKr r q],0,app++[q],bU⟩ sh').bV:=by
 have key:(Wv.bV ⟨cf,now,sub,aW,aLl r q::ws,0,app,bU⟩ 0).1=⟨cf,now,sub,aW,ws++[aKr r q],0,app++[q],bU⟩:=by
  have g:L8 0 app ⟨(Vl r q).key,(Vl r q).bC⟩=((0,app++[q]),true):=by
   show L8 0 app q=_;unfold L8;rw[if_neg hk,if_neg o_]
  have p1:(jW ws (DB (Vl r q))).1=ws++[aKr r q]:=by
   unfold jW;rw[if_neg (λhn=>hn hq.qJ)];unfold zX;rw[if_neg o_];rfl
  unfold Wv.bV;dsimp only;rw[aQe];dsimp only;rw[hq.aPb];dsimp only;rw[if_pos (show(aLl r q).to=9 from rfl)];unfold gG;rw[g,if_pos rfl];show(⟨cf,now,sub,aW,(jW ws (DB (Vl r q))).1,0,app++[q],bU⟩:Wv)=_;rw[p1]
 rw[aMw (d:=Dv.mk ⟨cf,now,sub,aW,aLl r q::ws,0,app,bU⟩ sh) (p:=aLl r q) (ws:=ws) rfl hn];unfold Dv.pE;dsimp only;rw[Fz hn,key];exact⟨_,rfl⟩
theorem aMz{cf:fU}{now sub:Int}{aW:List fM}{bU:List Nd}{r:Int}(hn:1<=bU.length):∀ {L:List dK} {A:List fD} {app:List dK} {sh:Bool},(∀q∈L,aLb r q)->((app++L).map dK.key).Nodup->L.length+A.length<=128 ->
  ∃sh',(Dv.mk ⟨cf,now,sub,aW,L.map (aLl r)++A,0,app,bU⟩ sh).bV=(Dv.mk ⟨cf,now,sub,aW,A++L.map (aKr r),0,app++L,bU⟩ sh').bV
 | [],A,app,sh,_,_,_=>⟨sh,by rw[aDo,aDo,aAc,aAc];rfl⟩
 |q::L,A,app,sh,h,hnd,hl=>by
  rw[aAs] at hl;have hk:q.key∉app.map dK.key:=λhm=>by
   rw[aBk,aCi] at hnd;exact(aQv.1 hnd).2.2 _ hm _ aBo rfl
  obtain⟨s1,e1⟩:=aPe (cf:=cf) (now:=now) (sub:=sub) (aW:=aW) (bU:=bU) (sh:=sh) (ws:=L.map (aLl r)++A) (app:=app) (h q aBo) hn hk (by rw[aAe,aAw];omega);obtain⟨s2,e2⟩:=aMz (cf:=cf) (now:=now) (sub:=sub) (aW:=aW) hn (L:=L) (A:=A++[aKr r q]) (app:=app++[q]) (sh:=s1) (λx hx=>h x (aBl _ hx)) (by rw[aAb];exact hnd) (by rw[aAe,aDa];omega);refine⟨s2,?_⟩;rw[aCi,aCj,e1,aAb,e2,aAb,aAb,aCi];rfl
theorem aOz{cf:fU}{now sub:Int}{aW:List fM}{ws:List fD}{app:List dK}{n:Nd}{q:dK}{sh:Bool}{k:Nat}(hq:aLb 0 q)(hc:Calm n (k+1))(hd:(n.s.doc (.qJ q.key)).2=0) :
  ∃sh' n',(Dv.mk ⟨cf,now,sub,aW,aKr 0 q::ws,0,app,[n]⟩ sh).bV=(Dv.mk ⟨cf,now,sub,aW,ws,0,app,[n']⟩ sh').bV/\Calm n' k/\n'.r=n.r/\n'.s=(n.s.doc (.qJ q.key)).1:=by
 obtain⟨n',w1,w2,w3,w4⟩:=hc.write hd;have ht:n.take [.qJ q.key]=(n',1,0):=by
  unfold Nd.take;rw[if_pos hc.up];unfold Nd.AQ;rw[w1,if_pos rfl];rfl
 have key:(Wv.bV ⟨cf,now,sub,aW,aKr 0 q::ws,0,app,[n]⟩ 0).1=⟨cf,now,sub,aW,ws,0,app,[n']⟩:=by
  unfold Wv.bV;dsimp only;rw[aQe];dsimp only;rw[hq.aPg];dsimp only;rw[if_neg (by show ¬(0:Int)=9;decide),if_neg (by show ¬(0:Int)<0;decide)];have e:([n]:List Nd)[(aKr 0 q).to.toNat]?=some n:=rfl;rw[e];dsimp only;rw[if_pos hc.up];have hh:(dG ws n (DB (Vl 0 q))).1=(ws,n'):=by
   unfold dG;rw[if_neg (by show ¬(4:Int)=1;decide),if_neg (by show ¬(4:Int)=2;decide),if_neg (λhx=>hx hd)];show(ws,(n.take [.qJ q.key]).1)=_;rw[ht]
  show(⟨cf,now,sub,aW,(dG ws n (DB (Vl 0 q))).1.1,0,app,[(dG ws n (DB (Vl 0 q))).1.2]⟩:Wv)=_;rw[hh]
 rw[aMw (d:=Dv.mk ⟨cf,now,sub,aW,aKr 0 q::ws,0,app,[n]⟩ sh) (p:=aKr 0 q) (ws:=ws) rfl (aAf 1)];have hn:1<=(Wv.bU ⟨cf,now,sub,aW,aKr 0 q::ws,0,app,[n]⟩).length:=aAf 1;have hs:=(Fz hn).trans key;refine⟨(sh||(!decide ((pB 7 0 0 0).kind=15)&&decide ((Wv.step ⟨cf,now,sub,aW,aKr 0 q::ws,0,app,[n]⟩ (pB 7 0 0 0)).2.code=10))),n',?_,w2,w3,w4⟩;show(Dv.mk (Wv.step ⟨cf,now,sub,aW,aKr 0 q::ws,0,app,[n]⟩ (pB 7 0 0 0)).1 _).bV=_;rw[hs]
theorem aMv{cf:fU}{now sub:Int}{aW:List fM}{app:List dK}{j:Nat}(hj:j<255){k:Nat}:∀ {L:List dK} {n:Nd} {sh:Bool},(∀q∈L,aLb 0 q)->Calm n (L.length+k)->n.s.r=0->(∀q∈L,aOq 0 j n.s.ps q)->(∀q∈L,∀i p,q.key.id=RT 0 i->n.s.ps[i]?=some p->Tn p j)->(L.map λq=>q.key.id).Nodup ->
  ∃sh' n',(Dv.mk ⟨cf,now,sub,aW,L.map (aKr 0),0,app,[n]⟩ sh).bV=Dv.mk ⟨cf,now,sub,aW,[],0,app,[n']⟩ sh'/\Calm n' k/\n'.r=n.r/\n'.s=⟨n.s.v,aKi 0 (λa p=>p.qJ a ⟨a,(j:Int)+1,false⟩) (L.map λq=>q.key.id) n.s.ps,0⟩
 | [],n,sh,_,hc,hs,_,_,_=>⟨sh,n,aLn rfl,hc.less (by simp),rfl,by rw[aDo,aMf,<-hs]⟩
 |q::L,n,sh,h,hc,hs,hq,hdn,hnd=>by
  obtain⟨⟨i,p,hp,hi,hk,hw,hwt⟩⟩:=hq q aBo;have hid:q.key.id=RT 0 i:=by rw[hk]
  have hd:=aPf sD hj hs hp hi (hdn q aBo i p hid hp);rw[<-hk] at hd;rw[aAs] at hc;obtain⟨s1,n1,e1,w2,w3,w4⟩:=aOz (cf:=cf) (now:=now) (sub:=sub) (aW:=aW) (app:=app) (sh:=sh) (ws:=L.map (aKr 0)) (k:=L.length+k) (h q aBo) (hc.less o_) (by rw[hd]);rw[hd] at w4;dsimp only at w4;rw[aCi,aQy,hid] at hnd;have hne:∀y∈L,∀i',y.key.id=RT 0 i'->i'≠i:=λy hy i' h1 h2=>hnd.1 (by rw[<-h2,<-h1];exact aFi (f:=λq:dK=>q.key.id) hy);obtain⟨s2,n2,t1,t2,t3,t4⟩:=aMv hj (k:=k) (L:=L) (n:=n1) (sh:=s1) (cf:=cf) (now:=now) (sub:=sub) (aW:=aW) (app:=app) (λx hx=>h x (aBl _ hx)) w2 (by rw[w4]) (λy hy=>by
   obtain⟨⟨i',p',hp',h2,h3,h4⟩⟩:=hq y (aBl _ hy);refine⟨i',p',?_,h2,h3,h4⟩;rw[w4];dsimp only;rw[aEq (aFh (hne y hy i' (by rw[h3])))];exact hp') (λy hy i' p' h1 h2=>by
   rw[w4] at h2;dsimp only at h2;rw[aEq (aFh (hne y hy i' h1))] at h2;exact hdn y (aBl _ hy) i' p' h1 h2) hnd.2
  refine⟨s2,n2,?_,t2,t3.trans w3,?_⟩
  ·rw[aCi,e1,t1]
  ·rw[t4,w4,aCi,hid,aLs hp hnd.1,hk]
theorem aNj{o:Out}(h:o.fit)(pF:Bool):(mU o pF).length<=4:=by
 have hl:∀l:List cQ,(l.filter tG).length+(l.filter kD).length<=l.length:=by
  intro l
  induction l with
  |nil=>exact aAf _
  |cons x l ih =>
   have:¬(tG x=true/\kD x=true):=by
    rintro⟨h1,h2⟩;unfold tG at h1;rw[h2] at h1;simp at h1
   simp only[List.filter_cons,aAs];split<;>split<;>(try simp only[aAs])<;>first|omega|(exfalso;exact this ⟨‹_›,‹_›⟩)
 have h1:=hl o.zM;have h2:=h.len;unfold mU;split
 ·rw[aAe];split
  ·omega
  ·rw[aDh];omega
 ·exact aAh _
def aJu(c:aX):cH:=⟨1,0,0,0,⟨⟨0,0⟩,0,c.kind,c.a,c.b,c.n,c.ref⟩⟩
noncomputable def aKl(z:Wv×List aX)(c:aX):Wv×List aX :=
 if (z.1.step (aJu c)).2.code=0 then((z.1.step (aJu c)).1,z.2++[⟨⟨0,(z.1.step (aJu c)).2.n⟩,(z.1.step (aJu c)).2.n,c.kind,c.a,c.b,c.n,c.ref⟩]) else((z.1.step (aJu c)).1,z.2)
structure Sb(cf:fU)(z:Wv×List aX):Prop where
 h:∃nd:Nd,z.1=⟨cf,0,z.2.length,[],[],0,[],[nd]⟩/\Calm nd (68 - z.2.length)/\nd.r=0/\nd.s.r=0/\Gd nd.s/\Em nd.s.ps/\nd.s.v=⟨[],z.2,⟨z.2.length,0,0,0⟩,⟨z.2.length,0,0,0⟩⟩
 id:∀(i:Nat) (c:aX),z.2[i]?=some c->c.id=RT 0 i
 len:z.2.length<=12
theorem Sb.new{cf:fU}(h1:cf.bN=1)(h2:cf.eF=64):Sb cf (Wv.new cf,[]):=by
 refine⟨⟨Nd.new 0 64,?_,⟨rfl,rfl,rfl,rfl,by show 0+0+30*(68 - 0)<=2048;decide⟩,rfl,rfl,Gd.new sD,(λ_ h=>(aAk h).elim),rfl⟩,(λ_ _ h=>by cases h),aAh _⟩;show Wv.new cf=_;unfold Wv.new;rw[h1,h2];rfl
theorem Sb.step{cf:fU}{z:Wv×List aX}(h:Sb cf z){c:aX}(hl:z.2.length<12)(hc:dQ c.n):Sb cf (aKl z c):=by
 obtain⟨v,all⟩:=z;obtain⟨⟨nd,hv,hcalm,hr,hsr,hg,hem,hsv⟩,hid,_⟩:=h;dsimp only at hv hcalm hsv hid hl;have stay:∀ {a:wM},v.step (aJu c)=(v,a)->a.code≠0->Sb cf (aKl (v,all) c):=λe ha=>by
  unfold aKl;dsimp only;rw[e,if_neg ha];exact⟨⟨nd,hv,hcalm,hr,hsr,hg,hem,hsv⟩,hid,by dsimp only;omega⟩
 by_cases hck:(aJu c).check=0
 case neg=>exact stay (a:=⟨(aJu c).check,0,0⟩) (by unfold Wv.step;rw[if_pos hck]) hck
 have hst:v.step (aJu c)=v.fC 0 nd (aJu c).c:=by
  unfold Wv.step;rw[if_neg (λh=>h hck)];have e:v.bU[(aJu c).r.toNat]?=some nd:=by rw[hv];rfl
  rw[e];rfl
 have hs48:¬48<=v.sub:=by rw[hv];dsimp only;omega
 by_cases hm:(nd.s.make (aJu c).c).2=0
 case neg =>
  have e:nd.fC (aJu c).c=(nd,dO,(nd.s.make (aJu c).c).2):=by
   unfold Nd.fC;rw[if_pos hcalm.up,if_neg hm]
  refine stay (a:=⟨(nd.s.make (aJu c).c).2,0,0⟩) ?_ hm;rw[hst];unfold Wv.fC kA;rw[if_neg hs48,e,if_pos hm,hv];rfl
 obtain⟨m1,m2⟩:=Rz (s:=nd.s) (c:=(aJu c).c) hc hm;have hmk:(nd.s.make (aJu c).c).1=⟨⟨0,(all.length:Int)+1⟩,(all.length:Int)+1,c.kind,c.a,c.b,c.n,c.ref⟩:=by
  have hof:L0 (nd.s.v.l++nd.s.v.t)=nd.s.v.known:=aNl hg.v.MM λr hr=>by rw[BQ];exact aCd _
  unfold Sv.make at hm⊢;split at hm
  ·cases hm
  ·rename_i h1;rw[if_neg h1];split at hm
   ·rename_i h2;rw[if_pos h2,hof,hsv,hsr];unfold vK sF aJu;dsimp only;rw[if_pos sD,if_neg (show ¬(65535:Int)<=V4.get ⟨(all.length:Int),0,0,0⟩ 0 by show ¬(65535:Int)<=(all.length:Int);omega),show max (max (max (all.length:Int) 0) 0) 0=(all.length:Int) by omega];rfl
   ·cases hm
 obtain⟨x,hx⟩:∃x,(nd.s.make (aJu c).c).1=x:=⟨_,rfl⟩
 rw[hx] at m1 m2 hmk;have hno:gT nd.s.v.known nd.s.v.times x=true:=by
  refine gY.2 ⟨m2,?_,?_,?_⟩<;>rw[hmk]<;>dsimp only
  ·decide
  ·rw[hsv];rfl
  ·rw[hsv];show(all.length:Int)<(all.length:Int)+1;omega
 have hsrt:HL (nd.s.v.t++[x]):=by
  refine aFf.2 ⟨hg.v.HL,aFq _ _,λy hy b hb=>?_⟩;obtain rfl:=aAp.1 hb;have hf:=jF hg.v.MM (aCp _ hy);have ht:y.time<=all.length:=by
   have h5:=hf.2.2.2.2.2;rw[hsv] at h5;rcases four hf.2.1 with e|e|e|e<;>rw[e] at h5
   ·exact h5
   all_goals exact Int.le_trans h5 (by show(0:Int)<=(all.length:Int);omega)
  refine(yQ y _).2 (.inl ?_);rw[hmk];dsimp only;omega
 obtain⟨a1,a2,a3⟩:=xJ hg hem m1 (by rw[hsv];show 0+all.length<48;omega) hno hsrt;obtain⟨n',w1,w2,w3,w4⟩:=Calm.write (n:=nd) (k:=68 - (all.length+1)) (hcalm.less o_) (x:=.lI x) a1;have e:nd.fC (aJu c).c=(n',x,0):=by
  unfold Nd.fC;rw[if_pos hcalm.up,if_pos hm,hx,w1,if_pos rfl]
 have hstep:v.step (aJu c)=(⟨cf,0,((all.length+1:Nat):Int),[],[],0,[],[n']⟩,⟨0,(all.length:Int)+1,(cE n'.s.v x.id).1.code⟩):=by
  rw[hst];unfold Wv.fC kA;rw[if_neg hs48,e,if_neg (λh=>h rfl),hv];dsimp only;rw[show x.id.seq=(all.length:Int)+1 by rw[hmk]];rfl
 unfold aKl;dsimp only;rw[hstep,if_pos rfl];dsimp only;rw[<-hmk];refine⟨⟨n',by rw[aAe,aDa],by dsimp only;rw[aAe,aDa];exact w2,w3.trans hr,by rw[w4,KG];exact hsr,by rw[w4];exact hg.doc (x:=.lI x) m1,by rw[w4];exact a3,?_⟩,λi y hy=>?_,by dsimp only;rw[aAe,aDa];omega⟩
 ·rw[w4,a2,hsv];dsimp only;rw[aAe,aDa];rw[show x.id.rep=0 by rw[hmk],show x.id.seq=((all.length+1:Nat):Int) by rw[hmk];dsimp only;omega,show x.time=((all.length+1:Nat):Int) by rw[hmk];dsimp only;omega];rfl
 ·dsimp only at hy;by_cases hi:i<all.length
  ·rw[aBp hi] at hy;exact hid i y hy
  ·have hlt:=(aAd.1 hy).1;rw[aAe,aDa] at hlt;obtain rfl:i=all.length:=o_;rw[aBc (aAf _),aEi] at hy;rw[<-aDk hy,hmk];show(⟨0,(all.length:Int)+1⟩:bJ)=⟨0,((all.length+1:Nat):Int)⟩;rw[show((all.length+1:Nat):Int)=(all.length:Int)+1 by omega]
theorem Sb.run{cf:fU}:∀ {l:List aX} {z:Wv×List aX},Sb cf z->z.2.length+l.length<=12->(∀c∈l,dQ c.n)->Sb cf (l.foldl aKl z)
 | [],_,h,_,_=>h
 |c::l,z,h,hl,hc=>by
  rw[aAs] at hl;have h1:=h.step (c:=c) o_ (hc c aBo);refine Sb.run (l:=l) h1 ?_ λx hx=>hc x (aBl _ hx);have:(aKl z c).2.length<=z.2.length+1:=by
   unfold aKl;split
   ·dsimp only;rw[aAe,aDa];exact aAf _
   ·exact aCq _
  omega
theorem aNz{s:Sv}(h:Gd s)(he:Em s.ps){c:aX}{t:List aX}(ht:s.v.t=c::t):(s.doc (.rI c.id)).2=0/\(s.doc (.rI c.id)).1.v=⟨s.v.l++[c],t,s.v.known,s.v.times⟩/\Em (s.doc (.rI c.id)).1.ps:=by
 have hmay:=(aX.bY c).1 (h.v.may (c:=c) (by rw[ht];simp));have hid:c.id.may=true:=(bJ.bY _).2 hmay.1;have f0:bI (c::t) c.id=0:=by show place (λx:aX=>decide (x.id=c.id)) (c::t)=0;unfold place;rw[if_pos (decide_eq_true rfl)]
 have fr:lM (c::t) c.id=true:=by
  unfold lM;rw[f0,aAv];refine⟨rfl,?_⟩;rw[Bool.not_eq_true',List.any_eq_false];intro z hz hh;have hh:=of_decide_eq_true hh;rcases aEj.1 hz with rfl|hz
  ·omega
  ·obtain⟨a,b,rfl⟩:=List.append_of_mem hz;have hf:=h.v.MM;rw[ht] at hf;have:=MW (a:=s.v.l++c::a) (b:=b) (c:=z) (x:=c) (by rw[aAb];exact hf) (by simp) hh.1.symm;omega
 have e1:fZ s.v c.id=(⟨s.v.l++[c],t,s.v.known,s.v.times⟩,0):=by
  unfold fZ;rw[ht,f0,if_neg sD,if_neg (by rw[fr];decide)];unfold rF mD;rw[fr,f0,if_pos rfl,if_pos ⟨aCd _,by rw[aAs];omega⟩];rfl
 have e2:s.doc (.rI c.id)=(Sv.again ⟨⟨s.v.l++[c],t,s.v.known,s.v.times⟩,s.ps,s.r⟩,0):=by
  show s.KE c.id=_;unfold Sv.KE;rw[if_pos hid,e1,if_pos rfl]
 rw[e2];refine⟨rfl,rfl,?_⟩;have hv:=h.v.qA (x:=[]) (y:=t) (c:=c) ht (λ_ h=>(aAk h).elim);exact Em.again hv h.rep h.ch (by dsimp only;rw[h.n];exact aCd _) he
theorem aNe{k:Nat}:∀ {K:Nat} {n:Nd} {i:Nat},Gd n.s->Em n.s.ps->n.s.v.t.length<=K->Calm n (n.s.v.t.length+k) ->
  ∃n' a,AI K n i=(n',a)/\Calm n' k/\n'.r=n.r/\n'.s.r=n.s.r/\Gd n'.s/\Em n'.s.ps/\n'.s.v=⟨n.s.v.l++n.s.v.t,[],n.s.v.known,n.s.v.times⟩
 |0,n,i,hg,he,hl,hc=>by
  have ht:n.s.v.t=[]:=aQq.1 o_;exact⟨n,_,rfl,hc.less o_,rfl,rfl,hg,he,by rw[ht,aAc,<-ht]⟩
 |K+1,n,i,hg,he,hl,hc=>by
  cases ht:n.s.v.t with
  |nil =>
   refine⟨n,⟨0,i,0⟩,?_,hc.less o_,rfl,rfl,hg,he,by rw[aAc,<-ht]⟩;unfold AI;rw[ht];rfl
  |cons c t =>
   obtain⟨d1,d2,d3⟩:=aNz hg he ht;rw[ht,aAs] at hl hc;obtain⟨n1,w1,w2,w3,w4⟩:=Calm.write (n:=n) (k:=t.length+k) (hc.less o_) (x:=.rI c.id) d1;have htk:n.take [.rI c.id]=(n1,1,0):=by
    unfold Nd.take;rw[if_pos hc.up];unfold Nd.AQ;rw[w1,if_pos rfl];rfl
   have hv1:n1.s.v=⟨n.s.v.l++[c],t,n.s.v.known,n.s.v.times⟩:=by rw[w4,d2]
   obtain⟨n2,a,t1,t2,t3,t4,t5,t6,t7⟩:=aNe (k:=k) (K:=K) (n:=n1) (i:=i+1) (by rw[w4];exact hg.doc (x:=.rI c.id) trivial) (by rw[w4];exact d3) (by rw[hv1];dsimp only;omega) (by rw[hv1];exact w2);refine⟨n2,a,?_,t2,t3.trans w3,t4.trans (by rw[w4,KG]),t5,t6,by rw[t7,hv1];simp⟩;unfold AI;rw[ht];show(if (n.take [.rI c.id]).2.2=0 then AI K (n.take [.rI c.id]).1 (i+1) else _)=_;rw[htk,if_pos rfl,t1]
structure Cm(all:List aX)(j:Nat)(s:Sv):Prop where
 r:s.r=0
 l:s.v.l=all
 t:s.v.t=[]
 w:s.ps.map dS.w=B0 all
 d:∀(q:Nat) (p:dS),s.ps[q]?=some p->Dn p (min j p.w.length)
def aQj(all:List aX):Prop:=all.length<=12/\∀w∈B0 all,w.length<=4/\∀f∈w,f.check=0/\dQ f.n
theorem Cm.of{s:Sv}(hg:Gd s)(he:Em s.ps)(hr:s.r=0)(ht:s.v.t=[])(hk:s.v.known.get 0=s.v.l.length)(hid:∀(i:Nat) (c:aX),s.v.l[i]?=some c->c.id=RT 0 i):Cm s.v.l 0 s:=by
 have hn:=hg.n;rw[hr,hk] at hn;refine⟨hr,rfl,ht,aCk λi=>?_,λq p hp=>?_⟩
 ·rw[aBf,aBf];cases hp:s.ps[i]? with
  |none =>
   rw[aBx] at hp;rw[aBx.2 (by rw[lF];omega)];rfl
  |some p =>
   have hi:=(aAd.1 hp).1;have hw:=hg.w i p hp;have hf:bI s.v.l ⟨0,((i+1:Nat):Int)⟩=i:=by
    have hx:s.v.l[i]?=some s.v.l[i]:=aAa o_;refine xM (x:=s.v.l[i]) hx (decide_eq_true (hid i _ hx)) λj y hj hy=>decide_eq_false λe=>?_;have:=aKf ((hid j y hy).symm.trans e);omega
   have hol:cE s.v ⟨0,((i+1:Nat):Int)⟩=(((gH sY s.v.l).2[i]?).getD ⟨0,[]⟩,true,true):=by
    unfold cE;rw[hf,if_pos o_,aAu]
   rw[hr] at hw;unfold gI at hw;rw[hol,if_pos rfl] at hw;obtain⟨o,ho⟩:∃o,(gH sY s.v.l).2[i]?=some o:=⟨_,aAa (by rw[lF];omega)⟩
   rw[ho] at hw⊢;exact congrArg some (aDk hw).symm
 ·obtain⟨h1,h2⟩:=he p (aAi hp);obtain⟨m,l,w⟩:=p;dsimp only at h1 h2;subst h1 h2;rw[Nat.zero_min];exact Dn.zero
theorem aPh{l:List aX}(h1:∀c∈l,c.ok)(h2:∀c∈l,c.may=true)(hl:l.length<=12):aQj l:=by
 refine⟨hl,λw hw=>?_⟩;obtain⟨o,ho,rfl⟩:=aFn.1 hw;have hf:=(mG pS h1).2 o ho;have hfi:=DS pS h1 h2 o ho;exact⟨aNj hf true,λf hfm=>⟨Jb hfi true f hfm,((aLg hf true).1 f hfm).2.2.1⟩⟩
theorem Cm.len{all:List aX}{j:Nat}{s:Sv}(h:Cm all j s):s.ps.length=all.length:=by
 have:=congrArg List.length h.w;rw[aAw,aAw,lF] at this;exact this
theorem Cm.want{all:List aX}{j:Nat}{s:Sv}(h:Cm all j s){q:Nat}{p:dS}(hp:s.ps[q]?=some p):(B0 all)[q]?=some p.w:=by rw[<-h.w,aBf,hp];rfl
theorem Cm.ready{all:List aX}{j:Nat}{s:Sv}(h:Cm all j s){cf:fU}(hc:1<=cf.dC)(hj:j<=4)(now:Int):s.ready cf now=row 0 j s.ps s.ps.length:=by
 unfold Sv.ready row;refine aLy λi _=>?_;cases hp:s.ps[i]? with
 |none=>rfl
 |some p =>
  have hd:=h.d i p hp;have h1:=hd.ready o_ (RT s.r i) hc now;have h2:=hd.next o_ (RT s.r i);dsimp only;unfold fL aLh;rw[h1,h2];by_cases hlt:j<p.w.length
  ·rw[aBr o_,aAa hlt,h.r];rfl
  ·rw[aFe o_,aBx.2 (aAf _),aBx.2 o_];rfl
theorem aNv{f:dS->List UInt8}{k:Nat}:∀ {ps:List dS},(∀p∈ps,(f p).length<=k)->(ps.flatMap f).length<=k*ps.length
 | [],_=>aAh _
 |p::ps,h=>by
  have h1:=h p aBo;have h2:=aNv (f:=f) (k:=k) (ps:=ps) λx hx=>h x (aBl _ hx);rw[aDy,aAe,aAs,Nat.mul_succ];omega
theorem aNf(l:List aX):(AU l).length<=1+22*l.length:=by
 unfold AU;repeat' split
 all_goals (try rw[lZ])
 all_goals (try simp only[aDh])
 all_goals omega
theorem aPv{p:dS}{j:Nat}(h:p.l.length<=j):(NM p).length<=2+27*j:=by
 have:∀l:List bH,(l.flatMap Gs).length<=27*l.length:=by
  intro l
  induction l with
  |nil=>exact aAh _
  |cons e l ih =>
   have he:(Gs e).length<=27:=by
    unfold Gs;split
    ·exact Nat.le_of_eq e.bD
    ·exact aAh _
   rw[aDy,aAe,aAs];omega
 unfold NM;rw[aAe];have:=this p.l;simp only[aAs,aDh];omega
theorem aPq{n:Nd}{j:Nat}(h1:n.s.v.l.length+n.s.v.t.length<=12)(h2:n.s.ps.length<=12)(h3:∀p∈n.s.ps,p.l.length<=j):n.At.length+7<=298+324*j:=by
 have a1:=aNf n.s.v.l;have a2:=aNf n.s.v.t;have a3:=aNv (f:=NM) (k:=2+27*j) λp hp=>aPv (h3 p hp);have a4:(2+27*j)*n.s.ps.length<=(2+27*j)*12:=Nat.mul_le_mul_left _ h2;have e:n.At.length=(fJ n.s).length+1:=rfl;have e2:(fJ n.s).length=(AU n.s.v.l).length+(AU n.s.v.t).length+(n.s.ps.flatMap NM).length:=by unfold fJ;rw[aAe,aAe]
 omega
abbrev blank(W:List (List cQ)):List dS:=W.map λw=>⟨0,[],w⟩
theorem aQd{r:Int}{j k:Nat}{ps qs:List dS}(h:ps.map dS.w=qs.map dS.w):row r j ps k=row r j qs k:=by
 refine aLy λi _=>?_;have:(ps.map dS.w)[i]?=(qs.map dS.w)[i]?:=by rw[h]
 rw[aBf,aBf] at this;cases hp:ps[i]? with
 |none =>
  rw[hp] at this;cases hq:qs[i]? with
  |none=>rfl
  |some q=>rw[hq] at this;cases this
 |some p =>
  rw[hp] at this;cases hq:qs[i]? with
  |none=>rw[hq] at this;cases this
  |some q =>
   rw[hq] at this;have:=aDk this;dsimp only;unfold aLh;rw[this]
def rows(W:List (List cQ)):Nat->List dK
 |0=>[]
 |j+1=>rows W j++row 0 j (blank W) W.length
theorem aLd{W:List (List cQ)}{x:dK}:∀ {j:Nat},x∈rows W j↔∃k i w f,k<j/\W[i]?=some w/\w[k]?=some f/\x=⟨⟨RT 0 i,(k:Int)+1,false⟩,f⟩
 |0=>⟨λh=>(aAk h).elim,λ⟨_,_,_,_,h,_⟩=>by omega⟩
 |j+1=>by
  show x∈rows W j++row 0 j (blank W) W.length↔_;rw[aBg,aLd,mem_row];constructor
  ·rintro(⟨k,i,w,f,h1,h2⟩|⟨i,s,f,h1,h2,h3,h4⟩)
   ·exact⟨k,i,w,f,by omega,h2⟩
   ·rw[aBf] at h2;obtain⟨w,hw,rfl⟩:=aGg.1 h2;exact⟨j,i,w,f,by omega,hw,h3,h4⟩
  ·rintro⟨k,i,w,f,h1,h2,h3,h4⟩;by_cases hk:k<j
   ·exact .inl ⟨k,i,w,f,hk,h2,h3,h4⟩
   ·obtain rfl:k=j:=o_;exact .inr ⟨i,⟨0,[],w⟩,f,(aAd.1 h2).1,by rw[aBf,h2];rfl,h3,h4⟩
theorem aMd(W:List (List cQ)):∀j,((rows W j).map dK.key).Nodup
 |0=>List.Pairwise.nil
 |j+1=>by
  show((rows W j++row 0 j (blank W) W.length).map dK.key).Nodup;rw[aBk];have hr:=aMr 0 j (blank W) W.length;refine aQv.2 ⟨aMd W j,?_,λa ha b hb e=>?_⟩
  ·have e:(row 0 j (blank W) W.length).map (λq=>q.key.id)=((row 0 j (blank W) W.length).map dK.key).map bP.id:=by rw[List.map_map];rfl
   rw[e] at hr;exact aKj hr
  ·obtain⟨x,hx,rfl⟩:=aFn.1 ha;obtain⟨y,hy,rfl⟩:=aFn.1 hb;obtain⟨k,i,w,f,h1,_,_,rfl⟩:=aLd.1 hx;obtain⟨i2,s,f2,_,_,_,rfl⟩:=mem_row.1 hy;have:=congrArg bP.ord e;dsimp only at this;omega
theorem aMj{W:List (List cQ)}(i:Nat):∀j,aKs (RT 0 i) (rows W j)=(((W[i]?).getD []).take j).mapIdx λk f=>⟨⟨RT 0 i,(k:Int)+1,false⟩,f⟩
 |0=>by rw[aCg];rfl
 |j+1=>by
  have key:∀k,aKs (RT 0 i) (row 0 j (blank W) k)=if i<k then(match ((W[i]?).getD [])[j]? with|some f=>[⟨⟨RT 0 i,(j:Int)+1,false⟩,f⟩]|none=>[]) else[]:=by
   intro k
   induction k with
   |zero=>rfl
   |succ k ih =>
    rw[aNa,aLe,ih];have e1:(blank W)[k]?=(W[k]?).map λw=>⟨0,[],w⟩:=aBf;rw[e1];by_cases hik:i=k
    ·subst hik;rw[if_neg (Nat.lt_irrefl _),if_pos (Nat.lt_succ_self _),aBq];cases W[i]? with
     |none=>rfl
     |some w =>
      dsimp only[Option.map,Option.getD];unfold aLh;cases w[j]? with
      |none=>rfl
      |some f=>dsimp only;rw[aKz,if_pos rfl]
    ·have e2:aKs (RT 0 i) (match (W[k]?).map λw=>(⟨0,[],w⟩:dS) with|some s=>aLh 0 j k s|none=>[])=[]:=by
      cases W[k]? with
      |none=>rfl
      |some w =>
       dsimp only[Option.map];unfold aLh;cases w[j]? with
       |none=>rfl
       |some f=>dsimp only;rw[aKz,if_neg (λe=>hik (aKf e).symm)]
     refine(congrArg (_++·) e2).trans ?_;rw[aAc];by_cases hlt:i<k
     ·rw[if_pos hlt,if_pos o_]
     ·rw[if_neg hlt,if_neg o_]
  show aKs (RT 0 i) (rows W j++row 0 j (blank W) W.length)=_;rw[aLe,aMj i j,key];obtain⟨w,hw⟩:∃w,(W[i]?).getD []=w:=⟨_,rfl⟩
  have hno:¬i<W.length->w=[]:=λh=>by rw[<-hw,aBx.2 o_];rfl
  rw[hw];by_cases hj:j<w.length
  ·have hi:i<W.length:=by
    by_cases h:i<W.length
    ·exact h
    ·rw[hno h] at hj;exact absurd hj (aFk _)
   rw[if_pos hi,aAa hj,aAn hj,List.mapIdx_append];have:(w.take j).length=j:=by rw[aAg];omega
   simp[this]
  ·rw[aBx.2 o_,aAj (l:=w) o_,aAj (l:=w) o_];dsimp only;rw[ite_self,aAc]
theorem aNx:∀ {l:List dK},(∀q∈l,q.key.cD=false)->aMm l=l
 | [],_=>rfl
 |q::l,h=>by
  have h1:(l.any λx=>decide (x.key=q.key.other))=false:=by
   rw[List.any_eq_false];intro x hx he;have he:=of_decide_eq_true he;have:=congrArg bP.cD he;rw[h x (aBl _ hx)] at this;unfold bP.other at this;dsimp only at this;rw[h q aBo] at this;cases this
  unfold aMm;rw[h q aBo,h1,if_neg sD,aNx λx hx=>h x (aBl _ hx)]
theorem Cm.after{all:List aX}{j:Nat}{s:Sv}(h:Cm all j s)(hj:j<=4)(now:Int){ids:List bJ}(hid:∀(i:Nat) (p:dS),s.ps[i]?=some p->(RT 0 i∈ids↔j<p.w.length)) :
  Cm all (j+1) ⟨s.v,aKi 0 (λa p=>p.qJ a ⟨a,(j:Int)+1,false⟩) ids (aKi 0 (λa p=>p.gV a now) ids s.ps),0⟩:=by
 have key:∀(i:Nat) (p:dS),s.ps[i]?=some p->∃p',(aKi 0 (λa p=>p.qJ a ⟨a,(j:Int)+1,false⟩) ids (aKi 0 (λa p=>p.gV a now) ids s.ps))[i]?=some p'/\p'.w=p.w/\Dn p' (min (j+1) p.w.length):=by
  intro i p hp;have hd:=h.d i p hp;have h1:=aKb (r:=0) (f:=λa p=>p.gV a now) (ids:=ids) hp;have h2:=aKb (r:=0) (f:=λa p=>p.qJ a ⟨a,(j:Int)+1,false⟩) (ids:=ids) h1;refine⟨_,h2,?_⟩;by_cases hlt:j<p.w.length
  ·rw[if_pos ((hid i p hp).2 hlt),if_pos ((hid i p hp).2 hlt)];rw[aBr o_] at hd⊢;obtain⟨t1,t2⟩:=hd.gV o_ (RT 0 i) now hlt;obtain⟨a1,a2,_⟩:=t1.qJ (RT 0 i);exact⟨a2.trans t2,a1⟩
  ·rw[if_neg (λhm=>hlt ((hid i p hp).1 hm)),if_neg (λhm=>hlt ((hid i p hp).1 hm))];rw[aFe o_] at hd⊢;exact⟨rfl,hd⟩
 refine⟨rfl,h.l,h.t,?_,λq p' hp'=>?_⟩
 ·rw[<-h.w];refine aCk λi=>?_;rw[aBf,aBf];cases hp:s.ps[i]? with
  |none =>
   rw[aBx] at hp;rw[aBx.2 (by rw[aJz,aJz];exact hp)]
  |some p =>
   obtain⟨p',k1,k2,_⟩:=key i p hp;rw[k1];exact congrArg some k2
 ·cases hp:s.ps[q]? with
  |none =>
   rw[aBx] at hp;have:=(aAd.1 hp').1;rw[aJz,aJz] at this;omega
  |some p =>
   obtain⟨p2,k1,k2,k3⟩:=key q p hp;dsimp only at hp';rw[hp'] at k1;obtain rfl:=aDk k1;rw[k2];exact k3
abbrev W1(cf:fU)(now sub:Int)(aW:List fM)(ws:List fD)(app:List dK)(n:Nd):Wv:=⟨cf,now,sub,aW,ws,0,app,[n]⟩
section
variable {cf:fU} {now sub:Int} {aW:List fM} {ws:List fD} {app:List dK} {n:Nd} {sh:Bool}
theorem aOy:((W1 cf now sub aW ws app n).step (pB 15 0 0 0)).1=W1 cf now sub aW ws app n.pack.1:=by
 unfold Wv.step;rw[if_neg (show ¬(pB 15 0 0 0).check≠0 by decide)];rfl
theorem aPu(hu:n.up=true):((W1 cf now sub aW ws app n).step (pB 4 0 0 16)).1=W1 cf now sub aW ws app (AI 16 n 0).1:=by
 have e:(mT n 16).1=(AI 16 n 0).1:=by
  unfold mT;rw[if_pos sD,if_pos hu];rfl
 unfold Wv.step;rw[if_neg (show ¬(pB 4 0 0 16).check≠0 by decide),<-e];rfl
theorem aPd:((W1 cf now sub aW ws app n).step (pB 5 0 0 0)).1=W1 cf now sub (oO cf now ws aW n 0).1.2.1 (oO cf now ws aW n 0).1.1 app (oO cf now ws aW n 0).1.2.2:=by
 unfold Wv.step;rw[if_neg (show ¬(pB 5 0 0 0).check≠0 by decide)];rfl
theorem aPo(hnow:0<=now/\now<=1073741824)(k:Int):∃now',(0<=now'/\now'<=1073741824)/\((W1 cf now sub aW ws app n).step (pB 6 0 0 k)).1=W1 cf now' sub aW ws app n:=by
 unfold Wv.step;by_cases hc:(pB 6 0 0 k).check≠0
 ·rw[if_pos hc];exact⟨now,hnow,rfl⟩
 ·rw[if_neg hc];refine⟨(uD now k).1,?_,rfl⟩;unfold uD;split
  ·dsimp only;omega
  ·exact hnow
theorem aLp(f:Nat->List cH)(st:cH)(hf:f 0=[st]):(Dv.mk (W1 cf now sub aW ws app n) sh).all 0 f=(Dv.mk (W1 cf now sub aW ws app n) sh).pE st:=by
 show Dv.J1 _ (f 0)=_;rw[hf];rfl
end
structure Al(cf:fU)(all:List aX)(j:Nat)(v:Wv):Prop where
 h:∃(n:Nd) (now sub:Int) (aW:List fM),v=W1 cf now sub aW [] (rows (B0 all) j) n/\(0<=now/\now<=1073741824)/\Calm n 0 /\
  (Cm all j n.s\/j=0/\Gd n.s/\Em n.s.ps/\n.s.r=0/\n.s.v=⟨[],all,⟨all.length,0,0,0⟩,⟨all.length,0,0,0⟩⟩)
theorem Al.OQ{cf:fU}{all:List aX}{j:Nat}{v:Wv}(h:Al cf all j v):v.bU.all (·.up)=true:=by
 obtain⟨n,now,sub,aW,rfl,_,hc,_⟩:=h.h;show(n.up&&true)=true;rw[hc.up];rfl
section
variable {cf:fU} {all:List aX} (hf:aQj all) (hid:∀(i:Nat) (c:aX),all[i]?=some c->c.id=RT 0 i)
include hf hid
theorem Al.round(hmost:1<=cf.dC){j:Nat}(hj:j<=3){v:Wv}(h:Al cf all j v):Al cf all (j+1) v.round.w:=by
 obtain⟨n,now,sub,aW,rfl,hnow,hc,hs⟩:=h.h;have hps:n.s.ps.length<=12/\n.s.v.l.length+n.s.v.t.length<=12/\(∀p∈n.s.ps,p.l.length<=j)/\(j=0\/n.s.v.t=[]):=by
  rcases hs with hs|⟨rfl,hg,he,hr,hv⟩
  ·refine⟨by rw[hs.len];exact hf.1,by rw[hs.l,hs.t];exact hf.1,λp hp=>?_,.inr hs.t⟩;obtain⟨q,hq⟩:=aQx hp;rw[(hs.d q p hq).len];exact Nat.min_le_left _ _
  ·refine⟨?_,by rw[hv];show 0+all.length<=12;have:=hf.1;omega,λp hp=>by rw[(he p hp).2];exact aAf _,.inl rfl⟩;have:=hg.n;rw[hr,hv] at this;have e:V4.get ⟨(all.length:Int),0,0,0⟩ 0=all.length:=rfl;rw[e] at this;have:=hf.1;omega
 have himg:=aPq hps.2.1 hps.1 hps.2.2.1;obtain⟨n1,p1,p2,p3,p4⟩:=hc.pack (k:=n.s.v.t.length+24) (by
  rcases hps.2.2.2 with h0|h0
  ·have:=hps.2.1;subst h0;omega
  ·rw[h0,aDh];omega)
 obtain⟨n2,c1,c2,c4⟩:∃n2,(AI 16 n1 0).1=n2/\Calm n2 24/\Cm all j n2.s:=by
  rcases hs with hs|⟨rfl,hg,he,hr,hv⟩
  ·refine⟨n1,?_,p2.less o_,by rw[p4];exact hs⟩;unfold AI;rw[p4,hs.t];rfl
  ·rw[<-p4] at hg he hr hv p2;obtain⟨n2,a,t1,t2,t3,t4,t5,t6,t7⟩:=aNe (k:=24) (K:=16) (n:=n1) (i:=0) hg he (by rw[hv];show all.length<=16;have:=hf.1;omega) p2;rw[hv] at t7;dsimp only[List.nil_append] at t7;refine⟨n2,by rw[t1],t2,?_⟩;have:=Cm.of t5 t6 (t4.trans hr) (by rw[t7]) (by rw[t7];rfl) (by rw[t7];exact hid);rw[t7] at this;exact this
 have hL:=c4.ready hmost o_ now;have hlen:=c4.len;have hLl:=aPl 0 j n2.s.ps n2.s.ps.length;have hLr:row 0 j n2.s.ps n2.s.ps.length=row 0 j (blank (B0 all)) (B0 all).length:=by
  rw[hlen,show(B0 all).length=all.length by rw[aAw,lF]];exact aQd (by rw[c4.w,List.map_map];exact(List.map_id _).symm)
 have hLn:=aMr 0 j n2.s.ps n2.s.ps.length;have hLm:∀q∈row 0 j n2.s.ps n2.s.ps.length,aOq 0 j n2.s.ps q:=λq hq=>by
  obtain⟨i,p,f,k1,k2,k3,rfl⟩:=mem_row.1 hq;have hw:=hf.2 p.w (aAi (c4.want k2));have hfm:=hw.2 f (aAi k3);exact⟨i,p,k2,by have:=hf.1;omega,rfl,(aAd.1 k3).1,hfm.1,hfm.2⟩
 have hLi:∀(i:Nat) (p:dS),n2.s.ps[i]?=some p->(RT 0 i∈(row 0 j n2.s.ps n2.s.ps.length).map (λq=>q.key.id)↔j<p.w.length):=λi p hp=>by
  rw[aFn];constructor
  ·rintro⟨q,hq,e⟩;obtain⟨i',p',f,k1,k2,k3,rfl⟩:=mem_row.1 hq;have:=aKf e;subst this;rw[hp] at k2;obtain rfl:=aDk k2;exact(aAd.1 k3).1
  ·intro hlt;exact⟨⟨⟨RT 0 i,(j:Int)+1,false⟩,p.w[j]⟩,mem_row.2 ⟨i,p,p.w[j],(aAd.1 hp).1,hp,aAa hlt,rfl⟩,rfl⟩
 have hS:∀q∈row 0 j n2.s.ps n2.s.ps.length,aLb 0 q:=λq hq=>by
  obtain⟨⟨i,p,k1,k2,k3,k4,k5,k6⟩⟩:=hLm q hq;exact⟨by decide,by rw[k3];exact aMk sD k2 o_,k5,k6⟩
 have hid2:∀ {ps:List dS} {q:dK},q∈row 0 j n2.s.ps n2.s.ps.length->∀i,q.key.id=RT 0 i->RT 0 i∈(row 0 j n2.s.ps n2.s.ps.length).map (λq=>q.key.id):=λhq i e=>aFn.2 ⟨_,hq,e⟩;generalize hLL:row 0 j n2.s.ps n2.s.ps.length=L at *;have hdn:∀q∈L,∀i p,q.key.id=RT 0 i->n2.s.ps[i]?=some p->j<p.w.length/\Dn p j:=λq hq i p e hp=>by
  have hlt:=(hLi i p hp).1 (hid2 (ps:=[]) hq i e);have:=c4.d i p hp;rw[aBr o_] at this;exact⟨hlt,this⟩
 obtain⟨n3,t1,t2,t3,t4⟩:=Calm.tries (r:=0) (j:=j) sD o_ hnow (k:=12) (L:=L) (acc:=[]) (n:=n2) (c2.less (by have:=hf.1;omega)) c4.r hLm (λq hq i p e hp=>(hdn q hq i p e hp).2) hLn;obtain⟨n4,s1,s2,s3,s4⟩:=t2.sync;have hpump:n2.qD cf now=(n4,L,0):=by
  unfold Nd.qD;rw[if_pos c2.up,hL,t1,s1,if_pos rfl,aBq]
 have hsend:=aMu (now:=now) (ws:=[]) (aW:=aW) hS (by rw[aDh];have:=hf.1;omega);rw[aBq] at hsend;have hkeys:((rows (B0 all) j++L).map dK.key).Nodup:=by rw[hLr];exact aMd (B0 all) (j+1)
 obtain⟨sent',hsent'⟩:∃x,(jN 0 now [] aW L).2=x:=⟨_,rfl⟩
 have hps4:n4.s=⟨n2.s.v,aKi 0 (λa p=>p.gV a now) (L.map λq=>q.key.id) n2.s.ps,0⟩:=s4.trans t4;have hw4:∀(i:Nat) (p:dS),n2.s.ps[i]?=some p->j<p.w.length->Dn p j->n4.s.ps[i]?=some (p.gV (RT 0 i) now)/\Tn (p.gV (RT 0 i) now) j/\(p.gV (RT 0 i) now).w=p.w:=λi p hp hlt hd=>by
  have h1:=aKb (r:=0) (f:=λa p=>p.gV a now) (ids:=L.map λq=>q.key.id) hp;rw[if_pos ((hLi i p hp).2 hlt)] at h1;have h2:=hd.gV o_ (RT 0 i) now hlt;exact⟨by rw[hps4];exact h1,h2.1,h2.2⟩
 obtain⟨sh1,e1⟩:=aMz (cf:=cf) (now:=now) (sub:=sub) (aW:=sent') (bU:=[n4]) (r:=0) (aAf 1) (L:=L) (A:=[]) (app:=rows (B0 all) j) (sh:=((((Dv.mk (W1 cf now sub aW [] (rows (B0 all) j) n) false).pE (pB 15 0 0 0)).pE (pB 4 0 0 16)).pE (pB 5 0 0 0)).short) hS hkeys (by rw[aDh];have:=hf.1;omega);obtain⟨sh2,n5,e2,a2,a3,a4⟩:=aMv (cf:=cf) (now:=now) (sub:=sub) (aW:=sent') (app:=rows (B0 all) j++L) (j:=j) o_ (k:=0) (L:=L) (n:=n4) (sh:=sh1) hS (s2.less (by have:=hf.1;omega)) (by rw[hps4]) (λq hq=>by
  obtain⟨⟨i,p,k1,k2,k3,k4,k5⟩⟩:=hLm q hq;obtain⟨q1,q2,q3⟩:=hw4 i p k1 k4 (hdn q hq i p (by rw[k3]) k1).2;exact⟨i,_,q1,k2,k3,by rw[q3];exact k4,k5⟩) (λq hq i p' e hp'=>by
  have hi:=(aAd.1 hp').1;rw[hps4] at hi;dsimp only at hi;rw[aJz] at hi;have hp:n2.s.ps[i]?=some n2.s.ps[i]:=aAa hi;obtain⟨h1,h2⟩:=hdn q hq i _ e hp;obtain⟨q1,q2,_⟩:=hw4 i _ hp h1 h2;rw[hp'] at q1;obtain rfl:=aDk q1;exact q2) hLn
 have hr:(W1 cf now sub aW [] (rows (B0 all) j) n).round=(Dv.mk (W1 cf now sub sent' [] (rows (B0 all) j++L) n5) sh2).pE (pB 6 0 0 cf.cap):=by
  have q1:((W1 cf now sub aW [] (rows (B0 all) j) n).step (pB 15 0 0 0)).1=W1 cf now sub aW [] (rows (B0 all) j) n1:=by rw[aOy,p1]
  have q2:((W1 cf now sub aW [] (rows (B0 all) j) n1).step (pB 4 0 0 16)).1=W1 cf now sub aW [] (rows (B0 all) j) n2:=by rw[aPu p2.up,c1]
  have q3:((W1 cf now sub aW [] (rows (B0 all) j) n2).step (pB 5 0 0 0)).1=W1 cf now sub sent' (L.map (aLl 0)) (rows (B0 all) j) n4:=by
   rw[aPd];unfold oO;rw[hpump];dsimp only;rw[hsend,hsent']
  unfold Wv.round;rw[aLn (d:=Dv.mk _ false) rfl,aLp _ (pB 15 0 0 0) rfl];have d1:∃b,(Dv.mk (W1 cf now sub aW [] (rows (B0 all) j) n) false).pE (pB 15 0 0 0)=⟨W1 cf now sub aW [] (rows (B0 all) j) n1,b⟩:=by unfold Dv.pE;dsimp only;rw[q1];exact⟨_,rfl⟩
  obtain⟨b1,d1⟩:=d1;rw[d1] at e1⊢;have all1:∀(n:Nd) (b:Bool) (f:Nat->List cH),(Dv.mk (W1 cf now sub aW [] (rows (B0 all) j) n) b).all 1 f=Dv.mk (W1 cf now sub aW [] (rows (B0 all) j) n) b:=λ_ _ _=>rfl;rw[all1,aLn (d:=Dv.mk (W1 cf now sub aW [] (rows (B0 all) j) n1) b1) rfl];have d2:∃b,(Dv.mk (W1 cf now sub aW [] (rows (B0 all) j) n1) b1).pE (pB 4 0 0 16)=⟨W1 cf now sub aW [] (rows (B0 all) j) n2,b⟩:=by unfold Dv.pE;dsimp only;rw[q2];exact⟨_,rfl⟩
  obtain⟨b2,d2⟩:=d2;rw[d2] at e1⊢;rw[all1,aLn (d:=Dv.mk (W1 cf now sub aW [] (rows (B0 all) j) n2) b2) rfl,aLp _ (pB 5 0 0 0) rfl];have d3:∃b,(Dv.mk (W1 cf now sub aW [] (rows (B0 all) j) n2) b2).pE (pB 5 0 0 0)=⟨W1 cf now sub sent' (L.map (aLl 0)) (rows (B0 all) j) n4,b⟩:=by unfold Dv.pE;dsimp only;rw[q3];exact⟨_,rfl⟩
  obtain⟨b3,d3⟩:=d3;rw[d3] at e1⊢;rw[aAc,aBq] at e1;rw[e1,e2]
 obtain⟨now',hn1,hn2⟩:=aPo (cf:=cf) (sub:=sub) (aW:=sent') (ws:=[]) (app:=rows (B0 all) j++L) (n:=n5) hnow cf.cap;refine⟨n5,now',sub,sent',?_,hn1,a2,.inl ?_⟩
 ·rw[hr];show((W1 cf now sub sent' [] (rows (B0 all) j++L) n5).step (pB 6 0 0 cf.cap)).1=_;rw[hn2,hLr];rfl
 ·rw[a4,hps4];exact c4.after o_ now hLi
theorem Al.rest{j:Nat}{v:Wv}(h:Al cf all j v):(v.quiet=true->Cm all j (v.state 0)/\∀w∈B0 all,w.length<=j)/\(j=4->v.quiet=true):=by
 obtain⟨n,now,sub,aW,rfl,hnow,hc,hs⟩:=h.h;have hst:(W1 cf now sub aW [] (rows (B0 all) j) n).state 0=n.s:=aOj hc.up;have hq:(W1 cf now sub aW [] (rows (B0 all) j) n).quiet=n.s.quiet:=by
  show vY _ 0 1=_;unfold vY;rw[hst];have hup:(W1 cf now sub aW [] (rows (B0 all) j) n).up 0=n.up:=rfl;rw[hup,hc.up];cases n.s.quiet with
  |true=>rw[if_pos ⟨rfl,rfl,rfl⟩];rfl
  |false=>rw[if_neg (λh=>by cases h.2.1)]
 rw[hq,hst];have hcm:Cm all j n.s->(n.s.quiet=true↔∀w∈B0 all,w.length<=j):=λhs=>by
  have e:n.s.quiet=qG n.s.ps:=by unfold Sv.quiet;rw[hs.t];rfl
  rw[e];unfold qG;rw[aDm];constructor
  ·intro hall w hw;rw[<-hs.w] at hw;obtain⟨p,hp,rfl⟩:=aFn.1 hw;obtain⟨i,hi⟩:=aQx hp;have h1:=hall p hp;rw[(hs.d i p hi).quiet] at h1;have:=of_decide_eq_true h1;omega
  ·intro hall p hp;obtain⟨i,hi⟩:=aQx hp;have h1:=hall p.w (aAi (hs.want hi));rw[(hs.d i p hi).quiet];exact decide_eq_true o_
 rcases hs with hs|⟨rfl,hg,he,hr,hv⟩
 ·exact⟨λh=>⟨hs,(hcm hs).1 h⟩,λh4=>(hcm hs).2 λw hw=>by have:=(hf.2 w hw).1;omega⟩
 ·refine⟨λh=>?_,λh=>by omega⟩;have ht:all=[]:=by
   unfold Sv.quiet at h;have:=(aAv _ _).mp h |>.1;rw[hv] at this;exact List.isEmpty_iff.1 this
  subst ht;have:=Cm.of hg he hr (by rw[hv]) (by rw[hv];rfl) (by rw[hv];exact hid);rw[hv] at this;exact⟨this,λw hw=>(aAk hw).elim⟩
theorem Al.fair(hmost:1<=cf.dC):∀ {k j:Nat} {v:Wv} {sh:Bool} {m:Nat},j<=4->4<j+k->Al cf all j v->∃j',Al cf all j' (xY k v sh m).1/\(xY k v sh m).1.quiet=true/\aRw k v=true
 |0,j,v,sh,m,h1,h2,h=>by omega
 |k+1,j,v,sh,m,h1,h2,h=>by
  cases hq:v.quiet with
  |true=>rw[Fk hq];exact⟨j,h,hq,by show(v.bU.all (·.up)&&(v.quiet||_))=true;rw[h.OQ,hq];rfl⟩
  |false =>
   rw[OF hq];have hj:j<=3:=by
    by_cases h4:j=4
    ·rw[(Al.rest hf hid h).2 h4] at hq;cases hq
    ·omega
   obtain⟨j',a1,a2,a3⟩:=Al.fair hmost (k:=k) (j:=j+1) (v:=v.round.w) (sh:=v.round.short||sh) (m:=m+1) o_ o_ (Al.round hf hid hmost hj h);exact⟨j',a1,a2,by show(v.bU.all (·.up)&&(v.quiet||aRw k v.round.w))=true;rw[h.OQ,hq,a3];rfl⟩
theorem Al.ends{j:Nat}{v:Wv}(h:Al cf all j v)(hq:v.quiet=true):(v.state 0).v.l=all/\(v.state 0).v.t=[]/\FP v.app=Ep all:=by
 obtain⟨h1,h2⟩:=(Al.rest hf hid h).1 hq;obtain⟨n,now,sub,aW,rfl,_⟩:=h.h;refine⟨h1.l,h1.t,?_⟩
 ·have hnd:(all.map aX.id).Nodup:=by
   rw[List.nodup_iff_pairwise_ne,aQu];intro i k hi hk hlt e;rw[aAw] at hi hk;rw[aRc,aRc,hid i _ (aAa hi),hid k _ (aAa hk)] at e;have:=aKf e;omega
  refine aNk hnd λx=>?_;show aLt (aMm (rows (B0 all) j)) x↔_;rw[aNx λq hq=>by obtain⟨k,i,w,f,_,_,_,rfl⟩:=aLd.1 hq;rfl];have hWl:(B0 all).length=all.length:=by rw[aAw,lF]
  constructor
  ·rintro⟨k,q,k1,k2⟩;have hm:=aAi k1;unfold aKs at hm;rw[aGb] at hm;obtain⟨k',i,w,f,q1,q2,q3,rfl⟩:=aLd.1 hm.1;have hx:=of_decide_eq_true hm.2;dsimp only at hx;rw[<-hx,aMj,q2,aEh] at k1;obtain⟨f',g1,g2⟩:=aGg.1 k1;dsimp only[Option.getD] at g1;rw[aEd] at g1;split at g1
   ·have e:=congrArg (λz:dK=>z.key.ord) g2;have e2:=congrArg dK.bC g2;dsimp only at e e2;obtain rfl:k=k':=o_;have hi:=(aAd.1 q2).1;refine⟨i,all[i],w,k,f,aAa o_,q2,q3,?_⟩;rw[k2,<-hx,hid i _ (aAa o_)]
   ·cases g1
  ·rintro⟨i,c,w,k,f,q1,q2,q3,rfl⟩;refine⟨k,⟨⟨RT 0 i,(k:Int)+1,false⟩,f⟩,?_,?_⟩
   ·dsimp only;rw[hid i c q1,aMj,q2,aEh];dsimp only[Option.getD];have hk:=h2 w (aAi q2);rw[aAj hk,q3];rfl
   ·rfl
end
theorem Al.start{cf:fU}{z:Wv×List aX}(h:Sb cf z):Al cf z.2 0 z.1.start:=by
 obtain⟨v,all⟩:=z;obtain⟨⟨n,hv,hc,hr,hsr,hg,he,hsv⟩,hid,hl⟩:=h;dsimp only at hv hc hsv hid hl⊢;subst hv;have a1:((W1 cf 0 all.length [] [] [] n).step (pB 11 0 0 0)).1=W1 cf 0 all.length [] [] [] n:=by
  unfold Wv.step;rw[if_neg (show ¬(pB 11 0 0 0).check≠0 by decide)];rfl
 have a2:((W1 cf 0 all.length [] [] [] n).step (pB 14 0 0 0)).1=W1 cf 0 all.length [] [] [] (n.arm (-1)):=by
  have e:(wF 0 n (pB 14 0 0 0)).1=(0,n.arm (-1)):=by
   show(if n.up then((0,n.arm (0 - 1)),(⟨0,0,0⟩:wM)) else((0,n),⟨19,0,0⟩)).1=_;rw[if_pos hc.up];rfl
  unfold Wv.step;rw[if_neg (show ¬(pB 14 0 0 0).check≠0 by decide)];show(⟨cf,0,all.length,[],[],(wF 0 n (pB 14 0 0 0)).1.1,[],[(wF 0 n (pB 14 0 0 0)).1.2]⟩:Wv)=_;rw[e]
 obtain⟨n',hn',hc',hs'⟩:∃n',n.arm (-1)=n'/\Calm n' (68 - all.length)/\n'.s=n.s:=by
  refine⟨_,rfl,?_⟩;unfold Nd.arm;rw[if_pos hc.up];refine⟨⟨rfl,hc.dead,?_,hc.n64,hc.room⟩,rfl⟩;show(if n.ls.dead then n.ls.aG else max (-1) (-1)) = -1;rw[hc.dead];rfl
 have a3:((W1 cf 0 all.length [] [] [] n').step (pB 13 0 0 0)).1=W1 cf 0 all.length [] [] [] n':=by
  have e:(wF 0 n' (pB 13 0 0 0)).1=(0,n'):=by
   show(0,n'.rO.1)=_;unfold Nd.rO;rw[if_pos hc'.up]
  unfold Wv.step;rw[if_neg (show ¬(pB 13 0 0 0).check≠0 by decide)];show W1 cf 0 all.length [] [] [] (wF 0 n' (pB 13 0 0 0)).1.2=_;rw[e]
 have hst:(W1 cf 0 all.length [] [] [] n).start=W1 cf 0 all.length [] [] [] n':=by
  unfold Wv.start;have d1:∃b,(Dv.mk (W1 cf 0 all.length [] [] [] n) false).pE (pB 11 0 0 0)=⟨W1 cf 0 all.length [] [] [] n,b⟩:=by unfold Dv.pE;dsimp only;rw[a1];exact⟨_,rfl⟩
  obtain⟨b1,d1⟩:=d1;rw[d1,aLp _ (pB 14 0 0 0) rfl];have d2:∃b,(Dv.mk (W1 cf 0 all.length [] [] [] n) b1).pE (pB 14 0 0 0)=⟨W1 cf 0 all.length [] [] [] n',b⟩:=by unfold Dv.pE;dsimp only;rw[a2,hn'];exact⟨_,rfl⟩
  obtain⟨b2,d2⟩:=d2;rw[d2,aLp _ (pB 13 0 0 0) rfl];show((W1 cf 0 all.length [] [] [] n').step (pB 13 0 0 0)).1=_;exact a3
 rw[hst];exact⟨n',0,all.length,[],rfl,by decide,hc'.less (aAh _),.inr ⟨rfl,by rw[hs'];exact hg,by rw[hs'];exact he,by rw[hs'];exact hsr,by rw[hs'];exact hsv⟩⟩
end
section
open Go.RowKit Reg Oct
open Mem hiding Rd
theorem aOw(E:Env)(A:Option Addr)(n c:Nat)(B:Option Addr)(m d:Nat)(l k:List aX)(hr:Rd E bE A n c l)(hs:Rd E bE B m d k)(h:l=k):G E 15 [.slice A n c,.slice B m d] [] (cM (.bool true) []):=by
 subst h;have hn:=hr.len;have hcap:=hr.cap;have hm:=hs.len;have hcap2:=hs.cap;have hmax:=fX;have hnm:n=m:=hn.trans hm.symm;refine t_ func15 ntmps15 ?_;repeat first|refine v_ ?_|intro
 refine C.scan (Y:=Unit) hn (λi _=>[(0,.slice A n c),(1,.slice B m d),(5,.int .i64 i)]) (λ_ _=>[]) (λ_ _=>True) () aD aB.refl trivial ?_ ?_
 ·intro i _ x G hi hx _;have hd:(!decide (x=x))=false:=by simp
  repeat first|refine v_ ?_|intro
  refine rA (l_ [0,1,2,3,4,5,6,7,8] .nil) ?_;repeat first|refine v_ ?_|intro
  exact⟨(),aD,aB.refl,trivial⟩
 ·intro _ G _;repeat first|refine v_ ?_|intro
  exact B7
theorem aOd(E:Env)(cf:fU)(hf:¬(fU.cV ⟨1,64,cf.dC,cf.base,cf.cap⟩))(sl:Value):G E 3 [.agg cf.cs.toArray,sl] [] (cM (.bool true) []):=by
 have nw:=λM=>No M ⟨1,64,cf.dC,cf.base,cf.cap⟩ hf;have fin:=λM=>XW M ⟨1,64,cf.dC,cf.base,cf.cap⟩;rw[decide_eq_false hf] at fin;refine t_ func3 ntmps3 ?_;repeat first|refine v_ ?_|intro
 refine bK aSi ?_;repeat first|refine v_ ?_|intro
 refine bK nw ?_;repeat first|refine v_ ?_|intro
 refine bK fin ?_;repeat first|refine v_ ?_|intro
 exact B7
theorem aOb{z:Wv×List aX}{l:List aX}{i:Nat}{x:aX}(h:l[i]?=some x):(l.take (i+1)).foldl aKl z=aKl ((l.take i).foldl aKl z) x:=iX h
theorem L.aQn{N:Nat}{E:Env}{F:Nat->Value}{H R:List aL}{Q:QF}{ops os:List Oper}{P:List Ov}{g t:Nat}{v:Wv}(hh:Has (aQ P g t v) H R)(h:v.ok t->L prog N E ops Q os F H):L prog N E ops Q os F H:=⟨λa w ha hw=>by
 obtain⟨x,hx,_⟩:=hw.Jn hh;exact(h hx.1).get a w ha hw⟩
theorem aNi{cf:fU}(hf:cf.cV){z:Wv×List aX}(h:Sb cf z):(∀c∈z.2,c.ok)/\((z.1.fair 40).1.state 0).v.l=z.2/\((z.1.fair 40).1.state 0).v.t=[]/\(z.1.fair 40).1.quiet=true/\FP (z.1.fair 40).1.app=Ep z.2/\(GJ z.2).length<=1000/\((GJ z.2).map dK.key).Nodup/\aRw 40 z.1.start=true:=by
 obtain⟨nd,hv,hc,hr,hsr,hg,he,hsv⟩:=h.h;have hok:∀c∈z.2,c.ok:=λc hc=>by have:=hg.v.TZ c;rw[hsv] at this;exact this hc
 have hmay:∀c∈z.2,c.may=true:=λc hc=>hg.v.may (by rw[hsv];exact hc);have hfi:=aPh hok hmay h.len;obtain⟨j,a1,hq,hfu⟩:=Al.fair hfi h.id hf.2.2.1.1 (k:=40) (sh:=false) (m:=0) (aAh 4) sD (Al.start h);obtain⟨e1,e2,e3⟩:=Al.ends hfi h.id a1 hq;have hl:=h.len;have hnd:(z.2.map aX.id).Nodup:=by
  rw[List.nodup_iff_pairwise_ne,aQu];intro i k hi hk hlt e;rw[aAw] at hi hk;rw[aRc,aRc,h.id i _ (aAa hi),h.id k _ (aAa hk)] at e;have:=aKf e;omega
 refine⟨hok,e1,e2,hq,e3,?_,aKm _ hnd,hfu⟩;have:=aLx (k:=4) (l:=z.2) (W:=B0 z.2) λw hw=>(hfi.2 w hw).1;show(tW z.2 (B0 z.2)).length<=1000;omega
theorem Sb.cf_{cf:fU}{z:Wv×List aX}(h:Sb cf z):z.1.cf=cf/\z.1.bU.length=1:=by
 obtain⟨nd,hv,_⟩:=h.h;rw[hv];exact⟨rfl,rfl⟩
theorem Sb.OQ{cf:fU}{z:Wv×List aX}(h:Sb cf z):Ups z.1:=by
 obtain⟨nd,hv,hc,_⟩:=h.h;rw[hv];exact λm hm=>by rw[aAp.1 hm];exact hc.up
theorem aNn:∀(k:Nat) (v:Wv) (sh:Bool) (m:Nat),(xY k v sh m).1.cf=v.cf/\(xY k v sh m).1.bU.length=v.bU.length
 |0,_,_,_=>⟨rfl,rfl⟩
 |k+1,v,sh,m=>by
  cases hq:v.quiet with
  |true=>rw[Fk hq];exact⟨rfl,rfl⟩
  |false =>
   rw[OF hq];have h1:=N2 v;have h2:=aNn k v.round.w (v.round.short||sh) (m+1);exact⟨h2.1.trans h1.1,h2.2.trans h1.2⟩
theorem aPz(E:Env)(cf:fU)(hf:fU.cV ⟨1,64,cf.dC,cf.base,cf.cap⟩)(A:Option Addr)(m c:Nat)(l:List aX)(hr:Rd E bE A m c l)(hl:∀x∈l,dQ x.n):G E 3 [.agg cf.cs.toArray,.slice A m c] [aI []] (cM (.bool true) []):=by
 have hlen:=hr.len;have hcap:=hr.cap;have hmax:=fX;have nw:=λM=>aRn M [] ⟨1,64,cf.dC,cf.base,cf.cap⟩ hf;have sb:∀i,Sb ⟨1,64,cf.dC,cf.base,cf.cap⟩ ((l.take (min i 12)).foldl aKl (Wv.new ⟨1,64,cf.dC,cf.base,cf.cap⟩,[])):=λi=>(Sb.new rfl rfl).run (by rw[aAg];show 0+_<=12;omega) λx hx=>hl x (aBs hx);refine t_ func3 ntmps3 ?_;repeat first|refine v_ ?_|intro
 refine bK aSi ?_;repeat first|refine v_ ?_|intro
 refine bW nw ?_;rintro e H' ⟨Q0,g,rfl,rfl⟩;refine gk bG ?_;generalize []++Q0=P0 at *;repeat ((fail_if_success (refine C.seq (x:=Code.region 9 _ _) ?_));first|refine Cx ?_|refine k_ ?_|intro _|refine Dr.two ?_ ?_)
 refine C.BI (X:=Wv×List aX×List Ov×Option Addr×Nat×Nat) (λx=>[(5,pt g),(7,.slice x.2.2.2.1 x.2.1.length x.2.2.2.2.1)]) (λx=>[aQ (P0++x.2.2.1) g x.2.2.2.2.2 x.1,aI (P0++x.2.2.1),own bE x.2.2.2.1 x.2.1.length x.2.2.2.2.1 x.2.1]) (λx=>Sb ⟨1,64,cf.dC,cf.base,cf.cap⟩ (x.1,x.2.1)/\x.2.2.2.2.2<=13) ?_ ?_
 ·generalize hcfg:(⟨1,64,cf.dC,cf.base,cf.cap⟩:fU)=cfg at *;repeat first|refine v_ ?_|intro
  refine C.loop (X:=Nat×List Ov×Option Addr×Nat) (λx=>[(1,.slice A m c),(5,pt g),(7,.slice x.2.2.1 ((l.take x.1).foldl aKl (Wv.new cfg,[])).2.length x.2.2.2),(8,.int .i64 x.1)])
   (λx=>[aQ (P0++x.2.1) g (x.1+1) ((l.take x.1).foldl aKl (Wv.new cfg,[])).1,aI (P0++x.2.1),own bE x.2.2.1 ((l.take x.1).foldl aKl (Wv.new cfg,[])).2.length x.2.2.2 ((l.take x.1).foldl aKl (Wv.new cfg,[])).2])
   (λx=>x.1<=m/\x.1<=12) (λx=>12 - x.1) (0,[],none,0) aD (by show aB E _ [aQ (P0++[]) g 1 (Wv.new cfg),aI (P0++[]),own bE none 0 0 []];rw[aAc];exact aB.trans (aB.nil bE) aA) ⟨aAh _,aAh _⟩ ?_
  rintro⟨i,Q,B,k⟩ F ⟨h1,h2⟩;dsimp only at h1 h2⊢;have sbi:=sb i;rw[aBr h2] at sbi;obtain⟨⟨v,all⟩,hZ⟩:∃z,(l.take i).foldl aKl (Wv.new cfg,[])=z:=⟨_,rfl⟩
  rw[hZ] at sbi⊢;dsimp only;have hal:=sbi.len;dsimp only at hal;by_cases hi:i<m
  ·by_cases hj:i<12
   ·obtain⟨x,hx⟩:∃x,l[i]?=some x:=⟨_,aAa o_⟩
    have hZ1:(l.take (i+1)).foldl aKl (Wv.new cfg,[])=if (v.step (aJu x)).2.code=0 then((v.step (aJu x)).1,all++[⟨⟨0,(v.step (aJu x)).2.n⟩,(v.step (aJu x)).2.n,x.kind,x.a,x.b,x.n,x.ref⟩]) else((v.step (aJu x)).1,all):=(aOb hx).trans (by rw[hZ];rfl)
    have hxn:=hl x (aAi hx);have jV:=λM P=>aRd M P g (i+1) v o_ (aJu x) hxn (.inl (.inl rfl));obtain⟨⟨v2,a⟩,hz⟩:∃z,v.step (aJu x)=z:=⟨_,rfl⟩
    unfold oL at jV;rw[hz] at jV hZ1;dsimp only at jV hZ1;unfold aJu at jV;obtain⟨⟨xr,xs⟩,xt,xk,xa,xb,xn,xf⟩:=x;obtain⟨a1,a2,a3⟩:=a;dsimp only[cH.cs,aX.cs,wM.cs,G] at jV hZ1;repeat first|refine v_ ?_|intro
    refine rA (l_ [0,1,2,3,4,5,6,7,8,9,10,11,12,13,14,15,16,17,18,19,20,21,22,23,24,25] (g_ 26 (g_ 27 .nil))) ?_;repeat first|refine v_ ?_|intro
    refine bW (λM=>jV M _) ?_;rintro e H' ⟨Q2,rfl,rfl⟩;refine gk bG ?_;by_cases h0:a1=0
    ·rw[if_pos h0] at hZ1;repeat first|refine v_ ?_|intro
     refine L.fQ sD (S.QZ (T:=bE) (e1:=(⟨⟨0,a2⟩,a2,xk,xa,xb,xn,xf⟩:aX)) rfl eS rfl FV (by rfl) sD) ?_;rintro _ _ ⟨_,rfl,rfl⟩;repeat first|refine v_ ?_|intro
     rename_i B2 d2 hc1 hc2;refine⟨(i+1,Q++Q2,B2,d2),?_⟩;dsimp only;rw[hZ1];dsimp only;rw[aAe,aDa];exact⟨aD,(by rw[<-aAb];exact aA),⟨by omega,by omega⟩,by omega⟩
    ·rw[if_neg h0] at hZ1;repeat first|refine v_ ?_|intro
     refine⟨(i+1,Q++Q2,B,k),?_⟩;dsimp only;rw[hZ1];exact⟨aD,(by rw[<-aAb];exact aA),⟨by omega,by omega⟩,by omega⟩
   ·repeat first|refine v_ ?_|intro
    exact⟨(v,all,Q,B,k,i+1),aD,aA,sbi,by dsimp only;omega⟩
  ·repeat first|refine v_ ?_|intro
   exact⟨(v,all,Q,B,k,i+1),aD,aA,sbi,by dsimp only;omega⟩
 ·rintro⟨v,all,Q,B,k,t⟩ F ⟨hsb,ht⟩;dsimp only at hsb ht⊢;obtain⟨hok,f1,f2,f3,f4,f5,f6,f7⟩:=aNi hf hsb;have hU:Ups (v.fair 40).1:=aRz 40 v.start false 0 f7;have hcfv:=hsb.cf_;have hal:=hsb.len;have hfc:=aNn 40 v.start false 0;have hsc:=Py v;have hfa:xY 40 v.start false 0=v.fair 40:=rfl;rw[hfa] at hfc;clear hfa;dsimp only at hok f1 f2 f3 f4 f5 f6 hcfv hal;have hb2:BK (GJ all):=BK.aQg o_ f6;have fai:=λM P=>aRl M P g t v o_ ⟨⟨by omega,by omega⟩,by rw[hcfv.1,hcfv.2];rfl⟩ hsb.OQ f7;have hcf2:(v.fair 40).1.cf.bN=1:=by rw[hfc.1,hsc.1,hcfv.1]
  have hnd2:(v.fair 40).1.bU.length=1:=by rw[hfc.2,hsc.2,hcfv.2]
  clear hfc hsc hcfv;generalize v.fair 40=fw at *;obtain⟨v2,fn,fs⟩:=fw;dsimp only at fai f1 f2 f3 f4 hcf2 hnd2 hU;have qui:=λM P=>aSd M P g (t+50000) v2 o_ ⟨⟨by omega,by omega⟩,by rw[hcf2,hnd2];rfl⟩ hU;rw[f3] at qui;obtain⟨nd0,hnd0⟩:∃nd,v2.bU[0]?=some nd:=⟨_,aAa o_⟩
  have hst:v2.state 0=nd0.state:=by unfold Wv.state;rw[hnd0]
  rw[hst] at f1 f2;have run:=λM B k hr=>aPw M B all.length k all hr hok o_;have iS:=λM B1 c1 B k (h1:Rd M bE B1 nd0.state.v.l.length c1 nd0.state.v.l) (h2:Rd M bE B all.length k all)=>aOw M B1 _ c1 B _ k nd0.state.v.l all h1 h2 f1;repeat first|refine v_ ?_|intro
  refine bW (λM=>fai M _) ?_;rintro e H' ⟨Q2,rfl,rfl⟩;repeat first|refine v_ ?_|intro
  refine L.aQn (g:=g) (t:=t+50000) (v:=v2) aS λhw=>?_;have happ:=hw.app;have hb1:=BK.net v2.app o_;refine dX (λM=>run M _ _) ?_;rintro e H' ⟨y,O,m2,k2,hy,rfl,rfl⟩;repeat first|refine v_ ?_|intro
  rename_i g11;refine cl sD sK aC (λM hE=>aSc M _ g (t+50000) v2 0 nd0 hnd0 (hU nd0 (aAi hnd0)) o_) ?_;rintro e H' ⟨Q3,gs,rfl,rfl⟩;repeat first|refine v_ ?_|intro
  refine bW (λM=>qQ M _ gs nd0.state) ?_;rintro e H' ⟨gl,rfl,rfl⟩;refine gk bG ?_;have sen:=λM P=>aJk M P gl nd0.state.v;have boo:=λM z hz hy=>aJi M z y hz hy;have rI:=λM P=>iV M P gl nd0.state.v;dsimp only[Bh.cs,Bk.cs,G] at sen boo;repeat first|refine v_ ?_|intro
  refine rB (l_ [0,2] (g_ 1 (g_ 3 (l_ [4,5,7] (g_ 6 (g_ 8 (l_ [9,10,11] (g_ 12 (l_ [13,14,15,18] (g_ 16 (g_ 17 (g_ 19 (l_ [20,21] .nil))))))))))))) ([aJ g11 45 _]) ?_;repeat first|refine v_ ?_|intro
  refine iO (λM=>rI M _) ?_;rintro e H' ⟨B1,c1,hc1,rfl,rfl⟩;repeat first|refine v_ ?_|intro
  refine Ju (λM=>iS M B1 c1 B k) ?_;repeat first|refine v_ ?_|intro
  refine iO (λM=>sen M _) ?_;rintro e H' ⟨z,hz,rfl,rfl⟩;refine gd bG aA ?_;have hzy:z.b=y.b:=by rw[hz,f2,aAc,f1,hy]
  have boo2:=λM=>boo M z;rw[decide_eq_true hzy] at boo2;repeat first|refine v_ ?_|intro
  refine Ju boo2 ?_;repeat first|refine v_ ?_|intro
  refine iO (λM=>qui M _) ?_;rintro e H' ⟨Q4,rfl,rfl⟩;repeat first|refine v_ ?_|intro
  refine cg rfl sD bA sK aC (λM hE=>zZ M _ g _ v2 o_) ?_;rintro e H' ⟨g5,rfl,rfl⟩;repeat first|refine v_ ?_|intro
  refine iO (λM=>oB M g5 v2.ref v2.app (by omega)) ?_;rintro e H' ⟨A5,c5,hc5,rfl,rfl⟩;repeat first|refine v_ ?_|intro
  refine OW (λM h1 h2=>QR M A5 v2.app.length c5 v2.app h1 (by omega) hb1 B all.length k all h2 hok (by omega) (by omega) hb2) ?_;rintro e H' ⟨rfl,rfl⟩;rw[decide_eq_true f4];repeat first|refine v_ ?_|intro
  exact B7
theorem aLz(E:Env)(cf:fU)(A:Option Addr)(m c:Nat)(l:List aX)(hr:Rd E bE A m c l)(hl:∀x∈l,x.ok):aK prog E 3 #[.agg cf.cs.toArray,.slice A m c] [] λe _=>e=.returned (.bool true):=by
 by_cases hf:fU.cV ⟨1,64,cf.dC,cf.base,cf.cap⟩
 ·exact aK.pre (aB.kP dM) (aK.post (aPz E cf hf A m c l hr λx h=>(hl x h).2.2.2.2.2.1) λe H' h=>⟨H',aB.refl,h.1⟩)
 ·exact aK.post (aOd E cf hf _) λe H' h=>⟨H',aB.refl,h.1⟩
end
section
open Go.RowKit Reg Go.ChangeShapes Go.WideShapes Go.ChangeAt Go.Deep Go.Proofs.YtmilalkjbojciaaGreat.Open
open Mem hiding Rd
section
variable {H:Type} {enc:TypeId×Value->H} {W:World} {α:Type}
theorem uT{n:Nat}{t:TypeId}{fs:Array Field}{cs:List Value}{y:DataW H×List MemPlace}(ht:prog.underlying t=some (.struct fs))(h:DataW.trod enc prog W 0 (λ_=>true) true n t cs=some y) :
  ∃n',∀(j:Nat) (f:Field) (M5:List Value) (k:Nat),fs[j]?=some f->prog.cellsOf f.type=k->(cs.drop f.offset).take k=M5->∃z:DataW H×List MemPlace,DataW.trod enc prog W 0 (λ_=>true) true n' f.type M5=some z:=by
 obtain⟨ys,n',hn',hy,hlen,hyl,hf⟩:=DataW.trod_struct ht h;refine⟨n',λj f M5 k hj hk hs=>?_⟩;have hjl:j<fs.size:=(aBv.1 hj).1;have h1:=hf j f hj;rw[hk,hs] at h1;have hys:ys[j]?=some (ys[j]'o_):=aAa o_;exact⟨_,h1.trans hys⟩
theorem Ni(T:Ty α)(R:DataW H->α->Prop)(hce:prog.cellsOf T.tid=T.size)
  (dec:∀n cs y,cs.length=T.size->DataW.trod enc prog W 0 (λ_=>true) true n T.tid cs=some y->∃a,cs=T.enc a/\R y.1 a)
  {fs:Array Field} {v:Value} {d:DataW H} {p:List MemPlace} {base:Nat} (ht:prog.underlying T.tid=some (.struct fs)) (hv:Value.okWide prog W .any base T.tid v) (h:DataW.Trod enc prog W 0 (λ_=>true) true T.tid v d p) :
  ∃a,v=T.val a/\R d a:=by
 unfold Value.okWide at hv;rw[ht] at hv;obtain⟨cs,rfl,hs,_⟩:=hv;obtain⟨fuel,hf⟩:=h;have hc:(Value.agg cs).cells.toList=cs.toList:=rfl;rw[hc] at hf;obtain⟨a,ha,hR⟩:=dec _ _ _ (by rw[aDs,hs,hce]) hf;refine⟨a,?_,hR⟩;rcases T.nR with⟨_,hg⟩|⟨hg,_⟩
 ·obtain⟨cs',e⟩:=hg a;have h2:T.enc a=cs'.toList:=by unfold Ty.enc;rw[e];rfl
  rw[e,show cs=cs' from Array.ext' (ha.trans h2)]
 ·rw[ht] at hg;simp[lT] at hg
end
section
variable {H:Type} {enc:TypeId×Value->H} {W:World}
theorem GK:∀n cs y,cs.length=fN.size->DataW.trod enc prog W 0 (λ_=>true) true n fN.tid cs=some y->∃x,cs=fN.enc x/\(λ_ x=>x.ok:DataW H->bJ->Prop) y.1 x:=by
 intro n cs y hl h
 match cs,hl with
 | [c0,c1],_ =>
  obtain⟨n',hf⟩:=uT underlying32 h;obtain⟨z0,h0⟩:=hf 0 _ [c0] 1 rfl q_ rfl;obtain⟨i0,rfl,w0⟩:=gA (k:=.i64) q_ h0;obtain⟨z1,h1⟩:=hf 1 _ [c1] 1 rfl q_ rfl;obtain⟨i1,rfl,w1⟩:=gA (k:=.i64) q_ h1;exact⟨⟨i0,i1⟩,rfl,bounds_i64 w0,bounds_i64 w1⟩
theorem P5:∀n cs y,cs.length=bE.size->DataW.trod enc prog W 0 (λ_=>true) true n bE.tid cs=some y->∃x,cs=bE.enc x/\(λ_ x=>x.ok:DataW H->aX->Prop) y.1 x:=by
 intro n cs y hl h
 match cs,hl with
 | [c0,c1,c2,c3,c4,c5,c6,c7,c8],_ =>
  obtain⟨n',hf⟩:=uT underlying34 h;obtain⟨z0,h0⟩:=hf 0 _ [c0,c1] 2 rfl q_ rfl;obtain⟨i0,e0,w0⟩:=GK _ _ _ rfl h0;change _=i0.cs at e0;simp only[bJ.cs,aGa,and_true] at e0;obtain⟨rfl,rfl⟩:=e0;obtain⟨z1,h1⟩:=hf 1 _ [c2] 1 rfl q_ rfl;obtain⟨i1,rfl,w1⟩:=gA (k:=.i64) q_ h1;obtain⟨z2,h2⟩:=hf 2 _ [c3] 1 rfl q_ rfl;obtain⟨i2,rfl,w2⟩:=gA (k:=.i64) q_ h2;obtain⟨z3,h3⟩:=hf 3 _ [c4] 1 rfl q_ rfl;obtain⟨i3,rfl,w3⟩:=gA (k:=.i64) q_ h3;obtain⟨z4,h4⟩:=hf 4 _ [c5] 1 rfl q_ rfl;obtain⟨i4,rfl,w4⟩:=gA (k:=.i64) q_ h4;obtain⟨z5,h5⟩:=hf 5 _ [c6] 1 rfl q_ rfl;obtain⟨i5,rfl,w5⟩:=gA (k:=.i64) q_ h5;obtain⟨z6,h6⟩:=hf 6 _ [c7,c8] 2 rfl q_ rfl;obtain⟨i6,e6,w6⟩:=GK _ _ _ rfl h6;change _=i6.cs at e6;simp only[bJ.cs,aGa,and_true] at e6;obtain⟨rfl,rfl⟩:=e6;exact⟨⟨i0,i1,i2,i3,i4,i5,i6⟩,rfl,w0,bounds_i64 w1,bounds_i64 w2,bounds_i64 w3,bounds_i64 w4,bounds_i64 w5,w6⟩
theorem PT:∀n cs y,cs.length=Qh.size->DataW.trod enc prog W 0 (λ_=>true) true n Qh.tid cs=some y->∃x,cs=Qh.enc x/\(λ_ x=>x.ok:DataW H->fU->Prop) y.1 x:=by
 intro n cs y hl h
 match cs,hl with
 | [c0,c1,c2,c3,c4],_ =>
  obtain⟨n',hf⟩:=uT underlying23 h;obtain⟨z0,h0⟩:=hf 0 _ [c0] 1 rfl q_ rfl;obtain⟨i0,rfl,w0⟩:=gA (k:=.i64) q_ h0;obtain⟨z1,h1⟩:=hf 1 _ [c1] 1 rfl q_ rfl;obtain⟨i1,rfl,w1⟩:=gA (k:=.i64) q_ h1;obtain⟨z2,h2⟩:=hf 2 _ [c2] 1 rfl q_ rfl;obtain⟨i2,rfl,w2⟩:=gA (k:=.i64) q_ h2;obtain⟨z3,h3⟩:=hf 3 _ [c3] 1 rfl q_ rfl;obtain⟨i3,rfl,w3⟩:=gA (k:=.i64) q_ h3;obtain⟨z4,h4⟩:=hf 4 _ [c4] 1 rfl q_ rfl;obtain⟨i4,rfl,w4⟩:=gA (k:=.i64) q_ h4;exact⟨⟨i0,i1,i2,i3,i4⟩,rfl,bounds_i64 w0,bounds_i64 w1,bounds_i64 w2,bounds_i64 w3,bounds_i64 w4⟩
theorem LM{v:Value}{d:DataW H}{p:List MemPlace}{base:Nat}(hv:Value.okWide prog W .any base 23 v)(h:DataW.Trod enc prog W 0 (λ_=>true) true 23 v d p):∃x:fU,v=.agg x.cs.toArray/\x.ok:=Ni Qh (λ_ x=>x.ok) q_ PT underlying23 hv h
end
section
variable {H:Type} {enc:TypeId×Value->H} {W:World}
theorem aNm{v:Value}{d:DataW H}{p:List MemPlace}{base:Nat}(hv:Value.okWide prog W .any base 24 v)(h:DataW.Trod enc prog W 0 (λ_=>true) true 24 v d p) :
  ∃A n c l,v=.slice A n c/\Rd (top W) bE A n c l/\Sh (λ_ x=>x.ok) d l c:=P8 bE (λ_ x=>x.ok) q_ P5 underlying24 hv h
end
end
end Go.Proofs.YtmilalkjbojciaaGreat.Sep
namespace Go.Proofs.YtmilalkjbojciaaGreat.aLz
open Go.ChangeShapes Go.WideShapes Go.ChangeAt Go.RowKit Go.Proofs.YtmilalkjbojciaaGreat.Open Go.Proofs.YtmilalkjbojciaaGreat.Sep
theorem own:ownKnob prog.godebug=none:=q_
theorem QK(H:Type)(enc:TypeId×Value->H)(W:World)(base:Nat)(args:Array Value)(ds gs:List (DataW H))(before:List MemPlace)
  (hval:∀(j:Nat) t v,Tryz.f3.params[j]?=some t->args[j]?=some v->Value.okWide prog W .any base t v)
  (hW:DataW.Whole enc prog Tryz.f3.params.toList Rows.topAloneSpec.vars false W args.toList ds gs before) :
  Calls prog 3 args W λe W'=>∃v,e=.returned v/\Rows.topAloneSpec.post enc prog Tryz.f3 false true false false W args v W':=by
 have hW':=hW;obtain⟨p,q,hA0,hV,rfl,hfz,hnd⟩:=hW;have hA:DataW.TrodAll enc prog W 0 (λ_=>true) true Tryz.f3.params.toList args.toList ds p:=hA0;rw[Tryz.params3] at hA hval;obtain⟨v0,vs0,d0,ds0,p0,q0,hargs,rfl,rfl,h0,r0⟩:=trodAll_cons hA;obtain⟨v1,vs1,d1,ds1,p1,q1,rfl,rfl,rfl,h1,r1⟩:=trodAll_cons r0;obtain⟨rfl,rfl,rfl⟩:=trodAll_nil r1;obtain rfl:args=#[v0,v1]:=by cases args;simp_all
 obtain⟨rfl,rfl⟩:=trodVars_none hV;obtain⟨x0,rfl,hs0⟩:=LM (hval 0 23 v0 rfl rfl) h0;obtain⟨A1,n1,c1,l1,rfl,hr1,hs1⟩:=aNm (hval 1 24 v1 rfl rfl) h1;clear hA0;simp only[aAc] at hW';refine(RD (aLz (top W) x0 A1 n1 c1 l1 hr1 (Vo hs1))).mono λe W' ⟨he,hb⟩=>?_;subst he;exact⟨_,rfl,Na hW' rfl rfl rfl rfl q_ q_ hb⟩
theorem lifted(os:Os)(started:os.Started)(H:Type)(enc:TypeId×Value->H) :
  ReturnsInHanded {} Tryz.checked os 3 .any (Rows.topAloneSpec.pre6 enc prog Tryz.f3 Rows.topAloneRow.domain false) (Rows.topAloneSpec.post enc prog Tryz.f3 false true false false):=by
 refine returnsInHanded_of_change (C:=Tryz.checked) own started q_ func3
  (ChangeSpec.witness6 (enc:=enc) (C:=Tryz.checked) false ⟨#[],#[.agg #[.int .i64 0,.int .i64 0,.int .i64 0,.int .i64 0,.int .i64 0],.slice none 0 0],[]⟩ 8 q_ q_ q_ q_) ?_
 intro W base args ds gs before hval hW _ _;exact QK H enc W base args ds gs before hval hW
theorem k1:Rows.topAloneRow.wf (OpenSpec.ofChange Rows.topAloneSpec)=true:=q_
theorem k2:laidOutB prog=true:=q_
theorem k3:mapsRowed prog=true:=q_
theorem k4:Tryz.f3.params.all (prog.readableRec ·)=true:=q_
theorem k5:namedTie prog Rows.topAloneRow.named Rows.topAloneSpec.vars=true:=q_
theorem k6:(Rows.topAloneRow.stops == [])=true:=q_
theorem k7:(prog.stops == [])=true:=q_
theorem k8:(Rows.topAloneRow.knobs == [])=true:=q_
theorem k9:(prog.stopKnobs == [])=true:=q_
theorem z8:(Rows.topAloneRow.inPlace == prog.inPlace 3)=true:=q_
theorem s7:(Rows.topAloneRow.unfollowed == prog.unfollowed 3)=true:=q_
theorem u0:(Rows.topAloneRow.recurses == prog.recurses 3)=true:=q_
theorem k13:(Rows.topAloneRow.named == prog.varsNamed 3)=true:=q_
theorem x5:(Rows.topAloneRow.maps == (Tryz.f3.params.toList++Rows.topAloneSpec.plain.varTypes prog).any (prog.mapsRec ·))=true:=q_
theorem o9:(Rows.topAloneRow.ifaces == (Tryz.f3.params.toList++Rows.topAloneSpec.plain.varTypes prog).any (prog.ifacesRec ·))=true:=q_
theorem r5:(Rows.topAloneRow.mapsOut == prog.mapsAmong Tryz.f3.resultTypes.toList)=true:=q_
theorem v9:(Rows.topAloneRow.loops == (Tryz.f3.params.toList++Rows.topAloneSpec.plain.varTypes prog).any (prog.loopsFrom ·))=true:=q_
theorem z9:(Rows.topAloneRow.wideKeys == (Tryz.f3.params.toList++Rows.topAloneSpec.plain.varTypes prog++Tryz.f3.resultTypes.toList).any (prog.wideKeysFrom ·))=true:=q_
theorem s6:Rows.topAloneSpec.vars.all (prog.varReadable ·)=true:=q_
theorem Vf:Tryz.f3.resultTypes.all (λt=>prog.readableRec t&&decide (t<prog.types.size))=true:=q_
theorem y7:(Rows.topAloneRow.ifacesOut == Tryz.f3.resultTypes.toList.any (prog.ifacesRec ·))=true:=q_
theorem r9:(Rows.topAloneRow.loopsOut == Tryz.f3.resultTypes.toList.any (prog.loopsFrom ·))=true:=q_
theorem x9:(Rows.topAloneRow.plainKeys == prog.plainKeys)=true:=q_
theorem B4:Rows.topAloneRow.shortTexts.isNone=true:=q_
theorem D0:prog.stopsHeard=true:=q_
theorem v7:prog.mayEnter=true:=q_
theorem r8:(Rows.topAloneRow.lifted == prog.liftsFinal)=true:=q_
theorem u3:(prog.make == some Rows.topAloneRow.make)=true:=q_
theorem y9:(Rows.topAloneRow.kinds == (if Rows.topAloneRow.domain.isEmpty then[] else Tryz.f3.params.toList.map λt=>match prog.underlying t with|some (.int k)=>some k|_=>none))=true:=q_
theorem u9:(Rows.topAloneRow.pinned == Rows.topAloneRow.pinnedBy)=true:=q_
theorem s9:(Rows.topAloneRow.veiled == (Tryz.f3.params.toList++Rows.topAloneSpec.plain.varTypes prog++Tryz.f3.resultTypes.toList).any (prog.veiledRec ·))=true:=q_
theorem v8:Rows.topAloneRow.veiledFits prog Tryz.f3.params.toList (Tryz.f3.params.toList++Rows.topAloneSpec.plain.varTypes prog++Tryz.f3.resultTypes.toList)=true:=q_
theorem kI{a b:Bool}(h:a=true)(k:b=true):(a&&b)=true:=by rw[h,k];rfl
theorem closed:joinedFacts prog 3 Tryz.f3 Rows.topAloneSpec Rows.topAloneRow=true:=(kI (kI (kI (kI (kI (kI (kI (kI (kI (kI (kI (kI (kI (kI (kI (kI (kI (kI (kI (kI (kI (kI (kI (kI (kI (kI (kI (kI (kI (kI (kI k1 k2) k3) k4) k5) k6) k7) k8) k9) z8) s7) u0) k13) x5) o9) r5) v9) z9) s6) Vf) y7) r9) x9) B4) D0) v7) r8) u3) y9) u9) s9) v8)
theorem called:prog.funcNamed Rows.topAloneRow.func=some 3:=q_
theorem proved:Rows.TopAloneSaid :=
 OpenClaim.holds_of_wide 3 Tryz.f3 rfl rfl rfl rfl rfl rfl rfl ⟨rfl,rfl,rfl,rfl,rfl⟩ rfl rfl rfl rfl rfl called func3 closed
  (of_decide_eq_true q_) (by unfold Func.isWrapper;first|(rw[if_pos (by decide +kernel)];kernel_rfl)|(rw[if_neg (by decide +kernel)];exact⟨rfl,rfl⟩))
  (λos started H enc _=>lifted os started H enc)
#print axioms proved
end Go.Proofs.YtmilalkjbojciaaGreat.aLz
