/- Part BX: what it needs. No condition. -/
import Derived.Test.YtmilalkjbojciaaGreatOAA
import Derived.Test.YtmilalkjbojciaaGreatOBU
import Derived.Test.YtmilalkjbojciaaGreatOBW
set_option maxRecDepth 100000
set_option maxHeartbeats 8000000
open Go.Proofs.Tryz
namespace Go.Proofs.YtmilalkjbojciaaGreat.Sep
open Go.RowKit Reg Oct
open Mem hiding Rd
section
variable (E:Env) (P:List Ov) (g t:Nat) (v:Wv)
theorem O7(ht:t≤1000000)(hn:(1≤v.bU.length∧v.bU.length≤4)∧(v.bU.length:Int)=v.cf.bN):G E 19 [pt g] [aQ P g t v,aI P] λe H'=>∃Q,e=.returned (.bool v.quiet)∧H'=[aQ (P++Q) g t v,aI (P++Q)]:=by
 have cfg:=λE'=>xU E' P g t v;have wr:=λE'=>CF E' P g t v;have wl:=λE' g2=>Ko E' g2 v.ws;obtain⟨⟨h1,h4⟩,hrep⟩:=hn;have sta:=λE' P r n hn=>FH E' P g t v r n hn ht;have upp:=λE' P r n hn=>Zj E' P g t v r n hn;have hq:v.quiet=if v.ws.length=0 then vY v 0 v.bU.length else false:=by
  unfold Wv.quiet;cases v.ws with
  |nil=>rfl
  |cons p ws=>rfl
 rw[hq];clear hq;generalize v.ws.length=wn at *;by_cases hw:wn=0
 case neg =>
  rw[if_neg hw];refine t_ func19 ntmps19 ?_;repeat first|refine v_ ?_|intro
  refine bK cfg ?_;repeat first|refine v_ ?_|intro
  refine bW wr ?_;rintro e H' ⟨g2,rfl,rfl⟩;repeat first|refine v_ ?_|intro
  refine bK (λ(E':Env)=>wl E' g2) ?_;repeat first|refine v_ ?_|intro
  exact aR (H':=[aQ P g t v,aI P]) rfl aF aA ⟨[],rfl,by rw[aAc]⟩
 rw[if_pos hw];subst hw;obtain⟨n0,hn0⟩:∃n0,v.bU[0]?=some n0:=⟨_,aAa o_⟩
 have hs0:v.state 0=n0.state:=by unfold Wv.state;rw[hn0]
 obtain⟨n,hnn⟩:∃n,v.bU.length=n:=⟨_,rfl⟩
 rw[hnn] at hrep;refine t_ func19 ntmps19 ?_;repeat first|refine v_ ?_|intro
 refine bK cfg ?_;repeat first|refine v_ ?_|intro
 refine bW wr ?_;rintro e H' ⟨g2,rfl,rfl⟩;repeat first|refine v_ ?_|intro
 refine bK (λ(E':Env)=>wl E' g2) ?_;repeat first|refine v_ ?_|intro
 refine bW (λ(E':Env)=>sta E' P 0 n0 hn0) ?_;rintro e H' ⟨Q,g3,rfl,rfl⟩;repeat first|refine v_ ?_|intro
 refine bW (λ(E':Env)=>qQ E' (P++Q) g3 n0.state) ?_;rintro e H' ⟨g4,rfl,rfl⟩;repeat first|refine v_ ?_|intro
 refine bW (λ(E':Env)=>iV E' (P++Q) g4 n0.state.v) ?_;rintro e H' ⟨B,k,hk,rfl,rfl⟩;repeat first|refine v_ ?_|intro
 rw[hnn];generalize hl0:n0.state.v.l=l0 at *;refine C.loop (X:=Nat×List Ov) (λx=>[(0,pt g),(4,.slice B l0.length k),(22,.int .i64 n),(23,.int .i64 x.1)]) (λx=>[aQ (P++x.2) g t v,aI (P++x.2),own bE B l0.length k l0])
  (λx=>x.1≤n∧vY v x.1 (n - x.1)=vY v 0 n) (λx=>n - x.1) (0,Q) (by rw[←hrep];exact aD) aA ⟨aAh _,by rw[Nat.sub_zero]⟩ ?_
 rintro⟨r,y⟩ G ⟨h5,h6⟩;dsimp only at h5 h6⊢;by_cases hlt:r<n
 ·obtain⟨nd,hnd⟩:∃nd,v.bU[r]?=some nd:=⟨_,aAa o_⟩
  have hst:v.state r=nd.state:=by unfold Wv.state;rw[hnd]
  have hup:v.up r=nd.up:=by unfold Wv.up;rw[hnd]
  have up1:=λE' P=>upp E' P r nd hnd;have h7:vY v r (n - r)=if nd.up∧nd.state.quiet=true∧nd.state.v.l=l0 then vY v (r+1) (n - (r+1)) else false:=by
   rw[show n - r=(n - (r+1))+1 by omega];show(if v.up r∧(v.state r).quiet=true∧(v.state r).v.l=(v.state 0).v.l then _ else _)=_;rw[hst,hup,hs0,hl0]
  rw[h7] at h6;have qt:=λE' PP g5=>Vh E' PP g5 nd.state;have lg:=λE' PP g5=>qQ E' PP g5 nd.state;generalize nd.up=bu at *;repeat first|refine v_ ?_|intro
  refine bW (λ(E':Env)=>sta E' (P++y) r nd hnd) ?_;rintro e H' ⟨Q2,g5,rfl,rfl⟩;repeat first|refine v_ ?_|intro
  refine bK (λ(E':Env)=>up1 E' _) ?_;cases bu with
  |false =>
   rw[if_neg (by rintro⟨h,_⟩;cases h)] at h6;rw[←h6];repeat first|refine v_ ?_|intro
   exact aR (H':=[aQ (P++(y++Q2)) g t v,aI (P++(y++Q2))]) rfl aF (by rw[←aAb];exact aA) ⟨y++Q2,rfl,rfl⟩
  |true =>
   generalize hqq:nd.state.quiet=qq at *;repeat first|refine v_ ?_|intro
   refine bK (λ(E':Env)=>qt E' _ g5) ?_;cases qq with
   |false =>
    rw[if_neg (by rintro⟨_,h,_⟩;cases h)] at h6;rw[←h6];repeat first|refine v_ ?_|intro
    exact aR (H':=[aQ (P++(y++Q2)) g t v,aI (P++(y++Q2))]) rfl aF (by rw[←aAb];exact aA) ⟨y++Q2,rfl,rfl⟩
   |true =>
    repeat first|refine v_ ?_|intro
    refine bW (λ(E':Env)=>lg E' _ g5) ?_;rintro e H' ⟨g6,rfl,rfl⟩;repeat first|refine v_ ?_|intro
    refine bW (λ(E':Env)=>iV E' _ g6 nd.state.v) ?_;rintro e H' ⟨B2,k2,hk2,rfl,rfl⟩;repeat first|refine v_ ?_|intro
    refine DY (λ(E':Env)=>Sp E' _ _ _ _ _ _ nd.state.v.l l0) ?_;by_cases hle:nd.state.v.l=l0
    ·have hd:(!decide (nd.state.v.l=l0))=false:=by rw[decide_eq_true hle];rfl
     rw[if_pos ⟨rfl,rfl,hle⟩] at h6;repeat first|refine v_ ?_|intro
     exact⟨(r+1,y++Q2),aD,by rw[←aAb];exact aA,⟨by dsimp only;omega,h6⟩,by dsimp only;omega⟩
    ·have hd:(!decide (nd.state.v.l=l0))=true:=by rw[decide_eq_false hle];rfl
     rw[if_neg (λh=>hle h.2.2)] at h6;rw[←h6];repeat first|refine v_ ?_|intro
     exact aR (H':=[aQ (P++(y++Q2)) g t v,aI (P++(y++Q2))]) rfl aF (by rw[←aAb];exact aA) ⟨y++Q2,rfl,rfl⟩
 ·obtain rfl:r=n:=by omega
  rw[aEi] at h6;rw[←h6];repeat first|refine v_ ?_|intro
  exact aR (H':=[aQ (P++y) g t v,aI (P++y)]) rfl aF aA ⟨y,rfl,rfl⟩
end
end Go.Proofs.YtmilalkjbojciaaGreat.Sep
