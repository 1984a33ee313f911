/- Part BE: what it needs. No condition. -/
import Derived.Test.YtmilalkjbojciaaGreatOAA
import Derived.Test.YtmilalkjbojciaaGreatOBB
import Derived.Test.YtmilalkjbojciaaGreatOAQ
set_option maxRecDepth 100000
set_option maxHeartbeats 8000000
open Go.Proofs.Tryz
namespace Go.Proofs.YtmilalkjbojciaaGreat.Sep
open Go.RowKit Reg Oct
open Mem hiding Rd
instance:cL 414 [.pointer none] [(0,1)]:=⟨⟨by kernel_rfl,by kernel_rfl⟩⟩
structure Yw where
 B:Option Addr
 m:Nat
 d:Nat
 b:List UInt8
 A:Option Addr
 n:Nat
 c:Nat
def kT(g:Nat)(l:List UInt8):aL:=pack λ(x:Yw)=>[iE (nS x.B x.m x.d x.b x.A x.n x.c l),pC g true false x.A x.n x.c,own aU x.B x.m x.d x.b]
theorem kT.mk{E:Env}{R:List aL}{g:Nat}{l:List UInt8}{x:Yw}(f:nS x.B x.m x.d x.b x.A x.n x.c l):aB E ([pC g true false x.A x.n x.c,own aU x.B x.m x.d x.b]++R) (kT g l::R):=λw hw=>by
 have h1:St E (iE (nS x.B x.m x.d x.b x.A x.n x.c l)::[pC g true false x.A x.n x.c,own aU x.B x.m x.d x.b]++R) w:=aB.lH f w hw;exact h1.conv λF hs=>by
  obtain⟨F1,F2,k1,k2,k3,k4⟩:=aY.1 hs;exact⟨F,⟨F1,F2,k1,k2,⟨x,k3⟩,k4⟩,λ_ h=>h⟩
theorem BW{E:Env}{f:FuncId}{args:Array Value}{g:Nat}{l:List UInt8}{Q:Ending→List aL→Prop}(h:∀x:Yw,nS x.B x.m x.d x.b x.A x.n x.c l→aK prog E f args [pC g true false x.A x.n x.c,own aU x.B x.m x.d x.b] Q):aK prog E f args [kT g l] Q:=by
 intro hds w hw;obtain⟨x,hs⟩:=hw.unpack (l:=λ(x:Yw)=>[iE (nS x.B x.m x.d x.b x.A x.n x.c l),pC g true false x.A x.n x.c,own aU x.B x.m x.d x.b]) Has.aN;have hp:=St.lH (H:=_) (R:=_) hs Has.aN;refine h x hp hds w (hs.conv λF hst=>?_);obtain⟨F1,F2,k1,k2,k3,k4⟩:=hst;exact⟨F2,by simpa using k4,λb hb=>(k1 b).2 (.inr hb)⟩
section
variable (E:Env) (g:Nat)
theorem qS:G E 328 [.bool true] [] (cM (.tuple #[]) []):=by
 refine t_ func328 ntmps328 ?_;repeat first|refine v_ ?_|intro
 exact e3_
theorem XO(x:UInt8)(l:List UInt8):G E 242 [pt g,.int .i64 1] [kT g (x::l)] (cM (.tuple #[.int .u64 x.toNat,.bool true]) [kT g l]):=by
 refine BW λy hy=>?_;refine aK.post (aK.dU (Hp:=[pC g true false y.A y.n y.c]) λE' hE=>iG E' g false y.A y.n y.c (x::l) 1 (hy E' (Sub.own hE Has.aN))) ?_;rintro e H' ⟨H1,⟨A',n',c',rfl,hal,rfl⟩,rfl⟩;have e1:nx false (x::l) (wid 1)=(some [x],false,l):=by
  unfold nx wid;simp;omega
 rw[e1] at hal⊢;have h2:=kT.mk (E:=E) (R:=[]) (g:=g) (x:=⟨y.B,y.m,y.d,y.b,A',n',c'⟩) (hy.trans hal);rw[aAc] at h2;refine⟨_,h2,?_,rfl⟩;show Ending.returned (.tuple #[.int .u64 (get [x]:Nat),.bool true])=_;rw[show get [x]=x.toNat from aCa _]
theorem Ud(k:Nat)(l:List UInt8)(hk:k≤l.length)(hl:l.length≤140737488355328):G E 244 [pt g,.int .i64 k] [kT g l] λe H'=>∃B d,e=.returned (.tuple #[.slice B k d,.bool true])∧H'=[own aU B k d (l.take k),kT g (l.drop k)]:=by
 refine BW λy hy=>?_;refine aK.post (aK.dU (Hp:=[pC g true false y.A y.n y.c]) λE' hE=>kR E' g false y.A y.n y.c l k (hy E' (Sub.own hE Has.aN)) hl) ?_;rintro e H' ⟨H1,⟨A',n',c',B,d,rfl,hal,h1,h2,rfl⟩,rfl⟩;have e1:nx false l (k:Int)=(some (l.take k),false,l.drop k):=by
  unfold nx;rw[if_neg sD,if_neg o_,aAu]
 rw[e1] at hal⊢;have e2:(l.take k).length=k:=by rw[aAg];omega
 have h2:=kT.mk (E:=E) (R:=[own aU B k d (l.take k)]) (g:=g) (x:=⟨y.B,y.m,y.d,y.b,A',n',c'⟩) (hy.trans hal);refine⟨[own aU B k d (l.take k),kT g (l.drop k)],?_,B,d,?_,rfl⟩
 ·simp only[aBe,e2];exact aB.trans (aB.aV (.cons (.aM .aN) (.cons (.aM .aN) (.cons .aN .nil)))) (aB.trans h2 (aB.aV (.cons (.aM .aN) (.cons .aN .nil))))
 ·simp only[aBe,e2,aEf]
theorem Xn(l:List UInt8):G E 298 [pt g] [kT g l] (cM (.bool l.isEmpty) [kT g l]):=by
 refine BW λy hy=>?_;refine aK.post (aK.dU (Hp:=[pC g true false y.A y.n y.c]) λE' hE=>xV E' g false y.A y.n y.c l (hy E' (Sub.own hE Has.aN))) ?_;rintro e H' ⟨H1,⟨rfl,rfl⟩,rfl⟩;have h2:=kT.mk (E:=E) (R:=[]) (g:=g) (x:=y) hy;rw[aAc] at h2;exact⟨_,h2,rfl,rfl⟩
theorem Ik(x:UInt8)(l:List UInt8):G E 364 [.agg #[pt g]] [kT g (x::l)] (cM (.int .i64 x.toNat) [kT g l]):=by
 have hx:=x.toNat_lt;refine t_ func364 ntmps364 ?_;repeat first|refine v_ ?_|intro
 refine bK (λ(E':Env)=>XO E' g x l) ?_;repeat first|refine v_ ?_|intro
 refine bK qS ?_;repeat first|refine v_ ?_|intro
 exact e1_
theorem Nw(k:Nat)(l:List UInt8)(hk:k≤l.length)(hl:l.length≤140737488355328):G E 365 [.agg #[pt g],.int .i64 k] [kT g l] λe H'=>∃B d,e=.returned (.slice B k d)∧H'=[own aU B k d (l.take k),kT g (l.drop k)]:=by
 refine t_ func365 ntmps365 ?_;repeat first|refine v_ ?_|intro
 refine bW (λ(E':Env)=>Ud E' g k l hk hl) ?_;rintro e H' ⟨B,d,rfl,rfl⟩;repeat first|refine v_ ?_|intro
 refine bK qS ?_;repeat first|refine v_ ?_|intro
 exact jQ ⟨_,_,rfl,rfl⟩
theorem Fg(l:List aX)(t:List UInt8)(hl:l.length≤48)(hm:∀c∈l,c.may=true∧c.ok)(ht:t.length≤1000000):G E 327 [.agg #[pt g]] [kT g (dP l++t)] λe H'=>∃A c,(l.length≤c∧c≤maxLen)∧e=.returned (.slice A l.length c)∧H'=[own bE A l.length c l,kT g t]:=by
 have hmax:=fX;have h8:(UInt8.ofNat l.length).toNat=l.length:=by rw[aEy];omega
 have Hc:=λE'=>Ik E' g (UInt8.ofNat l.length) (fR l++t);rw[h8] at Hc;rw[show dP l++t=UInt8.ofNat l.length::(fR l++t) from rfl];refine t_ func327 ntmps327 ?_;repeat first|refine v_ ?_|intro
 rename_i g2;refine bK Hc ?_;repeat first|refine v_ ?_|intro
 refine C.loop (X:=Nat×Option Addr×Nat) (λx=>[(1,.pointer (some ⟨g2,0,none⟩)),(3,.slice x.2.1 x.1 x.2.2),(7,.int .i64 l.length),(8,.int .i64 x.1)]) (λx=>[aJ g2 414 [pt g],own bE x.2.1 x.1 x.2.2 (l.take x.1),kT g (fR (l.drop x.1)++t)])
  (λx=>x.1≤l.length∧x.1≤x.2.2∧x.2.2≤maxLen) (λx=>l.length - x.1) (0,none,0) aD (by dsimp only;rw[aCg,aCh];exact aB.trans (aB.nil bE) aA) ⟨aAh _,aAf _,aAh _⟩ ?_
 rintro⟨i,B,d⟩ F ⟨h1,h2,h3⟩;dsimp only at h1 h2 h3⊢;by_cases hlt:i<l.length
 ·obtain⟨x,hx⟩:∃x,l[i]?=some x:=⟨_,aAa hlt⟩
  obtain⟨hxm,hxo⟩:=hm x (aAi hx);have e1:fR (l.drop i)++t=x.put++(fR (l.drop (i+1))++t):=by
   obtain⟨_,rfl⟩:=aAd.1 hx;rw[aAm hlt,tL,aAb]
  have pl:=jY (l.drop (i+1));rw[aBd] at pl;have prt:=λE'=>Nw E' g 22 (x.put++(fR (l.drop (i+1))++t)) (by rw[aAe,x.bD];omega) (by rw[aAe,aAe,x.bD,pl];omega);rw[aBj x.bD,aBu x.bD] at prt;have hc:tT x.put=some x:=CJ hxm hxo.2.2.2.2.2.1;rw[e1];repeat first|refine v_ ?_|intro
  refine bW prt ?_;rintro e H' ⟨O,od,rfl,rfl⟩;repeat first|refine v_ ?_|intro
  refine dX (λ(E':Env) h1=>xS E' O 22 od x.put (some x) hc h1 (by decide)) ?_;rintro e H' ⟨rfl,rfl⟩;rw[aBe];repeat first|refine v_ ?_|intro
  refine bK qS ?_;repeat first|refine v_ ?_|intro
  rename_i B' d' h4 h5;exact⟨(i+1,B',d'),aD,(by dsimp only;rw[take_succ hx];exact aA),⟨by dsimp only;omega,h4,h5⟩,by dsimp only;omega⟩
 ·obtain rfl:i=l.length:=by omega
  rw[aAo,aCy,show fR []++t=t from rfl];repeat first|refine v_ ?_|intro
  exact jQ ⟨_,_,⟨h2,h3⟩,rfl,rfl⟩
end
end Go.Proofs.YtmilalkjbojciaaGreat.Sep
