/- Part BH: what it needs. No condition. -/
import Derived.Test.YtmilalkjbojciaaGreatOAA
import Derived.Test.YtmilalkjbojciaaGreatOBE
import Derived.Test.YtmilalkjbojciaaGreatOBF
set_option maxRecDepth 100000
set_option maxHeartbeats 8000000
open Go.Proofs.Tryz
namespace Go.Proofs.YtmilalkjbojciaaGreat.Sep
open Go.RowKit Reg Oct
open Mem hiding Rd
theorem Bm{e:bH}(h:e.may=true):Gs e=e.put:=if_pos h
def lN(l:List bH):List UInt8:=l.flatMap Gs
theorem sC{l:List bH}(h:∀e∈l,e.may=true):(lN l).length=27*l.length:=by
 induction l with
 |nil=>rfl
 |cons e l ih =>
  have h1:=ih λx hx=>h x (aBl _ hx);show(Gs e++lN l).length=_;rw[aAe,h1,Bm (h e aBo),e.bD,aAs];omega
section
variable (E:Env) (g:Nat)
theorem WG(a:bJ)(p:dS)(hp:JO p)(t:List UInt8)(ht:t.length≤1000000):G E 330 [.agg #[pt g],.agg a.cs.toArray] [kT g (NM p++t)] λe H'=>∃A c,(p.l.length≤c∧c≤maxLen)∧e=.returned (.agg #[.int .i64 a.rep,.int .i64 a.seq,.int .i64 p.made,.slice A p.l.length c])∧H'=[own fH A p.l.length c p.l,kT g t]:=by
 have hmax:=fX;have hl1:=hp.1.len;have hl2:=hp.1.tS;have hl3:=hp.1.nK;have h8:(UInt8.ofNat p.l.length).toNat=p.l.length:=by rw[aEy];omega
 have h9:(((UInt8.ofNat p.made.toNat).toNat:Nat):Int)=p.made:=by rw[aEy];omega
 have e0:NM p++t=UInt8.ofNat p.made.toNat::UInt8.ofNat p.l.length::(lN p.l++t):=by unfold NM lN;simp
 have c1:=λE'=>Ik E' g (UInt8.ofNat p.made.toNat) (UInt8.ofNat p.l.length::(lN p.l++t));have c2:=λE'=>Ik E' g (UInt8.ofNat p.l.length) (lN p.l++t);have hmay:=hp.2.may;have hok:=hp.1.sE;rw[h9] at c1;rw[h8] at c2;rw[e0];generalize p.l=l at *;generalize p.made=md at *;dsimp only[bJ.cs];refine t_ func330 ntmps330 ?_;repeat first|refine v_ ?_|refine Dr.two ?_ ?_|intro
 rename_i g2 g3 g4;refine rB (l_ [0,1] (.two 2 (n_ 3 (g_ 4 (g_ 5 .nil))) 4 (g_ 2 (n_ 3 (g_ 5 .nil))))) ([aJ g2 414 [pt g],aJ g3 32 [.int .i64 a.rep,.int .i64 a.seq]]) ?_;repeat first|refine v_ ?_|intro
 refine Dr.two ?_ ?_
 ·refine yB rfl sD bA sK aC (λE' hE=>c1 E') ?_;rintro e H' ⟨rfl,rfl⟩;repeat first|refine v_ ?_|refine Dr.two ?_ ?_|intro
  rename_i g5;refine bK c2 ?_;repeat first|refine v_ ?_|refine Dr.two ?_ ?_|intro
  refine C.loop (X:=Nat×Option Addr×Nat) (λx=>[(2,.pointer (some ⟨g2,0,none⟩)),(4,.pointer (some ⟨g4,0,none⟩)),(5,.pointer (some ⟨g5,0,none⟩)),(13,.int .i64 l.length),(14,.int .i64 x.1)])
   (λx=>[aJ g2 414 [pt g],aJ g4 90 [.int .i64 0,.int .i64 0,.int .i64 0,.slice none 0 0],aJ g5 90 [.int .i64 a.rep,.int .i64 a.seq,.int .i64 md,.slice x.2.1 x.1 x.2.2],own fH x.2.1 x.1 x.2.2 (l.take x.1),kT g (lN (l.drop x.1)++t)])
   (λx=>x.1≤l.length∧x.1≤x.2.2∧x.2.2≤maxLen) (λx=>l.length - x.1) (0,none,0) aD (by dsimp only;rw[aCg,aCh];exact aB.trans (aB.nil fH) aA) ⟨aAh _,aAf _,aAh _⟩ ?_
  rintro⟨i,B,d⟩ F ⟨h1,h2,h3⟩;dsimp only at h1 h2 h3⊢;by_cases hlt:i<l.length
  ·obtain⟨x,hx⟩:∃x,l[i]?=some x:=⟨_,aAa hlt⟩
   have hxm:=hmay x (aAi hx);have hxo:=hok x (aAi hx);have e1:lN (l.drop i)++t=x.put++(lN (l.drop (i+1))++t):=by
    obtain⟨_,rfl⟩:=aAd.1 hx;rw[aAm hlt,←aAb,←Bm hxm];rfl
   have pl:=sC (l:=l.drop (i+1)) λe he=>hmay e (aDw he);rw[aBd] at pl;have prt:=λE'=>Nw E' g 27 (x.put++(lN (l.drop (i+1))++t)) (by rw[aAe,x.bD];omega) (by rw[aAe,aAe,x.bD,pl];omega);rw[aBj x.bD,aBu x.bD] at prt;have hget:EY x.put=some x:=HH hxm hxo.2.1.2.2.1;rw[e1];repeat first|refine v_ ?_|refine Dr.two ?_ ?_|intro
   refine bW prt ?_;rintro e H' ⟨O,od,rfl,rfl⟩;repeat first|refine v_ ?_|refine Dr.two ?_ ?_|intro
   refine dX (λ(E':Env) h1=>Dd E' O 27 od x.put h1 rfl) ?_;rw[hget];rintro e H' ⟨rfl,rfl⟩;rw[aBe,aEf];repeat first|refine v_ ?_|refine Dr.two ?_ ?_|intro
   refine bK qS ?_;repeat first|refine v_ ?_|refine Dr.two ?_ ?_|intro
   rename_i B' d' h4 h5;exact⟨(i+1,B',d'),aD,(by dsimp only;rw[take_succ hx];exact aA),⟨by dsimp only;omega,h4,h5⟩,by dsimp only;omega⟩
  ·obtain rfl:i=l.length:=by omega
   rw[aAo,aCy,show lN []++t=t from rfl];repeat first|refine v_ ?_|refine Dr.two ?_ ?_|intro
   exact cI rfl aF rfl rfl rfl aS rfl aA (⟨_,_,⟨h2,h3⟩,rfl,rfl⟩)
 ·repeat first|refine v_ ?_|intro
  refine eJ c1 ?_;repeat first|refine v_ ?_|refine Dr.two ?_ ?_|intro
  rename_i g5;refine bK c2 ?_;repeat first|refine v_ ?_|refine Dr.two ?_ ?_|intro
  refine C.loop (X:=Nat×Option Addr×Nat) (λx=>[(2,.pointer (some ⟨g2,0,none⟩)),(4,.pointer (some ⟨g4,0,none⟩)),(5,.pointer (some ⟨g5,0,none⟩)),(13,.int .i64 l.length),(14,.int .i64 x.1)])
   (λx=>[aJ g2 414 [pt g],aJ g4 90 [.int .i64 0,.int .i64 0,.int .i64 0,.slice none 0 0],aJ g5 90 [.int .i64 a.rep,.int .i64 a.seq,.int .i64 md,.slice x.2.1 x.1 x.2.2],own fH x.2.1 x.1 x.2.2 (l.take x.1),kT g (lN (l.drop x.1)++t)])
   (λx=>x.1≤l.length∧x.1≤x.2.2∧x.2.2≤maxLen) (λx=>l.length - x.1) (0,none,0) aD (by dsimp only;rw[aCg,aCh];exact aB.trans (aB.nil fH) aA) ⟨aAh _,aAf _,aAh _⟩ ?_
  rintro⟨i,B,d⟩ F ⟨h1,h2,h3⟩;dsimp only at h1 h2 h3⊢;by_cases hlt:i<l.length
  ·obtain⟨x,hx⟩:∃x,l[i]?=some x:=⟨_,aAa hlt⟩
   have hxm:=hmay x (aAi hx);have hxo:=hok x (aAi hx);have e1:lN (l.drop i)++t=x.put++(lN (l.drop (i+1))++t):=by
    obtain⟨_,rfl⟩:=aAd.1 hx;rw[aAm hlt,←aAb,←Bm hxm];rfl
   have pl:=sC (l:=l.drop (i+1)) λe he=>hmay e (aDw he);rw[aBd] at pl;have prt:=λE'=>Nw E' g 27 (x.put++(lN (l.drop (i+1))++t)) (by rw[aAe,x.bD];omega) (by rw[aAe,aAe,x.bD,pl];omega);rw[aBj x.bD,aBu x.bD] at prt;have hget:EY x.put=some x:=HH hxm hxo.2.1.2.2.1;rw[e1];repeat first|refine v_ ?_|refine Dr.two ?_ ?_|intro
   refine bW prt ?_;rintro e H' ⟨O,od,rfl,rfl⟩;repeat first|refine v_ ?_|refine Dr.two ?_ ?_|intro
   refine dX (λ(E':Env) h1=>Dd E' O 27 od x.put h1 rfl) ?_;rw[hget];rintro e H' ⟨rfl,rfl⟩;rw[aBe,aEf];repeat first|refine v_ ?_|refine Dr.two ?_ ?_|intro
   refine bK qS ?_;repeat first|refine v_ ?_|refine Dr.two ?_ ?_|intro
   rename_i B' d' h4 h5;exact⟨(i+1,B',d'),aD,(by dsimp only;rw[take_succ hx];exact aA),⟨by dsimp only;omega,h4,h5⟩,by dsimp only;omega⟩
  ·obtain rfl:i=l.length:=by omega
   rw[aAo,aCy,show lN []++t=t from rfl];repeat first|refine v_ ?_|refine Dr.two ?_ ?_|intro
   exact cI rfl aF rfl rfl rfl aS rfl aA (⟨_,_,⟨h2,h3⟩,rfl,rfl⟩)
end
end Go.Proofs.YtmilalkjbojciaaGreat.Sep
