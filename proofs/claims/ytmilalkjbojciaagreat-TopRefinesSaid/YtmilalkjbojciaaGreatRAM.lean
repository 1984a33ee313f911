/- Part AM: what it needs. No condition. -/
import Derived.Test.YtmilalkjbojciaaGreatRAA
import Derived.Test.YtmilalkjbojciaaGreatRAE
import Derived.Test.YtmilalkjbojciaaGreatRAH
import Derived.Test.YtmilalkjbojciaaGreatRAJ
import Derived.Test.YtmilalkjbojciaaGreatRAL
import Derived.Test.YtmilalkjbojciaaGreatRAK
set_option maxRecDepth 100000
set_option maxHeartbeats 8000000
open Go.Proofs.Tryz
namespace Go.Proofs.YtmilalkjbojciaaGreat.Sep
open Go.RowKit Reg Oct
open Mem hiding Rd
section
variable (E:Env) (A:Option Addr) (n c:Nat)
theorem MY(l:List aX)(hr:Rd E bE A n c l)(h:48<n):aK prog E 151 #[.slice A n c] [] λe H'=>e=.returned (.tuple #[.slice none 0 0,.int .i64 3])∧H'=[]:=by
 have hn:=hr.len;have hcap:=hr.cap;refine t_ func151 ntmps151 ?_;repeat first|refine aE ?_|intro
 exact Xs
def xI(l:List aX)(e:Ending)(H':List aL):Prop :=
 match l.all aX.may with
 |true=>∃A' c',e=.returned (.tuple #[.slice A' (1+22*l.length) c',.int .i64 0])∧H'=[own aU A' (1+22*l.length) c' (dP l)]
 |false=>e=.returned (.tuple #[.slice none 0 0,.int .i64 4])∧H'=[]
theorem F6(l:List aX)(hr:Rd E bE A n c l)(h:n≤48):aK prog E 151 #[.slice A n c] [] (xI l):=by
 have hn:=hr.len;have hcap:=hr.cap;refine t_ func151 ntmps151 ?_;repeat first|refine aE ?_|intro
 rename_i g;have hu8:UInt8.ofNat ((n:Int).toNat)=UInt8.ofNat l.length:=by rw[aAu,hn]
 rw[hu8];refine C.loop (X:=Nat×Option Addr×Nat) (λx=>[(4,.slice x.2.1 (1+22*x.1) x.2.2),(16,.slice A n c),(17,.int .i64 n),(18,.int .i64 x.1)]) (λx=>[own aU x.2.1 (1+22*x.1) x.2.2 (UInt8.ofNat l.length::fR (l.take x.1))]) (λx=>x.1≤n∧(l.take x.1).all aX.may=true) (λx=>n - x.1) (0,_,_) aD aB.refl ⟨aAh _,rfl⟩ ?_;rintro⟨i,A',c'⟩ G ⟨hi,hall⟩;dsimp only at hi hall⊢;by_cases hlt:i<n
 ·have hli:i<l.length:=o_;have g1:l[i]?=some l[i]:=aAa hli;have hstep:l.take (i+1)=l.take i++[l[i]]:=aAn hli;have hmem:l[i]∈l:=aCs hli;generalize l[i]=x at g1 hstep hmem;have e1:1+22*i+22=1+22*(i+1):=o_;cases hm:x.may
  ·have hno:l.all aX.may=false:=by
    rw[List.all_eq_false];exact⟨x,hmem,by rw[hm];simp⟩
   repeat first|refine aE ?_|intro
   refine bK (λM=>Ru M x hm) ?_;repeat first|refine aE ?_|intro
   unfold xI;rw[hno];exact Xs
  ·have e2:UInt8.ofNat l.length::fR (l.take i)++x.put=UInt8.ofNat l.length::fR (l.take (i+1)):=by rw[hstep,Gj];rfl
   repeat first|refine aE ?_|intro
   refine bW (λM=>Kq M x hm) ?_;rintro e H' ⟨A1,c1,rfl,rfl⟩;repeat first|refine aE ?_|intro
   rw[e1,e2];exact⟨(i+1,_,_),aD,aA,⟨by dsimp only;omega,by dsimp only;rw[hstep,List.all_append,hall];simp[hm]⟩,by dsimp only;omega⟩
 ·obtain rfl:i=n:=o_;have e3:l.take i=l:=aAj o_;rw[e3] at hall⊢;unfold xI;rw[hall,←hn];repeat first|refine aE ?_|intro
  exact vT rfl aF aF aA (⟨_,_,rfl,by unfold dP;rw[←hn]⟩)
end
section
variable (E:Env) (A:Option Addr) (n c:Nat)
theorem NC(l:List UInt8)(hr:Rd E aU A n c l)(hl:n≤140737488355300)(h:∀x t,l=x::t→¬(x.toNat≤48∧t.length=22*x.toNat)) :
  aK prog E 248 #[.slice A n c] [] λe H'=>e=.returned (.tuple #[.slice none 0 0,.int .i64 16])∧H'=[]:=by
 have hn:=hr.len;have hcap:=hr.cap;refine t_ func248 ntmps248 ?_;repeat first|refine aE ?_|intro
 refine dX (λM h1=>lD M A n c l h1 (by omega)) ?_;rintro e H' ⟨g,A0,c0,rfl,h5,h6,rfl⟩;repeat first|refine aE ?_|intro
 refine dX (λM=>iG M g false A0 n c0 l 1) ?_;cases l with
 |nil =>
  rw[show nx false ([]:List UInt8) (wid 1)=(none,true,[]) from rfl];rintro e H' ⟨A1,n1,c1,rfl,hal1,rfl⟩;refine gk bG ?_;simp only[tk];repeat first|refine aE ?_|intro
  refine bK (λM=>Eu M g true true A1 n1 c1) ?_;repeat first|refine aE ?_|intro
  exact Xs
 |cons x t =>
  have hx:=aEr x;rw[show nx false (x::t) (wid 1)=(some [x],false,t) from Ai (k:=1) (by simp)];rintro e H' ⟨A1,n1,c1,rfl,hal1,rfl⟩;refine gk bG ?_;have hg:Oct.get [x]=x.toNat:=by simp[Oct.get]
  simp only[tk,hg];repeat first|refine aE ?_|intro
  refine bK (λM=>Eu M g true false A1 n1 c1) ?_;by_cases h48:x.toNat≤48
  ·have ht:t.length≠22*x.toNat:=λht=>h x t rfl ⟨h48,ht⟩;simp only[aAs] at hn;repeat first|refine aE ?_|intro
   refine cl sD sK aC (λM hE=>tV M g false A1 n1 c1 t (hal1 _ dB)) ?_;rw[if_neg aAl];rintro e H' ⟨rfl,rfl⟩;repeat first|refine aE ?_|intro
   exact Xs
  ·repeat first|refine aE ?_|intro
   exact Xs
def Nk(r:Option (List aX))(e:Ending)(H':List aL):Prop :=
 match r with
 |some xs=>∃O co,e=.returned (.tuple #[.slice O xs.length co,.int .i64 0])∧H'=[own bE O xs.length co xs]
 |none=>e=.returned (.tuple #[.slice none 0 0,.int .i64 16])∧H'=[]
theorem N6(x:UInt8)(t:List UInt8)(hr:Rd E aU A n c (x::t))(h48:x.toNat≤48)(ht:t.length=22*x.toNat) :
  aK prog E 248 #[.slice A n c] [] (Nk (pieces x.toNat t)):=by
 have hn:=hr.len;have hcap:=hr.cap;simp only[aAs] at hn;have hg:Oct.get [x]=x.toNat:=by simp[Oct.get]
 refine t_ func248 ntmps248 ?_;repeat first|refine aE ?_|intro
 refine dX (λM h1=>lD M A n c (x::t) h1 (by omega)) ?_;rintro e H' ⟨g,A0,c0,rfl,h5,h6,rfl⟩;repeat first|refine aE ?_|intro
 refine dX (λM=>iG M g false A0 n c0 (x::t) 1) ?_;rw[show nx false (x::t) (wid 1)=(some [x],false,t) from Ai (k:=1) (by simp)];rintro e H' ⟨A1,n1,c1,rfl,hal1,rfl⟩;refine gk bG ?_;simp only[tk,hg];generalize x.toNat=k at *;repeat first|refine aE ?_|intro
 refine bK (λM=>Eu M g true false A1 n1 c1) ?_;repeat first|refine aE ?_|intro
 refine cl sD sK aC (λM hE=>tV M g false A1 n1 c1 t (hal1 _ dB)) ?_;rw[if_neg aAl];rintro e H' ⟨rfl,rfl⟩;repeat first|refine aE ?_|intro
 unfold Bs;refine C.loop (X:=List aX×(Option Addr×Nat)×Option Addr×Nat×Nat) (λq=>[(4,.pointer (some ⟨g,0,none⟩)),(7,.slice q.2.1.1 q.1.length q.2.1.2),(33,.int .u64 k),(34,.int .u64 q.1.length)])
  (λq=>[pC g true false q.2.2.1 q.2.2.2.1 q.2.2.2.2,own aU A0 n c0 (x::t),own bE q.2.1.1 q.1.length q.2.1.2 q.1]) (λq=>q.1.length≤k∧pieces k t=(pieces (k - q.1.length) (t.drop (22*q.1.length))).map (q.1++·)∧nS A0 n c0 (x::t) q.2.2.1 q.2.2.2.1 q.2.2.2.2 (t.drop (22*q.1.length)))
  (λq=>k - q.1.length) ([],(none,0),A1,n1,c1) aD (by simp only[aDh];exact(aB.nil bE).trans aA) ⟨aAh _,by simp,hal1⟩ ?_
 rintro⟨xs,⟨O,co⟩,A2,n2,c2⟩ G ⟨hk,hp,hal⟩;dsimp only at hk hp hal⊢;by_cases hlt:xs.length<k
 ·have hl22:((t.drop (22*xs.length)).take 22).length=22:=by simp;omega
  have hnx:nx false (t.drop (22*xs.length)) 22=(some ((t.drop (22*xs.length)).take 22),false,(t.drop (22*xs.length)).drop 22):=Ai (k:=22) (by simp;omega);have hdd:(t.drop (22*xs.length)).drop 22=t.drop (22*(xs.length+1)):=by rw[aBt];congr 1
  have hlen:(t.drop (22*xs.length)).length≤140737488355328:=by simp;omega
  have hpk:k - xs.length=(k - (xs.length+1))+1:=o_;rw[hpk,pieces,hdd] at hp;repeat first|refine aE ?_|intro
  refine cl sD sK aC (λM hE=>kR M g false A2 n2 c2 (t.drop (22*xs.length)) 22 (hal _ dB) hlen) ?_;rw[hnx,hdd];rintro e H' ⟨A3,n3,c3,B,d,rfl,hal3,hmd,hd3,rfl⟩;dsimp only[Option.getD,Option.isSome] at hmd⊢;rw[hl22] at hmd⊢;refine gk bG ?_;cases hc:tT ((t.drop (22*xs.length)).take 22) with
  |none =>
   rw[hc] at hp;repeat first|refine aE ?_|intro
   refine cl sD sK aC (λM hE=>xS M B 22 d _ none hc dB sD) ?_;rintro e H' ⟨rfl,rfl⟩;refine gk bG ?_;dsimp only[Option.getD,Option.isSome];rw[if_neg aAl];repeat first|refine aE ?_|intro
   rw[hp];exact Xs
  |some y =>
   rw[hc] at hp;repeat first|refine aE ?_|intro
   refine cl sD sK aC (λM hE=>xS M B 22 d _ (some y) hc dB sD) ?_;rintro e H' ⟨rfl,rfl⟩;refine gk bG ?_;dsimp only[Option.getD,Option.isSome];rw[if_pos rfl];repeat first|refine aE ?_|intro
   rename_i O' co' _ _;refine⟨(xs++[y],(O',co'),A3,n3,c3),?_,?_,⟨by simp;omega,?_,?_⟩,by simp;omega⟩
   ·dsimp only;rw[show(xs++[y]).length=xs.length+1 by simp];exact aD
   ·dsimp only;rw[show(xs++[y]).length=xs.length+1 by simp];exact aA
   ·dsimp only;rw[show(xs++[y]).length=xs.length+1 by simp,hp];cases pieces (k - (xs.length+1)) (t.drop (22*(xs.length+1)))<;>simp
   ·dsimp only;rw[show(xs++[y]).length=xs.length+1 by simp];exact hal.trans hal3
 ·have hkk:xs.length=k:=o_;rw[hkk,aEi] at hp;have hp:pieces k t=some xs:=by rw[hp];simp[pieces]
  rw[hp];repeat first|refine aE ?_|intro
  exact Cz ⟨_,_,rfl,rfl⟩
end
def wn(w:Nat)(l:List Int):List UInt8:=(l.map λn=>be n.toNat w).flatten
theorem Sm(w:Nat)(l:List Int)(x:Int):wn w (l++[x])=wn w l++be x.toNat w:=by simp[wn]
theorem iI(w:Nat)(l:List Int):(wn w l).length=w*l.length:=by
 induction l with
 |nil=>simp[wn]
 |cons a l ih =>
  have:wn w (a::l)=be a.toNat w++wn w l:=rfl;rw[this,aAe,aP,ih,aAs,Nat.mul_add];omega
abbrev Mi(g:Nat)(A:Option Addr)(n c:Nat)(l:List UInt8):List aL:=[aJ g 330 [.slice A n c],own aU A n c l]
def WP(g n':Nat)(l:List UInt8)(e:Ending)(H':List aL):Prop:=e=.returned (.tuple #[])∧∃A' c',H'=[aJ g 330 [.slice A' n' c'],own aU A' n' c' l]
section
variable (E:Env) (g:Nat) (A:Option Addr) (n c:Nat) (l:List UInt8)
theorem Fo(w n':Nat)(W:Int)(hW:W=w)(hw:1≤w∧w≤8)(B:Option Addr)(k d:Nat)(ns:List Int)(hr:Rd E Au B k d ns)(hns:∀x∈ns,0≤x∧x≤65535)(hk:k≤100)(hnl:n=l.length)(hn:n≤100000)(hn':n+w*k=n') :
  aK prog E 236 #[.pointer (some ⟨g,0,none⟩),.int .i64 W,.slice B k d] (Mi g A n c l) (WP g n' (l++wn w ns)):=by
 subst hn';have hcap:=hr.cap;have hlen:=hr.len;have hmax:=fX;unfold Mi;refine t_ func236 ntmps236 ?_;repeat first|refine aE ?_|intro
 refine C.loop (X:=Nat×Option Addr×Nat) (λx=>[(0,.pointer (some ⟨g,0,none⟩)),(1,.int .i64 W),(8,.slice B k d),(9,.int .i64 k),(10,.int .i64 x.1)]) (λx=>[aJ g 330 [.slice x.2.1 (n+w*x.1) x.2.2],own aU x.2.1 (n+w*x.1) x.2.2 (l++wn w (ns.take x.1))]) (λx=>x.1≤k) (λx=>k - x.1) (0,A,c) aD (by simp[wn];exact aB.refl) (aAh _) ?_;rintro⟨i,A',c'⟩ G hi;dsimp only at hi⊢;by_cases hlt:i<k
 ·have hli:i<ns.length:=o_;have hx:ns[i]?=some ns[i]:=aAa hli;have hst:ns.take (i+1)=ns.take i++[ns[i]]:=aAn hli;have hb:=hns _ (aCs hli);generalize ns[i]=x at hx hst hb;have hz:(l++wn w (ns.take i))++be x.toNat w=l++wn w (ns.take (i+1)):=by rw[hst,Sm,aAb]
  have hl2:n+w*i=(l++wn w (ns.take i)).length:=by rw[aAe,iI,aAg];congr 2;omega
  have hwi:w*i≤800:=aBw (Nat.mul_le_mul hw.2 (show i≤100 by omega)) sD;have hnn:n+w*i+w=n+w*(i+1):=by rw[Nat.mul_add,Nat.mul_one];omega
  have hwr:=eZ hb.1 o_;have hxl:x.toNat<18446744073709551616:=o_;have hle:n+w*i≤140737488355300:=o_;generalize n+w*i=q at *;repeat first|refine aE ?_|intro
  refine dX (λM h1=>kY M A' q c' (n+w*(i+1)) w (l++wn w (ns.take i)) x.toNat W hW hnn hw h1 hxl hle) ?_;rintro e H' ⟨A1,c1,rfl,hc1,rfl⟩;refine gk bG ?_;rw[hz];repeat first|refine aE ?_|intro
  exact⟨(i+1,A1,c1),aD,aA,by dsimp only;omega,by dsimp only;omega⟩
 ·obtain rfl:i=k:=o_;have hall:ns.take i=ns:=aAj o_;rw[hall];repeat first|refine aE ?_|intro
  exact gO rfl aA (⟨rfl,_,_,rfl⟩)
theorem Tx(n':Nat)(a:bJ)(ha:a.may=true)(hnl:n=l.length)(hn:n≤90000)(hn':n+3=n'):aK prog E 237 #[.pointer (some ⟨g,0,none⟩),.agg a.cs.toArray] (Mi g A n c l) (WP g n' (l++gM a)):=by
 subst hn';obtain⟨r0,r1,s0,s1⟩:=(bJ.bY a).1 ha;have o1:1≤1∧1≤8:=o_;have o2:1≤2∧2≤8:=o_;have b1:∀x∈[a.rep],0≤x∧x≤65535:=λx hx=>by simp at hx;omega
 have b2:∀x∈[a.seq],0≤x∧x≤65535:=λx hx=>by simp at hx;omega
 have hl1:n+1=(l++wn 1 [a.rep]).length:=by rw[aAe,iI,hnl];rfl
 have hfin:(l++wn 1 [a.rep])++wn 2 [a.seq]=l++gM a:=by simp[wn,gM,fI]
 have l1:1≤100:=o_;have l2:n≤100000:=o_;have l3:n+1≤100000:=o_;have l4:n+1*1=n+1:=o_;have l5:n+1+2*1=n+3:=o_;unfold Mi;refine t_ func237 ntmps237 ?_;repeat first|refine aE ?_|intro
 refine cl sD sK aC (λM hE=>Fo M g A n c l 1 (n+1) 1 rfl o1 _ 1 1 [a.rep] dB b1 l1 hnl l2 l4) ?_;rintro e H' ⟨rfl,A1,c1,rfl⟩;repeat first|refine aE ?_|intro
 refine cl sD sK aC (λM hE=>Fo M g A1 (n+1) c1 (l++wn 1 [a.rep]) 2 (n+3) 2 rfl o2 _ 1 1 [a.seq] dB b2 l1 hl1 l3 l5) ?_;rintro e H' ⟨rfl,A2,c2,rfl⟩;refine gk bG ?_;rw[hfin];repeat first|refine aE ?_|intro
 exact gO rfl aA (⟨rfl,_,_,rfl⟩)
theorem ON(n':Nat)(k:bP)(hk:k.may=true)(hnl:n=l.length)(hn:n≤80000)(hn':n+5=n'):aK prog E 238 #[.pointer (some ⟨g,0,none⟩),.agg k.cs.toArray] (Mi g A n c l) (WP g n' (l++fI kW (kK k))):=by
 subst hn';obtain⟨hi,o0,o1⟩:=(bP.bY k).1 hk;have hid:k.id.may=true:=(bJ.bY _).2 hi;have w1:1≤1∧1≤8:=o_;have b0:∀x∈[k.ord,0],0≤x∧x≤65535:=λx hx=>by simp at hx;omega
 have b1:∀x∈[k.ord,1],0≤x∧x≤65535:=λx hx=>by simp at hx;omega
 have hl1:n+3=(l++gM k.id).length:=by rw[aAe,xF,hnl]
 have l1:2≤100:=o_;have l2:n≤90000:=o_;have l3:n+3≤100000:=o_;have l5:n+3+1*2=n+5:=o_;unfold Mi;refine t_ func238 ntmps238 ?_;repeat first|refine aE ?_|intro
 refine bW (λM=>Tx M g A n c l (n+3) k.id hid hnl l2 rfl) ?_;rintro e H' ⟨rfl,A1,c1,rfl⟩;refine gk bG ?_;cases hu:k.cD
 ·have hfin:(l++gM k.id)++wn 1 [k.ord,0]=l++fI kW (kK k):=by simp[wn,gM,fI,kK,jS,hu]
  repeat first|refine aE ?_|intro
  refine cl sD sK aC (λM hE=>Fo M g A1 (n+3) c1 (l++gM k.id) 1 (n+5) 1 rfl w1 _ 2 2 [k.ord,0] dB b0 l1 hl1 l3 l5) ?_;rintro e H' ⟨rfl,A2,c2,rfl⟩;refine gk bG ?_;rw[hfin];repeat first|refine aE ?_|intro
  exact gO rfl aA (⟨rfl,_,_,rfl⟩)
 ·have hfin:(l++gM k.id)++wn 1 [k.ord,1]=l++fI kW (kK k):=by simp[wn,gM,fI,kK,jS,hu]
  repeat first|refine aE ?_|intro
  refine cl sD sK aC (λM hE=>Fo M g A1 (n+3) c1 (l++gM k.id) 1 (n+5) 1 rfl w1 _ 2 2 [k.ord,1] dB b1 l1 hl1 l3 l5) ?_;rintro e H' ⟨rfl,A2,c2,rfl⟩;refine gk bG ?_;rw[hfin];repeat first|refine aE ?_|intro
  exact gO rfl aA (⟨rfl,_,_,rfl⟩)
end
theorem Mg.ends{m:Mg}(h:m.check=0):0≤m.fr∧m.fr≤9∧0≤m.to∧m.to≤9:=by
 obtain⟨_,hp,_,_⟩:=Mg.bR h;unfold Mg.nT at hp;split at hp
 ·simp[wV] at hp;omega
 ·split at hp
  ·simp[wV] at hp;omega
  ·simp[wV] at hp;omega
theorem Mg.XG{m:Mg}(h:m.check=0)(h1:m.kind=1):(∀x∈m.ks,0≤x∧x≤65535)∧0≤m.base∧m.base≤48:=by
 obtain⟨_,_,hf,_⟩:=Mg.bR h;unfold Mg.cV at hf;rw[if_pos h1] at hf;simp[sq,bs] at hf;refine⟨λx hx=>?_,by omega⟩;simp at hx;omega
theorem Mg.Tr{m:Mg}(h:m.check=0)(h1:m.kind=2):m.ids.length≤16∧m.ids.all bJ.may=true∧m.iS.length≤8∧m.iS.all aX.may=true∧0≤m.base∧m.base≤48:=by
 obtain⟨_,_,hf,_⟩:=Mg.bR h;unfold Mg.cV at hf;rw[if_neg o_,if_pos h1] at hf;simp only[aAv,decide_eq_true_eq,bs] at hf;exact⟨hf.1.1.1,hf.1.1.2,hf.1.2.1,hf.1.2.2,hf.2⟩
theorem Mg.YR{m:Mg}(h:m.check=0)(h1:m.kind=3):m.key.may=true∧m.bC.check=0:=by
 obtain⟨_,_,hf,_⟩:=Mg.bR h;unfold Mg.cV at hf;rw[if_neg o_,if_neg o_,if_pos h1] at hf;simpa using hf
theorem Mg.W7{m:Mg}(h:m.check=0)(h1:m.kind=4):m.key.may=true:=by
 obtain⟨_,_,hf,_⟩:=Mg.bR h;unfold Mg.cV at hf
 rwa [if_neg o_,if_neg o_,if_neg o_] at hf
theorem Mg.Ta{m:Mg}(h1:m.kind=1):(([]++wn 1 [m.kind,m.fr,m.to])++wn 2 m.ks)++wn 1 [m.base]=m.body:=by
 unfold Mg.body;rw[if_pos h1];simp[wn,fI]
theorem Mg.Tq{m:Mg}(h1:m.kind=2):(((([]++wn 1 [m.kind,m.fr,m.to])++wn 1 [m.base,(m.ids.length:Int)])++kH m.ids)++dP m.iS)=m.body:=by
 unfold Mg.body;rw[if_neg o_,if_pos h1];simp[wn,fI]
theorem Mg.T1{m:Mg}(h1:m.kind=3):((([]++wn 1 [m.kind,m.fr,m.to])++fI kW (kK m.key))++m.bC.put)=m.body:=by
 unfold Mg.body;rw[if_neg o_,if_neg o_,if_pos h1];simp[wn,fI]
theorem Mg.T8{m:Mg}(h1:m.kind=4):(([]++wn 1 [m.kind,m.fr,m.to])++fI kW (kK m.key))=m.body:=by
 unfold Mg.body;rw[if_neg o_,if_neg o_,if_neg o_];simp[wn,fI]
theorem pR(k:bP):(fI kW (kK k)).length=5:=by simp[fI,kK,aP]
theorem Mg.Gz{m:Mg}(h:m.check=0):1≤m.body.length∧m.body.length≤300:=by
 obtain⟨hk,_,_,_⟩:=Mg.bR h;rcases(show m.kind=1∨m.kind=2∨m.kind=3∨m.kind=4 by omega) with h1|h1|h1|h1
 ·rw[←Mg.Ta h1];simp[iI]
 ·obtain⟨h16,_,h8,_⟩:=Mg.Tr h h1;rw[←Mg.Tq h1];simp[iI,jC,lZ];omega
 ·rw[←Mg.T1 h1];simp[iI,pR,cQ.bD]
 ·rw[←Mg.T8 h1];simp[iI,pR]
section
variable (E:Env) (m:Mg) (A:Option Addr) (n c:Nat) (B:Option Addr) (k d:Nat)
theorem Ks(hI:Rd E fN A n c m.ids)(hC:Rd E bE B k d m.iS)(h:m.check≠0):aK prog E 178 #[.agg (oK m A n c B k d).toArray] [] λe H'=>e=.returned (.tuple #[.slice none 0 0,.int .i64 m.check])∧H'=[]:=by
 refine t_ func178 ntmps178 ?_;repeat first|refine aE ?_|intro
 refine C1 (λM=>Cr M m A n c B k d) ?_;generalize m.check=ck at *;rintro e H' ⟨rfl,rfl⟩;repeat first|refine aE ?_|intro
 exact Xs
def YP(m:Mg)(e:Ending)(H':List aL):Prop:=∃A' c',e=.returned (.tuple #[.slice A' (m.body.length+7) c',.int .i64 0])∧H'=[own aU A' (m.body.length+7) c' m.enc]
theorem KQ(hI:Rd E fN A n c m.ids)(hC:Rd E bE B k d m.iS)(h:m.check=0):aK prog E 178 #[.agg (oK m A n c B k d).toArray] [] (YP m):=by
 have hn:=hI.len;have hk:=hC.len;have hnc:=hI.cap;have hkc:=hC.cap;have hmax:=fX;have hk4:=(Mg.bR h).1;have hb0:=Mg.Gz h;have hef:=Mg.ends h;have h4m:4≤maxLen:=sD;have hkn:=Ao m A n c B k d;have o1:1≤1∧1≤8:=o_;have o2:1≤2∧2≤8:=o_;have b3:∀x∈[m.kind,m.fr,m.to],0≤x∧x≤65535:=λx hx=>by simp at hx;omega
 have z0:0=([]:List UInt8).length:=rfl;have z1:3≤100:=o_;have z2:0≤100000:=o_;have z3:0+1*3=3:=o_;have hl3:3=([]++wn 1 [m.kind,m.fr,m.to]).length:=by rw[aAe,iI];rfl
 have z4:3≤100000:=o_;have z5:3≤80000:=o_;unfold YP Mg.enc;refine t_ func178 ntmps178 ?_;repeat first|refine aE ?_|intro
 refine C1 (λM=>Cr M m A n c B k d) ?_;rw[h];rintro e H' ⟨rfl,rfl⟩;repeat first|refine aE ?_|intro
 rename_i gb gw gs;refine L.conv (aB.oR aU none) ?_;refine cl sD sK aC (λM hE=>Fo M gw none 0 0 [] 1 3 1 rfl o1 _ 3 3 [m.kind,m.fr,m.to] dB b3 z1 z0 z2 z3) ?_;rintro e H' ⟨rfl,A1,c1,rfl⟩;refine gk bG ?_;generalize hhd:[]++wn 1 [m.kind,m.fr,m.to]=hd at *;rcases(show m.kind=1∨m.kind=2∨m.kind=3∨m.kind=4 by omega) with h1|h1|h1|h1
 ·obtain⟨f1,f2,f3⟩:=Mg.XG h h1;have hbd:=Mg.Ta h1;rw[hhd] at hbd;have yq0:3=hd.length:=hl3;have yq1:4≤100:=o_;have yq2:3+2*4=11:=o_;have yq3:11=(hd++wn 2 m.ks).length:=by rw[aAe,iI,←hl3];rfl
  have yq4:1≤100:=o_;have yq5:11≤100000:=o_;have yq6:11+1*1=12:=o_;have yq7:∀x∈[m.base],0≤x∧x≤65535:=λx hx=>by simp at hx;omega
  have yq8:12=((hd++wn 2 m.ks)++wn 1 [m.base]).length:=by rw[aAe,iI,←yq3];rfl
  have yq9:1≤12:=o_;have yq10:12≤4096:=o_;repeat first|refine aE ?_|intro
  refine cl sD sK aC (λM hE=>Fo M gw A1 3 c1 hd 2 11 2 rfl o2 (some ⟨gb,3,none⟩) 4 4 m.ks (hE.arr aS rfl h4m hkn) f1 yq1 yq0 z4 yq2) ?_;rintro e H' ⟨rfl,A2,c2,rfl⟩;repeat first|refine aE ?_|intro
  refine cl sD sK aC (λM hE=>Fo M gw A2 11 c2 (hd++wn 2 m.ks) 1 12 1 rfl o1 _ 1 1 [m.base] dB yq7 yq4 yq3 yq5 yq6) ?_;rintro e H' ⟨rfl,A3,c3,rfl⟩;refine gk bG ?_;rw[hbd] at yq8⊢;rw[←yq8];repeat first|refine aE ?_|intro
  refine dX (λM h1=>uR M A3 12 c3 m.body h1 yq9 yq10) ?_;rintro e H' ⟨A4,c4,rfl,rfl⟩;repeat first|refine aE ?_|intro
  exact Cz ⟨_,_,rfl,rfl⟩
 ·obtain⟨f1,f2,f3,f4,f5,f6⟩:=Mg.Tr h h1;have hbd:=Mg.Tq h1;rw[hhd,←hn] at hbd;have xq0:3=hd.length:=hl3;have xq1:2≤100:=o_;have xq2:3+1*2=5:=o_;have xq3:∀x∈[m.base,(n:Int)],0≤x∧x≤65535:=λx hx=>by simp at hx;omega
  have xq4:5=(hd++wn 1 [m.base,(n:Int)]).length:=by rw[aAe,iI,←hl3];rfl
  have xq5:k≤48:=o_;have xq6:m.body.length=5+3*n+(1+22*k):=by rw[←hbd];simp only[aAe,←xq4,jC,lZ];omega
  repeat first|refine aE ?_|intro
  refine cl sD sK aC (λM hE=>Fo M gw A1 3 c1 hd 1 5 1 rfl o1 _ 2 2 [m.base,(n:Int)] dB xq3 xq1 xq0 z4 xq2) ?_;rintro e H' ⟨rfl,A2,c2,rfl⟩;refine gk bG ?_;generalize hd++wn 1 [m.base,(n:Int)]=h2 at *;repeat first|refine aE ?_|intro
  refine C.loop (X:=Nat×Option Addr×Nat) (λx=>[(1,.pointer (some ⟨gb,0,none⟩)),(5,.pointer (some ⟨gw,0,none⟩)),(29,.int .i64 m.kind),(52,.slice A n c),(53,.int .i64 n),(54,.int .i64 x.1)]) (λx=>[aJ gw 330 [.slice x.2.1 (5+3*x.1) x.2.2],own aU x.2.1 (5+3*x.1) x.2.2 (h2++kH (m.ids.take x.1)),aJ gb 195 (oK m A n c B k d)]) (λx=>x.1≤n) (λx=>n - x.1) (0,A2,c2) aD (by simp[kH];exact aA) (aAh _) ?_;rintro⟨i,A3,c3⟩ G hi;dsimp only at hi⊢;by_cases hlt:i<n
  ·have hli:i<m.ids.length:=o_;have hx:m.ids[i]?=some m.ids[i]:=aAa hli;have hst:m.ids.take (i+1)=m.ids.take i++[m.ids[i]]:=aAn hli;have hmy:m.ids[i].may=true:=by rw[aDm] at f2;exact f2 _ (aCs hli)
   generalize m.ids[i]=x at hx hst hmy;have hz:(h2++kH (m.ids.take i))++gM x=h2++kH (m.ids.take (i+1)):=by rw[hst,DR,aAb]
   have hl2:5+3*i=(h2++kH (m.ids.take i)).length:=by rw[aAe,jC,aAg,←xq4];omega
   have hle:5+3*i≤90000:=o_;have hnn:5+3*i+3=5+3*(i+1):=o_;repeat first|refine aE ?_|intro
   refine bW (λM=>Tx M gw A3 (5+3*i) c3 (h2++kH (m.ids.take i)) (5+3*(i+1)) x hmy hl2 hle hnn) ?_;rintro e H' ⟨rfl,A4,c4,rfl⟩;refine gk bG ?_;rw[hz];repeat first|refine aE ?_|intro
   exact⟨(i+1,A4,c4),aD,aA,by dsimp only;omega,by dsimp only;omega⟩
  obtain rfl:i=n:=o_;have hall:m.ids.take i=m.ids:=aAj o_;rw[hall];repeat first|refine aE ?_|intro
  refine dX (λM h1=>F6 M B k d m.iS h1 xq5) ?_;unfold xI;rw[f4];rintro e H' ⟨A4,c4,rfl,rfl⟩;refine gk bG ?_;rw[←hk];repeat first|refine aE ?_|intro
  rw[hbd];have xq7:1≤5+3*i+(1+22*k):=o_;have xq8:5+3*i+(1+22*k)≤4096:=o_;rw[xq6];rename_i A5 c5 _ _;refine dX (λM h1=>uR M A5 (5+3*i+(1+22*k)) c5 m.body h1 xq7 xq8) ?_;rintro e H' ⟨A6,c6,rfl,rfl⟩;repeat first|refine aE ?_|intro
  exact Cz ⟨_,_,rfl,rfl⟩
 ·obtain⟨f1,f2⟩:=Mg.YR h h1;have hbd:=Mg.T1 h1;rw[hhd] at hbd;have xq0:3=hd.length:=hl3;have xq6:m.body.length=8+13:=by rw[←hbd];simp only[aAe,←xq0,pR,cQ.bD]
  repeat first|refine aE ?_|intro
  refine bW (λM=>ON M gw A1 3 c1 hd 8 m.key f1 xq0 z5 rfl) ?_;rintro e H' ⟨rfl,A2,c2,rfl⟩;repeat first|refine aE ?_|intro
  refine bW (λM=>XL M m.bC f2) ?_;rintro e H' ⟨A4,c4,rfl,rfl⟩;repeat first|refine aE ?_|intro
  rw[hbd];have xq7:1≤8+13:=o_;have xq8:8+13≤4096:=o_;rw[xq6];rename_i A5 c5 _ _;refine dX (λM h1=>uR M A5 (8+13) c5 m.body h1 xq7 xq8) ?_;rintro e H' ⟨A6,c6,rfl,rfl⟩;repeat first|refine aE ?_|intro
  exact Cz ⟨_,_,rfl,rfl⟩
 ·have f1:=Mg.W7 h h1;have hbd:=Mg.T8 h1;rw[hhd] at hbd;have xq0:3=hd.length:=hl3;have xq6:m.body.length=8:=by rw[←hbd];simp only[aAe,←xq0,pR]
  repeat first|refine aE ?_|intro
  refine bW (λM=>ON M gw A1 3 c1 hd 8 m.key f1 xq0 z5 rfl) ?_;rintro e H' ⟨rfl,A2,c2,rfl⟩;refine gk bG ?_;rw[hbd];repeat first|refine aE ?_|intro
  have xq7:1≤8:=o_;have xq8:8≤4096:=o_;rw[xq6];refine dX (λM h1=>uR M A2 8 c2 m.body h1 xq7 xq8) ?_;rintro e H' ⟨A6,c6,rfl,rfl⟩;repeat first|refine aE ?_|intro
  exact Cz ⟨_,_,rfl,rfl⟩
end
end Go.Proofs.YtmilalkjbojciaaGreat.Sep
