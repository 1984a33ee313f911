/- Part AV: what it needs. No condition. -/
import Derived.Test.YtmilalkjbojciaaGreatOAA
import Derived.Test.YtmilalkjbojciaaGreatOAI
import Derived.Test.YtmilalkjbojciaaGreatOAP
import Derived.Test.YtmilalkjbojciaaGreatOAO
import Derived.Test.YtmilalkjbojciaaGreatOAQ
set_option maxRecDepth 100000
set_option maxHeartbeats 8000000
open Go.Proofs.Tryz
namespace Go.Proofs.YtmilalkjbojciaaGreat.Sep
open Go.RowKit Reg Oct
open Mem hiding Rd
theorem kB(E:Env)(g:Nat)(A:Option Addr)(nl cap n' w:Nat)(l:List UInt8)(n:Int)(k:Nat)(W:Int)(hW:W=w)(hn:nl+w=n')(hk:IntKind.u64.wrap n=k)(hk2:k<18446744073709551616)(hw:1≤w∧w≤8)(hr:Rd E aU A nl cap l)(hl:nl≤140737488355300) :
  aK prog E 273 #[.int .i64 n,.int .i64 W,.pointer (some ⟨g,0,none⟩)] [aJ g 70 [.slice A nl cap]] λe H'=>∃A' c',e=.returned (.tuple #[])∧H'=[aJ g 70 [.slice A' n' c'],own aU A' n' c' (l++be k w)]:=by
 refine t_ func273 ntmps273 ?_;repeat first|refine aE ?_|intro
 refine dX (λ(E':Env) h1=>kY E' A nl cap n' w l k W hW hn hw h1 hk2 hl) ?_;rintro e H' ⟨A',c',rfl,hc,rfl⟩;repeat first|refine aE ?_|intro
 exact gO rfl aA (⟨_,_,rfl,rfl⟩)
theorem Ru(E:Env)(c:aX)(hm:c.may=false):aK prog E 213 #[.agg c.cs.toArray] [] λe H'=>e=.returned (.tuple #[.slice none 0 0,.int .i64 4])∧H'=[]:=by
 refine t_ func213 ntmps213 ?_;repeat first|refine aE ?_|intro
 refine bW (λ(E':Env)=>kF E' c) ?_;rw[hm,if_neg aAl];rintro e H' ⟨rfl,rfl⟩;repeat first|refine aE ?_|intro
 exact e2_
theorem Kq(E:Env)(c:aX)(hm:c.may=true):aK prog E 213 #[.agg c.cs.toArray] [] λe H'=>∃A' c',e=.returned (.tuple #[.slice A' 22 c',.int .i64 0])∧H'=[own aU A' 22 c' c.put]:=by
 obtain⟨⟨i0,i1,i2,i3⟩,⟨t0,t1⟩,⟨k0,k1⟩,⟨a0,a1⟩,⟨b0,b1⟩,⟨r0,r1⟩,s0,s1⟩:=(aX.bY c).1 hm;have hu:=EV c.n;have w0:=eZ i0 o_;have w1:=eZ (n:=c.id.seq) o_ o_;have w2:=eZ (n:=c.time) o_ o_;have w3:=eZ k0 o_;have w4:=eZ a0 o_;have w5:=eZ b0 o_;have w6:=G9 c.n;have w7:=eZ r0 o_;have w8:=eZ s0 o_;have w9:IntKind.u64.wrap 67=(67:Nat):=by rw[IntKind.wrap_u64];rfl
 have g0:c.id.rep.toNat<18446744073709551616:=by omega
 have g1:c.id.seq.toNat<18446744073709551616:=by omega
 have g2:c.time.toNat<18446744073709551616:=by omega
 have g3:c.kind.toNat<18446744073709551616:=by omega
 have g4:c.a.toNat<18446744073709551616:=by omega
 have g5:c.b.toNat<18446744073709551616:=by omega
 have g7:c.ref.rep.toNat<18446744073709551616:=by omega
 have g8:c.ref.seq.toNat<18446744073709551616:=by omega
 have hfin:([]++be c.id.rep.toNat 1++be c.id.seq.toNat 2++be c.time.toNat 4++be c.kind.toNat 1++be c.a.toNat 1++be c.b.toNat 1++be (GF c.n) 8++be c.ref.rep.toNat 1++be c.ref.seq.toNat 2++be 67 1)=c.put:=by
  rw[nC 67];simp[aX.put]
 have o1:1≤1∧1≤8:=by omega
 have o2:1≤2∧2≤8:=by omega
 have o4:1≤4∧4≤8:=by omega
 have o8:1≤8∧8≤8:=by omega
 have big:∀k,k≤22→k≤140737488355300:=λk h=>by omega
 refine t_ func213 ntmps213 ?_;repeat first|refine aE ?_|intro
 refine bW (λ(E':Env)=>kF E' c) ?_;rw[hm,if_pos rfl];rintro e H' ⟨rfl,rfl⟩;repeat first|refine aE ?_|intro
 rename_i gc g;refine L.step sD (S.cW rfl eS rfl rfl func273 q_ rfl aC (λE' hE=>kB E' g none 0 0 1 1 ([]:List UInt8) c.id.rep c.id.rep.toNat 1 rfl rfl w0 g0 o1 dB (big 0 sD)) ?_);rintro e H' ⟨A1,c1,rfl,rfl⟩;repeat first|refine aE ?_|intro
 refine L.step sD (S.cW rfl eS rfl rfl func273 q_ rfl aC (λE' hE=>kB E' g A1 1 c1 3 2 _ c.id.seq c.id.seq.toNat 2 rfl rfl w1 g1 o2 dB (big 1 sD)) ?_);rintro e H' ⟨A2,c2,rfl,rfl⟩;repeat first|refine aE ?_|intro
 refine L.step sD (S.cW rfl eS rfl rfl func273 q_ rfl aC (λE' hE=>kB E' g A2 3 c2 7 4 _ c.time c.time.toNat 4 rfl rfl w2 g2 o4 dB (big 3 sD)) ?_);rintro e H' ⟨A3,c3,rfl,rfl⟩;repeat first|refine aE ?_|intro
 refine L.step sD (S.cW rfl eS rfl rfl func273 q_ rfl aC (λE' hE=>kB E' g A3 7 c3 8 1 _ c.kind c.kind.toNat 1 rfl rfl w3 g3 o1 dB (big 7 sD)) ?_);rintro e H' ⟨A4,c4,rfl,rfl⟩;repeat first|refine aE ?_|intro
 refine L.step sD (S.cW rfl eS rfl rfl func273 q_ rfl aC (λE' hE=>kB E' g A4 8 c4 9 1 _ c.a c.a.toNat 1 rfl rfl w4 g4 o1 dB (big 8 sD)) ?_);rintro e H' ⟨A5,c5,rfl,rfl⟩;repeat first|refine aE ?_|intro
 refine L.step sD (S.cW rfl eS rfl rfl func273 q_ rfl aC (λE' hE=>kB E' g A5 9 c5 10 1 _ c.b c.b.toNat 1 rfl rfl w5 g5 o1 dB (big 9 sD)) ?_);rintro e H' ⟨A6,c6,rfl,rfl⟩;repeat first|refine aE ?_|intro
 refine L.step sD (S.cW rfl eS rfl rfl func273 q_ rfl aC (λE' hE=>kB E' g A6 10 c6 18 8 _ c.n (GF c.n) 8 rfl rfl w6 hu o8 dB (big 10 sD)) ?_);rintro e H' ⟨A7,c7,rfl,rfl⟩;repeat first|refine aE ?_|intro
 refine L.step sD (S.cW rfl eS rfl rfl func273 q_ rfl aC (λE' hE=>kB E' g A7 18 c7 19 1 _ c.ref.rep c.ref.rep.toNat 1 rfl rfl w7 g7 o1 dB (big 18 sD)) ?_);rintro e H' ⟨A8,c8,rfl,rfl⟩;repeat first|refine aE ?_|intro
 refine L.step sD (S.cW rfl eS rfl rfl func273 q_ rfl aC (λE' hE=>kB E' g A8 19 c8 21 2 _ c.ref.seq c.ref.seq.toNat 2 rfl rfl w8 g8 o2 dB (big 19 sD)) ?_);rintro e H' ⟨A9,c9,rfl,rfl⟩;repeat first|refine aE ?_|intro
 refine L.step sD (S.cW rfl eS rfl rfl func273 q_ rfl aC (λE' hE=>kB E' g A9 21 c9 22 1 _ 67 67 1 rfl rfl w9 sD o1 dB (big 21 sD)) ?_);rintro e H' ⟨A0,c0,rfl,rfl⟩;repeat first|refine aE ?_|intro
 rw[hfin];exact Cz ⟨_,_,rfl,rfl⟩
section
variable (E:Env) (A:Option Addr) (n c:Nat)
theorem MY(l:List aX)(hr:Rd E bE A n c l)(h:48<n):aK prog E 151 #[.slice A n c] [] λe H'=>e=.returned (.tuple #[.slice none 0 0,.int .i64 3])∧H'=[]:=by
 have hn:=hr.len;have hcap:=hr.cap;refine t_ func151 ntmps151 ?_;repeat first|refine aE ?_|intro
 exact e2_
def xI(l:List aX)(e:Ending)(H':List aL):Prop :=
 match l.all aX.may with
 |true=>∃A' c',e=.returned (.tuple #[.slice A' (1+22*l.length) c',.int .i64 0])∧H'=[own aU A' (1+22*l.length) c' (dP l)]
 |false=>e=.returned (.tuple #[.slice none 0 0,.int .i64 4])∧H'=[]
theorem F6(l:List aX)(hr:Rd E bE A n c l)(h:n≤48):aK prog E 151 #[.slice A n c] [] (xI l):=by
 have hn:=hr.len;have hcap:=hr.cap;refine t_ func151 ntmps151 ?_;repeat first|refine aE ?_|intro
 rename_i g;have hu8:UInt8.ofNat ((n:Int).toNat)=UInt8.ofNat l.length:=by rw[aAu,hn]
 rw[hu8];refine C.loop (X:=Nat×Option Addr×Nat) (λx=>[(4,.slice x.2.1 (1+22*x.1) x.2.2),(16,.slice A n c),(17,.int .i64 n),(18,.int .i64 x.1)]) (λx=>[own aU x.2.1 (1+22*x.1) x.2.2 (UInt8.ofNat l.length::fR (l.take x.1))]) (λx=>x.1≤n∧(l.take x.1).all aX.may=true) (λx=>n - x.1) (0,_,_) aD aB.refl ⟨aAh _,rfl⟩ ?_;rintro⟨i,A',c'⟩ G ⟨hi,hall⟩;dsimp only at hi hall⊢;by_cases hlt:i<n
 ·have hli:i<l.length:=by omega
  have g1:l[i]?=some l[i]:=aAa hli;have hstep:l.take (i+1)=l.take i++[l[i]]:=aAn hli;have hmem:l[i]∈l:=aCs hli;generalize l[i]=x at g1 hstep hmem;have e1:1+22*i+22=1+22*(i+1):=by omega
  cases hm:x.may
  ·have hno:l.all aX.may=false:=by
    rw[List.all_eq_false];exact⟨x,hmem,by rw[hm];simp⟩
   repeat first|refine aE ?_|intro
   refine bK (λ(E':Env)=>Ru E' x hm) ?_;repeat first|refine aE ?_|intro
   unfold xI;rw[hno];exact e2_
  ·have e2:UInt8.ofNat l.length::fR (l.take i)++x.put=UInt8.ofNat l.length::fR (l.take (i+1)):=by rw[hstep,Gj];rfl
   repeat first|refine aE ?_|intro
   refine bW (λ(E':Env)=>Kq E' x hm) ?_;rintro e H' ⟨A1,c1,rfl,rfl⟩;repeat first|refine aE ?_|intro
   rw[e1,e2];exact⟨(i+1,_,_),aD,aA,⟨by dsimp only;omega,by dsimp only;rw[hstep,List.all_append,hall];simp[hm]⟩,by dsimp only;omega⟩
 ·obtain rfl:i=n:=by omega
  have e3:l.take i=l:=aAj o_;rw[e3] at hall⊢;unfold xI;rw[hall,←hn];repeat first|refine aE ?_|intro
  exact vT rfl aF aF aA (⟨_,_,rfl,by unfold dP;rw[←hn]⟩)
end
section
variable (E:Env) (A:Option Addr) (n c:Nat)
theorem NC(l:List UInt8)(hr:Rd E aU A n c l)(hl:n≤140737488355300)(h:∀x t,l=x::t→¬(x.toNat≤48∧t.length=22*x.toNat)) :
  aK prog E 248 #[.slice A n c] [] λe H'=>e=.returned (.tuple #[.slice none 0 0,.int .i64 16])∧H'=[]:=by
 have hn:=hr.len;have hcap:=hr.cap;refine t_ func248 ntmps248 ?_;repeat first|refine aE ?_|intro
 refine dX (λ(E':Env) h1=>lD E' A n c l h1 (by omega)) ?_;rintro e H' ⟨g,A0,c0,rfl,h5,h6,rfl⟩;repeat first|refine aE ?_|intro
 refine dX (λ(E':Env)=>iG E' g false A0 n c0 l 1) ?_;cases l with
 |nil =>
  rw[show nx false ([]:List UInt8) (wid 1)=(none,true,[]) from rfl];rintro e H' ⟨A1,n1,c1,rfl,hal1,rfl⟩;refine gk bG ?_;simp only[tk];repeat first|refine aE ?_|intro
  refine bK (λ(E':Env)=>Eu E' g true true A1 n1 c1) ?_;repeat first|refine aE ?_|intro
  exact e2_
 |cons x t =>
  have hx:=aEr x;rw[show nx false (x::t) (wid 1)=(some [x],false,t) from Ai (k:=1) (by simp)];rintro e H' ⟨A1,n1,c1,rfl,hal1,rfl⟩;refine gk bG ?_;have hg:Oct.get [x]=x.toNat:=by simp[Oct.get]
  simp only[tk,hg];repeat first|refine aE ?_|intro
  refine bK (λ(E':Env)=>Eu E' g true false A1 n1 c1) ?_;by_cases h48:x.toNat≤48
  ·have ht:t.length≠22*x.toNat:=λht=>h x t rfl ⟨h48,ht⟩;simp only[aAs] at hn;repeat first|refine aE ?_|intro
   refine cl sD sK aC (λE' hE=>tV E' g false A1 n1 c1 t (hal1 _ dB)) ?_;rw[if_neg aAl];rintro e H' ⟨rfl,rfl⟩;repeat first|refine aE ?_|intro
   exact e2_
  ·repeat first|refine aE ?_|intro
   exact e2_
def Nk(r:Option (List aX))(e:Ending)(H':List aL):Prop :=
 match r with
 |some xs=>∃O co,e=.returned (.tuple #[.slice O xs.length co,.int .i64 0])∧H'=[own bE O xs.length co xs]
 |none=>e=.returned (.tuple #[.slice none 0 0,.int .i64 16])∧H'=[]
theorem N6(x:UInt8)(t:List UInt8)(hr:Rd E aU A n c (x::t))(h48:x.toNat≤48)(ht:t.length=22*x.toNat) :
  aK prog E 248 #[.slice A n c] [] (Nk (pieces x.toNat t)):=by
 have hn:=hr.len;have hcap:=hr.cap;simp only[aAs] at hn;have hg:Oct.get [x]=x.toNat:=by simp[Oct.get]
 refine t_ func248 ntmps248 ?_;repeat first|refine aE ?_|intro
 refine dX (λ(E':Env) h1=>lD E' A n c (x::t) h1 (by omega)) ?_;rintro e H' ⟨g,A0,c0,rfl,h5,h6,rfl⟩;repeat first|refine aE ?_|intro
 refine dX (λ(E':Env)=>iG E' g false A0 n c0 (x::t) 1) ?_;rw[show nx false (x::t) (wid 1)=(some [x],false,t) from Ai (k:=1) (by simp)];rintro e H' ⟨A1,n1,c1,rfl,hal1,rfl⟩;refine gk bG ?_;simp only[tk,hg];generalize x.toNat=k at *;repeat first|refine aE ?_|intro
 refine bK (λ(E':Env)=>Eu E' g true false A1 n1 c1) ?_;repeat first|refine aE ?_|intro
 refine cl sD sK aC (λE' hE=>tV E' g false A1 n1 c1 t (hal1 _ dB)) ?_;rw[if_neg aAl];rintro e H' ⟨rfl,rfl⟩;repeat first|refine aE ?_|intro
 unfold Bs;refine C.loop (X:=List aX×(Option Addr×Nat)×Option Addr×Nat×Nat) (λq=>[(4,.pointer (some ⟨g,0,none⟩)),(7,.slice q.2.1.1 q.1.length q.2.1.2),(33,.int .u64 k),(34,.int .u64 q.1.length)])
  (λq=>[pC g true false q.2.2.1 q.2.2.2.1 q.2.2.2.2,own aU A0 n c0 (x::t),own bE q.2.1.1 q.1.length q.2.1.2 q.1]) (λq=>q.1.length≤k∧pieces k t=(pieces (k - q.1.length) (t.drop (22*q.1.length))).map (q.1++·)∧nS A0 n c0 (x::t) q.2.2.1 q.2.2.2.1 q.2.2.2.2 (t.drop (22*q.1.length)))
  (λq=>k - q.1.length) ([],(none,0),A1,n1,c1) aD (by simp only[aDh];exact(aB.nil bE).trans aA) ⟨aAh _,by simp,hal1⟩ ?_
 rintro⟨xs,⟨O,co⟩,A2,n2,c2⟩ G ⟨hk,hp,hal⟩;dsimp only at hk hp hal⊢;by_cases hlt:xs.length<k
 ·have hl22:((t.drop (22*xs.length)).take 22).length=22:=by simp;omega
  have hnx:nx false (t.drop (22*xs.length)) 22=(some ((t.drop (22*xs.length)).take 22),false,(t.drop (22*xs.length)).drop 22):=Ai (k:=22) (by simp;omega);have hdd:(t.drop (22*xs.length)).drop 22=t.drop (22*(xs.length+1)):=by rw[aBt];congr 1
  have hlen:(t.drop (22*xs.length)).length≤140737488355328:=by simp;omega
  have hpk:k - xs.length=(k - (xs.length+1))+1:=by omega
  rw[hpk,pieces,hdd] at hp;repeat first|refine aE ?_|intro
  refine cl sD sK aC (λE' hE=>kR E' g false A2 n2 c2 (t.drop (22*xs.length)) 22 (hal _ dB) hlen) ?_;rw[hnx,hdd];rintro e H' ⟨A3,n3,c3,B,d,rfl,hal3,hmd,hd3,rfl⟩;dsimp only[Option.getD,Option.isSome] at hmd⊢;rw[hl22] at hmd⊢;refine gk bG ?_;cases hc:tT ((t.drop (22*xs.length)).take 22) with
  |none =>
   rw[hc] at hp;repeat first|refine aE ?_|intro
   refine cl sD sK aC (λE' hE=>xS E' B 22 d _ none hc dB sD) ?_;rintro e H' ⟨rfl,rfl⟩;refine gk bG ?_;dsimp only[Option.getD,Option.isSome];rw[if_neg aAl];repeat first|refine aE ?_|intro
   rw[hp];exact e2_
  |some y =>
   rw[hc] at hp;repeat first|refine aE ?_|intro
   refine cl sD sK aC (λE' hE=>xS E' B 22 d _ (some y) hc dB sD) ?_;rintro e H' ⟨rfl,rfl⟩;refine gk bG ?_;dsimp only[Option.getD,Option.isSome];rw[if_pos rfl];repeat first|refine aE ?_|intro
   rename_i O' co' _ _;refine⟨(xs++[y],(O',co'),A3,n3,c3),?_,?_,⟨by simp;omega,?_,?_⟩,by simp;omega⟩
   ·dsimp only;rw[show(xs++[y]).length=xs.length+1 by simp];exact aD
   ·dsimp only;rw[show(xs++[y]).length=xs.length+1 by simp];exact aA
   ·dsimp only;rw[show(xs++[y]).length=xs.length+1 by simp,hp];cases pieces (k - (xs.length+1)) (t.drop (22*(xs.length+1)))<;>simp
   ·dsimp only;rw[show(xs++[y]).length=xs.length+1 by simp];exact hal.trans hal3
 ·have hkk:xs.length=k:=by omega
  rw[hkk,aEi] at hp;have hp:pieces k t=some xs:=by rw[hp];simp[pieces]
  rw[hp];repeat first|refine aE ?_|intro
  exact Cz ⟨_,_,rfl,rfl⟩
end
abbrev mW:aX:=⟨⟨0,0⟩,0,0,0,0,0,⟨0,0⟩⟩
abbrev zR:bP:=⟨⟨0,0⟩,0,false⟩
section
variable (E:Env)
theorem qM(c:aX):aK prog E 171 #[.agg c.cs.toArray] [] λe H'=>e=.returned (.agg (⟨1,c,⟨0,0⟩,zR,0⟩:pD).cs.toArray)∧H'=[]:=by
 refine t_ func171 ntmps171 ?_;repeat first|refine aE ?_|intro
 exact e7_
theorem oS(a:bJ):aK prog E 117 #[.agg a.cs.toArray] [] λe H'=>e=.returned (.agg (⟨2,mW,a,zR,0⟩:pD).cs.toArray)∧H'=[]:=by
 refine t_ func117 ntmps117 ?_;repeat first|refine aE ?_|intro
 exact e7_
theorem Tk(k:bP)(now:Int):aK prog E 181 #[.agg k.cs.toArray,.int .i64 now] [] λe H'=>e=.returned (.agg (⟨3,mW,⟨0,0⟩,k,now⟩:pD).cs.toArray)∧H'=[]:=by
 refine t_ func181 ntmps181 ?_;repeat first|refine aE ?_|intro
 exact e7_
theorem NW(k:bP):aK prog E 190 #[.agg k.cs.toArray] [] λe H'=>e=.returned (.agg (⟨4,mW,⟨0,0⟩,k,0⟩:pD).cs.toArray)∧H'=[]:=by
 refine t_ func190 ntmps190 ?_;repeat first|refine aE ?_|intro
 exact e7_
theorem Wu(a:bJ)(ha:a.may=true):aK prog E 300 #[.agg (⟨2,mW,a,zR,0⟩:pD).cs.toArray] [] λe H'=>e=.returned (.tuple #[.agg (⟨2,mW,a,zR,0⟩:pD).cs.toArray,.bool true])∧H'=[]:=by
 refine t_ func300 ntmps300 ?_;repeat first|refine aE ?_|intro
 rename_i g gres;refine rB (l_ [0,1,3,4] (g_ 2 (g_ 5 (g_ 6 (n_ 7 .nil))))) ([aJ g 202 (⟨2,mW,a,zR,0⟩:pD).cs]) ?_;repeat first|refine aE ?_|intro
 refine eJ (λ(E':Env)=>oS E' a) ?_;repeat first|refine aE ?_|intro
 refine iO (λ(E':Env)=>yK E' a) ?_;rw[ha];rintro e H' ⟨rfl,rfl⟩;repeat first|refine aE ?_|intro
 exact e8_
theorem UG(a:bJ)(ha:a.may=true):aK prog E 255 #[.agg (⟨2,mW,a,zR,0⟩:pD).cs.toArray] [] λe H'=>e=.returned (.int .i64 0)∧H'=[]:=by
 have hin:decide ((1:Int)≤2∧(2:Int)≤4)=true:=by decide
 have hd:(!decide ((⟨2,⟨⟨0,0⟩,0,0,0,0,0,⟨0,0⟩⟩,⟨a.rep,a.seq⟩,⟨⟨0,0⟩,0,false⟩,0⟩:pD)=⟨2,⟨⟨0,0⟩,0,0,0,0,0,⟨0,0⟩⟩,⟨a.rep,a.seq⟩,⟨⟨0,0⟩,0,false⟩,0⟩))=false:=by simp
 refine t_ func255 ntmps255 ?_;repeat first|refine aE ?_|intro
 refine bW (λ(E':Env)=>dV E' 2 1 4) ?_;rw[hin];rintro e H' ⟨rfl,rfl⟩;repeat first|refine aE ?_|intro
 refine bK (λ(E':Env)=>Wu E' a ha) ?_;repeat first|refine aE ?_|intro
 exact e1_
theorem yE(A:Option Addr)(nl cap n':Nat)(l:List UInt8)(a:bJ)(ha:a.may=true)(hr:Rd E aU A nl cap l)(hl:nl≤100)(hn:nl+3=n'):aK prog E 284 #[.slice A nl cap,.agg a.cs.toArray] [] (PW n' (l++be a.rep.toNat 1++be a.seq.toNat 2)):=by
 obtain⟨i0,i1,i2,i3⟩:=(bJ.bY a).1 ha;have w0:=eZ i0 o_;have w1:=eZ (n:=a.seq) o_ o_;have g0:a.rep.toNat<18446744073709551616:=by omega
 have g1:a.seq.toNat<18446744073709551616:=by omega
 have o1:1≤1∧1≤8:=by omega
 have o2:1≤2∧2≤8:=by omega
 have b0:nl≤140737488355300:=by omega
 have b1:nl+1≤140737488355300:=by omega
 have e3:nl+1+2=n':=by omega
 refine t_ func284 ntmps284 ?_;repeat first|refine aE ?_|intro
 refine rA (l_ [0,1,2,3,5,6,7] (g_ 4 (g_ 8 (n_ 9 .nil)))) ?_;repeat first|refine aE ?_|intro
 refine C2 (λ(E':Env) h1=>kY E' A nl cap (nl+1) 1 l a.rep.toNat 1 rfl rfl o1 h1 g0 b0) ?_;rintro e H' ⟨A1,c1,rfl,hc1,rfl⟩;repeat first|refine aE ?_|intro
 refine cg rfl sD bA sK aC (λE' hE=>kY E' A1 (nl+1) c1 n' 2 _ a.seq.toNat 2 rfl e3 o2 dB g1 b1) ?_;rintro e H' ⟨A2,c2,rfl,hc2,rfl⟩;repeat first|refine aE ?_|intro
 exact jQ ⟨_,_,rfl,hc2,rfl⟩
theorem Yb(a:bJ)(ha:a.may=true):aK prog E 228 #[.agg (⟨2,mW,a,zR,0⟩:pD).cs.toArray] [] λe H'=>∃A' c',e=.returned (.tuple #[.slice A' 4 c',.int .i64 0])∧H'=[own aU A' 4 c' ([2]++be a.rep.toNat 1++be a.seq.toNat 2)]:=by
 have h2:UInt8.ofNat (((⟨2,mW,a,zR,0⟩:pD).kind % 256).toNat)=2:=rfl;refine t_ func228 ntmps228 ?_;repeat first|refine aE ?_|intro
 refine bK (λ(E':Env)=>UG E' a ha) ?_;repeat first|refine aE ?_|intro
 rename_i g;rw[h2];refine dX (λ(E':Env) h1=>yE E' (some ⟨g,0,none⟩) 1 1 4 [2] a ha h1 (by decide) rfl) ?_;rintro e H' ⟨A1,c1,rfl,hc1,rfl⟩;repeat first|refine aE ?_|intro
 exact Cz ⟨_,_,rfl,rfl⟩
end
theorem eL(E:Env)(gr g:Nat)(s s':Bool×List UInt8)(w:Nat)(v:Int)(hs:jV s w=s')(hv:rV (vl s w)=v)(A:Option Addr)(n c:Nat)(W:Int)(hW:W=w)(hw:1≤w∧w≤8)(hr:Rd E aU A n c s.2) :
  aK prog E 282 #[.int .i64 W,.pointer (some ⟨gr,0,none⟩)] [aJ gr 276 [.pointer (some ⟨g,0,none⟩)],pC g true s.1 A n c] (Sd gr g A n c s.2 s' (.int .i64 v)):=by
 subst hs hv;have hwid:wid W=(w:Int):=by unfold wid;rw[if_neg o_];exact hW
 have hlt:=jR s w;have hlt2:vl s w<18446744073709551616:=aDe hlt (aBw (aDx o_ hw.2) sD);have hc:=qZ hlt2;refine t_ func282 ntmps282 ?_;repeat first|refine aE ?_|intro
 refine dX (λ(E':Env)=>iG E' g s.1 A n c s.2 W) ?_;obtain⟨o,ho⟩:∃o,nx s.1 s.2 (w:Int)=(o,jV s w):=⟨_,rfl⟩
 have htk:=Gl s w;rw[ho] at htk;rw[hwid,ho];rintro e H' ⟨A',n',c',rfl,hal,rfl⟩;dsimp only at htk hal⊢;rw[htk];repeat first|refine aE ?_|intro
 exact jQ ⟨_,_,_,rfl,hal,rfl⟩
def bP.may(k:bP):Bool:=k.id.may&&decide (1≤k.ord∧k.ord≤255)
theorem bP.bY(k:bP):k.may=true↔(0≤k.id.rep∧k.id.rep≤3∧1≤k.id.seq∧k.id.seq≤65535)∧1≤k.ord∧k.ord≤255:=by simp[bP.may,bJ.may]
abbrev R1(c:aX):pD:=⟨1,c,⟨0,0⟩,zR,0⟩
abbrev R2(a:bJ):pD:=⟨2,mW,a,zR,0⟩
abbrev R3(k:bP)(now:Int):pD:=⟨3,mW,⟨0,0⟩,k,now⟩
abbrev R4(k:bP):pD:=⟨4,mW,⟨0,0⟩,k,0⟩
def mZ(now:Int):Bool:=decide (0≤now∧now≤1073741824)
section
variable (E:Env)
theorem pI(k:bP):aK prog E 339 #[.agg k.cs.toArray] [] λe H'=>e=.returned (.bool k.may)∧H'=[]:=by
 refine t_ func339 ntmps339 ?_;unfold bP.may;repeat first|refine aE ?_|intro
 refine bK (λ(E':Env)=>yK E' k.id) ?_;cases h1:k.id.may
 ·repeat first|refine aE ?_|intro
  exact e1_
 ·repeat first|refine aE ?_|intro
  refine bK (λ(E':Env)=>dV E' k.ord 1 255) ?_;repeat first|refine aE ?_|intro
  exact e1_
abbrev rG(x:pD)(f:Bool)(e:Ending)(H':List aL):Prop:=e=.returned (.tuple #[.agg x.cs.toArray,.bool f])∧H'=[]
theorem IH(c:aX):aK prog E 300 #[.agg (R1 c).cs.toArray] [] (rG (R1 c) c.may):=by
 refine t_ func300 ntmps300 ?_;repeat first|refine aE ?_|intro
 rename_i g gres;refine rB (l_ [0,1,3,4] (g_ 2 (g_ 5 (n_ 6 (g_ 7 (n_ 8 .nil)))))) ([aJ g 202 (R1 c).cs]) ?_;repeat first|refine aE ?_|intro
 refine eJ (λ(E':Env)=>qM E' c) ?_;repeat first|refine aE ?_|intro
 refine eJ (λ(E':Env)=>kF E' c) ?_;cases hm:c.may
 ·rw[if_neg aAl];repeat first|refine aE ?_|intro
  exact e8_
 ·rw[if_pos rfl];repeat first|refine aE ?_|intro
  exact e8_
theorem Nl(a:bJ):aK prog E 300 #[.agg (R2 a).cs.toArray] [] (rG (R2 a) a.may):=by
 refine t_ func300 ntmps300 ?_;repeat first|refine aE ?_|intro
 rename_i g gres;refine rB (l_ [0,1,3,4] (g_ 2 (g_ 5 (g_ 6 (n_ 7 .nil))))) ([aJ g 202 (R2 a).cs]) ?_;repeat first|refine aE ?_|intro
 refine eJ (λ(E':Env)=>oS E' a) ?_;repeat first|refine aE ?_|intro
 refine eJ (λ(E':Env)=>yK E' a) ?_;repeat first|refine aE ?_|intro
 exact e8_
theorem Hn(k:bP)(now:Int):aK prog E 300 #[.agg (R3 k now).cs.toArray] [] (rG (R3 k now) (k.may&&mZ now)):=by
 refine t_ func300 ntmps300 ?_;repeat first|refine aE ?_|intro
 rename_i g gres;refine rB (l_ [0,1,2,3,5,6] (g_ 4 (g_ 7 (l_ [8,9,10] (g_ 11 (n_ 12 (g_ 13 (n_ 14 .nil)))))))) ([aJ g 202 (R3 k now).cs]) ?_;repeat first|refine aE ?_|intro
 refine eJ (λ(E':Env)=>Tk E' k now) ?_;repeat first|refine aE ?_|intro
 refine eJ (λ(E':Env)=>pI E' k) ?_;cases hm:k.may
 ·repeat first|refine aE ?_|intro
  exact e8_
 ·repeat first|refine aE ?_|intro
  refine eJ (λ(E':Env)=>dV E' now 0 1073741824) ?_;repeat first|refine aE ?_|intro
  exact e8_
theorem Jd(k:bP):aK prog E 300 #[.agg (R4 k).cs.toArray] [] (rG (R4 k) k.may):=by
 refine t_ func300 ntmps300 ?_;repeat first|refine aE ?_|intro
 rename_i g gres;refine rB (l_ [0,1,3,4] (g_ 2 (g_ 5 (g_ 6 (n_ 7 .nil))))) ([aJ g 202 (R4 k).cs]) ?_;repeat first|refine aE ?_|intro
 refine eJ (λ(E':Env)=>NW E' k) ?_;repeat first|refine aE ?_|intro
 refine eJ (λ(E':Env)=>pI E' k) ?_;repeat first|refine aE ?_|intro
 exact e8_
end
theorem HF(x:pD)(f:Bool)(h14:1≤x.kind∧x.kind≤4)(hb:∀E,aK prog E 300 #[.agg x.cs.toArray] [] (rG x f))(E:Env):aK prog E 255 #[.agg x.cs.toArray] [] λe H'=>e=.returned (.int .i64 (if f then 0 else 4))∧H'=[]:=by
 have hd:(!decide ((⟨x.kind,⟨⟨x.c.id.rep,x.c.id.seq⟩,x.c.time,x.c.kind,x.c.a,x.c.b,x.c.n,⟨x.c.ref.rep,x.c.ref.seq⟩⟩,⟨x.id.rep,x.id.seq⟩,⟨⟨x.key.id.rep,x.key.id.seq⟩,x.key.ord,x.key.cD⟩,x.now⟩:pD)=⟨x.kind,⟨⟨x.c.id.rep,x.c.id.seq⟩,x.c.time,x.c.kind,x.c.a,x.c.b,x.c.n,⟨x.c.ref.rep,x.c.ref.seq⟩⟩,⟨x.id.rep,x.id.seq⟩,⟨⟨x.key.id.rep,x.key.id.seq⟩,x.key.ord,x.key.cD⟩,x.now⟩))=false:=by simp
 refine t_ func255 ntmps255 ?_;repeat first|refine aE ?_|intro
 refine bW (λ(E':Env)=>dV E' x.kind 1 4) ?_;rw[decide_eq_true h14];rintro e H' ⟨rfl,rfl⟩;repeat first|refine aE ?_|intro
 refine bK hb ?_;cases f
 ·rw[if_neg aAl];repeat first|refine aE ?_|intro
  exact e1_
 ·rw[if_pos rfl];repeat first|refine aE ?_|intro
  exact e1_
theorem Mu(x:pD)(h14:¬(1≤x.kind∧x.kind≤4))(E:Env):aK prog E 255 #[.agg x.cs.toArray] [] λe H'=>e=.returned (.int .i64 12)∧H'=[]:=by
 refine t_ func255 ntmps255 ?_;repeat first|refine aE ?_|intro
 refine bW (λ(E':Env)=>dV E' x.kind 1 4) ?_;rw[decide_eq_false h14];rintro e H' ⟨rfl,rfl⟩;repeat first|refine aE ?_|intro
 exact e1_
theorem KR(x:pD)(k:Int)(hk:k≠0)(hc:∀E,aK prog E 255 #[.agg x.cs.toArray] [] λe H'=>e=.returned (.int .i64 k)∧H'=[])(E:Env):aK prog E 228 #[.agg x.cs.toArray] [] λe H'=>e=.returned (.tuple #[.slice none 0 0,.int .i64 k])∧H'=[]:=by
 refine t_ func228 ntmps228 ?_;repeat first|refine aE ?_|intro
 refine bK hc ?_;repeat first|refine aE ?_|intro
 exact e2_
def gQ(b:Bool):Int:=if b then 1 else 0
def kU(a:bJ):List UInt8:=be a.rep.toNat 1++be a.seq.toNat 2
def eR(k:bP):List UInt8:=kU k.id++[UInt8.ofNat k.ord.toNat,UInt8.ofNat (gQ k.cD).toNat]
theorem iZ(a:bJ):(kU a).length=3:=by simp[kU,aP]
theorem fO(k:bP):(eR k).length=5:=by simp[eR,iZ]
section
variable (E:Env)
theorem PG(c:aX)(hm:c.may=true):aK prog E 228 #[.agg (R1 c).cs.toArray] [] λe H'=>∃A' c',e=.returned (.tuple #[.slice A' 23 c',.int .i64 0])∧H'=[own aU A' 23 c' ([1]++c.put)]:=by
 have hc:=HF (R1 c) true ⟨show(1:Int)≤1 by decide,show(1:Int)≤4 by decide⟩ (λE=>by have:=IH E c;rwa [hm] at this);simp only[if_true] at hc;have h2:UInt8.ofNat (((R1 c).kind % 256).toNat)=1:=rfl;refine t_ func228 ntmps228 ?_;repeat first|refine aE ?_|intro
 refine bK hc ?_;repeat first|refine aE ?_|intro
 rw[h2];refine bW (λ(E':Env)=>Kq E' c hm) ?_;rintro e H' ⟨A1,c1,rfl,rfl⟩;repeat first|refine aE ?_|intro
 rw[show 1+22=23 from rfl];exact Cz ⟨_,_,rfl,rfl⟩
theorem NS(a:bJ)(ha:a.may=true):aK prog E 228 #[.agg (R2 a).cs.toArray] [] λe H'=>∃A' c',e=.returned (.tuple #[.slice A' 4 c',.int .i64 0])∧H'=[own aU A' 4 c' ([2]++kU a)]:=by
 have h:=Yb E a ha;rw[show[2]++be a.rep.toNat 1++be a.seq.toNat 2=[2]++kU a by simp[kU]] at h;exact h
theorem Ph(k:bP)(hm:k.may=true):aK prog E 228 #[.agg (R4 k).cs.toArray] [] λe H'=>∃A' c',e=.returned (.tuple #[.slice A' 6 c',.int .i64 0])∧H'=[own aU A' 6 c' ([4]++eR k)]:=by
 have hc:=HF (R4 k) true ⟨show(1:Int)≤4 by decide,show(4:Int)≤4 by decide⟩ (λE=>by have:=Jd E k;rwa [hm] at this);simp only[if_true] at hc;obtain⟨⟨i0,i1,i2,i3⟩,q0,q1⟩:=(bP.bY k).1 hm;have hid:k.id.may=true:=(bJ.bY _).2 ⟨i0,i1,i2,i3⟩;have h2:UInt8.ofNat (((R4 k).kind % 256).toNat)=4:=rfl;have hfin:[4]++be k.id.rep.toNat 1++be k.id.seq.toNat 2++[UInt8.ofNat k.ord.toNat,UInt8.ofNat (gQ k.cD).toNat]=[4]++eR k:=by simp[eR,kU]
 have hw8:IntKind.u8.wrap (R4 k).key.ord=k.ord:=by
  show IntKind.u8.wrap k.ord=k.ord;exact IntWalk.u8_in _ o_
 have hu0:0≤gQ k.cD:=by unfold gQ;split<;>omega
 have hu1:gQ k.cD<256:=by unfold gQ;split<;>omega
 refine t_ func228 ntmps228 ?_;repeat first|refine aE ?_|refine Dr.two ?_ ?_|intro
 refine bK hc ?_;repeat ((fail_if_success (refine C.seq (x:=Code.region 11 _ _) ?_));first|refine Cx ?_|refine He ?_|intro _|refine Dr.two ?_ ?_)
 rename_i gb g;rw[h2];refine C.cut (X:=Unit) (λ_=>[(1,.pointer (some ⟨gb,0,none⟩)),(5,.slice (some ⟨g,0,none⟩) 1 1),(8,.int .u8 0)]) (λ_=>[aJ gb 202 (R4 k).cs,own aU (some ⟨g,0,none⟩) 1 1 [4]]) (λ_=>True) ?_ ?_
 ·repeat first|refine aE ?_|refine Dr.two ?_ ?_|intro
  exact⟨(),aD,aA,trivial⟩
 rintro - G -;refine C.cut (X:=Unit) (λ_=>[(1,.pointer (some ⟨gb,0,none⟩)),(5,.slice (some ⟨g,0,none⟩) 1 1),(8,.int .u8 (gQ k.cD))]) (λ_=>[aJ gb 202 (R4 k).cs,own aU (some ⟨g,0,none⟩) 1 1 [4]]) (λ_=>True) ?_ ?_
 ·cases hu:k.cD
  ·repeat first|refine aE ?_|refine Dr.two ?_ ?_|intro
   exact⟨(),aD,aA,trivial⟩
  ·repeat first|refine aE ?_|refine Dr.two ?_ ?_|intro
   exact⟨(),aD,aA,trivial⟩
 rintro - G -;generalize gQ k.cD=u at *;repeat first|refine aE ?_|refine Dr.two ?_ ?_|intro
 refine C.BI (X:=Option Addr×Nat) (λq=>[(1,.pointer (some ⟨gb,0,none⟩)),(5,.slice q.1 6 q.2)]) (λq=>[aJ gb 202 (R4 k).cs,own aU q.1 6 q.2 ([4]++eR k)]) (λ_=>True) ?_ ?_
 ·refine rB (l_ [0,1,2,3,5,6,7,8,9] (.two 4 (g_ 10 (g_ 11 (n_ 12 .nil))) 10 (g_ 4 (g_ 11 (n_ 12 .nil))))) ([aJ gb 202 (R4 k).cs]) ?_;repeat first|refine aE ?_|refine Dr.two ?_ ?_|intro
  ·refine yB rfl sD bA sK aC (λE' hE=>yE E' (some ⟨g,0,none⟩) 1 1 4 [4] k.id hid dB sD rfl) ?_;rintro e H' ⟨A1,c1,rfl,hc1,rfl⟩;repeat first|refine aE ?_|refine Dr.two ?_ ?_|intro
   rw[hfin,show 4+2=6 from rfl];exact⟨(_,_),aD,aA,trivial⟩
  ·repeat first|refine aE ?_|refine Dr.two ?_ ?_|intro
   refine C2 (λ(E':Env) h1=>yE E' (some ⟨g,0,none⟩) 1 1 4 [4] k.id hid h1 (by decide) rfl) ?_;rintro e H' ⟨A1,c1,rfl,hc1,rfl⟩;repeat first|refine aE ?_|refine Dr.two ?_ ?_|intro
   rw[hfin,show 4+2=6 from rfl];exact⟨(_,_),aD,aA,trivial⟩
 rintro⟨A2,c2⟩ G -;dsimp only;repeat first|refine aE ?_|refine Dr.two ?_ ?_|intro
 exact Cz ⟨_,_,rfl,rfl⟩
theorem Ns(k:bP)(now:Int)(hm:k.may=true)(hn:mZ now=true):aK prog E 228 #[.agg (R3 k now).cs.toArray] [] λe H'=>∃A' c',e=.returned (.tuple #[.slice A' 10 c',.int .i64 0])∧H'=[own aU A' 10 c' ([3]++eR k++be now.toNat 4)]:=by
 have hc:=HF (R3 k now) true ⟨show(1:Int)≤3 by decide,show(3:Int)≤4 by decide⟩ (λE=>by have:=Hn E k now;rwa [hm,hn] at this);simp only[if_true] at hc;have hnn:0≤now∧now≤1073741824:=of_decide_eq_true hn;have wn:IntKind.u64.wrap (R3 k now).now=(now.toNat:Nat):=by
  show IntKind.u64.wrap now=(now.toNat:Nat);exact eZ hnn.1 o_
 have gn:now.toNat<18446744073709551616:=by omega
 have o4:1≤4∧4≤8:=by omega
 obtain⟨⟨i0,i1,i2,i3⟩,q0,q1⟩:=(bP.bY k).1 hm;have hid:k.id.may=true:=(bJ.bY _).2 ⟨i0,i1,i2,i3⟩;have h2:UInt8.ofNat (((R3 k now).kind % 256).toNat)=3:=rfl;have hfin:[3]++be k.id.rep.toNat 1++be k.id.seq.toNat 2++[UInt8.ofNat k.ord.toNat,UInt8.ofNat (gQ k.cD).toNat]=[3]++eR k:=by simp[eR,kU]
 have hw8:IntKind.u8.wrap (R3 k now).key.ord=k.ord:=by
  show IntKind.u8.wrap k.ord=k.ord;exact IntWalk.u8_in _ o_
 have hu0:0≤gQ k.cD:=by unfold gQ;split<;>omega
 have hu1:gQ k.cD<256:=by unfold gQ;split<;>omega
 refine t_ func228 ntmps228 ?_;repeat first|refine aE ?_|refine Dr.two ?_ ?_|intro
 refine bK hc ?_;repeat ((fail_if_success (refine C.seq (x:=Code.region 11 _ _) ?_));first|refine Cx ?_|refine He ?_|intro _|refine Dr.two ?_ ?_)
 rename_i gb g;rw[h2];refine C.cut (X:=Unit) (λ_=>[(1,.pointer (some ⟨gb,0,none⟩)),(5,.slice (some ⟨g,0,none⟩) 1 1),(8,.int .u8 0)]) (λ_=>[aJ gb 202 (R3 k now).cs,own aU (some ⟨g,0,none⟩) 1 1 [3]]) (λ_=>True) ?_ ?_
 ·repeat first|refine aE ?_|refine Dr.two ?_ ?_|intro
  exact⟨(),aD,aA,trivial⟩
 rintro - G -;refine C.cut (X:=Unit) (λ_=>[(1,.pointer (some ⟨gb,0,none⟩)),(5,.slice (some ⟨g,0,none⟩) 1 1),(8,.int .u8 (gQ k.cD))]) (λ_=>[aJ gb 202 (R3 k now).cs,own aU (some ⟨g,0,none⟩) 1 1 [3]]) (λ_=>True) ?_ ?_
 ·cases hu:k.cD
  ·repeat first|refine aE ?_|refine Dr.two ?_ ?_|intro
   exact⟨(),aD,aA,trivial⟩
  ·repeat first|refine aE ?_|refine Dr.two ?_ ?_|intro
   exact⟨(),aD,aA,trivial⟩
 rintro - G -;generalize gQ k.cD=u at *;repeat first|refine aE ?_|refine Dr.two ?_ ?_|intro
 refine C.BI (X:=Option Addr×Nat) (λq=>[(1,.pointer (some ⟨gb,0,none⟩)),(5,.slice q.1 6 q.2)]) (λq=>[aJ gb 202 (R3 k now).cs,own aU q.1 6 q.2 ([3]++eR k)]) (λ_=>True) ?_ ?_
 ·refine rB (l_ [0,1,2,3,5,6,7,8,9] (.two 4 (g_ 10 (g_ 11 (n_ 12 .nil))) 10 (g_ 4 (g_ 11 (n_ 12 .nil))))) ([aJ gb 202 (R3 k now).cs]) ?_;repeat first|refine aE ?_|refine Dr.two ?_ ?_|intro
  ·refine yB rfl sD bA sK aC (λE' hE=>yE E' (some ⟨g,0,none⟩) 1 1 4 [3] k.id hid dB sD rfl) ?_;rintro e H' ⟨A1,c1,rfl,hc1,rfl⟩;repeat first|refine aE ?_|refine Dr.two ?_ ?_|intro
   rw[hfin,show 4+2=6 from rfl];exact⟨(_,_),aD,aA,trivial⟩
  ·repeat first|refine aE ?_|refine Dr.two ?_ ?_|intro
   refine C2 (λ(E':Env) h1=>yE E' (some ⟨g,0,none⟩) 1 1 4 [3] k.id hid h1 (by decide) rfl) ?_;rintro e H' ⟨A1,c1,rfl,hc1,rfl⟩;repeat first|refine aE ?_|refine Dr.two ?_ ?_|intro
   rw[hfin,show 4+2=6 from rfl];exact⟨(_,_),aD,aA,trivial⟩
 rintro⟨A2,c2⟩ G -;dsimp only;repeat first|refine aE ?_|refine Dr.two ?_ ?_|intro
 refine cl sD sK aC (λE' hE=>kY E' A2 6 c2 10 4 _ now.toNat 4 rfl rfl o4 dB gn sD) ?_;rintro e H' ⟨A3,c3,rfl,hc3,rfl⟩;repeat first|refine aE ?_|refine Dr.two ?_ ?_|intro
 exact Cz ⟨_,_,rfl,rfl⟩
end
end Go.Proofs.YtmilalkjbojciaaGreat.Sep
namespace Go.Proofs.YtmilalkjbojciaaGreat.Sep
open Oct
abbrev cU:List Nat:=[1,1,2,1,1,4]
abbrev wP(b:List UInt8):bJ:=⟨va cU b 1,va cU b 2⟩
abbrev uG(b:List UInt8):bP:=⟨wP b,va cU b 3,decide ((va cU b 4:Int)=1)⟩
def GZ(b:List UInt8):List UInt8:=b.drop 1
def FW(b:List UInt8):pD :=
 if va cU b 0=1 then R1 ((tT (GZ b)).getD dO)
 else if va cU b 0=2 then R2 (wP b)
 else if va cU b 0=3 then R3 (uG b) (va cU b 5)
 else if va cU b 0=4 then R4 (uG b)
 else⟨va cU b 0,mW,⟨0,0⟩,zR,0⟩
def Li(x:pD):Bool :=
 if x.kind=1 then x.c.may else if x.kind=2 then x.id.may else if x.kind=3 then x.key.may&&mZ x.now else if x.kind=4 then x.key.may else false
def tO(x:pD):List UInt8 :=
 if x.kind=1 then[1]++x.c.put else if x.kind=2 then[2]++kU x.id else if x.kind=3 then[3]++eR x.key++be x.now.toNat 4 else[4]++eR x.key
def vF(b:List UInt8):Option pD:=if Li (FW b)=true∧tO (FW b)=b then some (FW b) else none
abbrev oE(b:List UInt8):bJ:=⟨bX b 1 1,bX b 2 2⟩
abbrev keyOf(b:List UInt8):bP:=⟨oE b,bX b 4 1,decide ((bX b 5 1:Int)=1)⟩
theorem uH{b:List UInt8}{n:Nat}(h:b.length=n):(4≤n→wP b=oE b)∧(6≤n→uG b=keyOf b)∧(10≤n→va cU b 5=bX b 6 4)∧(1≤n→va cU b 0=bX b 0 1):=by
 have h1:4≤n→wP b=oE b:=λh4=>by
  unfold wP oE;rw[dN (k:=1) (w:=1) rfl rfl sD o_,dN (k:=2) (w:=2) rfl rfl sD o_]
 refine⟨h1,λh6=>?_,λh10=>dN rfl rfl sD o_,λh0=>dN rfl rfl sD o_⟩;unfold uG keyOf;rw[h1 o_,dN (k:=4) (w:=1) rfl rfl sD o_,dN (k:=5) (w:=1) rfl rfl sD o_]
theorem RH{b:List UInt8}(h:b.length=0):va cU b 0=0:=Fj (by rw[h];decide)
theorem QJ{b:List UInt8}(h:4≤b.length):kU (oE b)=(b.drop 1).take 3:=by
 unfold kU oE;simp only[aAu];rw[dY o_,dY o_];rw[show(3:Nat)=1+2 from rfl,aDd,aBt]
theorem head_eq{b:List UInt8}{x:UInt8}(h:1≤b.length)(hx:bX b 0 1=x.toNat):b=x::b.drop 1:=by
 cases b with
 |nil=>simp at h
 |cons y t =>
  have:bX (y::t) 0 1=y.toNat:=uY (l:=y::t) (i:=0) (by simp);rw[this] at hx;rw[aEg.1 hx];rfl
theorem TV(k:Nat)(h:k<256):UInt8.ofNat (gQ (decide ((k:Int)=1))).toNat=UInt8.ofNat k↔k≤1:=by
 constructor
 ·intro hh;by_cases h1:k=1
  ·omega
  ·rw[decide_eq_false o_] at hh;have h2:=congrArg UInt8.toNat hh;simp[gQ] at h2;omega
 ·intro hh;rcases(show k=0∨k=1 by omega) with rfl|rfl<;>rfl
theorem Kb{b:List UInt8}(h:6≤b.length):eR (keyOf b)=(b.drop 1).take 5↔bX b 5 1≤1:=by
 have h4:=eM b 4 1;have h5:=eM b 5 1;have e:(b.drop 1).take 5=(b.drop 1).take 3++([UInt8.ofNat (bX b 4 1)]++[UInt8.ofNat (bX b 5 1)]):=by
  rw[←nC,←nC,dY o_,dY o_];rw[show(5:Nat)=3+(1+1) from rfl,aDd,aDd,aBt,aBt]
 unfold eR;rw[e,show(keyOf b).id=oE b from rfl,QJ o_];rw[show((keyOf b).ord).toNat=bX b 4 1 from aAu _,show(keyOf b).cD=decide ((bX b 5 1:Int)=1) from rfl];constructor
 ·intro hh;have h6:=List.append_cancel_left hh;injection h6 with _ h6
  injection h6 with h6 _
  exact(TV _ o_).1 h6
 ·intro hh;rw[(TV _ o_).2 hh];rfl
end Go.Proofs.YtmilalkjbojciaaGreat.Sep
namespace Go.Proofs.YtmilalkjbojciaaGreat.Sep
open Go.RowKit Reg Oct
open Mem hiding Rd
theorem OX{b:List UInt8}(h:va cU b 0=1):FW b=R1 ((tT (GZ b)).getD dO):=if_pos h
theorem OH{b:List UInt8}(h:va cU b 0=2):FW b=R2 (wP b):=by
 unfold FW;rw[if_neg o_,if_pos h]
theorem Nr{b:List UInt8}(h:va cU b 0=3):FW b=R3 (uG b) (va cU b 5):=by
 unfold FW;rw[if_neg o_,if_neg o_,if_pos h]
theorem OD{b:List UInt8}(h:va cU b 0=4):FW b=R4 (uG b):=by
 unfold FW;rw[if_neg o_,if_neg o_,if_neg o_,if_pos h]
theorem Tl{b:List UInt8}(h:¬(1≤va cU b 0∧va cU b 0≤4)):FW b=⟨va cU b 0,mW,⟨0,0⟩,zR,0⟩:=by
 unfold FW;rw[if_neg o_,if_neg o_,if_neg o_,if_neg o_]
def Zs(x:pD):Prop :=
 (Li x=true→∀E,aK prog E 228 #[.agg x.cs.toArray] [] λe H'=>∃A' c',e=.returned (.tuple #[.slice A' (tO x).length c',.int .i64 0])∧H'=[own aU A' (tO x).length c' (tO x)]) ∧
 (Li x=false→∃k:Int,k≠0∧∀E,aK prog E 228 #[.agg x.cs.toArray] [] λe H'=>e=.returned (.tuple #[.slice none 0 0,.int .i64 k])∧H'=[])
theorem Y0(x:pD)(h14:1≤x.kind∧x.kind≤4)(hb:∀E,aK prog E 300 #[.agg x.cs.toArray] [] (rG x false)):∃k:Int,k≠0∧∀E,aK prog E 228 #[.agg x.cs.toArray] [] λe H'=>e=.returned (.tuple #[.slice none 0 0,.int .i64 k])∧H'=[] :=
 ⟨4,by decide,KR x 4 sD (λE=>by have:=HF x false h14 hb E;rwa [if_neg aAl] at this)⟩
theorem P7(b:List UInt8):Zs (FW b):=by
 by_cases h1:va cU b 0=1
 ·rw[OX h1];generalize (tT (GZ b)).getD dO=y;refine⟨λhf E=>?_,λhf=>Y0 _ ⟨show(1:Int)≤1 by decide,show(1:Int)≤4 by decide⟩ λE=>?_⟩
  ·have hm:y.may=true:=hf;have h:=PG E y hm;have e:tO (R1 y)=[1]++y.put:=rfl;rw[e,show([1]++y.put:List UInt8).length=23 by simp[aX.bD]];exact h
  ·have hm:y.may=false:=hf;have h:=IH E y;rw[hm] at h;exact h
 by_cases h2:va cU b 0=2
 ·rw[OH h2];generalize wP b=y;refine⟨λhf E=>?_,λhf=>Y0 _ ⟨show(1:Int)≤2 by decide,show(2:Int)≤4 by decide⟩ λE=>?_⟩
  ·have hm:y.may=true:=hf;have h:=NS E y hm;have e:tO (R2 y)=[2]++kU y:=rfl;rw[e,show([2]++kU y:List UInt8).length=4 by simp[iZ]];exact h
  ·have hm:y.may=false:=hf;have h:=Nl E y;rw[hm] at h;exact h
 by_cases h3:va cU b 0=3
 ·rw[Nr h3];generalize uG b=y;generalize va cU b 5=w;refine⟨λhf E=>?_,λhf=>Y0 _ ⟨show(1:Int)≤3 by decide,show(3:Int)≤4 by decide⟩ λE=>?_⟩
  ·have hm:(y.may&&mZ w)=true:=hf;rw[aAv] at hm;have h:=Ns E y w hm.1 hm.2;have e:tO (R3 y w)=[3]++eR y++be (w:Int).toNat 4:=rfl;rw[e,show([3]++eR y++be (w:Int).toNat 4:List UInt8).length=10 by simp[fO,aP]];exact h
  ·have hm:(y.may&&mZ w)=false:=hf;have h:=Hn E y w;rw[hm] at h;exact h
 by_cases h4:va cU b 0=4
 ·rw[OD h4];generalize uG b=y;refine⟨λhf E=>?_,λhf=>Y0 _ ⟨show(1:Int)≤4 by decide,show(4:Int)≤4 by decide⟩ λE=>?_⟩
  ·have hm:y.may=true:=hf;have h:=Ph E y hm;have e:tO (R4 y)=[4]++eR y:=rfl;rw[e,show([4]++eR y:List UInt8).length=6 by simp[fO]];exact h
  ·have hm:y.may=false:=hf;have h:=Jd E y;rw[hm] at h;exact h
 have hno:¬(1≤va cU b 0∧va cU b 0≤4):=by omega
 rw[Tl hno];generalize va cU b 0=w at *;refine⟨λhf=>?_,λ_=>⟨12,by decide,KR _ 12 sD (Mu _ ?_)⟩⟩
 ·exfalso;unfold Li at hf;dsimp only at hf;rw[if_neg o_,if_neg o_,if_neg o_,if_neg o_] at hf;cases hf
 ·show ¬((1:Int)≤w∧(w:Int)≤4);omega
theorem AD(E:Env)(A:Option Addr)(n c:Nat)(b:List UInt8)(hr:Rd E aU A n c b)(hl:n≤140737488355300) :
  aK prog E 227 #[.slice A n c] [] λe H'=>e=.returned (.tuple #[.agg ((vF b).getD QL).cs.toArray,.int .i64 (if (vF b).isSome then 0 else 16)])∧H'=[]:=by
 have hn:=hr.len;have hcap:=hr.cap;have o1:1≤1∧1≤8:=by omega
 have o2:1≤2∧2≤8:=by omega
 have o4:1≤4∧4≤8:=by omega
 have q0:rV (vl (false,b) 1)=(va cU b 0:Nat):=cN (aCl (jR _ 1) sD);have q1:rV (vl (st cU b 1) 1)=(va cU b 1:Nat):=cN (aCl (jR _ 1) sD);have q2:rV (vl (st cU b 2) 2)=(va cU b 2:Nat):=cN (aCl (jR _ 2) sD);have q3:rV (vl (st cU b 3) 1)=(va cU b 3:Nat):=cN (aCl (jR _ 1) sD);have q4:rV (vl (st cU b 4) 1)=(va cU b 4:Nat):=cN (aCl (jR _ 1) sD);have q5:rV (vl (st cU b 5) 4)=(va cU b 5:Nat):=cN (aCl (jR _ 4) sD);have hput:=P7 b;have l0:=Ds cU b 0;have hs1:va cU b 0=1→1≤n:=λh=>by
  by_cases h0:b.length=0
  ·rw[RH h0] at h;cases h
  ·omega
 refine t_ func227 ntmps227 ?_;repeat first|refine aE ?_|intro
 refine dX (λ(E':Env) h1=>lD E' A n c b h1 (by omega)) ?_;rintro e H' ⟨g,A0,c0,rfl,h5,h6,rfl⟩;refine gk bG ?_;unfold Bs;repeat first|refine aE ?_|intro
 rename_i gres gr;refine L.step sD (S.cW rfl eS rfl rfl func282 q_ rfl aC (λE' hE=>eL E' gr g (false,b) (st cU b 1) 1 _ rfl q0 A0 n c0 1 rfl o1 dB) ?_);rintro e H' ⟨A1,n1,c1,rfl,hal1,rfl⟩;refine gk bG ?_;repeat ((fail_if_success (refine C.seq (x:=Code.region 4 _ _) ?_));first|refine Cx ?_|refine He ?_|intro _|refine Dr.two ?_ ?_)
 rename_i gx;refine C.BI (X:=Unit) (λ_=>[(0,.slice A n c),(2,.pointer (some ⟨gres,0,none⟩)),(6,.pointer (some ⟨gx,0,none⟩))]) (λ_=>[aJ gres 202 QL.cs,aJ gx 202 (FW b).cs]) (λ_=>True) ?_ ?_
 ·by_cases k1:va cU b 0=1
  ·have hn1:=hs1 k1;have e1:st cU b 1=(false,b.drop 1):=yX (i:=1) sD (by simp;omega);have hnx:nx false (b.drop 1) ((b.drop 1).length:Nat)=(some ((b.drop 1).take (b.drop 1).length),false,(b.drop 1).drop (b.drop 1).length):=Ai (aAf _);rw[aAj (aAf _)] at hnx;have hlen:(b.drop 1).length≤140737488355328:=by simp;omega
   have hlen2:(b.drop 1).length≤140737488355300:=by simp;omega
   have z1:((va cU b 0:Nat):Int)=1:=by omega
   rw[OX k1,z1];rw[e1] at hal1⊢;dsimp only at hal1⊢;unfold GZ;generalize b.drop 1=d at *;generalize hy:(tT d).getD dO=y;repeat first|refine aE ?_|intro
   refine rB (l_ [0,1] (g_ 2 (g_ 3 (l_ [4,5,6,7,8] .nil)))) ([aJ gr 276 [.pointer (some ⟨g,0,none⟩)]]) ?_;repeat first|refine aE ?_|intro
   refine cg rfl sD bA sK aC (λE' hE=>tV E' g false A1 n1 c1 d (hal1 _ dB)) ?_;rw[if_neg aAl];rintro e H' ⟨rfl,rfl⟩;repeat first|refine aE ?_|intro
   refine cg rfl sD bA sK aC (λE' hE=>kR E' g false A1 n1 c1 d d.length (hal1 _ dB) hlen) ?_;rw[hnx];rintro e H' ⟨A3,n3,c3,B,dd,rfl,hal3,hmd,hd3,rfl⟩;dsimp only[Option.getD,Option.isSome] at hmd⊢;repeat first|refine aE ?_|intro
   refine cl sD sK aC (λE' hE=>xS E' B d.length dd d _ rfl dB hlen2) ?_;rw[hy];rintro e H' ⟨rfl,rfl⟩;repeat first|refine aE ?_|intro
   exact⟨(),aD,aA,trivial⟩
  by_cases k2:va cU b 0=2
  ·have z2:((va cU b 0:Nat):Int)=2:=by omega
   rw[OH k2,z2];repeat first|refine aE ?_|intro
   refine L.step sD (S.cW rfl eS rfl rfl func282 q_ rfl aC (λE' hE=>eL E' gr g (st cU b 1) (st cU b 2) 1 _ rfl q1 A1 n1 c1 1 rfl o1 (hal1 _ dB)) ?_);rintro e H' ⟨A2,n2,c2,rfl,hal2,rfl⟩;repeat first|refine aE ?_|intro
   refine L.step sD (S.cW rfl eS rfl rfl func282 q_ rfl aC (λE' hE=>eL E' gr g (st cU b 2) (st cU b 3) 2 _ rfl q2 A2 n2 c2 2 rfl o2 (hal2 _ (hal1 _ dB))) ?_);rintro e H' ⟨A3,n3,c3,rfl,hal3,rfl⟩;repeat first|refine aE ?_|intro
   exact⟨(),aD,aA,trivial⟩
  by_cases k3:va cU b 0=3
  ·have z3:((va cU b 0:Nat):Int)=3:=by omega
   rw[Nr k3,z3];repeat first|refine aE ?_|intro
   refine L.step sD (S.cW rfl eS rfl rfl func282 q_ rfl aC (λE' hE=>eL E' gr g (st cU b 1) (st cU b 2) 1 _ rfl q1 A1 n1 c1 1 rfl o1 (hal1 _ dB)) ?_);rintro e H' ⟨A2,n2,c2,rfl,hal2,rfl⟩;repeat first|refine aE ?_|intro
   refine L.step sD (S.cW rfl eS rfl rfl func282 q_ rfl aC (λE' hE=>eL E' gr g (st cU b 2) (st cU b 3) 2 _ rfl q2 A2 n2 c2 2 rfl o2 (hal2 _ (hal1 _ dB))) ?_);rintro e H' ⟨A3,n3,c3,rfl,hal3,rfl⟩;repeat first|refine aE ?_|intro
   refine L.step sD (S.cW rfl eS rfl rfl func282 q_ rfl aC (λE' hE=>eL E' gr g (st cU b 3) (st cU b 4) 1 _ rfl q3 A3 n3 c3 1 rfl o1 (hal3 _ (hal2 _ (hal1 _ dB)))) ?_);rintro e H' ⟨A4,n4,c4,rfl,hal4,rfl⟩;repeat first|refine aE ?_|intro
   refine L.step sD (S.cW rfl eS rfl rfl func282 q_ rfl aC (λE' hE=>eL E' gr g (st cU b 4) (st cU b 5) 1 _ rfl q4 A4 n4 c4 1 rfl o1 (hal4 _ (hal3 _ (hal2 _ (hal1 _ dB))))) ?_);rintro e H' ⟨A5,n5,c5,rfl,hal5,rfl⟩;repeat first|refine aE ?_|intro
   refine L.step sD (S.cW rfl eS rfl rfl func282 q_ rfl aC (λE' hE=>eL E' gr g (st cU b 5) (st cU b 6) 4 _ rfl q5 A5 n5 c5 4 rfl o4 (hal5 _ (hal4 _ (hal3 _ (hal2 _ (hal1 _ dB)))))) ?_);rintro e H' ⟨A6,n6,c6,rfl,hal6,rfl⟩;repeat first|refine aE ?_|intro
   exact⟨(),aD,aA,trivial⟩
  by_cases k4:va cU b 0=4
  ·have z4:((va cU b 0:Nat):Int)=4:=by omega
   rw[OD k4,z4];repeat first|refine aE ?_|intro
   refine L.step sD (S.cW rfl eS rfl rfl func282 q_ rfl aC (λE' hE=>eL E' gr g (st cU b 1) (st cU b 2) 1 _ rfl q1 A1 n1 c1 1 rfl o1 (hal1 _ dB)) ?_);rintro e H' ⟨A2,n2,c2,rfl,hal2,rfl⟩;repeat first|refine aE ?_|intro
   refine L.step sD (S.cW rfl eS rfl rfl func282 q_ rfl aC (λE' hE=>eL E' gr g (st cU b 2) (st cU b 3) 2 _ rfl q2 A2 n2 c2 2 rfl o2 (hal2 _ (hal1 _ dB))) ?_);rintro e H' ⟨A3,n3,c3,rfl,hal3,rfl⟩;repeat first|refine aE ?_|intro
   refine L.step sD (S.cW rfl eS rfl rfl func282 q_ rfl aC (λE' hE=>eL E' gr g (st cU b 3) (st cU b 4) 1 _ rfl q3 A3 n3 c3 1 rfl o1 (hal3 _ (hal2 _ (hal1 _ dB)))) ?_);rintro e H' ⟨A4,n4,c4,rfl,hal4,rfl⟩;repeat first|refine aE ?_|intro
   refine L.step sD (S.cW rfl eS rfl rfl func282 q_ rfl aC (λE' hE=>eL E' gr g (st cU b 4) (st cU b 5) 1 _ rfl q4 A4 n4 c4 1 rfl o1 (hal4 _ (hal3 _ (hal2 _ (hal1 _ dB))))) ?_);rintro e H' ⟨A5,n5,c5,rfl,hal5,rfl⟩;repeat first|refine aE ?_|intro
   exact⟨(),aD,aA,trivial⟩
  rw[Tl o_];repeat first|refine aE ?_|intro
  exact⟨(),aD,aA,trivial⟩
 rintro - G -;have hkg:vF b=if Li (FW b)=true∧tO (FW b)=b then some (FW b) else none:=rfl
 generalize FW b=x at *;repeat first|refine aE ?_|intro
 cases hf:Li x
 ·obtain⟨k,hk0,hk⟩:=hput.2 hf;rw[if_neg (λh=>by rw[hf] at h;cases h.1)] at hkg;rw[hkg];dsimp only[Option.getD,Option.isSome];rw[if_neg aAl];refine bK hk ?_;repeat first|refine aE ?_|intro
  exact e8_
 ·have hp:=hput.1 hf;refine bW hp ?_;rintro e H' ⟨A2,c2,rfl,rfl⟩;refine gk bG ?_;by_cases hb:tO x=b
  ·rw[if_pos ⟨hf,hb⟩] at hkg;rw[hkg];dsimp only[Option.getD,Option.isSome];rw[if_pos rfl];have hd:decide (tO x≠b)=false:=by simp[hb]
   repeat first|refine aE ?_|intro
   exact e8_
  ·rw[if_neg (λh=>hb h.2)] at hkg;rw[hkg];dsimp only[Option.getD,Option.isSome];rw[if_neg aAl];have hd:decide (tO x≠b)=true:=by simp[hb]
   repeat first|refine aE ?_|intro
   exact e8_
end Go.Proofs.YtmilalkjbojciaaGreat.Sep
namespace Go.Proofs.YtmilalkjbojciaaGreat.Sep
open Oct
theorem Uz{b:List UInt8}(h0:bX b 0 1=1)(hn:b.length=23):vF b=(tT (b.drop 1)).map R1:=by
 have hv:=(uH (b:=b) rfl).2.2.2 o_;have hb:=head_eq (x:=1) o_ h0;unfold vF;rw[OX o_];unfold GZ;cases hc:tT (b.drop 1) with
 |none =>
  rw[if_neg]
  ·rfl
  ·rintro⟨hf,_⟩;have:dO.may=true:=hf;revert this;decide
 |some c =>
  obtain⟨_,hm,hp,_⟩:=Du hc;rw[if_pos]
  ·rfl
  ·refine⟨hm,?_⟩;show[1]++c.put=b;rw[hp];exact hb.symm
theorem T9{b:List UInt8}(h0:bX b 0 1=2)(hn:b.length=4):vF b=if (oE b).may=true then some (R2 (oE b)) else none:=by
 have hv:=(uH (b:=b) rfl).2.2.2 o_;have hr:=(uH (b:=b) rfl).1 o_;have hb:=head_eq (x:=2) o_ h0;unfold vF;rw[OH o_,hr];refine BA ⟨λh=>h.1,λh=>⟨h,?_⟩⟩;show[2]++kU (oE b)=b;rw[QJ o_,aAj (by simp;omega)];exact hb.symm
theorem UA{b:List UInt8}(h0:bX b 0 1=3)(hn:b.length=10):vF b=if bX b 5 1≤1∧((keyOf b).may&&mZ (bX b 6 4))=true then some (R3 (keyOf b) (bX b 6 4)) else none:=by
 have hv:=(uH (b:=b) rfl).2.2.2 o_;have hr:=(uH (b:=b) rfl).2.1 o_;have hw:=(uH (b:=b) rfl).2.2.1 o_;have hb:=head_eq (x:=3) o_ h0;have hput:tO (R3 (keyOf b) (bX b 6 4))=b↔bX b 5 1≤1:=by
  have e:tO (R3 (keyOf b) (bX b 6 4))=3::(eR (keyOf b)++be (bX b 6 4) 4):=by
   show[3]++eR (keyOf b)++be ((bX b 6 4:Nat):Int).toNat 4=_;rw[aAu];simp
  have e2:b.drop 1=(b.drop 1).take 5++(b.drop 6).take 4:=by
   rw[aAj (l:=b.drop 6) (by simp;omega)];have:=(aAx 5 (b.drop 1)).symm;rw[aBt] at this;exact this
  rw[e,dY o_,←Kb o_];constructor
  ·intro h;rw[hb] at h;injection h with _ h
   have h2:eR (keyOf b)++(b.drop 6).take 4=b.drop 1:=by
    have h3:=congrArg (List.drop 1) h;rw[hb];simpa using h
   rw[e2] at h2;exact List.append_cancel_right h2
  ·intro h;rw[h,←e2];exact hb.symm
 unfold vF;rw[Nr o_,hr,hw];exact BA ⟨λh=>⟨hput.1 h.2,h.1⟩,λh=>⟨h.2,hput.2 h.1⟩⟩
theorem UZ{b:List UInt8}(h0:bX b 0 1=4)(hn:b.length=6):vF b=if bX b 5 1≤1∧(keyOf b).may=true then some (R4 (keyOf b)) else none:=by
 have hv:=(uH (b:=b) rfl).2.2.2 o_;have hr:=(uH (b:=b) rfl).2.1 o_;have hb:=head_eq (x:=4) o_ h0;have hput:tO (R4 (keyOf b))=b↔bX b 5 1≤1:=by
  have e:tO (R4 (keyOf b))=4::eR (keyOf b):=rfl;have e2:b.drop 1=(b.drop 1).take 5:=(aAj (by simp;omega)).symm;rw[e,←Kb o_,←e2];constructor
  ·intro h;have h3:=congrArg (List.drop 1) h;simpa using h3
  ·intro h;rw[h];exact hb.symm
 unfold vF;rw[OD o_,hr];exact BA ⟨λh=>⟨hput.1 h.2,h.1⟩,λh=>⟨h.2,hput.2 h.1⟩⟩
end Go.Proofs.YtmilalkjbojciaaGreat.Sep
