/- Part AH: what it needs. No condition. -/
import Derived.Test.YtmilalkjbojciaaGreatRAA
import Derived.Test.YtmilalkjbojciaaGreatRAE
import Derived.Test.YtmilalkjbojciaaGreatRAF
set_option maxRecDepth 100000
set_option maxHeartbeats 8000000
open Go.Proofs.Tryz
namespace Go.Proofs.YtmilalkjbojciaaGreat.Sep
open Go.RowKit Reg Oct
open Mem hiding Rd
theorem tV(E:Env)(g:Nat)(bad:Bool)(A:Option Addr)(n c:Nat)(l:List UInt8)(hr:Rd E aU A n c l) :
  aK prog E 247 #[Bs g] [pC g true bad A n c] λe H'=>e=.returned (.int .i64 (if bad then 0 else l.length:Nat))∧H'=[pC g true bad A n c]:=by
 have hn:=hr.len;unfold Bs;refine t_ func247 ntmps247 ?_;repeat first|refine aE ?_|intro
 refine bK (λM=>mH M g true bad A n c) ?_;cases bad;all_goals
  repeat first|refine aE ?_|intro
  exact aR rfl aF aA (⟨by simp[hn],rfl⟩)
theorem xV(E:Env)(g:Nat)(bad:Bool)(A:Option Addr)(n c:Nat)(l:List UInt8)(hr:Rd E aU A n c l) :
  aK prog E 298 #[Bs g] [pC g true bad A n c] λe H'=>e=.returned (.bool (!bad&&l.isEmpty))∧H'=[pC g true bad A n c]:=by
 have hn:=hr.len;unfold Bs;refine t_ func298 ntmps298 ?_;repeat first|refine aE ?_|intro
 refine bK (λM=>mH M g true bad A n c) ?_;cases bad
 ·repeat first|refine aE ?_|intro
  refine eV (λM=>tV M g false A n c l) ?_;repeat first|refine aE ?_|intro
  exact aR rfl aF aA (⟨by cases l<;>simp;omega,rfl⟩)
 ·repeat first|refine aE ?_|intro
  exact B7
theorem QD:Lu prog 98 [.int .i64 0,.int .i64 0,.int .i64 0,.int .i64 0] [(0,1),(1,1),(2,1),(3,1)] 1:=⟨q_,q_,rfl⟩
instance VG:Bj 98 [.int .i64 0,.int .i64 0,.int .i64 0,.int .i64 0] [(0,1),(1,1),(2,1),(3,1)] 1:=⟨QD⟩
abbrev cells(L:List Int):List Value:=L.map (Value.int .i64)
theorem kF(E:Env)(c:aX):aK prog E 98 #[.agg c.cs.toArray] [] λe H'=>e=.returned (.int .i64 (if c.may then 0 else 4))∧H'=[]:=by
 refine t_ func98 ntmps98 ?_;have hall:([c.kind,c.a,c.b,c.ref.rep].all small)=(small c.kind&&small c.a&&small c.b&&small c.ref.rep):=by simp[Bool.and_assoc]
 have hll:[c.kind,c.a,c.b,c.ref.rep].length=4:=rfl;repeat first|refine v_ ?_|intro
 rename_i g;generalize hL:[c.kind,c.a,c.b,c.ref.rep]=qs at hall hll;refine C.loop (X:=Nat) (λi=>[(1,.pointer (some ⟨g,0,none⟩)),(3,.bool ((qs.take i).all small)),(15,.agg (cells qs).toArray),(16,.int .i64 i)]) (λi=>[aJ g 34 c.cs]) (λi=>i≤4) (λi=>4 - i) 0 (by subst hL;exact aD) aB.refl o_ ?_;rintro i G hi;by_cases hlt:i<4
 ·have hli:i<qs.length:=o_;have hx:(cells qs)[i]?=some (Value.int .i64 qs[i]):=by simp[cells,hli]
  have hstep:(qs.take (i+1)).all small=((qs.take i).all small&&small qs[i]):=by
   rw[aAn hli,List.all_append];simp
  generalize qs[i]=n at hx hstep;by_cases hb:(qs.take i).all small=true
  ·rw[hb] at hstep⊢;rw[aCt] at hstep;repeat first|refine v_ ?_|intro
   refine⟨i+1,?_,aB.refl,by omega,by omega⟩;rw[hstep];unfold small;exact aD
  ·have hb:(qs.take i).all small=false:=by simpa using hb
   rw[hb] at hstep⊢;repeat first|refine v_ ?_|intro
   refine⟨i+1,?_,aB.refl,by omega,by omega⟩;rw[hstep];exact aD
 ·obtain rfl:i=4:=o_;rw[aAj o_,hall];clear hL hall hll;cases hs:(small c.kind&&small c.a&&small c.b&&small c.ref.rep)
  ·have hm:c.may=false:=by
    unfold aX.may;revert hs;cases small c.kind<;>cases small c.a<;>cases small c.b<;>cases small c.ref.rep<;>simp
   rw[hm];repeat first|refine v_ ?_|intro
   exact B7
  ·have hm:c.may=(c.id.may&&decide (1≤c.time∧c.time≤1073741824)&&decide (0≤c.ref.seq∧c.ref.seq≤65535)):=by
    unfold aX.may;revert hs;cases small c.kind<;>cases small c.a<;>cases small c.b<;>cases small c.ref.rep<;>simp
   rw[hm];rcases aBh c.id.may with h1|h1
   ·have h1':(!c.id.may)=false:=by rw[h1];rfl
    by_cases h2:1≤c.time∧c.time≤1073741824
    ·by_cases h3:0≤c.ref.seq∧c.ref.seq≤65535
     ·rw[show(c.id.may&&decide (1≤c.time∧c.time≤1073741824)&&decide (0≤c.ref.seq∧c.ref.seq≤65535))=true by simp[h1,h2,h3]];repeat first|refine v_ ?_|intro
      exact B7
     ·rw[show(c.id.may&&decide (1≤c.time∧c.time≤1073741824)&&decide (0≤c.ref.seq∧c.ref.seq≤65535))=false by simp[h3]];repeat first|refine v_ ?_|intro
      exact B7
    ·rw[show(c.id.may&&decide (1≤c.time∧c.time≤1073741824)&&decide (0≤c.ref.seq∧c.ref.seq≤65535))=false by simp[h2]];repeat first|refine v_ ?_|intro
     exact B7
   ·have h1':(!c.id.may)=true:=by rw[h1];rfl
    rw[show(c.id.may&&decide (1≤c.time∧c.time≤1073741824)&&decide (0≤c.ref.seq∧c.ref.seq≤65535))=false by simp[h1]];repeat first|refine v_ ?_|intro
    exact B7
theorem kB(E:Env)(g:Nat)(A:Option Addr)(nl cap n' w:Nat)(l:List UInt8)(n:Int)(k:Nat)(W:Int)(hW:W=w)(hn:nl+w=n')(hk:IntKind.u64.wrap n=k)(hk2:k<18446744073709551616)(hw:1≤w∧w≤8)(hr:Rd E aU A nl cap l)(hl:nl≤140737488355300) :
  aK prog E 273 #[.int .i64 n,.int .i64 W,.pointer (some ⟨g,0,none⟩)] [aJ g 70 [.slice A nl cap]] λe H'=>∃A' c',e=.returned (.tuple #[])∧H'=[aJ g 70 [.slice A' n' c'],own aU A' n' c' (l++be k w)]:=by
 refine t_ func273 ntmps273 ?_;repeat first|refine aE ?_|intro
 refine dX (λM h1=>kY M A nl cap n' w l k W hW hn hw h1 hk2 hl) ?_;rintro e H' ⟨A',c',rfl,hc,rfl⟩;repeat first|refine aE ?_|intro
 exact gO rfl aA (⟨_,_,rfl,rfl⟩)
theorem Ru(E:Env)(c:aX)(hm:c.may=false):aK prog E 213 #[.agg c.cs.toArray] [] λe H'=>e=.returned (.tuple #[.slice none 0 0,.int .i64 4])∧H'=[]:=by
 refine t_ func213 ntmps213 ?_;repeat first|refine aE ?_|intro
 refine bW (λM=>kF M c) ?_;rw[hm,if_neg aAl];rintro e H' ⟨rfl,rfl⟩;repeat first|refine aE ?_|intro
 exact Xs
theorem Kq(E:Env)(c:aX)(hm:c.may=true):aK prog E 213 #[.agg c.cs.toArray] [] λe H'=>∃A' c',e=.returned (.tuple #[.slice A' 22 c',.int .i64 0])∧H'=[own aU A' 22 c' c.put]:=by
 obtain⟨⟨i0,i1,i2,i3⟩,⟨t0,t1⟩,⟨k0,k1⟩,⟨a0,a1⟩,⟨b0,b1⟩,⟨r0,r1⟩,s0,s1⟩:=(aX.bY c).1 hm;have hu:=EV c.n;have w0:=eZ i0 o_;have w1:=eZ (n:=c.id.seq) o_ o_;have w2:=eZ (n:=c.time) o_ o_;have w3:=eZ k0 o_;have w4:=eZ a0 o_;have w5:=eZ b0 o_;have w6:=G9 c.n;have w7:=eZ r0 o_;have w8:=eZ s0 o_;have w9:IntKind.u64.wrap 67=(67:Nat):=by rw[IntKind.wrap_u64];rfl
 have g0:c.id.rep.toNat<18446744073709551616:=o_;have g1:c.id.seq.toNat<18446744073709551616:=o_;have g2:c.time.toNat<18446744073709551616:=o_;have g3:c.kind.toNat<18446744073709551616:=o_;have g4:c.a.toNat<18446744073709551616:=o_;have g5:c.b.toNat<18446744073709551616:=o_;have g7:c.ref.rep.toNat<18446744073709551616:=o_;have g8:c.ref.seq.toNat<18446744073709551616:=o_;have hfin:([]++be c.id.rep.toNat 1++be c.id.seq.toNat 2++be c.time.toNat 4++be c.kind.toNat 1++be c.a.toNat 1++be c.b.toNat 1++be (GF c.n) 8++be c.ref.rep.toNat 1++be c.ref.seq.toNat 2++be 67 1)=c.put:=by
  rw[nC 67];simp[aX.put]
 have o1:1≤1∧1≤8:=o_;have o2:1≤2∧2≤8:=o_;have o4:1≤4∧4≤8:=o_;have o8:1≤8∧8≤8:=o_;have big:∀k,k≤22→k≤140737488355300:=λk h=>by omega
 refine t_ func213 ntmps213 ?_;repeat first|refine aE ?_|intro
 refine bW (λM=>kF M c) ?_;rw[hm,if_pos rfl];rintro e H' ⟨rfl,rfl⟩;repeat first|refine aE ?_|intro
 rename_i gc g;refine L.step sD (S.cW rfl eS rfl rfl func273 q_ rfl aC (λM hE=>kB M g none 0 0 1 1 ([]:List UInt8) c.id.rep c.id.rep.toNat 1 rfl rfl w0 g0 o1 dB (big 0 sD)) ?_);rintro e H' ⟨A1,c1,rfl,rfl⟩;repeat first|refine aE ?_|intro
 refine L.step sD (S.cW rfl eS rfl rfl func273 q_ rfl aC (λM hE=>kB M g A1 1 c1 3 2 _ c.id.seq c.id.seq.toNat 2 rfl rfl w1 g1 o2 dB (big 1 sD)) ?_);rintro e H' ⟨A2,c2,rfl,rfl⟩;repeat first|refine aE ?_|intro
 refine L.step sD (S.cW rfl eS rfl rfl func273 q_ rfl aC (λM hE=>kB M g A2 3 c2 7 4 _ c.time c.time.toNat 4 rfl rfl w2 g2 o4 dB (big 3 sD)) ?_);rintro e H' ⟨A3,c3,rfl,rfl⟩;repeat first|refine aE ?_|intro
 refine L.step sD (S.cW rfl eS rfl rfl func273 q_ rfl aC (λM hE=>kB M g A3 7 c3 8 1 _ c.kind c.kind.toNat 1 rfl rfl w3 g3 o1 dB (big 7 sD)) ?_);rintro e H' ⟨A4,c4,rfl,rfl⟩;repeat first|refine aE ?_|intro
 refine L.step sD (S.cW rfl eS rfl rfl func273 q_ rfl aC (λM hE=>kB M g A4 8 c4 9 1 _ c.a c.a.toNat 1 rfl rfl w4 g4 o1 dB (big 8 sD)) ?_);rintro e H' ⟨A5,c5,rfl,rfl⟩;repeat first|refine aE ?_|intro
 refine L.step sD (S.cW rfl eS rfl rfl func273 q_ rfl aC (λM hE=>kB M g A5 9 c5 10 1 _ c.b c.b.toNat 1 rfl rfl w5 g5 o1 dB (big 9 sD)) ?_);rintro e H' ⟨A6,c6,rfl,rfl⟩;repeat first|refine aE ?_|intro
 refine L.step sD (S.cW rfl eS rfl rfl func273 q_ rfl aC (λM hE=>kB M g A6 10 c6 18 8 _ c.n (GF c.n) 8 rfl rfl w6 hu o8 dB (big 10 sD)) ?_);rintro e H' ⟨A7,c7,rfl,rfl⟩;repeat first|refine aE ?_|intro
 refine L.step sD (S.cW rfl eS rfl rfl func273 q_ rfl aC (λM hE=>kB M g A7 18 c7 19 1 _ c.ref.rep c.ref.rep.toNat 1 rfl rfl w7 g7 o1 dB (big 18 sD)) ?_);rintro e H' ⟨A8,c8,rfl,rfl⟩;repeat first|refine aE ?_|intro
 refine L.step sD (S.cW rfl eS rfl rfl func273 q_ rfl aC (λM hE=>kB M g A8 19 c8 21 2 _ c.ref.seq c.ref.seq.toNat 2 rfl rfl w8 g8 o2 dB (big 19 sD)) ?_);rintro e H' ⟨A9,c9,rfl,rfl⟩;repeat first|refine aE ?_|intro
 refine L.step sD (S.cW rfl eS rfl rfl func273 q_ rfl aC (λM hE=>kB M g A9 21 c9 22 1 _ 67 67 1 rfl rfl w9 sD o1 dB (big 21 sD)) ?_);rintro e H' ⟨A0,c0,rfl,rfl⟩;repeat first|refine aE ?_|intro
 rw[hfin];exact Cz ⟨_,_,rfl,rfl⟩
end Go.Proofs.YtmilalkjbojciaaGreat.Sep
namespace Go.Proofs.YtmilalkjbojciaaGreat.Sep
open Go.RowKit Reg
open Mem hiding Rd
def bH.Ab(e:bH):Bool:=e.cX&&e.gone
def bH.pG(e:bH):Bool := !e.cX||e.gone
def bH.nt(e:bH):Int:=if e.Ab then e.back else e.aW
def bH.lt(e:bH):Int:=if e.Ab then e.cJ else e.last
def bH.due(e:bH)(c:fU):Int:=Dly.due c.base c.cap e.nt e.lt
def bH.ready(e:bH)(c:fU)(now:Int):Bool:=e.pG&&(decide (e.nt<c.dC)&&(decide (e.nt<1)||decide (e.due c≤now)))
section
variable (E:Env) (e:bH) (c:fU) (now:Int)
theorem Gw:aK prog E 214 #[.agg e.cs.toArray] [] λr H'=>r=.returned (.bool e.Ab)∧H'=[]:=by
 refine t_ func214 ntmps214 ?_;unfold bH.Ab;cases h:e.cX
 ·repeat first|refine aE ?_|intro
  exact B7
 ·repeat first|refine aE ?_|intro
  exact B7
theorem Mr:aK prog E 267 #[.agg e.cs.toArray] [] λr H'=>r=.returned (.bool e.pG)∧H'=[]:=by
 refine t_ func267 ntmps267 ?_;unfold bH.pG;cases h:e.cX
 ·have h2:(!e.cX)=true:=by rw[h];rfl
  repeat first|refine aE ?_|intro
  exact aR rfl aF aA (⟨by simp,rfl⟩)
 ·have h2:(!e.cX)=false:=by rw[h];rfl
  repeat first|refine aE ?_|intro
  exact aR rfl aF aA (⟨by simp,rfl⟩)
theorem OI:aK prog E 325 #[.agg e.cs.toArray] [] λr H'=>r=.returned (.tuple #[.int .i64 e.nt,.int .i64 e.lt])∧H'=[]:=by
 refine t_ func325 ntmps325 ?_;unfold bH.nt bH.lt;repeat first|refine aE ?_|intro
 refine bK (λM=>Gw M e) ?_;cases h:e.Ab
 ·rw[if_neg aAl,if_neg aAl];repeat first|refine aE ?_|intro
  refine rA (l_ [0,1,2,3,4,5] .nil) ?_;repeat first|refine aE ?_|intro
  exact Xs
 ·rw[if_pos rfl,if_pos rfl];repeat first|refine aE ?_|intro
  refine rA (l_ [0,1,2,3,4,5] .nil) ?_;repeat first|refine aE ?_|intro
  exact Xs
theorem VZ:aK prog E 341 #[.agg e.cs.toArray,.agg c.cs.toArray,.int .i64 now] [] λr H'=>r=.returned (.bool (e.ready c now))∧H'=[]:=by
 refine t_ func341 ntmps341 ?_;have hrd:IP c.base c.cap e.nt e.lt now=(decide (e.nt<1)||decide (e.due c≤now)):=rfl;unfold bH.ready;rw[←hrd];repeat first|refine aE ?_|intro
 refine bK (λM=>OI M e) ?_;repeat first|refine aE ?_|intro
 refine bK (λM=>Mr M e) ?_;generalize e.nt=n at *;generalize e.lt=l at *;cases h:e.pG
 ·repeat first|refine aE ?_|intro
  exact B7
 by_cases h2:n<c.dC
 ·rw[decide_eq_true h2];repeat first|refine aE ?_|intro
  refine bK (λM=>Vg M c.base c.cap n l now) ?_;repeat first|refine aE ?_|intro
  exact B7
 ·rw[decide_eq_false h2];repeat first|refine aE ?_|intro
  exact B7
end
def cQ.check(f:cQ):Int :=
 if 1≤f.kind∧f.kind≤11 then
  if (0≤f.a∧f.a≤255)∧(0≤f.ref.rep∧f.ref.rep≤255)∧0≤f.ref.seq∧f.ref.seq≤65535 then 0 else 4
 else 12
section
variable (E:Env) (f:cQ)
theorem ES:aK prog E 215 #[.agg f.cs.toArray] [] λr H'=>r=.returned (.int .i64 f.check)∧H'=[]:=by
 refine t_ func215 ntmps215 ?_;unfold cQ.check;repeat first|refine aE ?_|intro
 refine bW (λM=>dV M f.kind 1 11) ?_;by_cases h1:1≤f.kind∧f.kind≤11
 case neg =>
  rw[decide_eq_false h1,if_neg h1];rintro r H' ⟨rfl,rfl⟩;repeat first|refine aE ?_|intro
  exact B7
 rw[decide_eq_true h1,if_pos h1];rintro r H' ⟨rfl,rfl⟩;repeat first|refine aE ?_|intro
 refine bW (λM=>dV M f.a 0 255) ?_;by_cases h2:0≤f.a∧f.a≤255
 case neg =>
  rw[decide_eq_false h2,if_neg (λh=>h2 h.1)];rintro r H' ⟨rfl,rfl⟩;repeat first|refine aE ?_|intro
  exact B7
 rw[decide_eq_true h2];rintro r H' ⟨rfl,rfl⟩;repeat first|refine aE ?_|intro
 refine bW (λM=>dV M f.ref.rep 0 255) ?_;by_cases h3:0≤f.ref.rep∧f.ref.rep≤255
 case neg =>
  rw[decide_eq_false h3,if_neg (λh=>h3 h.2.1)];rintro r H' ⟨rfl,rfl⟩;repeat first|refine aE ?_|intro
  exact B7
 rw[decide_eq_true h3];rintro r H' ⟨rfl,rfl⟩;repeat first|refine aE ?_|intro
 refine bW (λM=>dV M f.ref.seq 0 65535) ?_;by_cases h4:0≤f.ref.seq∧f.ref.seq≤65535
 case neg =>
  rw[decide_eq_false h4,if_neg (λh=>h4 h.2.2)];rintro r H' ⟨rfl,rfl⟩;repeat first|refine aE ?_|intro
  exact B7
 rw[decide_eq_true h4,if_pos ⟨h2,h3,h4⟩];rintro r H' ⟨rfl,rfl⟩;repeat first|refine aE ?_|intro
 exact B7
end
def bH.gV(e:bH)(now:Int):bH :=
 if e.pG=true∧e.nt<8 then(if e.Ab then { e with back:=e.back+1,cJ:=now } else { e with aW:=e.aW+1,last:=now }) else e
section
variable (E:Env) (e:bH) (now:Int)
theorem Xe(hok:e.ok):aK prog E 342 #[.agg e.cs.toArray,.int .i64 now] [] λr H'=>r=.returned (.agg (e.gV now).cs.toArray)∧H'=[]:=by
 have hb:=hok.2.2.2.2.1;have hs:=hok.2.2.1;unfold dQ at hb hs;refine t_ func342 ntmps342 ?_;repeat first|refine aE ?_|intro
 refine bK (λM=>OI M e) ?_;repeat first|refine aE ?_|intro
 refine bK (λM=>Mr M e) ?_;have htry:e.gV now=if e.pG=true∧e.nt<8 then(if e.Ab then { e with back:=e.back+1,cJ:=now } else { e with aW:=e.aW+1,last:=now }) else e:=rfl
 cases ho:e.pG
 ·rw[ho,if_neg (λh=>by cases h.1)] at htry;rw[htry];repeat first|refine aE ?_|intro
  exact Iv
 rw[ho] at htry;have hnt:e.nt=if e.Ab then e.back else e.aW:=rfl
 repeat first|refine aE ?_|intro
 by_cases h8:e.nt<8
 case neg =>
  rw[if_neg (λh=>h8 h.2)] at htry;rw[htry];repeat first|refine aE ?_|intro
  exact Iv
 rw[if_pos ⟨rfl,h8⟩] at htry;repeat first|refine aE ?_|intro
 refine bK (λM=>Gw M e) ?_;cases hu:e.Ab
 ·rw[hu,if_neg aAl] at htry hnt;rw[htry];repeat first|refine aE ?_|intro
  exact Iv
 ·rw[hu,if_pos rfl] at htry hnt;rw[htry];repeat first|refine aE ?_|intro
  exact Iv
end
end Go.Proofs.YtmilalkjbojciaaGreat.Sep
namespace Go.Proofs.YtmilalkjbojciaaGreat.Sep
def lost(want:List cQ)(l:List bH):Nat→Bool
 |0=>false
 |i+1=>lost want l i||(match l[i]? with|some e=>e.gone||decide (want[i]?≠some e.bC)|none=>false)
def bH.mark(e:bH)(g:Bool):bH:=⟨e.ord,e.bC,e.aW,e.last,e.cX,g,e.back,e.cJ⟩
def bH.qJ(e:bH):bH:=⟨e.ord,e.bC,e.aW,e.last,true,e.gone,e.back,e.cJ⟩
def settle(want:List cQ)(l:List bH):List bH:=l.mapIdx λi e=>e.mark (lost want l (i+1))
theorem dJ(want:List cQ)(l:List bH):(settle want l).length=l.length:=by simp[settle]
theorem lX{want:List cQ}{l:List bH}{i:Nat}{e:bH}(h:l[i]?=some e):(settle want l)[i]?=some (e.mark (lost want l (i+1))):=by
 simp[settle,h]
theorem nZ{want:List cQ}{l:List bH}{i:Nat}{e:bH}(h:l[i]?=some e):lost want l (i+1)=(lost want l i||(e.gone||decide (want[i]?≠some e.bC))):=by
 simp only[lost,h]
def pW(want:List cQ)(l:List bH)(i:Nat):List bH:=l.mapIdx λj e=>if j<i then e.mark (lost want l (j+1)) else e
theorem H5(want:List cQ)(l:List bH):pW want l 0=l:=by
 refine aCk λj=>?_;simp only[pW,aEh,aFk,if_false];cases l[j]?<;>rfl
theorem Mj{want:List cQ}{l:List bH}{n:Nat}(h:n=l.length):pW want l n=settle want l:=by
 refine aCk λj=>?_;simp only[pW,settle,aEh];cases hj:l[j]? with
 |none=>rfl
 |some e =>
  have:=(aAd.1 hj).1;simp only[aDi];rw[if_pos o_]
theorem P6{want:List cQ}{l:List bH}{i:Nat}{e:bH}(h:l[i]?=some e):(pW want l i)[i]?=some e:=by
 simp only[pW,aEh,h,aDi,Nat.lt_irrefl,if_false]
theorem ER(want:List cQ)(l:List bH)(i:Nat):(pW want l i).length=l.length:=by simp[pW]
theorem LN{want:List cQ}{l:List bH}{i:Nat}{e:bH}(h:l[i]?=some e):(pW want l i).set i (e.mark (lost want l (i+1)))=pW want l (i+1):=by
 have hi:=(aAd.1 h).1;refine aCk λj=>?_;rw[aDr,ER];by_cases hj:i=j
 ·subst hj;rw[if_pos rfl,if_pos hi];simp only[pW,aEh,h,aDi];rw[if_pos o_]
 ·rw[if_neg hj];simp only[pW,aEh];cases l[j]? with
  |none=>rfl
  |some x =>
   simp only[aDi];by_cases hlt:j<i
   ·rw[if_pos hlt,if_pos o_]
   ·rw[if_neg hlt,if_neg o_]
theorem CK{want:List cQ}{l:List bH}{i:Nat}{e:bH}(h:l[i]?=some e)(hy:lost want l i=true∨e.gone=true∨want.length≤i):lost want l (i+1)=true:=by
 rw[nZ h];rcases hy with h1|h1|h1
 ·rw[h1];rfl
 ·rw[h1];simp
 ·rw[aCo h1];simp
theorem Sj{want:List cQ}{l:List bH}{i:Nat}{e:bH}{w:cQ}(h:l[i]?=some e)(h1:lost want l i=false)(h2:e.gone=false)(hw:want[i]?=some w):lost want l (i+1) = !decide (e.bC=w):=by
 rw[nZ h,h1,h2,hw,Bool.false_or,Bool.false_or,aBz];simp;exact⟨λh e=>h e.symm,λh e=>h e.symm⟩
def fresh(id:bJ)(made:Int)(n:Nat)(want:List cQ):Option dK:=match want[n]? with|some f=>if made<255 then some ⟨⟨id,made+1,false⟩,f⟩ else none|none=>none
theorem Gm{id:bJ}{made:Int}{n:Nat}{want:List cQ}(h:want.length≤n∨255≤made):fresh id made n want=none:=by
 unfold fresh;split
 ·rename_i f hf;have:=(aAd.1 hf).1;exact if_neg o_
 ·rfl
theorem Mm{id:bJ}{made:Int}{n:Nat}{want:List cQ}{f:cQ}(h:want[n]?=some f)(h2:made<255):fresh id made n want=some ⟨⟨id,made+1,false⟩,f⟩:=by
 unfold fresh;rw[h];exact if_pos h2
theorem Bv{id:bJ}{made:Int}{n:Nat}{want:List cQ}{q:dK}(h:fresh id made n want=some q):made<255∧∃f,want[n]?=some f∧q=⟨⟨id,made+1,false⟩,f⟩:=by
 unfold fresh at h;split at h
 ·rename_i f hf;split at h
  ·injection h with h;exact⟨by assumption,f,hf,h.symm⟩
  ·cases h
 ·cases h
def AP(l:List bH):Option bH:=match l[l.length - 1]? with|some e=>if e.pG then some e else none|none=>none
theorem FA{l:List bH}{e:bH}(h:l[l.length - 1]?=some e)(ho:e.pG=true):AP l=some e:=by
 unfold AP;rw[h];exact if_pos ho
theorem Ch{l:List bH}{e:bH}(h:l[l.length - 1]?=some e)(ho:e.pG=false):AP l=none:=by
 unfold AP;rw[h];exact if_neg (by rw[ho];exact aAl)
theorem yZ{l:List bH}{e:bH}(h:AP l=some e):l[l.length - 1]?=some e∧e.pG=true:=by
 unfold AP at h;split at h
 ·rename_i x hx;split at h
  ·injection h with h;subst h;exact⟨hx,by assumption⟩
  ·cases h
 ·cases h
def next(id:bJ)(made:Int)(l:List bH)(want:List cQ):Option dK:=match AP l with
 |some e=>if e.nt<8 then some ⟨⟨id,e.ord,e.Ab⟩,e.bC⟩ else none
 |none=>fresh id made l.length want
abbrev rQ(q:dK)(now:Int):bH:=⟨q.key.ord,q.bC,1,now,false,false,0,0⟩
def pK(id:bJ)(made:Int)(l:List bH)(want:List cQ)(now:Int):Option (Int×List bH):=match next id made l want with
 |none=>none
 |some q=>match AP l with
  |some e=>some (made,l.set (l.length - 1) (e.gV now))
  |none=>some (made+1,l++[rQ q now])
def idx(p:bH→Bool)(l:List bH):Int:=match l.findIdx? p with|some i=>i|none => -1
theorem P4{p:bH→Bool}{l:List bH}(h:∀x∈l,p x=false):idx p l = -1:=by
 unfold idx;rw[aEp.2 h]
theorem OK{p:bH→Bool}{l:List bH}{i:Nat}{x:bH}(hx:l[i]?=some x)(hp:p x=true)(h:∀j y,j<i→l[j]?=some y→p y=false):idx p l=i:=by
 unfold idx;obtain⟨hi,he⟩:=aAd.1 hx;rw[aDj.2 ⟨hi,by rw[he];exact hp,λj hj=>by rw[h j l[j] hj (aAa o_)];exact aAl⟩]
def cX(id:bJ)(l:List bH)(k:bP):Option (List bH) :=
 if k.id≠id then none else match l.findIdx? λe=>decide (e.ord=k.ord) with
 |none=>none
 |some i=>match l[i]? with
  |none=>none
  |some e=>if (!k.cD && !e.cX)=true then some (l.set i e.qJ) else if (k.cD&&(e.Ab&&(decide (1≤e.back)&&decide (i+1=l.length))))=true then some (l.take i) else none
def quiet(l:List bH)(want:List cQ):Bool:=decide (l.length=want.length)&&l.all λe => !e.pG
def Ej(id:bJ)(made:Int)(l:List bH)(want:List cQ)(g:fU)(now:Int):Bool:=(next id made l want).isSome&&(match AP l with|some e=>e.ready g now|none=>decide (1≤g.dC))
theorem rN{id:bJ}{l:List bH}{k:bP}(h:k.id≠id∨l.findIdx? (λe=>decide (e.ord=k.ord))=none):cX id l k=none:=by
 unfold cX;by_cases h1:k.id≠id
 ·exact if_pos h1
 ·rw[if_neg h1];rcases h with h|h
  ·exact absurd h h1
  ·rw[h]
theorem HP{id:bJ}{l:List bH}{k:bP}{i:Nat}{e:bH}(h1:k.id=id)(h2:l.findIdx? (λe=>decide (e.ord=k.ord))=some i)(h3:l[i]?=some e) :
  cX id l k=if (!k.cD && !e.cX)=true then some (l.set i e.qJ) else if (k.cD&&(e.Ab&&(decide (1≤e.back)&&decide (i+1=l.length))))=true then some (l.take i) else none:=by
 unfold cX;rw[if_neg (λh=>h h1),h2];dsimp only;rw[h3]
theorem KI{p:bH→Bool}{l:List bH}{i:Nat}(h:l.findIdx? p=some i):∃e,l[i]?=some e∧p e=true:=by
 obtain⟨hi,h1,_⟩:=aDj.1 h;exact⟨l[i],aAa hi,h1⟩
theorem QE{e:bH}{now:Int}(ho:e.pG=true):decide (e.gV now=e)=decide (8≤e.nt):=by
 have hb:e.nt=if e.Ab then e.back else e.aW:=rfl
 unfold bH.gV;by_cases h:e.nt<8
 ·rw[if_pos ⟨ho,h⟩,decide_eq_false (show ¬8≤e.nt by omega)];refine decide_eq_false λhe=>?_;cases hu:e.Ab
  ·rw[hu,if_neg aAl] at he;have:=congrArg bH.aW he;dsimp only at this;omega
  ·rw[hu,if_pos rfl] at he;have:=congrArg bH.back he;dsimp only at this;omega
 ·rw[if_neg (λh2=>h h2.2),decide_eq_true rfl,decide_eq_true (show 8≤e.nt by omega)]
structure dS where
 made:Int
 l:List bH
 w:List cQ
def dS.Yr(s:dS)(id:bJ):Option dK:=next id s.made s.l s.w
def dS.gV(s:dS)(id:bJ)(now:Int):dS:=⟨((pK id s.made s.l s.w now).getD (s.made,s.l)).1,((pK id s.made s.l s.w now).getD (s.made,s.l)).2,s.w⟩
def dS.qJ(s:dS)(id:bJ)(k:bP):dS:=⟨s.made,(cX id s.l k).getD s.l,s.w⟩
structure dS.ok(s:dS):Prop where
 sE:∀e∈s.l,e.ok
 Lk:∀f∈s.w,f.ok
 tS:0≤s.made
 nK:s.made≤255
 len:(s.l.length:Int)≤s.made
 wide:s.w.length≤8
theorem bH.RN{e:bH}{g:Bool}(h:e.ok):(e.mark g).ok:=h
theorem bH.Ez{e:bH}(h:e.ok):e.qJ.ok:=h
theorem aHi{want:List cQ}{l:List bH}(h:∀e∈l,e.ok):∀e∈settle want l,e.ok:=by
 intro e he;obtain⟨i,hi,rfl⟩:=aBm he;rw[dJ] at hi;have hx:l[i]?=some l[i]:=aAa hi;have hs:=lX (want:=want) hx;rw[aAa (by rw[dJ];exact hi)] at hs;injection hs with hs
 rw[hs];exact bH.RN (h _ (aCs _))
theorem bH.FI{e:bH}{now:Int}(h:e.ok)(hn:dQ now):(e.gV now).ok:=by
 unfold bH.gV;have hb:e.nt=if e.Ab then e.back else e.aW:=rfl
 split
 ·rename_i hh;obtain⟨q0,q1,q2,q3,q4,q5⟩:=h;unfold dQ at q2 q4;split
  ·rename_i hu;rw[if_pos hu] at hb;exact⟨q0,q1,q2,q3,by unfold dQ;dsimp only;omega,hn⟩
  ·rename_i hu;rw[if_neg hu] at hb;exact⟨q0,q1,by unfold dQ;dsimp only;omega,hn,q4,q5⟩
 ·exact h
theorem Hm{id:bJ}{made:Int}{l:List bH}{want:List cQ}{now:Int}(h:next id made l want=none):pK id made l want now=none:=by
 unfold pK;rw[h]
theorem MA{id:bJ}{made:Int}{l:List bH}{want:List cQ}{now:Int}{q:dK}{e:bH}(h:next id made l want=some q)(ht:AP l=some e):pK id made l want now=some (made,l.set (l.length - 1) (e.gV now)):=by
 unfold pK;rw[h,ht]
theorem MQ{id:bJ}{made:Int}{l:List bH}{want:List cQ}{now:Int}{q:dK}(h:next id made l want=some q)(ht:AP l=none):pK id made l want now=some (made+1,l++[rQ q now]):=by
 unfold pK;rw[h,ht]
theorem HJ{s:dS}{id:bJ}{now:Int}:s.gV id now=s∨(∃e,AP s.l=some e∧e.nt<8∧s.gV id now=⟨s.made,s.l.set (s.l.length - 1) (e.gV now),s.w⟩) ∨
  (∃f,AP s.l=none∧s.made<255∧s.w[s.l.length]?=some f∧s.gV id now=⟨s.made+1,s.l++[rQ ⟨⟨id,s.made+1,false⟩,f⟩ now],s.w⟩):=by
 cases hq:next id s.made s.l s.w with
 |none =>
  refine .inl ?_;unfold dS.gV;rw[Hm hq];rfl
 |some q =>
  cases ht:AP s.l with
  |some e =>
   refine .inr (.inl ⟨e,rfl,?_,?_⟩)
   ·unfold next at hq;rw[ht] at hq;dsimp only at hq;by_cases h8:e.nt<8
    ·exact h8
    ·rw[if_neg h8] at hq;cases hq
   ·unfold dS.gV;rw[MA hq ht];rfl
  |none =>
   have hq2:=hq;unfold next at hq2;rw[ht] at hq2;obtain⟨h1,f,h2,rfl⟩:=Bv hq2;refine .inr (.inr ⟨f,rfl,h1,h2,?_⟩);unfold dS.gV;rw[MQ hq ht];rfl
theorem G7{s:dS}{id:bJ}{k:bP}:s.qJ id k=s∨(∃i e,s.l[i]?=some e∧e.ord=k.ord∧e.cX=false∧s.qJ id k=⟨s.made,s.l.set i e.qJ,s.w⟩) ∨
  (∃i e,s.l[i]?=some e∧e.Ab=true∧1≤e.back∧i+1=s.l.length∧s.qJ id k=⟨s.made,s.l.take i,s.w⟩):=by
 by_cases h1:k.id=id
 case neg=>exact .inl (by unfold dS.qJ;rw[rN (.inl h1)];rfl)
 cases hf:s.l.findIdx? (λe=>decide (e.ord=k.ord)) with
 |none=>exact .inl (by unfold dS.qJ;rw[rN (.inr hf)];rfl)
 |some i =>
  obtain⟨e,he,hk⟩:=KI hf;have hak:=HP h1 hf he;have hk:=of_decide_eq_true hk;by_cases h2:(!k.cD && !e.cX)=true
  ·rw[if_pos h2] at hak;have h2:k.cD=false∧e.cX=false:=by simpa using h2
   exact .inr (.inl ⟨i,e,he,hk,h2.2,by unfold dS.qJ;rw[hak];rfl⟩)
  ·rw[if_neg h2] at hak;by_cases h3:(k.cD&&(e.Ab&&(decide (1≤e.back)&&decide (i+1=s.l.length))))=true
   ·rw[if_pos h3] at hak;have h3:k.cD=true∧e.Ab=true∧1≤e.back∧i+1=s.l.length:=by simpa using h3
    exact .inr (.inr ⟨i,e,he,h3.2.1,h3.2.2.1,h3.2.2.2,by unfold dS.qJ;rw[hak];rfl⟩)
   ·rw[if_neg h3] at hak;exact .inl (by unfold dS.qJ;rw[hak];rfl)
theorem dS.FI{s:dS}{id:bJ}{now:Int}(h:s.ok)(hn:dQ now):(s.gV id now).ok:=by
 rcases HJ (s:=s) (id:=id) (now:=now) with h1|⟨e,ht,_,h1⟩|⟨f,ht,hm,hf,h1⟩
 ·rw[h1];exact h
 ·rw[h1];obtain⟨he,_⟩:=yZ ht;refine⟨λx hx=>?_,h.Lk,h.tS,h.nK,by rw[aAt];exact h.len,h.wide⟩;rcases aCr hx with h2|rfl
  ·exact h.sE x h2
  ·exact bH.FI (h.sE e (aAi he)) hn
 ·rw[h1];have h0:=h.tS;have hl:=h.len;refine⟨λx hx=>?_,h.Lk,by dsimp only;omega,by dsimp only;omega,by simp;omega,h.wide⟩;rcases aBg.1 hx with h2|h2
  ·exact h.sE x h2
  ·rw[aAp] at h2;subst h2;refine⟨by unfold dQ;dsimp only;omega,h.Lk f (aAi hf),by unfold dQ;dsimp only;omega,hn,by unfold dQ;dsimp only;omega,by unfold dQ;dsimp only;omega⟩
theorem dS.Ez{s:dS}{id:bJ}{k:bP}(h:s.ok):(s.qJ id k).ok:=by
 rcases G7 (s:=s) (id:=id) (k:=k) with h1|⟨i,e,he,_,_,h1⟩|⟨i,e,he,_,_,hi,h1⟩
 ·rw[h1];exact h
 ·rw[h1];refine⟨λx hx=>?_,h.Lk,h.tS,h.nK,by rw[aAt];exact h.len,h.wide⟩;rcases aCr hx with h2|rfl
  ·exact h.sE x h2
  ·exact bH.Ez (h.sE e (aAi he))
 ·rw[h1];have hl:=h.len;exact⟨λx hx=>h.sE x (aBs hx),h.Lk,h.tS,h.nK,by dsimp only;rw[aAg];omega,h.wide⟩
end Go.Proofs.YtmilalkjbojciaaGreat.Sep
