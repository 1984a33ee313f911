/- Part AP: what it needs. No condition. -/
import Derived.Test.YtmilalkjbojciaaGreatOAA
import Derived.Test.YtmilalkjbojciaaGreatOAI
import Derived.Test.YtmilalkjbojciaaGreatOAO
set_option maxRecDepth 100000
set_option maxHeartbeats 8000000
open Go.Proofs.Tryz
namespace Go.Proofs.YtmilalkjbojciaaGreat.Sep
open Go.RowKit Reg Oct
open Mem hiding Rd
theorem Eu(E:Env)(g:Nat)(made bad:Bool)(A:Option Addr)(n c:Nat) :
  aK prog E 296 #[Bs g] [pC g made bad A n c] λe H'=>e=.returned (.bool (!(made && !bad)))∧H'=[pC g made bad A n c]:=by
 refine t_ func296 ntmps296 ?_;repeat first|refine aE ?_|intro
 refine bK (λ(E':Env)=>mH E' g made bad A n c) ?_;repeat first|refine aE ?_|intro
 exact e1_
theorem tV(E:Env)(g:Nat)(bad:Bool)(A:Option Addr)(n c:Nat)(l:List UInt8)(hr:Rd E aU A n c l) :
  aK prog E 247 #[Bs g] [pC g true bad A n c] λe H'=>e=.returned (.int .i64 (if bad then 0 else l.length:Nat))∧H'=[pC g true bad A n c]:=by
 have hn:=hr.len;unfold Bs;refine t_ func247 ntmps247 ?_;repeat first|refine aE ?_|intro
 refine bK (λ(E':Env)=>mH E' g true bad A n c) ?_;cases bad;all_goals
  repeat first|refine aE ?_|intro
  exact aR rfl aF aA (⟨by simp[hn],rfl⟩)
theorem xV(E:Env)(g:Nat)(bad:Bool)(A:Option Addr)(n c:Nat)(l:List UInt8)(hr:Rd E aU A n c l) :
  aK prog E 298 #[Bs g] [pC g true bad A n c] λe H'=>e=.returned (.bool (!bad&&l.isEmpty))∧H'=[pC g true bad A n c]:=by
 have hn:=hr.len;unfold Bs;refine t_ func298 ntmps298 ?_;repeat first|refine aE ?_|intro
 refine bK (λ(E':Env)=>mH E' g true bad A n c) ?_;cases bad
 ·repeat first|refine aE ?_|intro
  refine eV (λ(E':Env)=>tV E' g false A n c l) ?_;repeat first|refine aE ?_|intro
  exact aR rfl aF aA (⟨by cases l<;>simp;omega,rfl⟩)
 ·repeat first|refine aE ?_|intro
  exact e1_
theorem QD:Lu prog 98 [.int .i64 0,.int .i64 0,.int .i64 0,.int .i64 0] [(0,1),(1,1),(2,1),(3,1)] 1:=⟨by kernel_rfl,by kernel_rfl,rfl⟩
instance VG:Bj 98 [.int .i64 0,.int .i64 0,.int .i64 0,.int .i64 0] [(0,1),(1,1),(2,1),(3,1)] 1:=⟨QD⟩
abbrev cells(L:List Int):List Value:=L.map (Value.int .i64)
theorem kF(E:Env)(c:aX):aK prog E 98 #[.agg c.cs.toArray] [] λe H'=>e=.returned (.int .i64 (if c.may then 0 else 4))∧H'=[]:=by
 refine t_ func98 ntmps98 ?_;have hall:([c.kind,c.a,c.b,c.ref.rep].all small)=(small c.kind&&small c.a&&small c.b&&small c.ref.rep):=by simp[Bool.and_assoc]
 have hll:[c.kind,c.a,c.b,c.ref.rep].length=4:=rfl;repeat first|refine v_ ?_|intro
 rename_i g;generalize hL:[c.kind,c.a,c.b,c.ref.rep]=qs at hall hll;refine C.loop (X:=Nat) (λi=>[(1,.pointer (some ⟨g,0,none⟩)),(3,.bool ((qs.take i).all small)),(15,.agg (cells qs).toArray),(16,.int .i64 i)]) (λi=>[aJ g 34 c.cs]) (λi=>i≤4) (λi=>4 - i) 0 (by subst hL;exact aD) aB.refl o_ ?_;rintro i G hi;by_cases hlt:i<4
 ·have hli:i<qs.length:=by omega
  have hx:(cells qs)[i]?=some (Value.int .i64 qs[i]):=by simp[cells,hli]
  have hstep:(qs.take (i+1)).all small=((qs.take i).all small&&small qs[i]):=by
   rw[aAn hli,List.all_append];simp
  generalize qs[i]=n at hx hstep;by_cases hb:(qs.take i).all small=true
  ·rw[hb] at hstep⊢;rw[aCt] at hstep;repeat first|refine v_ ?_|intro
   refine⟨i+1,?_,aB.refl,by omega,by omega⟩;rw[hstep];unfold small;exact aD
  ·have hb:(qs.take i).all small=false:=by simpa using hb
   rw[hb] at hstep⊢;repeat first|refine v_ ?_|intro
   refine⟨i+1,?_,aB.refl,by omega,by omega⟩;rw[hstep];exact aD
 ·obtain rfl:i=4:=by omega
  rw[aAj o_,hall];clear hL hall hll;cases hs:(small c.kind&&small c.a&&small c.b&&small c.ref.rep)
  ·have hm:c.may=false:=by
    unfold aX.may;revert hs;cases small c.kind<;>cases small c.a<;>cases small c.b<;>cases small c.ref.rep<;>simp
   rw[hm];repeat first|refine v_ ?_|intro
   exact e1_
  ·have hm:c.may=(c.id.may&&decide (1≤c.time∧c.time≤1073741824)&&decide (0≤c.ref.seq∧c.ref.seq≤65535)):=by
    unfold aX.may;revert hs;cases small c.kind<;>cases small c.a<;>cases small c.b<;>cases small c.ref.rep<;>simp
   rw[hm];rcases aBh c.id.may with h1|h1
   ·have h1':(!c.id.may)=false:=by rw[h1];rfl
    by_cases h2:1≤c.time∧c.time≤1073741824
    ·by_cases h3:0≤c.ref.seq∧c.ref.seq≤65535
     ·rw[show(c.id.may&&decide (1≤c.time∧c.time≤1073741824)&&decide (0≤c.ref.seq∧c.ref.seq≤65535))=true by simp[h1,h2,h3]];repeat first|refine v_ ?_|intro
      exact e1_
     ·rw[show(c.id.may&&decide (1≤c.time∧c.time≤1073741824)&&decide (0≤c.ref.seq∧c.ref.seq≤65535))=false by simp[h3]];repeat first|refine v_ ?_|intro
      exact e1_
    ·rw[show(c.id.may&&decide (1≤c.time∧c.time≤1073741824)&&decide (0≤c.ref.seq∧c.ref.seq≤65535))=false by simp[h2]];repeat first|refine v_ ?_|intro
     exact e1_
   ·have h1':(!c.id.may)=true:=by rw[h1];rfl
    rw[show(c.id.may&&decide (1≤c.time∧c.time≤1073741824)&&decide (0≤c.ref.seq∧c.ref.seq≤65535))=false by simp[h1]];repeat first|refine v_ ?_|intro
    exact e1_
end Go.Proofs.YtmilalkjbojciaaGreat.Sep
namespace Go.Proofs.YtmilalkjbojciaaGreat.Dly
open Go.Proofs.YtmilalkjbojciaaGreat.Sep (dF)
def To(m:Int):Nat→Int→Int
 |0,w=>w
 |k+1,w=>min (2*To m k w) m
def wait(base dC n:Int):Int :=
 if n<1 then 0 else To (dF dC 1 64) ((min n 64 - 1).toNat) (min (dF base 1 64) (dF dC 1 64))
def due(base dC n last:Int):Int:=dF last 0 1073741824+wait base dC n
theorem tN(n lo hi:Int)(h:lo≤hi):lo≤dF n lo hi:=by unfold dF;split;omega;split<;>omega
theorem zG(n lo hi:Int)(h:lo≤hi):dF n lo hi≤hi:=by unfold dF;split;omega;split<;>omega
theorem Ip(m w:Int)(h1:1≤w)(h2:w≤m):∀k,1≤To m k w∧To m k w≤m
 |0=>⟨h1,h2⟩
 |k+1=>by have:=Ip m w h1 h2 k;unfold To;omega
theorem Rn(base dC n:Int):0≤wait base dC n∧wait base dC n≤64:=by
 unfold wait;split
 ·omega
 ·have hm1:=tN dC 1 64 o_;have hm2:=zG dC 1 64 o_;have hb1:=tN base 1 64 o_;have:=Ip (dF dC 1 64) (min (dF base 1 64) (dF dC 1 64)) o_ o_ ((min n 64 - 1).toNat);omega
end Go.Proofs.YtmilalkjbojciaaGreat.Dly
namespace Go.Proofs.YtmilalkjbojciaaGreat.Sep
open Go.RowKit Reg Dly
open Mem hiding Rd
section
variable (E:Env)
theorem Hx(n lo hi:Int):aK prog E 65 #[.int .i64 n,.int .i64 lo,.int .i64 hi] [] λe H'=>e=.returned (.int .i64 (dF n lo hi))∧H'=[]:=by
 refine t_ func65 ntmps65 ?_;unfold dF;by_cases h1:n<lo
 ·rw[if_pos h1];repeat first|refine aE ?_|intro
  exact e1_
 ·rw[if_neg h1];by_cases h2:hi<n
  ·rw[if_pos h2];repeat first|refine aE ?_|intro
   exact e1_
  ·rw[if_neg h2];repeat first|refine aE ?_|intro
   exact e1_
theorem YW(base dC n:Int):aK prog E 363 #[.int .i64 base,.int .i64 dC,.int .i64 n] [] λe H'=>e=.returned (.int .i64 (wait base dC n))∧H'=[]:=by
 have hm1:=tN dC 1 64 o_;have hm2:=zG dC 1 64 o_;have hb1:=tN base 1 64 o_;have hb2:=zG base 1 64 o_;have hbd:=Ip (dF dC 1 64) (min (dF base 1 64) (dF dC 1 64)) o_ o_;refine t_ func363 ntmps363 ?_;repeat first|refine aE ?_|intro
 refine bK (λ(E':Env)=>Hx E' dC 1 64) ?_;repeat first|refine aE ?_|intro
 refine bK (λ(E':Env)=>Hx E' base 1 64) ?_;unfold wait;by_cases h:n<1
 ·rw[if_pos h];repeat first|refine aE ?_|intro
  exact e1_
 rw[if_neg h];obtain⟨K,hK⟩:∃K:Nat,K=(min n 64 - 1).toNat:=⟨_,rfl⟩
 have hK2:min n 64 - 1=(K:Int):=by omega
 have hK3:K≤63:=by omega
 have hsub:IntKind.i64.wrap (min n 64 - 1)=(K:Int):=by rw[aAq _ o_];exact hK2
 rw[←hK];generalize dF dC 1 64=M at *;generalize hw:min (dF base 1 64) M=w at *;repeat first|refine aE ?_|intro
 try rw[hw]
 refine C.loop (X:=Nat) (λk=>[(1,.int .i64 M),(7,.int .i64 (To M k w)),(18,.int .i64 K),(19,.int .i64 k)]) (λ_=>[]) (λk=>k≤K) (λk=>K - k) 0 aD aB.refl (aAh _) ?_;rintro k G hk;have hb:=hbd k;by_cases hlt:k<K
 ·have hs:min (2*To M k w) M=To M (k+1) w:=rfl;repeat first|refine aE ?_|intro
  rw[hs];exact⟨k+1,aD,aB.refl,by omega,by omega⟩
 ·obtain rfl:k=K:=by omega
  repeat first|refine aE ?_|intro
  exact e1_
theorem Ze(base dC n last:Int):aK prog E 326 #[.int .i64 base,.int .i64 dC,.int .i64 n,.int .i64 last] [] λe H'=>e=.returned (.int .i64 (Dly.due base dC n last))∧H'=[]:=by
 have h1:=Rn base dC n;have h2:=tN last 0 1073741824 o_;have h3:=zG last 0 1073741824 o_;refine t_ func326 ntmps326 ?_;unfold Dly.due;repeat first|refine aE ?_|intro
 refine bK (λ(E':Env)=>Hx E' last 0 1073741824) ?_;repeat first|refine aE ?_|intro
 refine bK (λ(E':Env)=>YW E' base dC n) ?_;repeat first|refine aE ?_|intro
 exact e1_
def IP(base dC n last now:Int):Bool:=decide (n<1)||decide (Dly.due base dC n last≤now)
theorem Vg(base dC n last now:Int):aK prog E 370 #[.int .i64 base,.int .i64 dC,.int .i64 n,.int .i64 last,.int .i64 now] [] λe H'=>e=.returned (.bool (IP base dC n last now))∧H'=[]:=by
 refine t_ func370 ntmps370 ?_;unfold IP;by_cases h:n<1
 ·rw[decide_eq_true h];repeat first|refine aE ?_|intro
  exact e1_
 ·rw[decide_eq_false h];repeat first|refine aE ?_|intro
  refine bK (λ(E':Env)=>Ze E' base dC n last) ?_;repeat first|refine aE ?_|intro
  exact e1_
end
end Go.Proofs.YtmilalkjbojciaaGreat.Sep
namespace Go.Proofs.YtmilalkjbojciaaGreat.Sep
open Go.RowKit Reg
open Mem hiding Rd
def bH.Ab(e:bH):Bool:=e.cX&&e.gone
def bH.pG(e:bH):Bool := !e.cX||e.gone
def bH.nt(e:bH):Int:=if e.Ab then e.back else e.aW
def bH.lt(e:bH):Int:=if e.Ab then e.cJ else e.last
def bH.due(e:bH)(c:fU):Int:=Dly.due c.base c.cap e.nt e.lt
def bH.ready(e:bH)(c:fU)(now:Int):Bool:=e.pG&&(decide (e.nt<c.dC)&&(decide (e.nt<1)||decide (e.due c≤now)))
section
variable (E:Env) (e:bH) (c:fU) (now:Int)
theorem Gw:aK prog E 214 #[.agg e.cs.toArray] [] λr H'=>r=.returned (.bool e.Ab)∧H'=[]:=by
 refine t_ func214 ntmps214 ?_;unfold bH.Ab;cases h:e.cX
 ·repeat first|refine aE ?_|intro
  exact e1_
 ·repeat first|refine aE ?_|intro
  exact e1_
theorem Mr:aK prog E 267 #[.agg e.cs.toArray] [] λr H'=>r=.returned (.bool e.pG)∧H'=[]:=by
 refine t_ func267 ntmps267 ?_;unfold bH.pG;cases h:e.cX
 ·have h2:(!e.cX)=true:=by rw[h];rfl
  repeat first|refine aE ?_|intro
  exact aR rfl aF aA (⟨by simp,rfl⟩)
 ·have h2:(!e.cX)=false:=by rw[h];rfl
  repeat first|refine aE ?_|intro
  exact aR rfl aF aA (⟨by simp,rfl⟩)
theorem OI:aK prog E 325 #[.agg e.cs.toArray] [] λr H'=>r=.returned (.tuple #[.int .i64 e.nt,.int .i64 e.lt])∧H'=[]:=by
 refine t_ func325 ntmps325 ?_;unfold bH.nt bH.lt;repeat first|refine aE ?_|intro
 refine bK (λ(E':Env)=>Gw E' e) ?_;cases h:e.Ab
 ·rw[if_neg aAl,if_neg aAl];repeat first|refine aE ?_|intro
  refine rA (l_ [0,1,2,3,4,5] .nil) ?_;repeat first|refine aE ?_|intro
  exact e2_
 ·rw[if_pos rfl,if_pos rfl];repeat first|refine aE ?_|intro
  refine rA (l_ [0,1,2,3,4,5] .nil) ?_;repeat first|refine aE ?_|intro
  exact e2_
theorem VZ:aK prog E 341 #[.agg e.cs.toArray,.agg c.cs.toArray,.int .i64 now] [] λr H'=>r=.returned (.bool (e.ready c now))∧H'=[]:=by
 refine t_ func341 ntmps341 ?_;have hrd:IP c.base c.cap e.nt e.lt now=(decide (e.nt<1)||decide (e.due c≤now)):=rfl;unfold bH.ready;rw[←hrd];repeat first|refine aE ?_|intro
 refine bK (λ(E':Env)=>OI E' e) ?_;repeat first|refine aE ?_|intro
 refine bK (λ(E':Env)=>Mr E' e) ?_;generalize e.nt=n at *;generalize e.lt=l at *;cases h:e.pG
 ·repeat first|refine aE ?_|intro
  exact e1_
 by_cases h2:n<c.dC
 ·rw[decide_eq_true h2];repeat first|refine aE ?_|intro
  refine bK (λ(E':Env)=>Vg E' c.base c.cap n l now) ?_;repeat first|refine aE ?_|intro
  exact e1_
 ·rw[decide_eq_false h2];repeat first|refine aE ?_|intro
  exact e1_
end
def cQ.check(f:cQ):Int :=
 if 1≤f.kind∧f.kind≤11 then
  if (0≤f.a∧f.a≤255)∧(0≤f.ref.rep∧f.ref.rep≤255)∧0≤f.ref.seq∧f.ref.seq≤65535 then 0 else 4
 else 12
section
variable (E:Env) (f:cQ)
theorem ES:aK prog E 215 #[.agg f.cs.toArray] [] λr H'=>r=.returned (.int .i64 f.check)∧H'=[]:=by
 refine t_ func215 ntmps215 ?_;unfold cQ.check;repeat first|refine aE ?_|intro
 refine bW (λ(E':Env)=>dV E' f.kind 1 11) ?_;by_cases h1:1≤f.kind∧f.kind≤11
 case neg =>
  rw[decide_eq_false h1,if_neg h1];rintro r H' ⟨rfl,rfl⟩;repeat first|refine aE ?_|intro
  exact e1_
 rw[decide_eq_true h1,if_pos h1];rintro r H' ⟨rfl,rfl⟩;repeat first|refine aE ?_|intro
 refine bW (λ(E':Env)=>dV E' f.a 0 255) ?_;by_cases h2:0≤f.a∧f.a≤255
 case neg =>
  rw[decide_eq_false h2,if_neg (λh=>h2 h.1)];rintro r H' ⟨rfl,rfl⟩;repeat first|refine aE ?_|intro
  exact e1_
 rw[decide_eq_true h2];rintro r H' ⟨rfl,rfl⟩;repeat first|refine aE ?_|intro
 refine bW (λ(E':Env)=>dV E' f.ref.rep 0 255) ?_;by_cases h3:0≤f.ref.rep∧f.ref.rep≤255
 case neg =>
  rw[decide_eq_false h3,if_neg (λh=>h3 h.2.1)];rintro r H' ⟨rfl,rfl⟩;repeat first|refine aE ?_|intro
  exact e1_
 rw[decide_eq_true h3];rintro r H' ⟨rfl,rfl⟩;repeat first|refine aE ?_|intro
 refine bW (λ(E':Env)=>dV E' f.ref.seq 0 65535) ?_;by_cases h4:0≤f.ref.seq∧f.ref.seq≤65535
 case neg =>
  rw[decide_eq_false h4,if_neg (λh=>h4 h.2.2)];rintro r H' ⟨rfl,rfl⟩;repeat first|refine aE ?_|intro
  exact e1_
 rw[decide_eq_true h4,if_pos ⟨h2,h3,h4⟩];rintro r H' ⟨rfl,rfl⟩;repeat first|refine aE ?_|intro
 exact e1_
end
def bH.gV(e:bH)(now:Int):bH :=
 if e.pG=true∧e.nt<8 then(if e.Ab then { e with back:=e.back+1,cJ:=now } else { e with aW:=e.aW+1,last:=now }) else e
section
variable (E:Env) (e:bH) (now:Int)
theorem Xe(hok:e.ok):aK prog E 342 #[.agg e.cs.toArray,.int .i64 now] [] λr H'=>r=.returned (.agg (e.gV now).cs.toArray)∧H'=[]:=by
 have hb:=hok.2.2.2.2.1;have hs:=hok.2.2.1;unfold dQ at hb hs;refine t_ func342 ntmps342 ?_;repeat first|refine aE ?_|intro
 refine bK (λ(E':Env)=>OI E' e) ?_;repeat first|refine aE ?_|intro
 refine bK (λ(E':Env)=>Mr E' e) ?_;have htry:e.gV now=if e.pG=true∧e.nt<8 then(if e.Ab then { e with back:=e.back+1,cJ:=now } else { e with aW:=e.aW+1,last:=now }) else e:=rfl
 cases ho:e.pG
 ·rw[ho,if_neg (λh=>by cases h.1)] at htry;rw[htry];repeat first|refine aE ?_|intro
  exact e7_
 rw[ho] at htry;have hnt:e.nt=if e.Ab then e.back else e.aW:=rfl
 repeat first|refine aE ?_|intro
 by_cases h8:e.nt<8
 case neg =>
  rw[if_neg (λh=>h8 h.2)] at htry;rw[htry];repeat first|refine aE ?_|intro
  exact e7_
 rw[if_pos ⟨rfl,h8⟩] at htry;repeat first|refine aE ?_|intro
 refine bK (λ(E':Env)=>Gw E' e) ?_;cases hu:e.Ab
 ·rw[hu,if_neg aAl] at htry hnt;rw[htry];repeat first|refine aE ?_|intro
  exact e7_
 ·rw[hu,if_pos rfl] at htry hnt;rw[htry];repeat first|refine aE ?_|intro
  exact e7_
end
def bH.b3(e:bH):Bool:=decide (0≤e.back∧e.back≤8)&&(e.Ab||decide (e.back=0))
def bH.b4(e:bH):Bool:=decide (0≤e.last∧e.last≤1073741824)&&(decide (0≤e.cJ∧e.cJ≤1073741824)&&(decide (0<e.back)||decide (e.cJ=0)))
def bH.may(e:bH):Bool:=decide (1≤e.ord∧e.ord≤255)&&(decide (e.bC.check=0)&&(decide (1≤e.aW∧e.aW≤8)&&(e.b3&&e.b4)))
section
variable (E:Env) (e:bH)
theorem Jk:aK prog E 152 #[.agg e.cs.toArray] [] λr H'=>r=.returned (.bool e.may)∧H'=[]:=by
 refine t_ func152 ntmps152 ?_;unfold bH.may;repeat ((fail_if_success (refine C.seq (x:=Code.region 1 _ _) ?_));first|refine Cx ?_|refine He ?_|intro _|refine Dr.two ?_ ?_)
 rename_i g;refine C.cut (X:=Unit) (λ_=>[(1,.pointer (some ⟨g,0,none⟩)),(3,.bool e.b3)]) (λ_=>[aJ g 92 e.cs]) (λ_=>True) ?_ ?_
 ·unfold bH.b3;repeat first|refine aE ?_|intro
  refine bK (λ(E':Env)=>dV E' e.back 0 8) ?_;cases h1:decide (0≤e.back∧e.back≤8)
  ·repeat first|refine aE ?_|intro
   exact⟨(),aD,aA,trivial⟩
  ·repeat first|refine aE ?_|intro
   refine bK (λ(E':Env)=>Gw E' e) ?_;cases h2:e.Ab
   ·repeat first|refine aE ?_|intro
    exact⟨(),aD,aA,trivial⟩
   ·repeat first|refine aE ?_|intro
    exact⟨(),aD,aA,trivial⟩
 rintro - G -;refine C.cut (X:=Unit) (λ_=>[(1,.pointer (some ⟨g,0,none⟩)),(3,.bool e.b3),(4,.bool e.b4)]) (λ_=>[aJ g 92 e.cs]) (λ_=>True) ?_ ?_
 ·unfold bH.b4;repeat first|refine aE ?_|intro
  refine bK (λ(E':Env)=>dV E' e.last 0 1073741824) ?_;cases h1:decide (0≤e.last∧e.last≤1073741824)
  ·repeat first|refine aE ?_|intro
   exact⟨(),aD,aA,trivial⟩
  ·repeat first|refine aE ?_|intro
   refine bK (λ(E':Env)=>dV E' e.cJ 0 1073741824) ?_;cases h2:decide (0≤e.cJ∧e.cJ≤1073741824)
   ·repeat first|refine aE ?_|intro
    exact⟨(),aD,aA,trivial⟩
   ·by_cases h3:0<e.back
    ·rw[decide_eq_true h3];repeat first|refine aE ?_|intro
     exact⟨(),aD,aA,trivial⟩
    ·rw[decide_eq_false h3];repeat first|refine aE ?_|intro
     exact⟨(),aD,aA,trivial⟩
 rintro - G -;repeat first|refine aE ?_|intro
 refine bK (λ(E':Env)=>dV E' e.ord 1 255) ?_;cases h1:decide (1≤e.ord∧e.ord≤255)
 ·repeat first|refine aE ?_|intro
  exact e1_
 repeat first|refine aE ?_|intro
 refine bK (λ(E':Env)=>ES E' e.bC) ?_;generalize e.bC.check=k;by_cases h2:k=0
 case neg =>
  rw[decide_eq_false h2];repeat first|refine aE ?_|intro
  exact e1_
 rw[decide_eq_true h2];repeat first|refine aE ?_|intro
 refine bK (λ(E':Env)=>dV E' e.aW 1 8) ?_;cases h3:decide (1≤e.aW∧e.aW≤8)
 ·repeat first|refine aE ?_|intro
  exact e1_
 cases h4:e.b3
 ·repeat first|refine aE ?_|intro
  exact e1_
 ·repeat first|refine aE ?_|intro
  exact e1_
theorem bH.bY:e.may=true↔(1≤e.ord∧e.ord≤255)∧e.bC.check=0∧(1≤e.aW∧e.aW≤8)∧((0≤e.back∧e.back≤8)∧(e.Ab=true∨e.back=0))∧(0≤e.last∧e.last≤1073741824)∧(0≤e.cJ∧e.cJ≤1073741824)∧(0<e.back∨e.cJ=0):=by
 simp[bH.may,bH.b3,bH.b4,and_assoc]
end
end Go.Proofs.YtmilalkjbojciaaGreat.Sep
namespace Go.Proofs.YtmilalkjbojciaaGreat.Sep
def lost(want:List cQ)(l:List bH):Nat→Bool
 |0=>false
 |i+1=>lost want l i||(match l[i]? with|some e=>e.gone||decide (want[i]?≠some e.bC)|none=>false)
def bH.mark(e:bH)(g:Bool):bH:=⟨e.ord,e.bC,e.aW,e.last,e.cX,g,e.back,e.cJ⟩
def bH.qJ(e:bH):bH:=⟨e.ord,e.bC,e.aW,e.last,true,e.gone,e.back,e.cJ⟩
def settle(want:List cQ)(l:List bH):List bH:=l.mapIdx λi e=>e.mark (lost want l (i+1))
theorem dJ(want:List cQ)(l:List bH):(settle want l).length=l.length:=by simp[settle]
theorem lX{want:List cQ}{l:List bH}{i:Nat}{e:bH}(h:l[i]?=some e):(settle want l)[i]?=some (e.mark (lost want l (i+1))):=by
 simp[settle,h]
theorem nZ{want:List cQ}{l:List bH}{i:Nat}{e:bH}(h:l[i]?=some e):lost want l (i+1)=(lost want l i||(e.gone||decide (want[i]?≠some e.bC))):=by
 simp only[lost,h]
def pW(want:List cQ)(l:List bH)(i:Nat):List bH:=l.mapIdx λj e=>if j<i then e.mark (lost want l (j+1)) else e
theorem H5(want:List cQ)(l:List bH):pW want l 0=l:=by
 refine aCk λj=>?_;simp only[pW,aEh,aFk,if_false];cases l[j]?<;>rfl
theorem Mj{want:List cQ}{l:List bH}{n:Nat}(h:n=l.length):pW want l n=settle want l:=by
 refine aCk λj=>?_;simp only[pW,settle,aEh];cases hj:l[j]? with
 |none=>rfl
 |some e =>
  have:=(aAd.1 hj).1;simp only[aDi];rw[if_pos o_]
theorem P6{want:List cQ}{l:List bH}{i:Nat}{e:bH}(h:l[i]?=some e):(pW want l i)[i]?=some e:=by
 simp only[pW,aEh,h,aDi,Nat.lt_irrefl,if_false]
theorem ER(want:List cQ)(l:List bH)(i:Nat):(pW want l i).length=l.length:=by simp[pW]
theorem LN{want:List cQ}{l:List bH}{i:Nat}{e:bH}(h:l[i]?=some e):(pW want l i).set i (e.mark (lost want l (i+1)))=pW want l (i+1):=by
 have hi:=(aAd.1 h).1;refine aCk λj=>?_;rw[aDr,ER];by_cases hj:i=j
 ·subst hj;rw[if_pos rfl,if_pos hi];simp only[pW,aEh,h,aDi];rw[if_pos o_]
 ·rw[if_neg hj];simp only[pW,aEh];cases l[j]? with
  |none=>rfl
  |some x =>
   simp only[aDi];by_cases hlt:j<i
   ·rw[if_pos hlt,if_pos o_]
   ·rw[if_neg hlt,if_neg o_]
theorem CK{want:List cQ}{l:List bH}{i:Nat}{e:bH}(h:l[i]?=some e)(hy:lost want l i=true∨e.gone=true∨want.length≤i):lost want l (i+1)=true:=by
 rw[nZ h];rcases hy with h1|h1|h1
 ·rw[h1];rfl
 ·rw[h1];simp
 ·rw[aCo h1];simp
theorem Sj{want:List cQ}{l:List bH}{i:Nat}{e:bH}{w:cQ}(h:l[i]?=some e)(h1:lost want l i=false)(h2:e.gone=false)(hw:want[i]?=some w):lost want l (i+1) = !decide (e.bC=w):=by
 rw[nZ h,h1,h2,hw,Bool.false_or,Bool.false_or,aBz];simp;exact⟨λh e=>h e.symm,λh e=>h e.symm⟩
def fresh(id:bJ)(made:Int)(n:Nat)(want:List cQ):Option dK:=match want[n]? with|some f=>if made<255 then some ⟨⟨id,made+1,false⟩,f⟩ else none|none=>none
theorem Gm{id:bJ}{made:Int}{n:Nat}{want:List cQ}(h:want.length≤n∨255≤made):fresh id made n want=none:=by
 unfold fresh;split
 ·rename_i f hf;have:=(aAd.1 hf).1;exact if_neg o_
 ·rfl
theorem Mm{id:bJ}{made:Int}{n:Nat}{want:List cQ}{f:cQ}(h:want[n]?=some f)(h2:made<255):fresh id made n want=some ⟨⟨id,made+1,false⟩,f⟩:=by
 unfold fresh;rw[h];exact if_pos h2
theorem Bv{id:bJ}{made:Int}{n:Nat}{want:List cQ}{q:dK}(h:fresh id made n want=some q):made<255∧∃f,want[n]?=some f∧q=⟨⟨id,made+1,false⟩,f⟩:=by
 unfold fresh at h;split at h
 ·rename_i f hf;split at h
  ·injection h with h;exact⟨by assumption,f,hf,h.symm⟩
  ·cases h
 ·cases h
def AP(l:List bH):Option bH:=match l[l.length - 1]? with|some e=>if e.pG then some e else none|none=>none
theorem FA{l:List bH}{e:bH}(h:l[l.length - 1]?=some e)(ho:e.pG=true):AP l=some e:=by
 unfold AP;rw[h];exact if_pos ho
theorem Ch{l:List bH}{e:bH}(h:l[l.length - 1]?=some e)(ho:e.pG=false):AP l=none:=by
 unfold AP;rw[h];exact if_neg (by rw[ho];exact aAl)
theorem yZ{l:List bH}{e:bH}(h:AP l=some e):l[l.length - 1]?=some e∧e.pG=true:=by
 unfold AP at h;split at h
 ·rename_i x hx;split at h
  ·injection h with h;subst h;exact⟨hx,by assumption⟩
  ·cases h
 ·cases h
def next(id:bJ)(made:Int)(l:List bH)(want:List cQ):Option dK:=match AP l with
 |some e=>if e.nt<8 then some ⟨⟨id,e.ord,e.Ab⟩,e.bC⟩ else none
 |none=>fresh id made l.length want
abbrev rQ(q:dK)(now:Int):bH:=⟨q.key.ord,q.bC,1,now,false,false,0,0⟩
def pK(id:bJ)(made:Int)(l:List bH)(want:List cQ)(now:Int):Option (Int×List bH):=match next id made l want with
 |none=>none
 |some q=>match AP l with
  |some e=>some (made,l.set (l.length - 1) (e.gV now))
  |none=>some (made+1,l++[rQ q now])
def idx(p:bH→Bool)(l:List bH):Int:=match l.findIdx? p with|some i=>i|none => -1
theorem P4{p:bH→Bool}{l:List bH}(h:∀x∈l,p x=false):idx p l = -1:=by
 unfold idx;rw[aEp.2 h]
theorem OK{p:bH→Bool}{l:List bH}{i:Nat}{x:bH}(hx:l[i]?=some x)(hp:p x=true)(h:∀j y,j<i→l[j]?=some y→p y=false):idx p l=i:=by
 unfold idx;obtain⟨hi,he⟩:=aAd.1 hx;rw[aDj.2 ⟨hi,by rw[he];exact hp,λj hj=>by rw[h j l[j] hj (aAa o_)];exact aAl⟩]
def cX(id:bJ)(l:List bH)(k:bP):Option (List bH) :=
 if k.id≠id then none else match l.findIdx? λe=>decide (e.ord=k.ord) with
 |none=>none
 |some i=>match l[i]? with
  |none=>none
  |some e=>if (!k.cD && !e.cX)=true then some (l.set i e.qJ) else if (k.cD&&(e.Ab&&(decide (1≤e.back)&&decide (i+1=l.length))))=true then some (l.take i) else none
def quiet(l:List bH)(want:List cQ):Bool:=decide (l.length=want.length)&&l.all λe => !e.pG
def Ej(id:bJ)(made:Int)(l:List bH)(want:List cQ)(g:fU)(now:Int):Bool:=(next id made l want).isSome&&(match AP l with|some e=>e.ready g now|none=>decide (1≤g.dC))
theorem rN{id:bJ}{l:List bH}{k:bP}(h:k.id≠id∨l.findIdx? (λe=>decide (e.ord=k.ord))=none):cX id l k=none:=by
 unfold cX;by_cases h1:k.id≠id
 ·exact if_pos h1
 ·rw[if_neg h1];rcases h with h|h
  ·exact absurd h h1
  ·rw[h]
theorem HP{id:bJ}{l:List bH}{k:bP}{i:Nat}{e:bH}(h1:k.id=id)(h2:l.findIdx? (λe=>decide (e.ord=k.ord))=some i)(h3:l[i]?=some e) :
  cX id l k=if (!k.cD && !e.cX)=true then some (l.set i e.qJ) else if (k.cD&&(e.Ab&&(decide (1≤e.back)&&decide (i+1=l.length))))=true then some (l.take i) else none:=by
 unfold cX;rw[if_neg (λh=>h h1),h2];dsimp only;rw[h3]
theorem KI{p:bH→Bool}{l:List bH}{i:Nat}(h:l.findIdx? p=some i):∃e,l[i]?=some e∧p e=true:=by
 obtain⟨hi,h1,_⟩:=aDj.1 h;exact⟨l[i],aAa hi,h1⟩
theorem QE{e:bH}{now:Int}(ho:e.pG=true):decide (e.gV now=e)=decide (8≤e.nt):=by
 have hb:e.nt=if e.Ab then e.back else e.aW:=rfl
 unfold bH.gV;by_cases h:e.nt<8
 ·rw[if_pos ⟨ho,h⟩,decide_eq_false (show ¬8≤e.nt by omega)];refine decide_eq_false λhe=>?_;cases hu:e.Ab
  ·rw[hu,if_neg aAl] at he;have:=congrArg bH.aW he;dsimp only at this;omega
  ·rw[hu,if_pos rfl] at he;have:=congrArg bH.back he;dsimp only at this;omega
 ·rw[if_neg (λh2=>h h2.2),decide_eq_true rfl,decide_eq_true (show 8≤e.nt by omega)]
structure dS where
 made:Int
 l:List bH
 w:List cQ
def dS.Yr(s:dS)(id:bJ):Option dK:=next id s.made s.l s.w
def dS.gV(s:dS)(id:bJ)(now:Int):dS:=⟨((pK id s.made s.l s.w now).getD (s.made,s.l)).1,((pK id s.made s.l s.w now).getD (s.made,s.l)).2,s.w⟩
def dS.qJ(s:dS)(id:bJ)(k:bP):dS:=⟨s.made,(cX id s.l k).getD s.l,s.w⟩
structure dS.ok(s:dS):Prop where
 sE:∀e∈s.l,e.ok
 Lk:∀f∈s.w,f.ok
 tS:0≤s.made
 nK:s.made≤255
 len:(s.l.length:Int)≤s.made
 wide:s.w.length≤8
theorem bH.RN{e:bH}{g:Bool}(h:e.ok):(e.mark g).ok:=h
theorem bH.Ez{e:bH}(h:e.ok):e.qJ.ok:=h
theorem D0{want:List cQ}{l:List bH}(h:∀e∈l,e.ok):∀e∈settle want l,e.ok:=by
 intro e he;obtain⟨i,hi,rfl⟩:=aBm he;rw[dJ] at hi;have hx:l[i]?=some l[i]:=aAa hi;have hs:=lX (want:=want) hx;rw[aAa (by rw[dJ];exact hi)] at hs;injection hs with hs
 rw[hs];exact bH.RN (h _ (aCs _))
theorem bH.FI{e:bH}{now:Int}(h:e.ok)(hn:dQ now):(e.gV now).ok:=by
 unfold bH.gV;have hb:e.nt=if e.Ab then e.back else e.aW:=rfl
 split
 ·rename_i hh;obtain⟨q0,q1,q2,q3,q4,q5⟩:=h;unfold dQ at q2 q4;split
  ·rename_i hu;rw[if_pos hu] at hb;exact⟨q0,q1,q2,q3,by unfold dQ;dsimp only;omega,hn⟩
  ·rename_i hu;rw[if_neg hu] at hb;exact⟨q0,q1,by unfold dQ;dsimp only;omega,hn,q4,q5⟩
 ·exact h
theorem Hm{id:bJ}{made:Int}{l:List bH}{want:List cQ}{now:Int}(h:next id made l want=none):pK id made l want now=none:=by
 unfold pK;rw[h]
theorem MA{id:bJ}{made:Int}{l:List bH}{want:List cQ}{now:Int}{q:dK}{e:bH}(h:next id made l want=some q)(ht:AP l=some e):pK id made l want now=some (made,l.set (l.length - 1) (e.gV now)):=by
 unfold pK;rw[h,ht]
theorem MQ{id:bJ}{made:Int}{l:List bH}{want:List cQ}{now:Int}{q:dK}(h:next id made l want=some q)(ht:AP l=none):pK id made l want now=some (made+1,l++[rQ q now]):=by
 unfold pK;rw[h,ht]
theorem HJ{s:dS}{id:bJ}{now:Int}:s.gV id now=s∨(∃e,AP s.l=some e∧e.nt<8∧s.gV id now=⟨s.made,s.l.set (s.l.length - 1) (e.gV now),s.w⟩) ∨
  (∃f,AP s.l=none∧s.made<255∧s.w[s.l.length]?=some f∧s.gV id now=⟨s.made+1,s.l++[rQ ⟨⟨id,s.made+1,false⟩,f⟩ now],s.w⟩):=by
 cases hq:next id s.made s.l s.w with
 |none =>
  refine .inl ?_;unfold dS.gV;rw[Hm hq];rfl
 |some q =>
  cases ht:AP s.l with
  |some e =>
   refine .inr (.inl ⟨e,rfl,?_,?_⟩)
   ·unfold next at hq;rw[ht] at hq;dsimp only at hq;by_cases h8:e.nt<8
    ·exact h8
    ·rw[if_neg h8] at hq;cases hq
   ·unfold dS.gV;rw[MA hq ht];rfl
  |none =>
   have hq2:=hq;unfold next at hq2;rw[ht] at hq2;obtain⟨h1,f,h2,rfl⟩:=Bv hq2;refine .inr (.inr ⟨f,rfl,h1,h2,?_⟩);unfold dS.gV;rw[MQ hq ht];rfl
theorem G7{s:dS}{id:bJ}{k:bP}:s.qJ id k=s∨(∃i e,s.l[i]?=some e∧e.ord=k.ord∧e.cX=false∧s.qJ id k=⟨s.made,s.l.set i e.qJ,s.w⟩) ∨
  (∃i e,s.l[i]?=some e∧e.Ab=true∧1≤e.back∧i+1=s.l.length∧s.qJ id k=⟨s.made,s.l.take i,s.w⟩):=by
 by_cases h1:k.id=id
 case neg=>exact .inl (by unfold dS.qJ;rw[rN (.inl h1)];rfl)
 cases hf:s.l.findIdx? (λe=>decide (e.ord=k.ord)) with
 |none=>exact .inl (by unfold dS.qJ;rw[rN (.inr hf)];rfl)
 |some i =>
  obtain⟨e,he,hk⟩:=KI hf;have hak:=HP h1 hf he;have hk:=of_decide_eq_true hk;by_cases h2:(!k.cD && !e.cX)=true
  ·rw[if_pos h2] at hak;have h2:k.cD=false∧e.cX=false:=by simpa using h2
   exact .inr (.inl ⟨i,e,he,hk,h2.2,by unfold dS.qJ;rw[hak];rfl⟩)
  ·rw[if_neg h2] at hak;by_cases h3:(k.cD&&(e.Ab&&(decide (1≤e.back)&&decide (i+1=s.l.length))))=true
   ·rw[if_pos h3] at hak;have h3:k.cD=true∧e.Ab=true∧1≤e.back∧i+1=s.l.length:=by simpa using h3
    exact .inr (.inr ⟨i,e,he,h3.2.1,h3.2.2.1,h3.2.2.2,by unfold dS.qJ;rw[hak];rfl⟩)
   ·rw[if_neg h3] at hak;exact .inl (by unfold dS.qJ;rw[hak];rfl)
theorem dS.FI{s:dS}{id:bJ}{now:Int}(h:s.ok)(hn:dQ now):(s.gV id now).ok:=by
 rcases HJ (s:=s) (id:=id) (now:=now) with h1|⟨e,ht,_,h1⟩|⟨f,ht,hm,hf,h1⟩
 ·rw[h1];exact h
 ·rw[h1];obtain⟨he,_⟩:=yZ ht;refine⟨λx hx=>?_,h.Lk,h.tS,h.nK,by rw[aAt];exact h.len,h.wide⟩;rcases aCr hx with h2|rfl
  ·exact h.sE x h2
  ·exact bH.FI (h.sE e (aAi he)) hn
 ·rw[h1];have h0:=h.tS;have hl:=h.len;refine⟨λx hx=>?_,h.Lk,by dsimp only;omega,by dsimp only;omega,by simp;omega,h.wide⟩;rcases aBg.1 hx with h2|h2
  ·exact h.sE x h2
  ·rw[aAp] at h2;subst h2;refine⟨by unfold dQ;dsimp only;omega,h.Lk f (aAi hf),by unfold dQ;dsimp only;omega,hn,by unfold dQ;dsimp only;omega,by unfold dQ;dsimp only;omega⟩
theorem dS.Ez{s:dS}{id:bJ}{k:bP}(h:s.ok):(s.qJ id k).ok:=by
 rcases G7 (s:=s) (id:=id) (k:=k) with h1|⟨i,e,he,_,_,h1⟩|⟨i,e,he,_,_,hi,h1⟩
 ·rw[h1];exact h
 ·rw[h1];refine⟨λx hx=>?_,h.Lk,h.tS,h.nK,by rw[aAt];exact h.len,h.wide⟩;rcases aCr hx with h2|rfl
  ·exact h.sE x h2
  ·exact bH.Ez (h.sE e (aAi he))
 ·rw[h1];have hl:=h.len;exact⟨λx hx=>h.sE x (aBs hx),h.Lk,h.tS,h.nK,by dsimp only;rw[aAg];omega,h.wide⟩
end Go.Proofs.YtmilalkjbojciaaGreat.Sep
namespace Go.Proofs.YtmilalkjbojciaaGreat.Sep
open Go.RowKit Reg
open Mem hiding Rd
abbrev Js(id:bJ)(made:Int)(A:Option Addr)(n c:Nat):Value:=.agg #[.int .i64 id.rep,.int .i64 id.seq,.int .i64 made,.slice A n c]
section
variable (E:Env) (id:bJ) (made:Int) (A:Option Addr) (n c:Nat) (l:List bH)
theorem UF(hr:Rd E fH A n c l)(hl:n≤1000000):aK prog E 217 #[.slice A n c] [] λr H'=>∃A' c',r=.returned (.slice A' n c')∧(n≤c'∧c'≤maxLen)∧H'=[own fH A' n c' l]:=by
 refine t_ func217 ntmps217 ?_;cases A with
 |none =>
  obtain⟨rfl,rfl⟩:=hr.none;repeat first|refine aE ?_|intro
  exact aR rfl aF (aB.oR fH none) ⟨none,0,rfl,⟨aAf _,aAh _⟩,rfl⟩
 |some a =>
  repeat first|refine aE ?_|intro
  rename_i A' c' h1 h2;exact jQ ⟨_,_,rfl,⟨h1,h2⟩,rfl⟩
theorem Cq(hr:Rd E fH A n c l)(hl:n≤1000000):aK prog E 162 #[Js id made A n c] [] λr H'=>∃A' c',r=.returned (Js id made A' n c')∧(n≤c'∧c'≤maxLen)∧H'=[own fH A' n c' l]:=by
 refine t_ func162 ntmps162 ?_;repeat first|refine aE ?_|intro
 refine dX (λ(E':Env) h1=>UF E' A n c l h1 hl) ?_;rintro r H' ⟨A',c',rfl,hc,rfl⟩;repeat first|refine aE ?_|intro
 apply cI;(· exact rfl);(· exact aF);(· exact rfl);(· exact rfl);(· exact rfl);(· exact aS);(· exact rfl);rotate_left;(· exact(⟨_,_,rfl,hc,rfl⟩));(· exact aA)
theorem W8(hr:Rd E fH A n c l)(f:FuncId)(fn:Func)(hfn:prog.funcs[f]?=some fn)(hname:(fn.name == "runtime.NumGoroutine")=false)(hbody:fn.body.isNone=false)(cs:List Value)(p:bH→Bool)
  (hcall:∀E' R,Sub E R E'→∀x:bH,aK prog E' f (.agg x.cs.toArray::cs).toArray [] λr H'=>r=.returned (.bool (p x))∧H'=[]) :
  aK prog E 309 #[.slice A n c,.func (.func f) #[] cs.toArray] [] λr H'=>r=.returned (.int .i64 (idx p l))∧H'=[]:=by
 have hn:=hr.len;have hcap:=hr.cap;refine t_ func309 ntmps309 ?_;repeat first|refine aE ?_|intro
 refine C.loop (X:=Nat) (λi=>[(0,.slice A n c),(1,.func (.func f) #[] cs.toArray),(7,.int .i64 n),(8,.int .i64 i)]) (λ_=>[]) (λi=>i≤n∧∀j y,j<i→l[j]?=some y→p y=false) (λi=>n - i) 0 aD aB.refl ⟨aAh _,λj y hj=>by omega⟩ ?_;rintro i G ⟨hi,hall⟩;by_cases hlt:i<n
 ·have hx:l[i]?=some l[i]:=aAa o_;generalize l[i]=x at hx;have hmax:=fX;repeat first|refine aE ?_|intro
  refine L.step sD (S.wB rfl rfl rfl rfl hfn hname hbody aC (λE' hE=>hcall E' _ hE x) ?_);rintro r H' ⟨rfl,rfl⟩;refine gk bG ?_;cases hp:p x
  ·repeat first|refine aE ?_|intro
   refine⟨i+1,aD,aB.refl,⟨by omega,λj y hj hy=>?_⟩,by omega⟩;by_cases hji:j=i
   ·subst hji;rw[hx] at hy;injection hy with hy;subst hy;exact hp
   ·exact hall j y o_ hy
  ·rw[OK hx hp hall];repeat first|refine aE ?_|intro
   exact e1_
 ·obtain rfl:i=n:=by omega
  rw[P4 (λx hx=>by obtain⟨j,hj,rfl⟩:=aBm hx;exact hall j _ o_ (aAa hj))];repeat first|refine aE ?_|intro
  exact e1_
theorem Wg(hr:Rd E fH A n c l):aK prog E 266 #[.slice A n c,.func (.func 267) #[] #[]] [] λr H'=>r=.returned (.bool (l.any (·.pG)))∧H'=[]:=by
 refine t_ func266 ntmps266 ?_;have hany:decide (0≤idx (·.pG) l)=l.any (·.pG):=by
  unfold idx;cases h:l.findIdx? (·.pG) with
  |none =>
   rw[aEp] at h;rw[aBz];simp;exact h
  |some i =>
   rw[aDj] at h;obtain⟨hi,h1,_⟩:=h;rw[aEm.2 ⟨_,aCs hi,h1⟩];exact decide_eq_true (aFo i)
 repeat first|refine aE ?_|intro
 refine cl sD sK aC (λE' hE=>W8 E' A n c l dB _ _ func267 q_ rfl [] (·.pG) (λE2 _ _ x=>Mr E2 x)) ?_;rintro r H' ⟨rfl,rfl⟩;repeat first|refine aE ?_|intro
 exact aR rfl aF aA (⟨by rw[hany],rfl⟩)
theorem Vi(hr:Rd E fH A n c l):aK prog E 277 #[Js id made A n c] [] λr H'=>r=.returned (.tuple #[.agg ((l[l.length - 1]?).getD El).cs.toArray,.bool (l[l.length - 1]?).isSome])∧H'=[]:=by
 have hn:=hr.len;have hcap:=hr.cap;have hmax:=fX;refine t_ func277 ntmps277 ?_;by_cases h0:n=0
 ·rw[aCo o_];dsimp only[Option.getD,Option.isSome];repeat first|refine aE ?_|intro
  exact e8_
 ·have hs:IntKind.i64.wrap ((n:Int) - 1)=((n - 1:Nat):Int):=by rw[aAq _ o_];omega
  have hx:l[n - 1]?=some l[n - 1]:=aAa o_;rw[←hn,hx];dsimp only[Option.getD,Option.isSome];generalize l[n - 1]=e at hx;repeat first|refine aE ?_|intro
  exact e8_
theorem Y6(e:bH):aK prog E 343 #[Js id made A n c,.agg e.cs.toArray] [] λr H'=>r=.returned (.agg (⟨id,e.ord,e.Ab⟩:bP).cs.toArray)∧H'=[]:=by
 refine t_ func343 ntmps343 ?_;repeat first|refine aE ?_|intro
 refine C.bL 7 (l_ [0,1,2,3,4] (g_ 5 (n_ 6 (g_ 7 .nil)))) _ q_ q_ aB.refl ?_;repeat first|refine aE ?_|intro
 refine eJ (λ(E':Env)=>Gw E' e) ?_;repeat first|refine aE ?_|intro
 exact e7_
abbrev Ra(q:Option dK)(r:Ending):Prop:=r=.returned (.tuple #[.agg (q.getD wN).cs.toArray,.bool q.isSome])
theorem Sn(x y:bH):decide ((⟨x.ord,⟨x.bC.kind,x.bC.a,x.bC.n,⟨x.bC.ref.rep,x.bC.ref.seq⟩⟩,x.aW,x.last,x.cX,x.gone,x.back,x.cJ⟩:bH)=⟨y.ord,⟨y.bC.kind,y.bC.a,y.bC.n,⟨y.bC.ref.rep,y.bC.ref.seq⟩⟩,y.aW,y.last,y.cX,y.gone,y.back,y.cJ⟩)=decide (x=y):=rfl
theorem yJ(want:List cQ)(X:Option Addr)(nx cx:Nat)(hr:Rd E fH A n c l)(hw:Rd E eG X nx cx want)(hok:∀e∈l,e.ok)(hm:dQ made) :
  aK prog E 292 #[Js id made A n c,.slice X nx cx] [] λr H'=>Ra (next id made l want) r∧H'=[]:=by
 have hn:=hr.len;have hcap:=hr.cap;have hnw:=hw.len;have hcw:=hw.cap;have hmax:=fX;unfold dQ at hm;unfold Ra;refine t_ func292 ntmps292 ?_;repeat first|refine aE ?_|intro
 refine eV (λ(E':Env)=>Vi E' id made A n c l) ?_;repeat ((fail_if_success (refine C.seq (x:=Code.region 2 _ _) ?_));first|refine Cx ?_|refine He ?_|intro _|refine Dr.two ?_ ?_)
 rename_i g2 g4 g6;have hq:∃q,l[l.length - 1]?=q:=⟨_,rfl⟩
 obtain⟨q,hq⟩:=hq;rw[hq];refine C.cut (X:=Unit) (λ_=>[(1,.slice X nx cx),(2,.pointer (some ⟨g2,0,none⟩)),(4,.pointer (some ⟨g4,0,none⟩)),(6,.pointer (some ⟨g6,0,none⟩)),(13,.bool (AP l).isSome)]) (λ_=>[aJ g6 92 (q.getD El).cs,aJ g4 79 wN.cs,aJ g2 90 [.int .i64 id.rep,.int .i64 id.seq,.int .i64 made,.slice A n c]]) (λ_=>True) ?_ ?_
 ·cases q with
  |none =>
   have ht:AP l=none:=by unfold AP;rw[hq]
   rw[ht];dsimp only[Option.getD,Option.isSome];repeat first|refine aE ?_|intro
   exact⟨(),aD,aA,trivial⟩
  |some e =>
   dsimp only[Option.getD,Option.isSome];repeat first|refine aE ?_|intro
   refine bK (λ(E':Env)=>Mr E' e) ?_;cases ho:e.pG
   ·rw[Ch hq ho];dsimp only[Option.isSome];repeat first|refine aE ?_|intro
    exact⟨(),aD,aA,trivial⟩
   ·rw[FA hq ho];dsimp only[Option.isSome];repeat first|refine aE ?_|intro
    exact⟨(),aD,aA,trivial⟩
 rintro - G -;unfold next;cases htip:AP l with
 |some e =>
  obtain⟨he,ho⟩:=yZ htip;rw[hq] at he;subst he;have heok:e.ok:=hok e (aAi hq);dsimp only[Option.getD,Option.isSome];obtain⟨w,hw1⟩:∃w,IntKind.i64.wrap (e.last+1)=w:=⟨_,rfl⟩
  have hd:=(Sn (e.gV w) e).trans (QE ho);repeat first|refine aE ?_|intro
  refine rA (l_ [0,1,2,3,5] (g_ 4 (n_ 6 .nil))) ?_;repeat first|refine aE ?_|intro
  refine iO (λ(E':Env)=>Xe E' e w heok) ?_;generalize e.gV w=x at *;rintro r H' ⟨rfl,rfl⟩;refine gd bG aA ?_;by_cases h8:e.nt<8
  ·rw[if_pos h8];rw[decide_eq_false (show ¬8≤e.nt by omega)] at hd;dsimp only[Option.getD,Option.isSome];repeat first|refine aE ?_|intro
   refine rB (l_ [0,1,3,4] (g_ 2 (n_ 5 (g_ 6 (n_ 7 .nil))))) ([aJ g6 92 e.cs,aJ g2 90 [.int .i64 id.rep,.int .i64 id.seq,.int .i64 made,.slice A n c]]) ?_;repeat first|refine aE ?_|intro
   refine eJ (λ(E':Env)=>Y6 E' id made A n c e) ?_;repeat first|refine aE ?_|intro
   exact e8_
  ·rw[if_neg h8];rw[decide_eq_true (show 8≤e.nt by omega)] at hd;dsimp only[Option.getD,Option.isSome];repeat first|refine aE ?_|intro
   exact e8_
 |none =>
  dsimp only[Option.getD,Option.isSome];by_cases h1:nx≤n
  ·rw[Gm (.inl o_)];dsimp only[Option.getD,Option.isSome];repeat first|refine aE ?_|intro
   exact e8_
  by_cases h2:255≤made
  ·rw[Gm (.inr h2)];dsimp only[Option.getD,Option.isSome];repeat first|refine aE ?_|intro
   exact e8_
  have hx:want[n]?=some want[n]:=aAa o_;rw[←hn,Mm hx o_];dsimp only[Option.getD,Option.isSome];generalize want[n]=f at hx;repeat first|refine aE ?_|intro
  refine rB (l_ [0,1,2,3,4,5,6,7,8,9,10,11,12] (g_ 13 (n_ 14 .nil))) ([aJ g2 90 [.int .i64 id.rep,.int .i64 id.seq,.int .i64 made,.slice A n c]]) ?_;repeat first|refine aE ?_|intro
  exact e8_
end
theorem RZ(x y:cQ):decide ((⟨x.kind,x.a,x.n,⟨x.ref.rep,x.ref.seq⟩⟩:cQ)=⟨y.kind,y.a,y.n,⟨y.ref.rep,y.ref.seq⟩⟩)=decide (x=y):=rfl
theorem Oa(e:bH)(b:Bool):Ba fH e 9 (.bool b) (e.mark b):=Ba.Yu rfl sD rfl
section
variable (E:Env) (id:bJ) (made:Int) (A:Option Addr) (n c:Nat) (l:List bH) (want:List cQ) (X:Option Addr) (nx cx:Nat)
theorem KH(hr:Rd E fH A n c l)(hw:Rd E eG X nx cx want)(hl:n≤1000000) :
  aK prog E 349 #[Js id made A n c,.slice X nx cx] [] λr H'=>∃A' c',r=.returned (Js id made A' n c')∧(n≤c'∧c'≤maxLen)∧H'=[own fH A' n c' (settle want l)]:=by
 have hn:=hr.len;have hnw:=hw.len;have hcw:=hw.cap;have hmax:=fX;refine t_ func349 ntmps349 ?_;repeat first|refine aE ?_|intro
 refine dX (λ(E':Env) h1=>Cq E' id made A n c l h1 hl) ?_;rintro r H' ⟨A',c',rfl,⟨hc1,hc2⟩,rfl⟩;repeat first|refine aE ?_|intro
 rename_i g2 g4;refine C.loop (X:=Nat) (λi=>[(1,.slice X nx cx),(2,.pointer (some ⟨g2,0,none⟩)),(4,.pointer (some ⟨g4,0,none⟩)),(5,.bool (lost want l i)),(11,.slice A' n c'),(12,.int .i64 n),(13,.int .i64 i)])
  (λi=>[aJ g2 90 [.int .i64 id.rep,.int .i64 id.seq,.int .i64 made,.slice A' n c'],aJ g4 90 [.int .i64 0,.int .i64 0,.int .i64 0,.slice none 0 0],own fH A' n c' (pW want l i)]) (λi=>i≤n) (λi=>n - i) 0 aD (by rw[H5];exact aA) (aAh _) ?_
 rintro i G hi;by_cases hlt:i<n
 ·have hx:l[i]?=some l[i]:=aAa o_;generalize l[i]=e at hx;have hst:=P6 (want:=want) hx;have hf:=Oa e (lost want l (i+1));repeat ((fail_if_success (refine C.seq (x:=Code.region 6 _ _) ?_));first|refine Cx ?_|refine He ?_|intro _|refine Dr.two ?_ ?_)
  rename_i g7;refine C.cut (X:=Unit) (λ_=>[(1,.slice X nx cx),(2,.pointer (some ⟨g2,0,none⟩)),(4,.pointer (some ⟨g4,0,none⟩)),(5,.bool (lost want l (i+1))),(6,.int .i64 i),(11,.slice A' n c'),(12,.int .i64 n),(13,.int .i64 i)])
   (λ_=>[aJ g2 90 [.int .i64 id.rep,.int .i64 id.seq,.int .i64 made,.slice A' n c'],aJ g4 90 [.int .i64 0,.int .i64 0,.int .i64 0,.slice none 0 0],own fH A' n c' (pW want l i)]) (λ_=>True) ?_ ?_
  ·clear hf;cases h1:lost want l i
   case true =>
    rw[CK hx (.inl h1)];repeat first|refine aE ?_|intro
    refine rA (l_ [0,1,2,3,4,5,6,7,8,9,10,11,12,13,14,15,16,17,18,19,20] .nil) ?_;repeat first|refine aE ?_|intro
    exact⟨(),aD,aA,trivial⟩
   cases h2:e.gone
   case true =>
    rw[CK hx (.inr (.inl h2))];repeat first|refine aE ?_|intro
    refine rA (l_ [0,1,2,3,4,5,6,7,8,9,10,11,12,13,14,15,16,17,18,19,20] .nil) ?_;repeat first|refine aE ?_|intro
    exact⟨(),aD,aA,trivial⟩
   by_cases h3:nx≤i
   ·rw[CK hx (.inr (.inr o_))];repeat first|refine aE ?_|intro
    refine rA (l_ [0,1,2,3,4,5,6,7,8,9,10,11,12,13,14,15,16,17,18,19,20] .nil) ?_;repeat first|refine aE ?_|intro
    exact⟨(),aD,aA,trivial⟩
   have hwx:want[i]?=some want[i]:=aAa o_;rw[Sj hx h1 h2 hwx];generalize want[i]=w at hwx;rw[←RZ];repeat first|refine aE ?_|intro
   refine rA (l_ [0,1,2,3,4,5,6,7,8,9,10,11,12,13,14,15,16,17,18,19,20] .nil) ?_;repeat first|refine aE ?_|intro
   exact⟨(),aD,aA,trivial⟩
  rintro - G -;have hss:=LN (want:=want) hx;generalize hb:lost want l (i+1)=b at *;repeat first|refine aE ?_|intro
  exact⟨i+1,by rw[hb];exact aD,by rw[←hss];exact aA,by omega,by omega⟩
 ·obtain rfl:i=n:=by omega
  rw[Mj hn];repeat first|refine aE ?_|intro
  apply cI;(· exact rfl);(· exact aF);(· exact rfl);(· exact rfl);(· exact rfl);(· exact aS);(· exact rfl);rotate_left;(· exact(⟨_,_,rfl,⟨hc1,hc2⟩,rfl⟩));(· exact aA)
end
theorem J4(x y:bJ):decide ((⟨x.rep,x.seq⟩:bJ)=⟨y.rep,y.seq⟩)=decide (x=y):=rfl
theorem Ro(e:bH):Ba fH e 8 (.bool true) e.qJ:=Ba.Yu rfl sD rfl
def BJ(id:bJ)(t:Option (Int×List bH))(d:Int×List bH):Ending→List aL→Prop:=λr H' =>
 ∃A' n' c',r=.returned (.tuple #[Js id (t.getD d).1 A' n' c',.bool t.isSome])∧n'=(t.getD d).2.length∧(n'≤c'∧c'≤maxLen)∧H'=[own fH A' n' c' (t.getD d).2]
def BC(id:bJ)(made:Int)(a:Option (List bH))(l:List bH):Ending→List aL→Prop:=λr H' =>
 ∃A' n' c',r=.returned (.tuple #[Js id made A' n' c',.bool a.isSome])∧n'=(a.getD l).length∧(n'≤c'∧c'≤maxLen)∧H'=[own fH A' n' c' (a.getD l)]
theorem Yn(E:Env)(x:bH)(g:Nat)(o:Int)(hk:qP E ⟨g,2,none⟩ (.int .i64 o)):aK prog E 347 #[.agg x.cs.toArray,.pointer (some ⟨g,0,none⟩)] [] λr H'=>r=.returned (.bool (decide (x.ord=o)))∧H'=[]:=by
 refine t_ func347 ntmps347 ?_;repeat first|refine aE ?_|intro
 exact e1_
section
variable (E:Env) (id:bJ) (made:Int) (A:Option Addr) (n c:Nat) (l:List bH) (want:List cQ) (X:Option Addr) (nx cx:Nat)
theorem YM(now:Int)(hr:Rd E fH A n c l)(hw:Rd E eG X nx cx want)(hl:n≤1000000)(hok:∀e∈l,e.ok)(hm:dQ made) :
  aK prog E 306 #[Js id made A n c,.slice X nx cx,.int .i64 now] [] (BJ id (pK id made l want now) (made,l)):=by
 have hn:=hr.len;have hmax:=fX;have hm2:=hm;unfold dQ at hm2;unfold BJ;refine t_ func306 ntmps306 ?_;repeat first|refine aE ?_|intro
 refine DY (λ(E':Env) h1 h2=>yJ E' id made A n c l want X nx cx h1 h2 hok hm) ?_;repeat first|refine aE ?_|intro
 refine dX (λ(E':Env) h1=>Cq E' id made A n c l h1 hl) ?_;rintro r H' ⟨A',c',rfl,⟨hc1,hc2⟩,rfl⟩;refine gk bG ?_;unfold pK;cases hq:next id made l want with
 |none =>
  dsimp only[Option.getD,Option.isSome];repeat first|refine aE ?_|intro
  apply gS;(· exact rfl);(· exact aF);(· exact rfl);(· exact rfl);(· exact rfl);(· exact aS);(· exact rfl);(· exact aF);rotate_left;(· exact(⟨_,_,_,rfl,hn,⟨hc1,hc2⟩,rfl⟩));(· exact aA)
 |some q =>
  dsimp only[Option.getD,Option.isSome];repeat first|refine aE ?_|intro
  refine eV (λ(E':Env)=>Vi E' id made A' n c' l) ?_;repeat ((fail_if_success (refine C.seq (x:=Code.region 6 _ _) ?_));first|refine Cx ?_|refine He ?_|intro _|refine Dr.two ?_ ?_)
  rename_i g3 g6 g8 g10;have hz:∃z,l[l.length - 1]?=z:=⟨_,rfl⟩
  obtain⟨z,hz⟩:=hz;rw[hz];refine C.cut (X:=Unit) (λ_=>[(2,.int .i64 now),(3,.pointer (some ⟨g3,0,none⟩)),(6,.pointer (some ⟨g6,0,none⟩)),(8,.pointer (some ⟨g8,0,none⟩)),(10,.pointer (some ⟨g10,0,none⟩)),(32,.bool (AP l).isSome)]) (λ_=>[aJ g10 92 (z.getD El).cs,aJ g8 79 q.cs,aJ g6 90 [.int .i64 0,.int .i64 0,.int .i64 0,.slice none 0 0],aJ g3 90 [.int .i64 id.rep,.int .i64 id.seq,.int .i64 made,.slice A' n c'],own fH A' n c' l]) (λ_=>True) ?_ ?_
  ·cases z with
   |none =>
    have ht:AP l=none:=by unfold AP;rw[hz]
    rw[ht];dsimp only[Option.getD,Option.isSome];repeat first|refine aE ?_|intro
    exact⟨(),aD,aA,trivial⟩
   |some e =>
    dsimp only[Option.getD,Option.isSome];repeat first|refine aE ?_|intro
    refine bK (λ(E':Env)=>Mr E' e) ?_;cases ho:e.pG
    ·rw[Ch hz ho];dsimp only[Option.isSome];repeat first|refine aE ?_|intro
     exact⟨(),aD,aA,trivial⟩
    ·rw[FA hz ho];dsimp only[Option.isSome];repeat first|refine aE ?_|intro
     exact⟨(),aD,aA,trivial⟩
  rintro - G -;cases htip:AP l with
  |some e =>
   obtain⟨he,ho⟩:=yZ htip;rw[hz] at he;subst he;have heok:e.ok:=hok e (aAi hz);have hlt:=(aAd.1 hz).1;have hs:IntKind.i64.wrap ((n:Int) - 1)=((n - 1:Nat):Int):=by rw[aAq _ o_];omega
   rw[←hn] at hz;rw[←hn];dsimp only[Option.getD,Option.isSome];repeat first|refine aE ?_|intro
   refine C.bL 10 (l_ [0,1,2,3,4,5,6,7] (g_ 8 (n_ 9 (g_ 10 .nil)))) _ q_ q_ aB.refl ?_;repeat first|refine aE ?_|intro
   refine iO (λ(E':Env)=>Xe E' e now heok) ?_;generalize e.gV now=x;rintro r H' ⟨rfl,rfl⟩;repeat first|refine aE ?_|intro
   apply gS;(· exact rfl);(· exact aF);(· exact rfl);(· exact rfl);(· exact rfl);(· exact aS);(· exact rfl);(· exact aF);rotate_left;(· exact(⟨_,_,_,rfl,by simp[hn],⟨hc1,hc2⟩,rfl⟩));(· exact aA)
  |none =>
   unfold next at hq;rw[htip] at hq;obtain⟨hlt,_⟩:=Bv hq;dsimp only[Option.getD,Option.isSome];repeat first|refine aE ?_|intro
   refine L.fQ sD (S.cB (T:=fH) (e:=(rQ q now)) rfl rfl rfl rfl sD) ?_;rintro _ _ ⟨_,rfl,rfl⟩;repeat first|refine aE ?_|intro
   rename_i h1 h2;apply gS;(· exact rfl);(· exact aF);(· exact rfl);(· exact rfl);(· exact rfl);(· exact aS);(· exact rfl);(· exact aF);rotate_left;(· exact(⟨_,_,_,rfl,by simp[hn],⟨h1,h2⟩,rfl⟩));(· exact aA)
theorem Xi(k:bP)(hr:Rd E fH A n c l)(hl:n≤1000000):aK prog E 307 #[Js id made A n c,.agg k.cs.toArray] [] (BC id made (cX id l k) l):=by
 have hn:=hr.len;have hmax:=fX;unfold BC;refine t_ func307 ntmps307 ?_;repeat first|refine aE ?_|intro
 refine dX (λ(E':Env) h1=>Cq E' id made A n c l h1 hl) ?_;rintro r H' ⟨A',c',rfl,⟨hc1,hc2⟩,rfl⟩;repeat first|refine aE ?_|intro
 refine cl sD sK aC (λE' hE=>W8 E' A' n c' l dB _ _ func347 q_ rfl [_] (λe=>decide (e.ord=k.ord)) (λE2 R2 hE2 x=>Yn E2 x _ k.ord ((qP.aJ hE aS rfl).sub hE2))) ?_;rintro r H' ⟨rfl,rfl⟩;refine gk bG ?_;unfold idx;by_cases hid:k.id=id
 case neg =>
  rw[rN (.inl hid)];have hd:(!decide ((⟨k.id.rep,k.id.seq⟩:bJ)=⟨id.rep,id.seq⟩))=true:=by rw[J4,decide_eq_false hid];rfl
  dsimp only[Option.getD,Option.isSome];repeat first|refine aE ?_|intro
  apply gS;(· exact rfl);(· exact aF);(· exact rfl);(· exact rfl);(· exact rfl);(· exact aS);(· exact rfl);(· exact aF);rotate_left;(· exact(⟨_,_,_,rfl,hn,⟨hc1,hc2⟩,rfl⟩));(· exact aA)
 have hd:(!decide ((⟨k.id.rep,k.id.seq⟩:bJ)=⟨id.rep,id.seq⟩))=false:=by rw[J4,decide_eq_true hid];rfl
 cases hf:l.findIdx? (λe=>decide (e.ord=k.ord)) with
 |none =>
  rw[rN (.inr hf)];dsimp only[Option.getD,Option.isSome];repeat first|refine aE ?_|intro
  apply gS;(· exact rfl);(· exact aF);(· exact rfl);(· exact rfl);(· exact rfl);(· exact aS);(· exact rfl);(· exact aF);rotate_left;(· exact(⟨_,_,_,rfl,hn,⟨hc1,hc2⟩,rfl⟩));(· exact aA)
 |some i =>
  obtain⟨e,he,_⟩:=KI hf;have hi:=(aAd.1 he).1;have hak:=HP hid hf he;have hset:=Ro e;have hs:IntKind.i64.wrap ((n:Int) - 1)=((n - 1:Nat):Int):=by rw[aAq _ o_];omega
  cases hu:k.cD
  ·have h2:(!k.cD)=true:=by rw[hu];rfl
   cases ha:e.cX
   ·have h3:(!e.cX)=true:=by rw[ha];rfl
    rw[hak.trans (show _=some (l.set i e.qJ) by rw[hu,ha];rfl)];dsimp only[Option.getD,Option.isSome];repeat first|refine aE ?_|intro
    apply gS;(· exact rfl);(· exact aF);(· exact rfl);(· exact rfl);(· exact rfl);(· exact aS);(· exact rfl);(· exact aF);rotate_left;(· exact(⟨_,_,_,rfl,by simp[hn],⟨hc1,hc2⟩,rfl⟩));(· exact aA)
   ·have h3:(!e.cX)=false:=by rw[ha];rfl
    rw[hak.trans (show _=none by rw[hu,ha];rfl)];dsimp only[Option.getD,Option.isSome];repeat first|refine aE ?_|intro
    apply gS;(· exact rfl);(· exact aF);(· exact rfl);(· exact rfl);(· exact rfl);(· exact aS);(· exact rfl);(· exact aF);rotate_left;(· exact(⟨_,_,_,rfl,hn,⟨hc1,hc2⟩,rfl⟩));(· exact aA)
  ·have h2:(!k.cD)=false:=by rw[hu];rfl
   rw[hu] at hak;dsimp only;repeat first|refine aE ?_|intro
   cases hun:e.Ab
   ·rw[hak.trans (show _=none by rw[hun];rfl)];dsimp only[Option.getD,Option.isSome];refine bW (λ(E':Env)=>Gw E' e) ?_;rw[hun];rintro r H' ⟨rfl,rfl⟩;repeat first|refine aE ?_|intro
    apply gS;(· exact rfl);(· exact aF);(· exact rfl);(· exact rfl);(· exact rfl);(· exact aS);(· exact rfl);(· exact aF);rotate_left;(· exact(⟨_,_,_,rfl,hn,⟨hc1,hc2⟩,rfl⟩));(· exact aA)
   by_cases hb:1≤e.back
   case neg =>
    rw[hak.trans (show _=none by rw[hun,decide_eq_false hb];rfl)];dsimp only[Option.getD,Option.isSome];refine bW (λ(E':Env)=>Gw E' e) ?_;rw[hun];rintro r H' ⟨rfl,rfl⟩;repeat first|refine aE ?_|intro
    apply gS;(· exact rfl);(· exact aF);(· exact rfl);(· exact rfl);(· exact rfl);(· exact aS);(· exact rfl);(· exact aF);rotate_left;(· exact(⟨_,_,_,rfl,hn,⟨hc1,hc2⟩,rfl⟩));(· exact aA)
   by_cases hlast:i+1=l.length
   ·rw[hak.trans (show _=some (l.take i) by rw[hun,decide_eq_true hb,decide_eq_true hlast];rfl)];dsimp only[Option.getD,Option.isSome];refine bW (λ(E':Env)=>Gw E' e) ?_;rw[hun];rintro r H' ⟨rfl,rfl⟩;refine gk bG ?_;repeat ((fail_if_success (refine C.seq (x:=Code.region 11 _ _) ?_));first|refine Cx ?_|refine He ?_|intro _|refine Dr.two ?_ ?_)
    refine C.conv (aB.FF (T:=fH) (A:=A') (n:=n) (c:=c') (l:=l) (k:=i) o_ dH) ?_;repeat first|refine aE ?_|intro
    apply gS;(· exact rfl);(· exact aF);(· exact rfl);(· exact rfl);(· exact rfl);(· exact aS);(· exact rfl);(· exact aF);rotate_left;(· exact(⟨_,_,_,rfl,by rw[aAg];omega,⟨by omega,hc2⟩,rfl⟩));(· exact aA)
   ·rw[hak.trans (show _=none by rw[hun,decide_eq_true hb,decide_eq_false hlast];rfl)];dsimp only[Option.getD,Option.isSome];refine bW (λ(E':Env)=>Gw E' e) ?_;rw[hun];rintro r H' ⟨rfl,rfl⟩;repeat first|refine aE ?_|intro
    apply gS;(· exact rfl);(· exact aF);(· exact rfl);(· exact rfl);(· exact rfl);(· exact aS);(· exact rfl);(· exact aF);rotate_left;(· exact(⟨_,_,_,rfl,hn,⟨hc1,hc2⟩,rfl⟩));(· exact aA)
theorem VW(hr:Rd E fH A n c l)(hw:Rd E eG X nx cx want):aK prog E 206 #[Js id made A n c,.slice X nx cx] [] λr H'=>r=.returned (.bool (quiet l want))∧H'=[]:=by
 have hn:=hr.len;have hnw:=hw.len;have hcap:=hr.cap;have hcw:=hw.cap;have hmax:=fX;unfold quiet;refine t_ func206 ntmps206 ?_;rw[←hn,←hnw];by_cases h:n=nx
 ·rw[decide_eq_true h];have hall:(l.all λe => !e.pG) = !(l.any (·.pG)):=by simp[List.not_any_eq_all_not]
  rw[hall];repeat first|refine aE ?_|intro
  refine eV (λ(E':Env)=>Wg E' A n c l) ?_;repeat first|refine aE ?_|intro
  exact e1_
 ·rw[decide_eq_false h];repeat first|refine aE ?_|intro
  exact e1_
theorem V6(g:fU)(now:Int)(hr:Rd E fH A n c l)(hw:Rd E eG X nx cx want)(hok:∀e∈l,e.ok)(hm:dQ made) :
  aK prog E 291 #[Js id made A n c,.slice X nx cx,.agg g.cs.toArray,.int .i64 now] [] λr H'=>r=.returned (.bool (Ej id made l want g now))∧H'=[]:=by
 unfold Ej;refine t_ func291 ntmps291 ?_;repeat first|refine aE ?_|intro
 refine C1 (λ(E':Env) h1 h2=>yJ E' id made A n c l want X nx cx h1 h2 hok hm) ?_;generalize next id made l want=q;rintro r H' ⟨rfl,rfl⟩;repeat first|refine aE ?_|intro
 refine eV (λ(E':Env)=>Vi E' id made A n c l) ?_;have hz:∃z,l[l.length - 1]?=z:=⟨_,rfl⟩
 obtain⟨z,hz⟩:=hz;rw[hz];generalize q.isSome=b;cases z with
 |none =>
  have ht:AP l=none:=by unfold AP;rw[hz]
  rw[ht];dsimp only[Option.getD,Option.isSome];cases b;all_goals
   repeat first|refine aE ?_|intro
   exact e1_
 |some e =>
  dsimp only[Option.getD,Option.isSome];repeat first|refine aE ?_|intro
  refine bK (λ(E':Env)=>Mr E' e) ?_;cases ho:e.pG
  ·rw[Ch hz ho];dsimp only;cases b;all_goals
    repeat first|refine aE ?_|intro
    exact e1_
  ·rw[FA hz ho];dsimp only;cases b
   ·repeat first|refine aE ?_|intro
    exact e1_
   ·repeat first|refine aE ?_|intro
    refine bK (λ(E':Env)=>VZ E' e g now) ?_;repeat first|refine aE ?_|intro
    exact e1_
end
end Go.Proofs.YtmilalkjbojciaaGreat.Sep
namespace Go.Proofs.YtmilalkjbojciaaGreat.Sep
open Go.RowKit Reg Oct
open Mem hiding Rd
def cQ.put(f:cQ):List UInt8:=be f.kind.toNat 1++(be f.a.toNat 1++(be (GF f.n) 8++(be f.ref.rep.toNat 1++be f.ref.seq.toNat 2)))
theorem cQ.bD(f:cQ):f.put.length=13:=by simp[cQ.put,aP]
theorem cQ.bR{f:cQ}(h:f.check=0):(1≤f.kind∧f.kind≤11)∧(0≤f.a∧f.a≤255)∧(0≤f.ref.rep∧f.ref.rep≤255)∧0≤f.ref.seq∧f.ref.seq≤65535:=by
 unfold cQ.check at h;split at h
 ·rename_i h1;split at h
  ·rename_i h2;exact⟨h1,h2⟩
  ·cases h
 ·cases h
theorem RW(f:cQ):(([UInt8.ofNat f.kind.toNat,UInt8.ofNat f.a.toNat]++be (GF f.n) 8)++[UInt8.ofNat f.ref.rep.toNat])++be f.ref.seq.toNat 2=f.put:=by
 simp[cQ.put,nC]
section
variable (E:Env) (f:cQ)
theorem XL(h:f.check=0):aK prog E 153 #[.agg f.cs.toArray] [] λr H'=>∃A' c',r=.returned (.tuple #[.slice A' 13 c',.int .i64 0])∧H'=[own aU A' 13 c' f.put]:=by
 obtain⟨⟨k0,k1⟩,⟨a0,a1⟩,⟨p0,p1⟩,s0,s1⟩:=cQ.bR h;have hu:=EV f.n;have w2:=G9 f.n;have w3:=eZ s0 o_;have g3:f.ref.seq.toNat<18446744073709551616:=by omega
 have o2:1≤2∧2≤8:=by omega
 have o8:1≤8∧8≤8:=by omega
 have hfin:=RW f;refine t_ func153 ntmps153 ?_;repeat first|refine aE ?_|intro
 refine bW (λ(E':Env)=>ES E' f) ?_;rw[h];rintro r H' ⟨rfl,rfl⟩;repeat first|refine aE ?_|intro
 rename_i gb g;refine dX (λ(E':Env) h1=>kY E' (some ⟨g,0,none⟩) 2 2 10 8 [UInt8.ofNat f.kind.toNat,UInt8.ofNat f.a.toNat] (GF f.n) 8 rfl rfl o8 h1 hu (by decide)) ?_;rintro r H' ⟨A1,c1',rfl,hc1,rfl⟩;repeat first|refine aE ?_|intro
 refine rB (l_ [0,1,2,3,4,7,8,9,10] (g_ 5 (g_ 6 (g_ 11 (l_ [12,13] .nil))))) ([aJ gb 77 f.cs]) ?_;repeat first|refine aE ?_|intro
 rename_i A2 c2 _ _;refine cg rfl sD bA sK aC (λE' hE=>kY E' A2 (10+1) c2 13 2 _ f.ref.seq.toNat 2 rfl rfl o2 dB g3 sD) ?_;rintro r H' ⟨A3,c3,rfl,hc3,rfl⟩;repeat first|refine aE ?_|intro
 rw[hfin];exact Cz ⟨_,_,rfl,rfl⟩
end
def bH.mJ(e:bH):Int:=(if e.cX then 1 else 0)+(if e.gone then 2 else 0)
theorem U3(E:Env)(e:bH):aK prog E 155 #[.agg e.cs.toArray] [] λr H'=>r=.returned (.int .i64 e.mJ)∧H'=[]:=by
 refine t_ func155 ntmps155 ?_;unfold bH.mJ;have b1:Go.bits .or .i64 0 1=1:=by decide
 have b2:Go.bits .or .i64 0 2=2:=by decide
 have b3:Go.bits .or .i64 1 2=3:=by decide
 cases ha:e.cX;all_goals
  cases hg:e.gone;all_goals
   repeat first|refine aE ?_|intro
   exact e1_
def bH.put(e:bH):List UInt8:=be e.ord.toNat 1++(e.bC.put++(be e.aW.toNat 1++(be e.last.toNat 4++(be e.back.toNat 1++(be e.cJ.toNat 4++[UInt8.ofNat e.mJ.toNat,69,69])))))
theorem bH.bD(e:bH):e.put.length=27:=by simp[bH.put,aP,cQ.bD]
theorem Re(e:bH):(((((([UInt8.ofNat e.ord.toNat]++e.bC.put)++[UInt8.ofNat e.aW.toNat])++be e.last.toNat 4)++[UInt8.ofNat e.back.toNat])++be e.cJ.toNat 4)++[UInt8.ofNat e.mJ.toNat,UInt8.ofNat (Int.toNat 69),UInt8.ofNat (Int.toNat 69)])=e.put:=by
 rw[show UInt8.ofNat (Int.toNat 69)=69 from rfl];simp[bH.put,nC]
section
variable (E:Env) (e:bH)
theorem Jx(hm:e.may=false):aK prog E 91 #[.agg e.cs.toArray] [] λr H'=>r=.returned (.slice none 0 0)∧H'=[]:=by
 refine t_ func91 ntmps91 ?_;repeat first|refine aE ?_|intro
 refine bW (λ(E':Env)=>Jk E' e) ?_;rw[hm];rintro r H' ⟨rfl,rfl⟩;repeat first|refine aE ?_|intro
 exact e1_
theorem J2(hm:e.may=true):aK prog E 91 #[.agg e.cs.toArray] [] λr H'=>∃A' c',r=.returned (.slice A' 27 c')∧H'=[own aU A' 27 c' e.put]:=by
 obtain⟨⟨o0,o1⟩,hw,⟨s0,s1⟩,⟨⟨b0,b1⟩,_⟩,⟨l0,l1⟩,⟨k0,k1⟩,_⟩:=(bH.bY e).1 hm;have w1:=eZ l0 o_;have w2:=eZ k0 o_;have g1:e.last.toNat<18446744073709551616:=by omega
 have g2:e.cJ.toNat<18446744073709551616:=by omega
 have o4:1≤4∧4≤8:=by omega
 have hfin:=Re e;have f0:0≤e.mJ:=by unfold bH.mJ;split<;>split<;>omega
 have f1:e.mJ<256:=by unfold bH.mJ;split<;>split<;>omega
 refine t_ func91 ntmps91 ?_;repeat first|refine aE ?_|intro
 refine bW (λ(E':Env)=>Jk E' e) ?_;rw[hm];rintro r H' ⟨rfl,rfl⟩;repeat first|refine aE ?_|intro
 refine bW (λ(E':Env)=>XL E' e.bC hw) ?_;rintro r H' ⟨A1,c1,rfl,rfl⟩;repeat first|refine aE ?_|intro
 rename_i gb _ A2 c2 _ _;refine rB (l_ [0,1,2,3,6,7,8] (g_ 4 (g_ 5 (g_ 9 (n_ 10 .nil))))) ([aJ gb 92 e.cs]) ?_;repeat first|refine aE ?_|intro
 rename_i A3 c3 _ _;refine cg rfl sD bA sK aC (λE' hE=>kY E' A3 (1+13+1) c3 19 4 _ e.last.toNat 4 rfl rfl o4 dB g1 sD) ?_;rintro r H' ⟨A4,c4,rfl,hc4,rfl⟩;repeat first|refine aE ?_|intro
 refine rB (l_ [0,1,2,3,6,7,8] (g_ 4 (g_ 5 (g_ 9 (n_ 10 .nil))))) ([aJ gb 92 e.cs]) ?_;repeat first|refine aE ?_|intro
 rename_i A5 c5 _ _;refine cg rfl sD bA sK aC (λE' hE=>kY E' A5 (19+1) c5 24 4 _ e.cJ.toNat 4 rfl rfl o4 dB g2 sD) ?_;rintro r H' ⟨A6,c6,rfl,hc6,rfl⟩;repeat first|refine aE ?_|intro
 refine bK (λ(E':Env)=>U3 E' e) ?_;repeat first|refine aE ?_|intro
 rw[hfin,show 24+3=27 from rfl];exact jQ ⟨_,_,rfl,rfl⟩
end
end Go.Proofs.YtmilalkjbojciaaGreat.Sep
