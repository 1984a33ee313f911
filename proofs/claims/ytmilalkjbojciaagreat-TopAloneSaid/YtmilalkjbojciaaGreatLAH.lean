/- Part AH: what it needs. No condition. -/
import Derived.Test.YtmilalkjbojciaaGreatLAA
import Derived.Test.YtmilalkjbojciaaGreatLAD
import Derived.Test.YtmilalkjbojciaaGreatLAB
set_option maxRecDepth 100000
set_option maxHeartbeats 8000000
open Go.Proofs.Tryz
namespace Go.Proofs.YtmilalkjbojciaaGreat.Sep
section
open Go.RowKit Reg Oct
open Mem hiding Rd
def M4(g:Nat)(A:Option Addr)(n c:Nat)(l:List UInt8)(r:Option (List UInt8)×Bool×List UInt8)(e:Ending)(H':List aL):Prop :=
 ∃A' n' c' B d,H'=[own aU B (r.1.getD []).length d (r.1.getD []),pC g true r.2.1 A' n' c']∧nS A n c l A' n' c' r.2.2∧(r.1.getD []).length≤d∧d≤maxLen∧e=.returned (.tuple #[.slice B (r.1.getD []).length d,.bool r.1.isSome])
theorem kR(E:Env)(g:Nat)(bad:Bool)(A:Option Addr)(n c:Nat)(l:List UInt8)(k:Int)(hr:Rd E aU A n c l)(hl:l.length≤140737488355328) :
  aK prog E 244 #[Bs g,.int .i64 k] [pC g true bad A n c] (M4 g A n c l (nx bad l k)):=by
 refine t_ func244 ntmps244 ?_;repeat first|refine aE ?_|intro
 refine dX (λM=>GW M g bad A n c l k) ?_;rintro e H' ⟨A',n',c',rfl,hal,he⟩;obtain⟨B,m,d,x,ok,rfl,hB,hx,hxl,hok⟩:∃B m d x ok,e=.returned (.tuple #[.slice B m d,.bool ok])∧Rd E aU B m d x∧(nx bad l k).1.getD []=x∧x.length≤l.length∧(nx bad l k).1.isSome=ok:=by
  cases hq:(nx bad l k).1 with
  |none=>rw[hq] at he;exact⟨none,0,0,[],false,he,Rd.nil _ _,rfl,by simp,rfl⟩
  |some x =>
   rw[hq] at he;obtain⟨B,m,d,he,hB⟩:=he;refine⟨B,m,d,x,true,he,hB _ hr,rfl,?_,rfl⟩;unfold nx at hq;split at hq
   ·cases hq
   ·split at hq
    ·cases hq
    ·injection hq with hq;rw[←hq];simp;omega
 have hm:=hB.len;have hn:=hr.len;subst hm hok hx;repeat first|refine aE ?_|intro
 exact vT rfl aF aF aA (⟨_,_,_,_,_,rfl,hal,by assumption,by assumption,rfl⟩)
theorem VE(n i:Nat)(h:i<8):((n:Int)) / 2 ^ min ((8*(i:Int)).toNat) IntKind.u64.bits=((n / 2 ^ (8*i):Nat):Int):=by
 have e:min ((8*(i:Int)).toNat) IntKind.u64.bits=8*i:=by
  have h1:(8*(i:Int)).toNat=8*i:=o_;have h2:IntKind.u64.bits=64:=rfl;rw[h1,h2];omega
 rw[e,Eb]
def uQ(r:List UInt8)(e:Ending)(H':List aL):Prop:=∃A' c',e=.returned (.slice A' r.length c')∧r.length≤c'∧c'≤maxLen∧H'=[own aU A' r.length c' r]
theorem FL(E:Env)(A:Option Addr)(nl cap:Nat)(l:List UInt8)(n:Nat)(w:Int)(hr:Rd E aU A nl cap l)(_hn:n<18446744073709551616)(hl:nl≤140737488355300) :
  aK prog E 154 #[.slice A nl cap,.int .u64 n,.int .i64 w] [] (uQ (Oct.put l n w)):=by
 have hnl:=hr.len;refine t_ func154 ntmps154 ?_;by_cases hw:w<1∨8<w
 ·have hp:Oct.put l n w=l:=by simp[Oct.put,hw]
  rw[hp];subst hnl;by_cases h1:w<1;all_goals
   repeat first|refine aE ?_|intro
   exact aR rfl aF aA (⟨_,_,rfl,by assumption,by assumption,rfl⟩)
 ·have hp:Oct.put l n w=l++be n w.toNat:=by simp[Oct.put,hw]
  rw[hp];obtain⟨w,rfl⟩:=aCf (show 0≤w by omega);rw[aAu];repeat first|refine aE ?_|intro
  refine C.loop (X:=Nat×Option Addr×Nat) (λx=>[(1,.int .u64 n),(7,.slice x.2.1 (nl+x.1) x.2.2),(8,.int .i64 ((w:Int) - 1 - x.1))]) (λx=>[own aU x.2.1 (nl+x.1) x.2.2 (l++(be n w).take x.1)]) (λx=>x.1≤w∧nl+x.1≤x.2.2∧x.2.2≤maxLen) (λx=>w - x.1) (0,_,_) aD (by simp only[aCg,aAc];exact aB.refl) ⟨aAh _,by assumption,by assumption⟩ ?_;rintro⟨k,A',c'⟩ G ⟨hk,hc1,hc2⟩;dsimp only at hk hc1 hc2⊢;by_cases hlt:k<w
  ·obtain⟨i,hi⟩:∃i:Nat,(w:Int) - 1 - k=i:=⟨w - 1 - k,by omega⟩
   have e1:=VE n i o_;have e2:l++(be n w).take k++[UInt8.ofNat (((n / 2 ^ (8*i):Nat):Int) % 256).toNat]=l++(be n w).take (k+1):=by
    rw[Qm n w k hlt,OV,aAb,show w - 1 - k=i by omega]
   rw[hi];repeat first|refine aE ?_|intro
   refine⟨(k+1,_,_),aD,?_,by dsimp only;omega,by dsimp only;omega⟩;dsimp only;rw[e2];exact aB.refl
  ·repeat first|refine aE ?_|intro
   obtain rfl:k=w:=o_;have e:(be n k).take k=be n k:=aAj (by rw[aP];omega);have el:nl+k=(l++be n k).length:=by rw[aAe,aP,hnl]
   rw[e];rw[el] at hc1⊢;exact jQ ⟨_,_,rfl,hc1,hc2,rfl⟩
theorem Eu(E:Env)(g:Nat)(made bad:Bool)(A:Option Addr)(n c:Nat) :
  aK prog E 296 #[Bs g] [pC g made bad A n c] λe H'=>e=.returned (.bool (!(made && !bad)))∧H'=[pC g made bad A n c]:=by
 refine t_ func296 ntmps296 ?_;repeat first|refine aE ?_|intro
 refine bK (λM=>mH M g made bad A n c) ?_;repeat first|refine aE ?_|intro
 exact B7
theorem tV(E:Env)(g:Nat)(bad:Bool)(A:Option Addr)(n c:Nat)(l:List UInt8)(hr:Rd E aU A n c l) :
  aK prog E 247 #[Bs g] [pC g true bad A n c] λe H'=>e=.returned (.int .i64 (if bad then 0 else l.length:Nat))∧H'=[pC g true bad A n c]:=by
 have hn:=hr.len;unfold Bs;refine t_ func247 ntmps247 ?_;repeat first|refine aE ?_|intro
 refine bK (λM=>mH M g true bad A n c) ?_;cases bad;all_goals
  repeat first|refine aE ?_|intro
  exact aR rfl aF aA (⟨by simp[hn],rfl⟩)
theorem xV(E:Env)(g:Nat)(bad:Bool)(A:Option Addr)(n c:Nat)(l:List UInt8)(hr:Rd E aU A n c l) :
  aK prog E 298 #[Bs g] [pC g true bad A n c] λe H'=>e=.returned (.bool (!bad&&l.isEmpty))∧H'=[pC g true bad A n c]:=by
 have hn:=hr.len;unfold Bs;refine t_ func298 ntmps298 ?_;repeat first|refine aE ?_|intro
 refine bK (λM=>mH M g true bad A n c) ?_;cases bad
 ·repeat first|refine aE ?_|intro
  refine eV (λM=>tV M g false A n c l) ?_;repeat first|refine aE ?_|intro
  exact aR rfl aF aA (⟨by cases l<;>simp;omega,rfl⟩)
 ·repeat first|refine aE ?_|intro
  exact B7
theorem UC:((prog.info? 70).bind (·.zero)).map (·.cells.toList)=some [.slice none 0 0]:=q_
instance XJ:Bg 70 [.slice none 0 0]:=⟨UC⟩
theorem Xr:((prog.info? 276).bind (·.zero)).map (·.cells.toList)=some [.pointer none]:=q_
instance Yq:Bg 276 [.pointer none]:=⟨Xr⟩
def PW(n':Nat)(l:List UInt8)(e:Ending)(H':List aL):Prop:=∃A' c',e=.returned (.slice A' n' c')∧(n'≤c'∧c'≤maxLen)∧H'=[own aU A' n' c' l]
theorem uQ.w{nl w n' k:Nat}{W:Int}{l:List UInt8}{e:Ending}{H':List aL}(hW:W=w)(hn:nl+w=n')(hw:1≤w∧w≤8)(hnl:nl=l.length)(h:uQ (Oct.put l k W) e H'):PW n' (l++be k w) e H':=by
 have hp:Oct.put l k W=l++be k w:=by
  unfold Oct.put;rw[if_neg o_,hW,aAu]
 have hl:(l++be k w).length=n':=by rw[aAe,aP];omega
 rw[hp] at h;unfold uQ at h;rw[hl] at h;obtain⟨A',c',h1,h2,h3,h4⟩:=h;exact⟨A',c',h1,⟨h2,h3⟩,h4⟩
theorem kY(E:Env)(A:Option Addr)(nl cap n' w:Nat)(l:List UInt8)(k:Nat)(W:Int)(hW:W=w)(hn:nl+w=n')(hw:1≤w∧w≤8)(hr:Rd E aU A nl cap l)(hk:k<18446744073709551616)(hl:nl≤140737488355300) :
  aK prog E 154 #[.slice A nl cap,.int .u64 k,.int .i64 W] [] (PW n' (l++be k w)) :=
 (FL E A nl cap l k W hr hk hl).mono λ_ _ h=>h.w hW hn hw hr.len
end
section
open Go.RowKit Reg
open Mem hiding Rd
def bH.Ab(e:bH):Bool:=e.cX&&e.gone
def bH.pG(e:bH):Bool := !e.cX||e.gone
def bH.nt(e:bH):Int:=if e.Ab then e.back else e.aW
def bH.lt(e:bH):Int:=if e.Ab then e.cJ else e.last
def bH.due(e:bH)(c:fU):Int:=Dly.due c.base c.cap e.nt e.lt
def bH.ready(e:bH)(c:fU)(now:Int):Bool:=e.pG&&(decide (e.nt<c.dC)&&(decide (e.nt<1)||decide (e.due c≤now)))
section
variable (E:Env) (e:bH) (c:fU) (now:Int)
theorem Gw:aK prog E 214 #[.agg e.cs.toArray] [] λr H'=>r=.returned (.bool e.Ab)∧H'=[]:=by
 refine t_ func214 ntmps214 ?_;unfold bH.Ab;cases h:e.cX
 ·repeat first|refine aE ?_|intro
  exact B7
 ·repeat first|refine aE ?_|intro
  exact B7
theorem Mr:aK prog E 267 #[.agg e.cs.toArray] [] λr H'=>r=.returned (.bool e.pG)∧H'=[]:=by
 refine t_ func267 ntmps267 ?_;unfold bH.pG;cases h:e.cX
 ·have h2:(!e.cX)=true:=by rw[h];rfl
  repeat first|refine aE ?_|intro
  exact aR rfl aF aA (⟨by simp,rfl⟩)
 ·have h2:(!e.cX)=false:=by rw[h];rfl
  repeat first|refine aE ?_|intro
  exact aR rfl aF aA (⟨by simp,rfl⟩)
theorem OI:aK prog E 325 #[.agg e.cs.toArray] [] λr H'=>r=.returned (.tuple #[.int .i64 e.nt,.int .i64 e.lt])∧H'=[]:=by
 refine t_ func325 ntmps325 ?_;unfold bH.nt bH.lt;repeat first|refine aE ?_|intro
 refine bK (λM=>Gw M e) ?_;cases h:e.Ab
 ·rw[if_neg aAl,if_neg aAl];repeat first|refine aE ?_|intro
  refine rA (l_ [0,1,2,3,4,5] .nil) ?_;repeat first|refine aE ?_|intro
  exact Xs
 ·rw[if_pos rfl,if_pos rfl];repeat first|refine aE ?_|intro
  refine rA (l_ [0,1,2,3,4,5] .nil) ?_;repeat first|refine aE ?_|intro
  exact Xs
theorem VZ:aK prog E 341 #[.agg e.cs.toArray,.agg c.cs.toArray,.int .i64 now] [] λr H'=>r=.returned (.bool (e.ready c now))∧H'=[]:=by
 refine t_ func341 ntmps341 ?_;have hrd:IP c.base c.cap e.nt e.lt now=(decide (e.nt<1)||decide (e.due c≤now)):=rfl;unfold bH.ready;rw[←hrd];repeat first|refine aE ?_|intro
 refine bK (λM=>OI M e) ?_;repeat first|refine aE ?_|intro
 refine bK (λM=>Mr M e) ?_;generalize e.nt=n at *;generalize e.lt=l at *;cases h:e.pG
 ·repeat first|refine aE ?_|intro
  exact B7
 by_cases h2:n<c.dC
 ·rw[decide_eq_true h2];repeat first|refine aE ?_|intro
  refine bK (λM=>Vg M c.base c.cap n l now) ?_;repeat first|refine aE ?_|intro
  exact B7
 ·rw[decide_eq_false h2];repeat first|refine aE ?_|intro
  exact B7
end
abbrev AR:={ l:List UInt8 // l.length=32 }
def sH:Ty AR where
 val s:=.agg (s.1.map λb=>Value.int .u8 (b.toNat:Int)).toArray
 size:=32
 bytes:=32
 tid:=295
 zero:=.agg (List.replicate 32 (Value.int .u8 0)).toArray
 hlen s:=by simp[Value.cells,s.2]
 lJ s u h:=by
  simp only[Value.cells,aFn] at h;obtain⟨b,_,rfl⟩:=h;rfl
 gL:=sD
 hzero:=by simp[Value.cells]
 fW:=q_
 nR:=.inl ⟨q_,λ_=>⟨_,rfl⟩⟩
instance Wb:kQ 295 AR sH:=⟨rfl⟩
instance XF:lL sH 32:=⟨rfl⟩
def Ek:AR:=⟨List.replicate 32 0,by simp⟩
instance Wl:uU sH Ek:=⟨rfl⟩
theorem Kt:ZO sH aU 32 (·.1):=λs=>⟨by
 show(s.1.map λb=>Value.int .u8 (b.toNat:Int))=s.1.flatMap λb=>[Value.int .u8 (b.toNat:Int)]
 induction s.1 with
 |nil=>rfl
 |cons b l ih=>simp[ih],s.2⟩
theorem QB:Rec prog 250 [.bool false,.bool false,.int .i64 0,.int .i64 0,.slice none 0 0] [(0,1),(1,1),(2,1),(3,1),(4,1)]:=⟨q_,q_⟩
instance VO:cL 250 [.bool false,.bool false,.int .i64 0,.int .i64 0,.slice none 0 0] [(0,1),(1,1),(2,1),(3,1),(4,1)]:=⟨QB⟩
abbrev Cy(g:Nat)(made dead:Bool)(aG wr:Int)(A:Option Addr)(n c:Nat):aL:=aJ g 250 [.bool made,.bool dead,.int .i64 aG,.int .i64 wr,.slice A n c]
def flat(l:List AR):List UInt8:=l.flatMap (·.1)
theorem eI(l:List AR):(flat l).length=32*l.length:=by
 induction l with
 |nil=>rfl
 |cons s l ih=>simp only[flat,aDy,aAe,s.2,aAs] at ih⊢;omega
theorem mS(a b:List AR):flat (a++b)=flat a++flat b:=aDz
theorem Be{l:List AR}{i:Nat}(h:i<l.length):flat (l.take (i+1))=flat (l.take i)++l[i].1:=by
 rw[aAn h,mS];simp[flat]
theorem Pm(E:Env)(n:Int)(k:Nat)(hk:(k:Int)=if n<0 then 0 else if 256<n then 256 else n) :
  aK prog E 106 #[.int .i64 n] [] λe H'=>∃g g2,e=.returned (.pointer (some ⟨g,0,none⟩))∧H'=[Cy g true false (-1) 0 (some ⟨g2,0,none⟩) k k,own sH (some ⟨g2,0,none⟩) k k (List.replicate k Ek)]:=by
 have hk2:k≤256:=by split at hk<;>(try split at hk)<;>omega
 refine t_ func106 ntmps106 ?_;repeat first|refine aE ?_|intro
 refine bW (λM=>Dz M n 0 256) ?_;rintro e H' ⟨rfl,rfl⟩;rw[show dF n 0 256=(k:Int) from hk.symm];repeat first|refine aE ?_|intro
 exact jQ ⟨_,_,rfl,rfl⟩
section
variable (E:Env) (g:Nat) (made dead:Bool) (aG wr:Int) (A:Option Addr) (n c:Nat) (l:List AR)
abbrev zK:List aL:=[Cy g made dead aG wr A n c,own sH A n c l]
theorem Jt(i:Int)(b:Bool)(hb:b=(!dead&&decide (0≤i)&&decide (i<n)))(hn:n≤256):aK prog E 286 #[.pointer (some ⟨g,0,none⟩),.int .i64 i] [Cy g made dead aG wr A n c] λe H'=>e=.returned (.bool b)∧H'=[Cy g made dead aG wr A n c]:=by
 subst hb;have hm:n≤maxLen:=by unfold maxLen;omega
 refine t_ func286 ntmps286 ?_;cases dead
 ·by_cases h1:0≤i
  ·repeat first|refine aE ?_|intro
   exact aR rfl aF aA (⟨by simp[h1],rfl⟩)
  ·repeat first|refine aE ?_|intro
   exact aR rfl aF aA (⟨by simp[h1],rfl⟩)
 ·repeat first|refine aE ?_|intro
  exact B7
def wk(aG:Int):Nat:=if 0≤aG∧aG<32 then aG.toNat else 32
def jD(aG:Int):Bool:=decide (0≤aG∧aG<32)
def gX(aG:Int):Int:=if 0≤aG∧aG<32 then -1 else if aG = -1 then -1 else aG - 32
theorem pL(aG:Int):wk aG≤32:=by unfold wk;split<;>omega
def front(k:Nat)(b:List UInt8)(hb:b.length=32)(hk:k≤32)(s:AR):AR:=⟨b.take k++s.1.drop k,by simp[s.2,hb];omega⟩
theorem DT(B:Option Addr)(d:Nat)(b:List UInt8)(i:Nat)(hb:b.length=32)(hr:Rd E aU B 32 d b)(hn:n≤256)(hi:i<l.length)(ha : -1≤aG)(ha2:aG≤9223372036854775807)(hw:0≤wr)(hw2:wr≤100000000000000) :
  aK prog E 233 #[.pointer (some ⟨g,0,none⟩),.int .i64 i,.slice B 32 d] (zK g made false aG wr A n c l) λe H'=>e=.returned (.bool (!jD aG)) ∧
   H'=zK g made (jD aG) (gX aG) (wr+wk aG) A n c (l.set i (front (wk aG) b hb (pL _) l[i])):=by
 refine aK.fact (p:=n=l.length) (λw hw=>(kV.own (H:=zK g made false aG wr A n c l) aS w hw).1) λhnl=>?_;have hm:=hr.len;have hcap:=hr.cap;have hli:l[i]?=some l[i]:=aAa hi;have hfr:(front (wk aG) b hb (pL _) l[i]).1=b.take (wk aG)++l[i].1.drop (wk aG):=rfl;have hcut:=hr.upto (k:=wk aG) (m:=d) (pL _) (aBw (pL _) hcap.1) (aAf _);have harr:=Kt;have hwle:=pL aG;generalize front (wk aG) b hb (pL _) l[i]=s at *;refine t_ func233 ntmps233 ?_;repeat first|refine aE ?_|intro
 refine bK (λM=>Jt M g made false aG wr A n c i true (by simp;omega) hn) ?_;repeat ((fail_if_success (refine C.seq (x:=Code.region 4 _ _) ?_));first|refine Cx ?_|refine He ?_|intro _|refine Dr.two ?_ ?_)
 refine C.BI (X:=Unit) (λ_=>[(0,.pointer (some ⟨g,0,none⟩)),(1,.int .i64 i),(2,.slice B 32 d),(7,.int .i64 (wk aG:Nat))]) (λ_=>zK g made (jD aG) (gX aG) wr A n c l) (λ_=>True) ?_ ?_
 ·unfold wk jD gX;by_cases h1:aG = -1
  ·rw[if_neg o_,if_neg o_,if_pos h1,decide_eq_false o_];subst h1;repeat first|refine aE ?_|intro
   exact⟨(),aD,aB.refl,trivial⟩
  ·by_cases h2:aG<32
   ·rw[if_pos ⟨by omega,h2⟩,if_pos ⟨by omega,h2⟩,decide_eq_true ⟨by omega,h2⟩];obtain⟨k,rfl⟩:=aCf (show 0≤aG by omega);repeat first|refine aE ?_|intro
    exact⟨(),aD,aB.refl,trivial⟩
   ·rw[if_neg o_,if_neg o_,if_neg h1,decide_eq_false o_];repeat first|refine aE ?_|intro
    exact⟨(),aD,aB.refl,trivial⟩
 rintro - G -;generalize wk aG=k at *;repeat first|refine aE ?_|intro
 refine C.bL 10 (l_ [0,1,2,3,4,5,6,7,8,9] (g_ 10 .nil)) _ q_ q_ aB.refl ?_;repeat first|refine aE ?_|intro
 exact B7
end
theorem MZ(E:Env)(A:Option Addr)(n c:Nat)(l:List _)(hr:Rd E aU A n c l)(hl:n≤140737488355300):aK prog E 156 #[.slice A n c] [] λe H'=>∃A' c',e=.returned (.slice A' n c')∧n≤c'∧c'≤maxLen∧H'=[own aU A' n c' l]:=by
 refine t_ func156 ntmps156 ?_;cases A with
 |none =>
  obtain⟨rfl,rfl⟩:=hr.none;repeat first|refine aE ?_|intro
  exact aR rfl aF (aB.nil aU) ⟨_,_,rfl,aAf _,aAh _,rfl⟩
 |some a =>
  repeat first|refine aE ?_|intro
  exact aR rfl aF aA (⟨_,_,rfl,by assumption,by assumption,rfl⟩)
section
variable (E:Env) (g:Nat) (made dead:Bool) (aG wr:Int) (A:Option Addr) (n c:Nat) (l:List AR)
theorem r7(i:Nat)(hn:n≤256)(hi:i<l.length)(hnl:n=l.length) :
  aK prog E 234 #[.pointer (some ⟨g,0,none⟩),.int .i64 i] (zK g made false aG wr A n c l) λe H'=>∃B d,e=.returned (.tuple #[.slice B 32 d,.bool true])∧32≤d∧d≤maxLen∧H'=own aU B 32 d l[i].1::zK g made false aG wr A n c l:=by
 have hli:l[i]?=some l[i]:=aAa hi;have harr:=Kt;have hm:32≤maxLen:=by unfold maxLen;omega
 generalize l[i]=s at *;refine t_ func234 ntmps234 ?_;repeat first|refine aE ?_|intro
 refine bK (λM=>Jt M g made false aG wr A n c i true (by simp;omega) hn) ?_;repeat first|refine aE ?_|intro
 refine cl sD sK aC (λM hE=>MZ M _ 32 32 s.1 (Rd.inner harr hm (Sub.own hE aS) hli rfl) o_) ?_;rintro e H' ⟨B,d,rfl,h1,h2,rfl⟩;repeat first|refine aE ?_|intro
 exact Cz ⟨_,_,rfl,h1,h2,rfl⟩
theorem SX(k:Int):aK prog E 193 #[.pointer (some ⟨g,0,none⟩),.int .i64 k] [Cy g true dead aG wr A n c] λe H'=>e=.returned (.tuple #[])∧H'=[Cy g true dead (if dead then aG else max k (-1)) wr A n c]:=by
 refine t_ func193 ntmps193 ?_;cases dead
 ·rw[if_neg (by simp)];repeat first|refine aE ?_|intro
  exact r4
 ·rw[if_pos rfl];repeat first|refine aE ?_|intro
  exact r4
theorem SG(hn:n≤256):aK prog E 221 #[.pointer (some ⟨g,0,none⟩)] [Cy g made dead aG wr A n c] λe H'=>e=.returned (.int .i64 n)∧H'=[Cy g made dead aG wr A n c]:=by
 have hm:n≤maxLen:=by unfold maxLen;omega
 refine t_ func221 ntmps221 ?_;repeat first|refine aE ?_|intro
 exact B7
theorem CL:aK prog E 175 #[.pointer (some ⟨g,0,none⟩)] [Cy g made dead aG wr A n c] λe H'=>e=.returned (.bool dead)∧H'=[Cy g made dead aG wr A n c]:=by
 refine t_ func175 ntmps175 ?_;repeat first|refine aE ?_|intro
 exact B7
end
end
section
open Oct
def bX(l:List UInt8)(i w:Nat):Nat:=get ((l.drop i).take w)
theorem eM(l:List UInt8)(i w:Nat):bX l i w<256 ^ w:=by
 have h:=BY ((l.drop i).take w);have h2:((l.drop i).take w).length≤w:=by simp;omega
 exact aDe h (aDx o_ h2)
theorem uY{l:List UInt8}{i:Nat}(h:i<l.length):bX l i 1=l[i].toNat:=by
 unfold bX;rw[aAm h,aEl,aCg];simp[Oct.get]
theorem dY{l:List UInt8}{i w:Nat}(h:i+w≤l.length):be (bX l i w) w=(l.drop i).take w:=by
 have:=Ec ((l.drop i).take w);rw[show((l.drop i).take w).length=w by simp;omega] at this;exact this
theorem dL{a b:List UInt8}{i w n:Nat}(hi:a.length=i)(hn:n<256 ^ w):bX (a++(be n w++b)) i w=n:=by
 unfold bX;rw[aBu hi,aBj (aP _ _),FD,aEc hn]
def rV(k:Nat):Int:=if k<9223372036854775808 then k else(k:Int) - 18446744073709551616
def GF(n:Int):Nat:=(n % 18446744073709551616).toNat
theorem EV(n:Int):GF n<18446744073709551616:=by unfold GF;omega
theorem KB{k:Nat}(h:k<18446744073709551616):GF (rV k)=k:=by unfold GF rV;split<;>omega
theorem Kj{n:Int}(h:dQ n):rV (GF n)=n:=by unfold GF rV;unfold dQ at h;split<;>omega
theorem Ii{k:Nat}(h:k<18446744073709551616):dQ (rV k):=by unfold rV dQ;split<;>omega
theorem G9(n:Int):IntKind.u64.wrap n=(GF n:Nat):=by
 rw[IntKind.wrap_u64];unfold GF;omega
theorem eZ{n:Int}(h:0≤n)(h2:n≤9223372036854775807):IntKind.u64.wrap n=(n.toNat:Nat):=by
 rw[IntKind.wrap_u64];omega
theorem qZ{k:Nat}(h:k<18446744073709551616):IntKind.i64.wrap (k:Int)=rV k:=by
 rw[IntKind.wrap_i64];unfold rV;split<;>omega
def aX.may(c:aX):Bool:=c.id.may&&decide (1≤c.time∧c.time≤1073741824)&&small c.kind&&small c.a&&small c.b&&small c.ref.rep&&decide (0≤c.ref.seq∧c.ref.seq≤65535)
theorem aX.bY(c:aX):c.may=true↔(0≤c.id.rep∧c.id.rep≤3∧1≤c.id.seq∧c.id.seq≤65535)∧(1≤c.time∧c.time≤1073741824)∧(0≤c.kind∧c.kind≤255)∧(0≤c.a∧c.a≤255)∧(0≤c.b∧c.b≤255)∧(0≤c.ref.rep∧c.ref.rep≤255)∧0≤c.ref.seq∧c.ref.seq≤65535:=by
 simp[aX.may,bJ.may,small,and_assoc]
def aX.put(c:aX):List UInt8:=be c.id.rep.toNat 1++(be c.id.seq.toNat 2++(be c.time.toNat 4++(be c.kind.toNat 1++(be c.a.toNat 1++(be c.b.toNat 1++(be (GF c.n) 8++(be c.ref.rep.toNat 1++(be c.ref.seq.toNat 2++[67]))))))))
theorem aX.bD(c:aX):c.put.length=22:=by simp[aX.put,aP]
def tM(l:List UInt8):aX:=⟨⟨bX l 0 1,bX l 1 2⟩,bX l 3 4,bX l 7 1,bX l 8 1,bX l 9 1,rV (bX l 10 8),⟨bX l 18 1,bX l 19 2⟩⟩
theorem NX(l:List UInt8):(tM l).ok:=by
 have h0:=eM l 0 1;have h1:=eM l 1 2;have h2:=eM l 3 4;have h3:=eM l 7 1;have h4:=eM l 8 1;have h5:=eM l 9 1;have h6:=eM l 10 8;have h7:=eM l 18 1;have h8:=eM l 19 2;have h9:=Ii (k:=bX l 10 8) o_;unfold tM aX.ok bJ.ok;refine⟨⟨?_,?_⟩,?_,?_,?_,?_,h9,?_,?_⟩<;>unfold dQ<;>dsimp only<;>omega
theorem nC(k:Nat):be k 1=[UInt8.ofNat k]:=by
 simp[be,List.range_succ]
theorem Lb{l:List UInt8}(h:l.length=22)(he:l[21]?=some 67):(tM l).put=l:=by
 have e1:l=(l.drop 0).take 1++((l.drop 1).take 2++((l.drop 3).take 4++((l.drop 7).take 1++((l.drop 8).take 1++((l.drop 9).take 1++((l.drop 10).take 8++((l.drop 18).take 1++((l.drop 19).take 2++l.drop 21)))))))):=by
  have step:∀i w,l.drop i=(l.drop i).take w++l.drop (i+w):=λi w=>by rw[←aBt,aAx]
  have h0:=step 0 1;have h1:=step 1 2;have h2:=step 3 4;have h3:=step 7 1;have h4:=step 8 1;have h5:=step 9 1;have h6:=step 10 8;have h7:=step 18 1;have h8:=step 19 2;rw[←h8,←h7,←h6,←h5,←h4,←h3,←h2,←h1,←h0,aCh]
 have e2:l.drop 21=[67]:=by
  obtain⟨h1,h2⟩:=aAd.1 he;rw[aAm h1,h2,aCn o_]
 rw[e2] at e1;have h6:=eM l 10 8;unfold aX.put tM;dsimp only;rw[KB o_];simp only[aAu];rw[dY o_,dY o_,dY o_,dY o_,dY o_,dY o_,dY o_,dY o_,dY o_];exact e1.symm
theorem LL{c:aX}(hm:c.may=true)(hn:dQ c.n):tM c.put=c:=by
 rw[aX.bY] at hm;obtain⟨⟨i0,i1,i2,i3⟩,⟨t0,t1⟩,⟨k0,k1⟩,⟨a0,a1⟩,⟨b0,b1⟩,⟨r0,r1⟩,s0,s1⟩:=hm;have hu:=EV c.n;have f0:bX c.put 0 1=c.id.rep.toNat:=dL (a:=[]) rfl o_;have f1:bX c.put 1 2=c.id.seq.toNat:=by
  unfold aX.put;exact dL (by simp[aP]) o_
 have f2:bX c.put 3 4=c.time.toNat:=by
  unfold aX.put;rw[←aAb];exact dL (by simp[aP]) o_
 have f3:bX c.put 7 1=c.kind.toNat:=by
  unfold aX.put;rw[←aAb,←aAb];exact dL (by simp[aP]) o_
 have f4:bX c.put 8 1=c.a.toNat:=by
  unfold aX.put;rw[←aAb,←aAb,←aAb];exact dL (by simp[aP]) o_
 have f5:bX c.put 9 1=c.b.toNat:=by
  unfold aX.put;rw[←aAb,←aAb,←aAb,←aAb];exact dL (by simp[aP]) o_
 have f6:bX c.put 10 8=GF c.n:=by
  unfold aX.put;rw[←aAb,←aAb,←aAb,←aAb,←aAb];exact dL (by simp[aP]) o_
 have f7:bX c.put 18 1=c.ref.rep.toNat:=by
  unfold aX.put;rw[←aAb,←aAb,←aAb,←aAb,←aAb,←aAb];exact dL (by simp[aP]) o_
 have f8:bX c.put 19 2=c.ref.seq.toNat:=by
  unfold aX.put;rw[←aAb,←aAb,←aAb,←aAb,←aAb,←aAb,←aAb];exact dL (by simp[aP]) o_
 unfold tM;rw[f0,f1,f2,f3,f4,f5,f6,f7,f8,Kj hn];rw[aBn i0,aBn o_,aBn o_,aBn k0,aBn a0,aBn b0,aBn r0,aBn s0]
theorem Pd(c:aX):c.put[21]?=some 67:=by
 unfold aX.put;rw[←aAb,←aAb,←aAb,←aAb,←aAb,←aAb,←aAb,←aAb,aBc (by simp[aP])];simp[aP]
def tT(l:List UInt8):Option aX:=if l.length=22∧l[21]?=some 67∧(tM l).may=true then some (tM l) else none
theorem Du{l:List UInt8}{c:aX}(h:tT l=some c):c=tM l∧c.may=true∧c.put=l∧c.ok:=by
 unfold tT at h;split at h
 ·rename_i hh;injection h with h
  subst h;exact⟨rfl,hh.2.2,Lb hh.1 hh.2.1,NX l⟩
 ·cases h
theorem CJ{c:aX}(hm:c.may=true)(hn:dQ c.n):tT c.put=some c:=by
 unfold tT;rw[LL hm hn,if_pos ⟨c.bD,Pd c,hm⟩]
def jV(s:Bool×List UInt8)(w:Nat):Bool×List UInt8:=(nx s.1 s.2 w).2
def vl(s:Bool×List UInt8)(w:Nat):Nat:=match (nx s.1 s.2 w).1 with|none=>0|some x=>get x
def Ly(s:Bool×List UInt8)(w:Nat):Bool:=(nx s.1 s.2 w).1.isSome
theorem Ai{l:List UInt8}{k:Nat}(h:k≤l.length):nx false l k=(some (l.take k),false,l.drop k):=by
 unfold nx;rw[if_neg (by simp),if_neg o_,aAu]
theorem TW{l:List UInt8}{k:Nat}(h:l.length<k):nx false l k=(none,true,l):=by
 unfold nx;rw[if_neg (by simp),if_pos o_]
theorem iL{l:List UInt8}{i w:Nat}(h:i+w≤l.length):jV (false,l.drop i) w=(false,l.drop (i+w))∧vl (false,l.drop i) w=bX l i w∧Ly (false,l.drop i) w=true:=by
 have h1:nx false (l.drop i) w=_:=Ai (by simp;omega);unfold jV vl Ly;dsimp only;rw[h1,aBt];exact⟨rfl,rfl,rfl⟩
theorem jR(s:Bool×List UInt8)(w:Nat):vl s w<256 ^ w:=by
 unfold vl nx;split
 ·exact Nat.pow_pos o_
 ·rename_i x hx;split at hx
  ·cases hx
  ·split at hx
   ·cases hx
   ·injection hx with hx
    subst hx;have h:=BY (s.2.take (w:Int).toNat);have h2:(s.2.take (w:Int).toNat).length≤w:=by simp;omega
    exact aDe h (aDx o_ h2)
def runs:List Nat→Bool×List UInt8→Bool×List UInt8
 | [],s=>s
 |w::ws,s=>runs ws (jV s w)
theorem Po(ws:List Nat)(l:List UInt8):runs ws (true,l)=(true,l):=by
 induction ws with
 |nil=>rfl
 |cons w ws ih=>exact ih
theorem Hl(ws:List Nat)(w:Nat)(l:List UInt8)(h:l.length<ws.sum+w):vl (runs ws (false,l)) w=0:=by
 induction ws generalizing l with
 |nil =>
  simp at h;unfold runs vl;dsimp only;rw[TW h]
 |cons a ws ih =>
  simp at h;unfold runs;by_cases ha:a≤l.length
  ·have:=(iL (l:=l) (i:=0) (w:=a) o_).1;rw[aCh,aCa] at this;rw[this];exact ih _ (by simp;omega)
  ·have:jV (false,l) a=(true,l):=by
    unfold jV;dsimp only;rw[TW o_]
   rw[this,Po];rfl
theorem Kv(ws:List Nat)(w:Nat)(s:Bool×List UInt8):runs (ws++[w]) s=jV (runs ws s) w:=by
 induction ws generalizing s with
 |nil=>rfl
 |cons a ws ih=>exact ih _
def st(ws:List Nat)(l:List UInt8)(i:Nat):Bool×List UInt8:=runs (ws.take i) (false,l)
def va(ws:List Nat)(l:List UInt8)(i:Nat):Nat:=vl (st ws l i) (ws.getD i 0)
theorem yX{ws:List Nat}{l:List UInt8}{i:Nat}(hi:i≤ws.length)(h:(ws.take i).sum≤l.length):st ws l i=(false,l.drop (ws.take i).sum):=by
 induction i with
 |zero=>simp[st,runs]
 |succ i ih =>
  have e:ws.take (i+1)=ws.take i++[ws[i]]:=aAn o_;have hs:(ws.take (i+1)).sum=(ws.take i).sum+ws[i]:=by rw[e,List.sum_append];simp
  have h1:=ih o_ o_;unfold st at h1⊢;rw[hs,e,Kv,h1,(iL o_).1]
theorem dN{ws:List Nat}{l:List UInt8}{i k w:Nat}(hk:(ws.take i).sum=k)(hw:ws.getD i 0=w)(hi:i≤ws.length)(h:k+w≤l.length):va ws l i=bX l k w:=by
 subst hk hw;unfold va;rw[yX hi o_,(iL h).2.1]
theorem Fj{ws:List Nat}{l:List UInt8}{i:Nat}(h:l.length<(ws.take i).sum+ws.getD i 0):va ws l i=0:=Hl _ _ _ h
theorem Ds(ws:List Nat)(l:List UInt8)(i:Nat):va ws l i<256 ^ ws.getD i 0:=jR _ _
theorem cN{k:Nat}(h:k<9223372036854775808):rV k=k:=if_pos h
abbrev dW:List Nat:=[1,2,4,1,1,1,8,1,2,1]
def wR(l:List UInt8):aX:=⟨⟨va dW l 0,va dW l 1⟩,va dW l 2,va dW l 3,va dW l 4,va dW l 5,rV (va dW l 6),⟨va dW l 7,va dW l 8⟩⟩
theorem G0{l:List UInt8}(h:22≤l.length):wR l=tM l∧va dW l 9=bX l 21 1∧st dW l 10=(false,l.drop 22):=by
 refine⟨?_,dN rfl rfl sD o_,yX sD (by simpa using h)⟩;unfold wR tM;rw[dN (k:=0) (w:=1) rfl rfl sD o_,dN (k:=1) (w:=2) rfl rfl sD o_,dN (k:=3) (w:=4) rfl rfl sD o_,dN (k:=7) (w:=1) rfl rfl sD o_,dN (k:=8) (w:=1) rfl rfl sD o_,
  dN (k:=9) (w:=1) rfl rfl sD o_,dN (k:=10) (w:=8) rfl rfl sD o_,dN (k:=18) (w:=1) rfl rfl sD o_,dN (k:=19) (w:=2) rfl rfl sD o_]
theorem BA{p q:Prop}[Decidable p][Decidable q]{α:Type}{x y:α}(h:p↔q):(if p then x else y)=if q then x else y:=by
 by_cases hp:p
 ·rw[if_pos hp,if_pos (h.1 hp)]
 ·rw[if_neg hp,if_neg (λhq=>hp (h.2 hq))]
theorem N0(l:List UInt8):tT l=if va dW l 9=67∧(!(st dW l 10).1&&(st dW l 10).2.isEmpty)=true∧(wR l).may=true then some (wR l) else none:=by
 by_cases h:22≤l.length
 ·obtain⟨h1,h2,h3⟩:=G0 h;rw[h1,h2,h3];unfold tT;have e1:(bX l 21 1=67)↔l[21]?=some 67:=by
   rw[uY o_,aAa o_];constructor
   ·intro h;rw[show l[21]=67 from aEg.1 h]
   ·intro h;injection h with h;rw[h];rfl
  have e2:((!(false,l.drop 22).1&&(false,l.drop 22).2.isEmpty)=true)↔l.length=22:=by
   simp;omega
  exact BA ⟨λ⟨a,b,c⟩=>⟨e1.2 b,e2.2 a,c⟩,λ⟨a,b,c⟩=>⟨e2.1 b,e1.1 a,c⟩⟩
 ·rw[Fj (i:=9) (by simp;omega),if_neg (by simp)];exact if_neg λ⟨h1,_⟩=>by omega
def Mp(k:Int):Bool:=decide (k=1∨k=2∨k=3∨k=5∨12≤k)
def Pv(k:Int):Bool:=decide (k=3∨7≤k∧k≤10)
def Qg(k:Int):Bool:=decide (k=4∨k=6∨k=10∨k=11∨k=14)
def Ux(k:Int):Bool:=decide (k=1)
def YS(b:Bool)(c:aX):aX:=match b with|true=>⟨⟨0,0⟩,0,c.kind,c.a,c.b,c.n,c.ref⟩|false=>⟨⟨0,0⟩,0,0,0,0,0,⟨0,0⟩⟩
def wG(b:Bool)(n:Int):Int:=match b with|true=>n|false=>0
def cH.bare(x:cH):cH:=⟨x.kind,wG (Mp x.kind) x.r,wG (Pv x.kind) x.i,wG (Qg x.kind) x.n,YS (Ux x.kind) x.c⟩
def cH.Yv(x:cH):List Int:=[x.r,x.i,x.c.kind,x.c.a,x.c.b,x.c.ref.rep]
def cH.check(x:cH):Int :=
 if 1≤x.kind∧x.kind≤15 then
  if x.Yv.all small=true then
   if (0≤x.c.ref.seq∧x.c.ref.seq≤65535)∧0≤x.n∧x.n≤2147483647 then
    if x.bare=x then 0 else 16
   else 4
  else 4
 else 12
theorem cH.bR{x:cH}(h:x.check=0):(1≤x.kind∧x.kind≤15)∧((0≤x.r∧x.r≤255)∧(0≤x.i∧x.i≤255)∧(0≤x.c.kind∧x.c.kind≤255)∧(0≤x.c.a∧x.c.a≤255)∧(0≤x.c.b∧x.c.b≤255)∧0≤x.c.ref.rep∧x.c.ref.rep≤255)∧((0≤x.c.ref.seq∧x.c.ref.seq≤65535)∧0≤x.n∧x.n≤2147483647)∧x.bare=x:=by
 unfold cH.check at h;split at h
 ·rename_i h1;split at h
  ·rename_i h2;split at h
   ·rename_i h3;split at h
    ·rename_i h4;refine⟨h1,?_,h3,h4⟩;simpa [cH.Yv,small] using h2
    ·cases h
   ·cases h
  ·cases h
 ·cases h
end
section
open Go.RowKit Reg Oct
open Mem hiding Rd
theorem QD:Lu prog 98 [.int .i64 0,.int .i64 0,.int .i64 0,.int .i64 0] [(0,1),(1,1),(2,1),(3,1)] 1:=⟨q_,q_,rfl⟩
instance VG:Bj 98 [.int .i64 0,.int .i64 0,.int .i64 0,.int .i64 0] [(0,1),(1,1),(2,1),(3,1)] 1:=⟨QD⟩
abbrev cells(L:List Int):List Value:=L.map (Value.int .i64)
theorem kF(E:Env)(c:aX):aK prog E 98 #[.agg c.cs.toArray] [] λe H'=>e=.returned (.int .i64 (if c.may then 0 else 4))∧H'=[]:=by
 refine t_ func98 ntmps98 ?_;have hall:([c.kind,c.a,c.b,c.ref.rep].all small)=(small c.kind&&small c.a&&small c.b&&small c.ref.rep):=by simp[Bool.and_assoc]
 have hll:[c.kind,c.a,c.b,c.ref.rep].length=4:=rfl;repeat first|refine v_ ?_|intro
 rename_i g;generalize hL:[c.kind,c.a,c.b,c.ref.rep]=qs at hall hll;refine C.loop (X:=Nat) (λi=>[(1,.pointer (some ⟨g,0,none⟩)),(3,.bool ((qs.take i).all small)),(15,.agg (cells qs).toArray),(16,.int .i64 i)]) (λi=>[aJ g 34 c.cs]) (λi=>i≤4) (λi=>4 - i) 0 (by subst hL;exact aD) aB.refl o_ ?_;rintro i G hi;by_cases hlt:i<4
 ·have hli:i<qs.length:=o_;have hx:(cells qs)[i]?=some (Value.int .i64 qs[i]):=by simp[cells,hli]
  have hstep:(qs.take (i+1)).all small=((qs.take i).all small&&small qs[i]):=by
   rw[aAn hli,List.all_append];simp
  generalize qs[i]=n at hx hstep;by_cases hb:(qs.take i).all small=true
  ·rw[hb] at hstep⊢;rw[aCt] at hstep;repeat first|refine v_ ?_|intro
   refine⟨i+1,?_,aB.refl,by omega,by omega⟩;rw[hstep];unfold small;exact aD
  ·have hb:(qs.take i).all small=false:=by simpa using hb
   rw[hb] at hstep⊢;repeat first|refine v_ ?_|intro
   refine⟨i+1,?_,aB.refl,by omega,by omega⟩;rw[hstep];exact aD
 ·obtain rfl:i=4:=o_;rw[aAj o_,hall];clear hL hall hll;cases hs:(small c.kind&&small c.a&&small c.b&&small c.ref.rep)
  ·have hm:c.may=false:=by
    unfold aX.may;revert hs;cases small c.kind<;>cases small c.a<;>cases small c.b<;>cases small c.ref.rep<;>simp
   rw[hm];repeat first|refine v_ ?_|intro
   exact B7
  ·have hm:c.may=(c.id.may&&decide (1≤c.time∧c.time≤1073741824)&&decide (0≤c.ref.seq∧c.ref.seq≤65535)):=by
    unfold aX.may;revert hs;cases small c.kind<;>cases small c.a<;>cases small c.b<;>cases small c.ref.rep<;>simp
   rw[hm];rcases aBh c.id.may with h1|h1
   ·have h1':(!c.id.may)=false:=by rw[h1];rfl
    by_cases h2:1≤c.time∧c.time≤1073741824
    ·by_cases h3:0≤c.ref.seq∧c.ref.seq≤65535
     ·rw[show(c.id.may&&decide (1≤c.time∧c.time≤1073741824)&&decide (0≤c.ref.seq∧c.ref.seq≤65535))=true by simp[h1,h2,h3]];repeat first|refine v_ ?_|intro
      exact B7
     ·rw[show(c.id.may&&decide (1≤c.time∧c.time≤1073741824)&&decide (0≤c.ref.seq∧c.ref.seq≤65535))=false by simp[h3]];repeat first|refine v_ ?_|intro
      exact B7
    ·rw[show(c.id.may&&decide (1≤c.time∧c.time≤1073741824)&&decide (0≤c.ref.seq∧c.ref.seq≤65535))=false by simp[h2]];repeat first|refine v_ ?_|intro
     exact B7
   ·have h1':(!c.id.may)=true:=by rw[h1];rfl
    rw[show(c.id.may&&decide (1≤c.time∧c.time≤1073741824)&&decide (0≤c.ref.seq∧c.ref.seq≤65535))=false by simp[h1]];repeat first|refine v_ ?_|intro
    exact B7
theorem kB(E:Env)(g:Nat)(A:Option Addr)(nl cap n' w:Nat)(l:List UInt8)(n:Int)(k:Nat)(W:Int)(hW:W=w)(hn:nl+w=n')(hk:IntKind.u64.wrap n=k)(hk2:k<18446744073709551616)(hw:1≤w∧w≤8)(hr:Rd E aU A nl cap l)(hl:nl≤140737488355300) :
  aK prog E 273 #[.int .i64 n,.int .i64 W,.pointer (some ⟨g,0,none⟩)] [aJ g 70 [.slice A nl cap]] λe H'=>∃A' c',e=.returned (.tuple #[])∧H'=[aJ g 70 [.slice A' n' c'],own aU A' n' c' (l++be k w)]:=by
 refine t_ func273 ntmps273 ?_;repeat first|refine aE ?_|intro
 refine dX (λM h1=>kY M A nl cap n' w l k W hW hn hw h1 hk2 hl) ?_;rintro e H' ⟨A',c',rfl,hc,rfl⟩;repeat first|refine aE ?_|intro
 exact gO rfl aA (⟨_,_,rfl,rfl⟩)
theorem Ru(E:Env)(c:aX)(hm:c.may=false):aK prog E 213 #[.agg c.cs.toArray] [] λe H'=>e=.returned (.tuple #[.slice none 0 0,.int .i64 4])∧H'=[]:=by
 refine t_ func213 ntmps213 ?_;repeat first|refine aE ?_|intro
 refine bW (λM=>kF M c) ?_;rw[hm,if_neg aAl];rintro e H' ⟨rfl,rfl⟩;repeat first|refine aE ?_|intro
 exact Xs
theorem Kq(E:Env)(c:aX)(hm:c.may=true):aK prog E 213 #[.agg c.cs.toArray] [] λe H'=>∃A' c',e=.returned (.tuple #[.slice A' 22 c',.int .i64 0])∧H'=[own aU A' 22 c' c.put]:=by
 obtain⟨⟨i0,i1,i2,i3⟩,⟨t0,t1⟩,⟨k0,k1⟩,⟨a0,a1⟩,⟨b0,b1⟩,⟨r0,r1⟩,s0,s1⟩:=(aX.bY c).1 hm;have hu:=EV c.n;have w0:=eZ i0 o_;have w1:=eZ (n:=c.id.seq) o_ o_;have w2:=eZ (n:=c.time) o_ o_;have w3:=eZ k0 o_;have w4:=eZ a0 o_;have w5:=eZ b0 o_;have w6:=G9 c.n;have w7:=eZ r0 o_;have w8:=eZ s0 o_;have w9:IntKind.u64.wrap 67=(67:Nat):=by rw[IntKind.wrap_u64];rfl
 have g0:c.id.rep.toNat<18446744073709551616:=o_;have g1:c.id.seq.toNat<18446744073709551616:=o_;have g2:c.time.toNat<18446744073709551616:=o_;have g3:c.kind.toNat<18446744073709551616:=o_;have g4:c.a.toNat<18446744073709551616:=o_;have g5:c.b.toNat<18446744073709551616:=o_;have g7:c.ref.rep.toNat<18446744073709551616:=o_;have g8:c.ref.seq.toNat<18446744073709551616:=o_;have hfin:([]++be c.id.rep.toNat 1++be c.id.seq.toNat 2++be c.time.toNat 4++be c.kind.toNat 1++be c.a.toNat 1++be c.b.toNat 1++be (GF c.n) 8++be c.ref.rep.toNat 1++be c.ref.seq.toNat 2++be 67 1)=c.put:=by
  rw[nC 67];simp[aX.put]
 have o1:1≤1∧1≤8:=o_;have o2:1≤2∧2≤8:=o_;have o4:1≤4∧4≤8:=o_;have o8:1≤8∧8≤8:=o_;have big:∀k,k≤22→k≤140737488355300:=λk h=>by omega
 refine t_ func213 ntmps213 ?_;repeat first|refine aE ?_|intro
 refine bW (λM=>kF M c) ?_;rw[hm,if_pos rfl];rintro e H' ⟨rfl,rfl⟩;repeat first|refine aE ?_|intro
 rename_i gc g;refine L.step sD (S.cW rfl eS rfl rfl func273 q_ rfl aC (λM hE=>kB M g none 0 0 1 1 ([]:List UInt8) c.id.rep c.id.rep.toNat 1 rfl rfl w0 g0 o1 dB (big 0 sD)) ?_);rintro e H' ⟨A1,c1,rfl,rfl⟩;repeat first|refine aE ?_|intro
 refine L.step sD (S.cW rfl eS rfl rfl func273 q_ rfl aC (λM hE=>kB M g A1 1 c1 3 2 _ c.id.seq c.id.seq.toNat 2 rfl rfl w1 g1 o2 dB (big 1 sD)) ?_);rintro e H' ⟨A2,c2,rfl,rfl⟩;repeat first|refine aE ?_|intro
 refine L.step sD (S.cW rfl eS rfl rfl func273 q_ rfl aC (λM hE=>kB M g A2 3 c2 7 4 _ c.time c.time.toNat 4 rfl rfl w2 g2 o4 dB (big 3 sD)) ?_);rintro e H' ⟨A3,c3,rfl,rfl⟩;repeat first|refine aE ?_|intro
 refine L.step sD (S.cW rfl eS rfl rfl func273 q_ rfl aC (λM hE=>kB M g A3 7 c3 8 1 _ c.kind c.kind.toNat 1 rfl rfl w3 g3 o1 dB (big 7 sD)) ?_);rintro e H' ⟨A4,c4,rfl,rfl⟩;repeat first|refine aE ?_|intro
 refine L.step sD (S.cW rfl eS rfl rfl func273 q_ rfl aC (λM hE=>kB M g A4 8 c4 9 1 _ c.a c.a.toNat 1 rfl rfl w4 g4 o1 dB (big 8 sD)) ?_);rintro e H' ⟨A5,c5,rfl,rfl⟩;repeat first|refine aE ?_|intro
 refine L.step sD (S.cW rfl eS rfl rfl func273 q_ rfl aC (λM hE=>kB M g A5 9 c5 10 1 _ c.b c.b.toNat 1 rfl rfl w5 g5 o1 dB (big 9 sD)) ?_);rintro e H' ⟨A6,c6,rfl,rfl⟩;repeat first|refine aE ?_|intro
 refine L.step sD (S.cW rfl eS rfl rfl func273 q_ rfl aC (λM hE=>kB M g A6 10 c6 18 8 _ c.n (GF c.n) 8 rfl rfl w6 hu o8 dB (big 10 sD)) ?_);rintro e H' ⟨A7,c7,rfl,rfl⟩;repeat first|refine aE ?_|intro
 refine L.step sD (S.cW rfl eS rfl rfl func273 q_ rfl aC (λM hE=>kB M g A7 18 c7 19 1 _ c.ref.rep c.ref.rep.toNat 1 rfl rfl w7 g7 o1 dB (big 18 sD)) ?_);rintro e H' ⟨A8,c8,rfl,rfl⟩;repeat first|refine aE ?_|intro
 refine L.step sD (S.cW rfl eS rfl rfl func273 q_ rfl aC (λM hE=>kB M g A8 19 c8 21 2 _ c.ref.seq c.ref.seq.toNat 2 rfl rfl w8 g8 o2 dB (big 19 sD)) ?_);rintro e H' ⟨A9,c9,rfl,rfl⟩;repeat first|refine aE ?_|intro
 refine L.step sD (S.cW rfl eS rfl rfl func273 q_ rfl aC (λM hE=>kB M g A9 21 c9 22 1 _ 67 67 1 rfl rfl w9 sD o1 dB (big 21 sD)) ?_);rintro e H' ⟨A0,c0,rfl,rfl⟩;repeat first|refine aE ?_|intro
 rw[hfin];exact Cz ⟨_,_,rfl,rfl⟩
def Sd(gr g:Nat)(A:Option Addr)(n c:Nat)(l:List UInt8)(s:Bool×List UInt8)(v:Value)(e:Ending)(H':List aL):Prop :=
 ∃A' n' c',e=.returned v∧nS A n c l A' n' c' s.2∧H'=[aJ gr 276 [.pointer (some ⟨g,0,none⟩)],pC g true s.1 A' n' c']
theorem Gl(s:Bool×List UInt8)(w:Nat):tk (nx s.1 s.2 w).1=.tuple #[.int .u64 (vl s w:Nat),.bool (Ly s w)]:=by
 unfold vl Ly;cases(nx s.1 s.2 w).1<;>rfl
theorem iH(E:Env)(gr g:Nat)(s s':Bool×List UInt8)(w:Nat)(v:Int)(hs:jV s w=s')(hv:rV (vl s w)=v)(A:Option Addr)(n c:Nat)(W:Int)(hW:W=w)(hw:1≤w∧w≤8)(hr:Rd E aU A n c s.2) :
  aK prog E 331 #[.int .i64 W,.pointer (some ⟨gr,0,none⟩)] [aJ gr 276 [.pointer (some ⟨g,0,none⟩)],pC g true s.1 A n c] (Sd gr g A n c s.2 s' (.int .i64 v)):=by
 subst hs hv;have hwid:wid W=(w:Int):=by unfold wid;rw[if_neg o_];exact hW
 have hlt:=jR s w;have hlt2:vl s w<18446744073709551616:=aDe hlt (aBw (aDx o_ hw.2) sD);have hc:=qZ hlt2;refine t_ func331 ntmps331 ?_;repeat first|refine aE ?_|intro
 refine dX (λM=>iG M g s.1 A n c s.2 W) ?_;obtain⟨o,ho⟩:∃o,nx s.1 s.2 (w:Int)=(o,jV s w):=⟨_,rfl⟩
 have htk:=Gl s w;rw[ho] at htk;rw[hwid,ho];rintro e H' ⟨A',n',c',rfl,hal,rfl⟩;dsimp only at htk hal⊢;rw[htk];repeat first|refine aE ?_|intro
 exact jQ ⟨_,_,_,rfl,hal,rfl⟩
theorem xS(E:Env)(A:Option Addr)(n c:Nat)(l:List UInt8)(r:Option aX)(hx:tT l=r)(hr:Rd E aU A n c l)(hl:n≤140737488355300) :
  aK prog E 283 #[.slice A n c] [] λe H'=>e=.returned (.tuple #[.agg (r.getD dO).cs.toArray,.int .i64 (if r.isSome then 0 else 16)])∧H'=[]:=by
 have o1:1≤1∧1≤8:=o_;have o2:1≤2∧2≤8:=o_;have o4:1≤4∧4≤8:=o_;have o8:1≤8∧8≤8:=o_;have q0:rV (vl (false,l) 1)=(va dW l 0:Nat):=cN (aCl (jR _ 1) sD);have q1:rV (vl (st dW l 1) 2)=(va dW l 1:Nat):=cN (aCl (jR _ 2) sD);have q2:rV (vl (st dW l 2) 4)=(va dW l 2:Nat):=cN (aCl (jR _ 4) sD);have q3:rV (vl (st dW l 3) 1)=(va dW l 3:Nat):=cN (aCl (jR _ 1) sD);have q4:rV (vl (st dW l 4) 1)=(va dW l 4:Nat):=cN (aCl (jR _ 1) sD);have q5:rV (vl (st dW l 5) 1)=(va dW l 5:Nat):=cN (aCl (jR _ 1) sD);have q7:rV (vl (st dW l 7) 1)=(va dW l 7:Nat):=cN (aCl (jR _ 1) sD);have q8:rV (vl (st dW l 8) 2)=(va dW l 8:Nat):=cN (aCl (jR _ 2) sD);have q9:rV (vl (st dW l 9) 1)=(va dW l 9:Nat):=cN (aCl (jR _ 1) sD);have b6:=jR (st dW l 6) 8;have i6:dQ (rV (va dW l 6)):=Ii b6;unfold dQ at i6;have hcr:=N0 l;refine t_ func283 ntmps283 ?_;repeat first|refine aE ?_|intro
 refine dX (λM h1=>lD M A n c l h1 (by omega)) ?_;rintro e H' ⟨g,A0,c0,rfl,h5,h6,rfl⟩;refine gk bG ?_;unfold Bs;repeat first|refine aE ?_|intro
 rename_i gres gr gc;refine L.step sD (S.cW rfl eS rfl rfl func331 q_ rfl aC (λM hE=>iH M gr g (false,l) (st dW l 1) 1 _ rfl q0 A0 n c0 1 rfl o1 dB) ?_);rintro e H' ⟨A1,n1,c1,rfl,hal1,rfl⟩;repeat first|refine aE ?_|intro
 refine L.step sD (S.cW rfl eS rfl rfl func331 q_ rfl aC (λM hE=>iH M gr g (st dW l 1) (st dW l 2) 2 _ rfl q1 A1 n1 c1 2 rfl o2 (hal1 _ dB)) ?_);rintro e H' ⟨A2,n2,c2,rfl,hal2,rfl⟩;repeat first|refine aE ?_|intro
 refine L.step sD (S.cW rfl eS rfl rfl func331 q_ rfl aC (λM hE=>iH M gr g (st dW l 2) (st dW l 3) 4 _ rfl q2 A2 n2 c2 4 rfl o4 (hal2 _ (hal1 _ dB))) ?_);rintro e H' ⟨A3,n3,c3,rfl,hal3,rfl⟩;repeat first|refine aE ?_|intro
 refine L.step sD (S.cW rfl eS rfl rfl func331 q_ rfl aC (λM hE=>iH M gr g (st dW l 3) (st dW l 4) 1 _ rfl q3 A3 n3 c3 1 rfl o1 (hal3 _ (hal2 _ (hal1 _ dB)))) ?_);rintro e H' ⟨A4,n4,c4,rfl,hal4,rfl⟩;repeat first|refine aE ?_|intro
 refine L.step sD (S.cW rfl eS rfl rfl func331 q_ rfl aC (λM hE=>iH M gr g (st dW l 4) (st dW l 5) 1 _ rfl q4 A4 n4 c4 1 rfl o1 (hal4 _ (hal3 _ (hal2 _ (hal1 _ dB))))) ?_);rintro e H' ⟨A5,n5,c5,rfl,hal5,rfl⟩;repeat first|refine aE ?_|intro
 refine L.step sD (S.cW rfl eS rfl rfl func331 q_ rfl aC (λM hE=>iH M gr g (st dW l 5) (st dW l 6) 1 _ rfl q5 A5 n5 c5 1 rfl o1 (hal5 _ (hal4 _ (hal3 _ (hal2 _ (hal1 _ dB)))))) ?_);rintro e H' ⟨A6,n6,c6,rfl,hal6,rfl⟩;repeat first|refine aE ?_|intro
 refine L.step sD (S.cW rfl eS rfl rfl func331 q_ rfl aC (λM hE=>iH M gr g (st dW l 6) (st dW l 7) 8 _ rfl rfl A6 n6 c6 8 rfl o8 (hal6 _ (hal5 _ (hal4 _ (hal3 _ (hal2 _ (hal1 _ dB))))))) ?_);rintro e H' ⟨A7,n7,c7,rfl,hal7,rfl⟩;repeat first|refine aE ?_|intro
 refine L.step sD (S.cW rfl eS rfl rfl func331 q_ rfl aC (λM hE=>iH M gr g (st dW l 7) (st dW l 8) 1 _ rfl q7 A7 n7 c7 1 rfl o1 (hal7 _ (hal6 _ (hal5 _ (hal4 _ (hal3 _ (hal2 _ (hal1 _ dB)))))))) ?_);rintro e H' ⟨A8,n8,c8,rfl,hal8,rfl⟩;repeat first|refine aE ?_|intro
 refine L.step sD (S.cW rfl eS rfl rfl func331 q_ rfl aC (λM hE=>iH M gr g (st dW l 8) (st dW l 9) 2 _ rfl q8 A8 n8 c8 2 rfl o2 (hal8 _ (hal7 _ (hal6 _ (hal5 _ (hal4 _ (hal3 _ (hal2 _ (hal1 _ dB))))))))) ?_);rintro e H' ⟨A9,n9,c9,rfl,hal9,rfl⟩;repeat first|refine aE ?_|intro
 refine L.step sD (S.cW rfl eS rfl rfl func331 q_ rfl aC (λM hE=>iH M gr g (st dW l 9) (st dW l 10) 1 _ rfl q9 A9 n9 c9 1 rfl o1 (hal9 _ (hal8 _ (hal7 _ (hal6 _ (hal5 _ (hal4 _ (hal3 _ (hal2 _ (hal1 _ dB)))))))))) ?_);rintro e H' ⟨Ax,nx',cx,rfl,halx,rfl⟩;refine gk bG ?_;have hno:r=none→r.getD dO=dO∧r.isSome=false:=λh=>by rw[h];exact⟨rfl,rfl⟩
 by_cases h9:va dW l 9=67
 ·repeat first|refine aE ?_|intro
  refine cl sD sK aC (λM hE=>xV M g (st dW l 10).1 Ax nx' cx (st dW l 10).2 (halx _ (hal9 _ (hal8 _ (hal7 _ (hal6 _ (hal5 _ (hal4 _ (hal3 _ (hal2 _ (hal1 _ dB))))))))))) ?_;rintro e H' ⟨rfl,rfl⟩;refine gk bG ?_;cases hd:(!(st dW l 10).1&&(st dW l 10).2.isEmpty)
  ·obtain⟨e1,e2⟩:=hno (by rw[←hx,hcr,if_neg (by rw[hd];simp)]);rw[e1,e2];repeat first|refine aE ?_|intro
   exact Qv
  ·repeat first|refine aE ?_|intro
   refine bK (λM=>kF M (wR l)) ?_;cases hm:(wR l).may
   ·obtain⟨e1,e2⟩:=hno (by rw[←hx,hcr,if_neg (by rw[hm];simp)]);rw[e1,e2,if_neg aAl];repeat first|refine aE ?_|intro
    exact Qv
   ·have e1:r=some (wR l):=by rw[←hx,hcr,if_pos ⟨h9,hd,hm⟩]
    rw[e1,if_pos rfl];repeat first|refine aE ?_|intro
    exact Qv
 ·obtain⟨e1,e2⟩:=hno (by rw[←hx,hcr,if_neg (λh=>h9 h.1)]);rw[e1,e2];repeat first|refine aE ?_|intro
  exact Qv
theorem Me:Lu prog 322 [.int .i64 0,.int .i64 0,.int .i64 0,.int .i64 0,.int .i64 0,.int .i64 0,.int .i64 0,.int .i64 0,.int .i64 0,.int .i64 0,.int .i64 0,.int .i64 0,.int .i64 0,.int .i64 0,.int .i64 0,.int .i64 0] [(0,1),(1,1),(2,1),(3,1),(4,1),(5,1),(6,1),(7,1),(8,1),(9,1),(10,1),(11,1),(12,1),(13,1),(14,1),(15,1)] 1:=⟨q_,q_,rfl⟩
instance TR:Bj 322 [.int .i64 0,.int .i64 0,.int .i64 0,.int .i64 0,.int .i64 0,.int .i64 0,.int .i64 0,.int .i64 0,.int .i64 0,.int .i64 0,.int .i64 0,.int .i64 0,.int .i64 0,.int .i64 0,.int .i64 0,.int .i64 0] [(0,1),(1,1),(2,1),(3,1),(4,1),(5,1),(6,1),(7,1),(8,1),(9,1),(10,1),(11,1),(12,1),(13,1),(14,1),(15,1)] 1:=⟨Me⟩
theorem Od:Lu prog 184 [.int .i64 0,.int .i64 0,.int .i64 0,.int .i64 0,.int .i64 0,.int .i64 0] [(0,1),(1,1),(2,1),(3,1),(4,1),(5,1)] 1:=⟨q_,q_,rfl⟩
instance V3:Bj 184 [.int .i64 0,.int .i64 0,.int .i64 0,.int .i64 0,.int .i64 0,.int .i64 0] [(0,1),(1,1),(2,1),(3,1),(4,1),(5,1)] 1:=⟨Od⟩
abbrev Zc:List Int:=[0,9,1,3,4,1,4,2,2,2,6,4,1,1,5,1]
def vN(k:Nat):Int:=Zc.getD k 0
theorem wU(E:Env)(k:Nat)(h:k<16):aK prog E 169 #[.int .i64 k] [] λe H'=>e=.returned (.int .i64 (vN k))∧H'=[]:=by
 have g:([.int .i64 0,.int .i64 9,.int .i64 1,.int .i64 3,.int .i64 4,.int .i64 1,.int .i64 4,.int .i64 2,.int .i64 2,.int .i64 2,.int .i64 6,.int .i64 4,.int .i64 1,.int .i64 1,.int .i64 5,.int .i64 1]:List Value)[k]?=some (.int .i64 (vN k)):=by
  rcases(show k=0∨k=1∨k=2∨k=3∨k=4∨k=5∨k=6∨k=7∨k=8∨k=9∨k=10∨k=11∨k=12∨k=13∨k=14∨k=15 by omega) with rfl|rfl|rfl|rfl|rfl|rfl|rfl|rfl|rfl|rfl|rfl|rfl|rfl|rfl|rfl|rfl<;>rfl
 refine t_ func169 ntmps169 ?_;repeat first|refine aE ?_|intro
 exact B7
theorem VY(k:Nat)(h1:1≤k)(h:k≤15):Go.bits .and .i64 (vN k) 1=(if Mp k then 1 else 0)∧Go.bits .and .i64 (vN k) 2=(if Pv k then 2 else 0)∧Go.bits .and .i64 (vN k) 4=(if Qg k then 4 else 0)∧Go.bits .and .i64 (vN k) 8=(if Ux k then 8 else 0):=by
 rcases(show k=1∨k=2∨k=3∨k=4∨k=5∨k=6∨k=7∨k=8∨k=9∨k=10∨k=11∨k=12∨k=13∨k=14∨k=15 by omega) with rfl|rfl|rfl|rfl|rfl|rfl|rfl|rfl|rfl|rfl|rfl|rfl|rfl|rfl|rfl<;>exact⟨by decide,by decide,by decide,by decide⟩
theorem Og(E:Env)(x:cH)(h1:1≤x.kind)(h:x.kind≤15):aK prog E 108 #[.agg x.cs.toArray] [] λe H'=>e=.returned (.agg x.bare.cs.toArray)∧H'=[]:=by
 obtain⟨k,hk⟩:=aCf (show 0≤x.kind by omega);have hf:=wU E k o_;obtain⟨br,bi,bn,bc⟩:=VY k o_ o_;rw[←hk] at br bi bn bc;have hk16:k<16:=o_;refine t_ func108 ntmps108 ?_;repeat first|refine aE ?_|refine Dr.two ?_ ?_|intro
 rename_i g gres;refine C.BI (X:=Nat) (λg4=>[(1,.pointer (some ⟨g,0,none⟩)),(2,.pointer (some ⟨gres,0,none⟩)),(3,.int .i64 (vN k)),(4,.pointer (some ⟨g4,0,none⟩))])
  (λg4=>[aJ g 39 x.cs,aJ gres 39 E0.cs,aJ g4 39 (⟨x.kind,0,0,0,⟨⟨0,0⟩,0,0,0,0,0,⟨0,0⟩⟩⟩:cH).cs]) (λ_=>True) ?_ ?_
 ·refine rA (l_ [0,1,3,4,5] (.two 2 (g_ 6 (n_ 7 (g_ 8 .nil))) 6 (g_ 2 (n_ 7 (g_ 8 .nil))))) ?_;repeat first|refine aE ?_|intro
  refine Dr.two ?_ ?_
  ·refine yB rfl sD bA sK aC (λM hE=>(by rw[hk];exact wU M k hk16)) ?_;rintro e H' ⟨rfl,rfl⟩;repeat first|refine aE ?_|refine Dr.two ?_ ?_|intro
   exact⟨_,aD,aA,trivial⟩
  ·repeat first|refine aE ?_|intro
   refine cg rfl sD bA sK aC (λM hE=>(by rw[hk];exact wU M k hk16)) ?_;rintro e H' ⟨rfl,rfl⟩;repeat first|refine aE ?_|refine Dr.two ?_ ?_|intro
   exact⟨_,aD,aA,trivial⟩
 rintro g4 G -;refine C.cut (X:=Unit) (λ_=>[(1,.pointer (some ⟨g,0,none⟩)),(2,.pointer (some ⟨gres,0,none⟩)),(3,.int .i64 (vN k)),(4,.pointer (some ⟨g4,0,none⟩))])
  (λ_=>[aJ g 39 x.cs,aJ gres 39 E0.cs,aJ g4 39 (⟨x.kind,wG (Mp x.kind) x.r,0,0,⟨⟨0,0⟩,0,0,0,0,0,⟨0,0⟩⟩⟩:cH).cs]) (λ_=>True) ?_ ?_
 ·cases hh:Mp x.kind
  ·rw[hh,if_neg aAl] at br;rw[show wG false x.r=0 from rfl];repeat first|refine aE ?_|refine Dr.two ?_ ?_|intro
   exact⟨(),aD,aA,trivial⟩
  ·rw[hh,if_pos rfl] at br;rw[show wG true x.r=x.r from rfl];repeat first|refine aE ?_|refine Dr.two ?_ ?_|intro
   exact⟨(),aD,aA,trivial⟩
 rintro - G -;refine C.cut (X:=Unit) (λ_=>[(1,.pointer (some ⟨g,0,none⟩)),(2,.pointer (some ⟨gres,0,none⟩)),(3,.int .i64 (vN k)),(4,.pointer (some ⟨g4,0,none⟩))])
  (λ_=>[aJ g 39 x.cs,aJ gres 39 E0.cs,aJ g4 39 (⟨x.kind,wG (Mp x.kind) x.r,wG (Pv x.kind) x.i,0,⟨⟨0,0⟩,0,0,0,0,0,⟨0,0⟩⟩⟩:cH).cs]) (λ_=>True) ?_ ?_
 ·cases hh:Pv x.kind
  ·rw[hh,if_neg aAl] at bi;rw[show wG false x.i=0 from rfl];repeat first|refine aE ?_|refine Dr.two ?_ ?_|intro
   exact⟨(),aD,aA,trivial⟩
  ·rw[hh,if_pos rfl] at bi;rw[show wG true x.i=x.i from rfl];repeat first|refine aE ?_|refine Dr.two ?_ ?_|intro
   exact⟨(),aD,aA,trivial⟩
 rintro - G -;refine C.cut (X:=Unit) (λ_=>[(1,.pointer (some ⟨g,0,none⟩)),(2,.pointer (some ⟨gres,0,none⟩)),(3,.int .i64 (vN k)),(4,.pointer (some ⟨g4,0,none⟩))])
  (λ_=>[aJ g 39 x.cs,aJ gres 39 E0.cs,aJ g4 39 (⟨x.kind,wG (Mp x.kind) x.r,wG (Pv x.kind) x.i,wG (Qg x.kind) x.n,⟨⟨0,0⟩,0,0,0,0,0,⟨0,0⟩⟩⟩:cH).cs]) (λ_=>True) ?_ ?_
 ·cases hh:Qg x.kind
  ·rw[hh,if_neg aAl] at bn;rw[show wG false x.n=0 from rfl];repeat first|refine aE ?_|refine Dr.two ?_ ?_|intro
   exact⟨(),aD,aA,trivial⟩
  ·rw[hh,if_pos rfl] at bn;rw[show wG true x.n=x.n from rfl];repeat first|refine aE ?_|refine Dr.two ?_ ?_|intro
   exact⟨(),aD,aA,trivial⟩
 rintro - G -;unfold cH.bare;cases hh:Ux x.kind
 ·rw[hh,if_neg aAl] at bc;repeat first|refine aE ?_|refine Dr.two ?_ ?_|intro
  exact e7_
 ·rw[hh,if_pos rfl] at bc;repeat first|refine aE ?_|refine Dr.two ?_ ?_|intro
  exact e7_
theorem Bd(E:Env)(x:cH):aK prog E 51 #[.agg x.cs.toArray] [] λe H'=>e=.returned (.int .i64 x.check)∧H'=[]:=by
 have hsix:x.Yv.length=6:=rfl;refine t_ func51 ntmps51 ?_;repeat first|refine aE ?_|intro
 refine bK (λM=>dV M x.kind 1 15) ?_;unfold cH.check;by_cases hk:1≤x.kind∧x.kind≤15
 case neg =>
  rw[decide_eq_false hk,if_neg hk];repeat first|refine aE ?_|intro
  exact B7
 rw[decide_eq_true hk,if_pos hk];repeat first|refine aE ?_|intro
 rename_i g;generalize hqs:x.Yv=qs at hsix;refine C.loop (X:=Nat) (λi=>[(1,.pointer (some ⟨g,0,none⟩)),(26,.agg (cells qs).toArray),(27,.int .i64 i)]) (λ_=>[aJ g 39 x.cs]) (λi=>i≤6∧(qs.take i).all small=true) (λi=>6 - i) 0 (by subst hqs;exact aD) aB.refl ⟨by omega,rfl⟩ ?_;rintro i G ⟨hi,hall⟩;by_cases hlt:i<6
 ·have hli:i<qs.length:=o_;have hx:(cells qs)[i]?=some (Value.int .i64 qs[i]):=by simp[cells,hli]
  have hstep:(qs.take (i+1)).all small=((qs.take i).all small&&small qs[i]):=by
   rw[aAn hli,List.all_append];simp
  have hmem:qs[i]∈qs:=aCs hli;generalize qs[i]=n at hx hstep hmem;repeat first|refine aE ?_|intro
  refine bK (λM=>dV M n 0 255) ?_;cases hs:decide (0≤n∧n≤255)
  ·have hno:¬qs.all small=true:=λh=>by
    have:=aDm.1 h n hmem;unfold small at this;rw[hs] at this;cases this
   rw[if_neg hno];repeat first|refine aE ?_|intro
   exact B7
  ·have hs2:small n=true:=hs;rw[hall,hs2] at hstep;repeat first|refine aE ?_|intro
   exact⟨i+1,aD,aB.refl,⟨by omega,hstep⟩,by omega⟩
 ·obtain rfl:i=6:=o_;rw[aAj o_] at hall;rw[if_pos hall];clear hall hsix;by_cases hs:0≤x.c.ref.seq∧x.c.ref.seq≤65535
  ·by_cases hn:0≤x.n∧x.n≤2147483647
   ·rw[if_pos ⟨hs,hn⟩];repeat first|refine aE ?_|intro
    refine bW (λM=>dV M x.c.ref.seq 0 65535) ?_;rw[decide_eq_true hs];rintro e H' ⟨rfl,rfl⟩;repeat first|refine aE ?_|intro
    refine bW (λM=>dV M x.n 0 2147483647) ?_;rw[decide_eq_true hn];rintro e H' ⟨rfl,rfl⟩;repeat first|refine aE ?_|intro
    refine rA (l_ [0,2] (g_ 1 (l_ [3,4] .nil))) ?_;repeat first|refine aE ?_|intro
    refine eJ (λM=>Og M x hk.1 hk.2) ?_;by_cases hb:x.bare=x
    ·have hd:(!decide ((⟨x.bare.kind,x.bare.r,x.bare.i,x.bare.n,⟨⟨x.bare.c.id.rep,x.bare.c.id.seq⟩,x.bare.c.time,x.bare.c.kind,x.bare.c.a,x.bare.c.b,x.bare.c.n,⟨x.bare.c.ref.rep,x.bare.c.ref.seq⟩⟩⟩:cH)=⟨x.kind,x.r,x.i,x.n,⟨⟨x.c.id.rep,x.c.id.seq⟩,x.c.time,x.c.kind,x.c.a,x.c.b,x.c.n,⟨x.c.ref.rep,x.c.ref.seq⟩⟩⟩))=false:=by
      show(!decide (x.bare=x))=false;rw[decide_eq_true hb];rfl
     rw[if_pos hb];repeat first|refine aE ?_|intro
     exact B7
    ·have hd:(!decide ((⟨x.bare.kind,x.bare.r,x.bare.i,x.bare.n,⟨⟨x.bare.c.id.rep,x.bare.c.id.seq⟩,x.bare.c.time,x.bare.c.kind,x.bare.c.a,x.bare.c.b,x.bare.c.n,⟨x.bare.c.ref.rep,x.bare.c.ref.seq⟩⟩⟩:cH)=⟨x.kind,x.r,x.i,x.n,⟨⟨x.c.id.rep,x.c.id.seq⟩,x.c.time,x.c.kind,x.c.a,x.c.b,x.c.n,⟨x.c.ref.rep,x.c.ref.seq⟩⟩⟩))=true:=by
      show(!decide (x.bare=x))=true;rw[decide_eq_false hb];rfl
     rw[if_neg hb];repeat first|refine aE ?_|intro
     exact B7
   ·rw[if_neg (λh=>hn h.2)];repeat first|refine aE ?_|intro
    refine bW (λM=>dV M x.c.ref.seq 0 65535) ?_;rw[decide_eq_true hs];rintro e H' ⟨rfl,rfl⟩;repeat first|refine aE ?_|intro
    refine bW (λM=>dV M x.n 0 2147483647) ?_;rw[decide_eq_false hn];rintro e H' ⟨rfl,rfl⟩;repeat first|refine aE ?_|intro
    exact B7
  ·rw[if_neg (λh=>hs h.1)];repeat first|refine aE ?_|intro
   refine bW (λM=>dV M x.c.ref.seq 0 65535) ?_;rw[decide_eq_false hs];rintro e H' ⟨rfl,rfl⟩;repeat first|refine aE ?_|intro
   exact B7
end
section
open Go.RowKit Reg
open Mem hiding Rd
def cQ.check(f:cQ):Int :=
 if 1≤f.kind∧f.kind≤11 then
  if (0≤f.a∧f.a≤255)∧(0≤f.ref.rep∧f.ref.rep≤255)∧0≤f.ref.seq∧f.ref.seq≤65535 then 0 else 4
 else 12
section
variable (E:Env) (f:cQ)
theorem ES:aK prog E 215 #[.agg f.cs.toArray] [] λr H'=>r=.returned (.int .i64 f.check)∧H'=[]:=by
 refine t_ func215 ntmps215 ?_;unfold cQ.check;repeat first|refine aE ?_|intro
 refine bW (λM=>dV M f.kind 1 11) ?_;by_cases h1:1≤f.kind∧f.kind≤11
 case neg =>
  rw[decide_eq_false h1,if_neg h1];rintro r H' ⟨rfl,rfl⟩;repeat first|refine aE ?_|intro
  exact B7
 rw[decide_eq_true h1,if_pos h1];rintro r H' ⟨rfl,rfl⟩;repeat first|refine aE ?_|intro
 refine bW (λM=>dV M f.a 0 255) ?_;by_cases h2:0≤f.a∧f.a≤255
 case neg =>
  rw[decide_eq_false h2,if_neg (λh=>h2 h.1)];rintro r H' ⟨rfl,rfl⟩;repeat first|refine aE ?_|intro
  exact B7
 rw[decide_eq_true h2];rintro r H' ⟨rfl,rfl⟩;repeat first|refine aE ?_|intro
 refine bW (λM=>dV M f.ref.rep 0 255) ?_;by_cases h3:0≤f.ref.rep∧f.ref.rep≤255
 case neg =>
  rw[decide_eq_false h3,if_neg (λh=>h3 h.2.1)];rintro r H' ⟨rfl,rfl⟩;repeat first|refine aE ?_|intro
  exact B7
 rw[decide_eq_true h3];rintro r H' ⟨rfl,rfl⟩;repeat first|refine aE ?_|intro
 refine bW (λM=>dV M f.ref.seq 0 65535) ?_;by_cases h4:0≤f.ref.seq∧f.ref.seq≤65535
 case neg =>
  rw[decide_eq_false h4,if_neg (λh=>h4 h.2.2)];rintro r H' ⟨rfl,rfl⟩;repeat first|refine aE ?_|intro
  exact B7
 rw[decide_eq_true h4,if_pos ⟨h2,h3,h4⟩];rintro r H' ⟨rfl,rfl⟩;repeat first|refine aE ?_|intro
 exact B7
end
def bH.gV(e:bH)(now:Int):bH :=
 if e.pG=true∧e.nt<8 then(if e.Ab then { e with back:=e.back+1,cJ:=now } else { e with aW:=e.aW+1,last:=now }) else e
section
variable (E:Env) (e:bH) (now:Int)
theorem Xe(hok:e.ok):aK prog E 342 #[.agg e.cs.toArray,.int .i64 now] [] λr H'=>r=.returned (.agg (e.gV now).cs.toArray)∧H'=[]:=by
 have hb:=hok.2.2.2.2.1;have hs:=hok.2.2.1;unfold dQ at hb hs;refine t_ func342 ntmps342 ?_;repeat first|refine aE ?_|intro
 refine bK (λM=>OI M e) ?_;repeat first|refine aE ?_|intro
 refine bK (λM=>Mr M e) ?_;have htry:e.gV now=if e.pG=true∧e.nt<8 then(if e.Ab then { e with back:=e.back+1,cJ:=now } else { e with aW:=e.aW+1,last:=now }) else e:=rfl
 cases ho:e.pG
 ·rw[ho,if_neg (λh=>by cases h.1)] at htry;rw[htry];repeat first|refine aE ?_|intro
  exact e7_
 rw[ho] at htry;have hnt:e.nt=if e.Ab then e.back else e.aW:=rfl
 repeat first|refine aE ?_|intro
 by_cases h8:e.nt<8
 case neg =>
  rw[if_neg (λh=>h8 h.2)] at htry;rw[htry];repeat first|refine aE ?_|intro
  exact e7_
 rw[if_pos ⟨rfl,h8⟩] at htry;repeat first|refine aE ?_|intro
 refine bK (λM=>Gw M e) ?_;cases hu:e.Ab
 ·rw[hu,if_neg aAl] at htry hnt;rw[htry];repeat first|refine aE ?_|intro
  exact e7_
 ·rw[hu,if_pos rfl] at htry hnt;rw[htry];repeat first|refine aE ?_|intro
  exact e7_
end
def bH.b3(e:bH):Bool:=decide (0≤e.back∧e.back≤8)&&(e.Ab||decide (e.back=0))
def bH.b4(e:bH):Bool:=decide (0≤e.last∧e.last≤1073741824)&&(decide (0≤e.cJ∧e.cJ≤1073741824)&&(decide (0<e.back)||decide (e.cJ=0)))
def bH.may(e:bH):Bool:=decide (1≤e.ord∧e.ord≤255)&&(decide (e.bC.check=0)&&(decide (1≤e.aW∧e.aW≤8)&&(e.b3&&e.b4)))
section
variable (E:Env) (e:bH)
theorem Jk:aK prog E 152 #[.agg e.cs.toArray] [] λr H'=>r=.returned (.bool e.may)∧H'=[]:=by
 refine t_ func152 ntmps152 ?_;unfold bH.may;repeat ((fail_if_success (refine C.seq (x:=Code.region 1 _ _) ?_));first|refine Cx ?_|refine He ?_|intro _|refine Dr.two ?_ ?_)
 rename_i g;refine C.cut (X:=Unit) (λ_=>[(1,.pointer (some ⟨g,0,none⟩)),(3,.bool e.b3)]) (λ_=>[aJ g 92 e.cs]) (λ_=>True) ?_ ?_
 ·unfold bH.b3;repeat first|refine aE ?_|intro
  refine bK (λM=>dV M e.back 0 8) ?_;cases h1:decide (0≤e.back∧e.back≤8)
  ·repeat first|refine aE ?_|intro
   exact⟨(),aD,aA,trivial⟩
  ·repeat first|refine aE ?_|intro
   refine bK (λM=>Gw M e) ?_;cases h2:e.Ab
   ·repeat first|refine aE ?_|intro
    exact⟨(),aD,aA,trivial⟩
   ·repeat first|refine aE ?_|intro
    exact⟨(),aD,aA,trivial⟩
 rintro - G -;refine C.cut (X:=Unit) (λ_=>[(1,.pointer (some ⟨g,0,none⟩)),(3,.bool e.b3),(4,.bool e.b4)]) (λ_=>[aJ g 92 e.cs]) (λ_=>True) ?_ ?_
 ·unfold bH.b4;repeat first|refine aE ?_|intro
  refine bK (λM=>dV M e.last 0 1073741824) ?_;cases h1:decide (0≤e.last∧e.last≤1073741824)
  ·repeat first|refine aE ?_|intro
   exact⟨(),aD,aA,trivial⟩
  ·repeat first|refine aE ?_|intro
   refine bK (λM=>dV M e.cJ 0 1073741824) ?_;cases h2:decide (0≤e.cJ∧e.cJ≤1073741824)
   ·repeat first|refine aE ?_|intro
    exact⟨(),aD,aA,trivial⟩
   ·by_cases h3:0<e.back
    ·rw[decide_eq_true h3];repeat first|refine aE ?_|intro
     exact⟨(),aD,aA,trivial⟩
    ·rw[decide_eq_false h3];repeat first|refine aE ?_|intro
     exact⟨(),aD,aA,trivial⟩
 rintro - G -;repeat first|refine aE ?_|intro
 refine bK (λM=>dV M e.ord 1 255) ?_;cases h1:decide (1≤e.ord∧e.ord≤255)
 ·repeat first|refine aE ?_|intro
  exact B7
 repeat first|refine aE ?_|intro
 refine bK (λM=>ES M e.bC) ?_;generalize e.bC.check=k;by_cases h2:k=0
 case neg =>
  rw[decide_eq_false h2];repeat first|refine aE ?_|intro
  exact B7
 rw[decide_eq_true h2];repeat first|refine aE ?_|intro
 refine bK (λM=>dV M e.aW 1 8) ?_;cases h3:decide (1≤e.aW∧e.aW≤8)
 ·repeat first|refine aE ?_|intro
  exact B7
 cases h4:e.b3
 ·repeat first|refine aE ?_|intro
  exact B7
 ·repeat first|refine aE ?_|intro
  exact B7
theorem bH.bY:e.may=true↔(1≤e.ord∧e.ord≤255)∧e.bC.check=0∧(1≤e.aW∧e.aW≤8)∧((0≤e.back∧e.back≤8)∧(e.Ab=true∨e.back=0))∧(0≤e.last∧e.last≤1073741824)∧(0≤e.cJ∧e.cJ≤1073741824)∧(0<e.back∨e.cJ=0):=by
 simp[bH.may,bH.b3,bH.b4,and_assoc]
end
end
section
def lost(want:List cQ)(l:List bH):Nat→Bool
 |0=>false
 |i+1=>lost want l i||(match l[i]? with|some e=>e.gone||decide (want[i]?≠some e.bC)|none=>false)
def bH.mark(e:bH)(g:Bool):bH:=⟨e.ord,e.bC,e.aW,e.last,e.cX,g,e.back,e.cJ⟩
def bH.qJ(e:bH):bH:=⟨e.ord,e.bC,e.aW,e.last,true,e.gone,e.back,e.cJ⟩
def settle(want:List cQ)(l:List bH):List bH:=l.mapIdx λi e=>e.mark (lost want l (i+1))
theorem dJ(want:List cQ)(l:List bH):(settle want l).length=l.length:=by simp[settle]
theorem lX{want:List cQ}{l:List bH}{i:Nat}{e:bH}(h:l[i]?=some e):(settle want l)[i]?=some (e.mark (lost want l (i+1))):=by
 simp[settle,h]
theorem nZ{want:List cQ}{l:List bH}{i:Nat}{e:bH}(h:l[i]?=some e):lost want l (i+1)=(lost want l i||(e.gone||decide (want[i]?≠some e.bC))):=by
 simp only[lost,h]
def pW(want:List cQ)(l:List bH)(i:Nat):List bH:=l.mapIdx λj e=>if j<i then e.mark (lost want l (j+1)) else e
theorem H5(want:List cQ)(l:List bH):pW want l 0=l:=by
 refine aCk λj=>?_;simp only[pW,aEh,aFk,if_false];cases l[j]?<;>rfl
theorem Mj{want:List cQ}{l:List bH}{n:Nat}(h:n=l.length):pW want l n=settle want l:=by
 refine aCk λj=>?_;simp only[pW,settle,aEh];cases hj:l[j]? with
 |none=>rfl
 |some e =>
  have:=(aAd.1 hj).1;simp only[aDi];rw[if_pos o_]
theorem P6{want:List cQ}{l:List bH}{i:Nat}{e:bH}(h:l[i]?=some e):(pW want l i)[i]?=some e:=by
 simp only[pW,aEh,h,aDi,Nat.lt_irrefl,if_false]
theorem ER(want:List cQ)(l:List bH)(i:Nat):(pW want l i).length=l.length:=by simp[pW]
theorem LN{want:List cQ}{l:List bH}{i:Nat}{e:bH}(h:l[i]?=some e):(pW want l i).set i (e.mark (lost want l (i+1)))=pW want l (i+1):=by
 have hi:=(aAd.1 h).1;refine aCk λj=>?_;rw[aDr,ER];by_cases hj:i=j
 ·subst hj;rw[if_pos rfl,if_pos hi];simp only[pW,aEh,h,aDi];rw[if_pos o_]
 ·rw[if_neg hj];simp only[pW,aEh];cases l[j]? with
  |none=>rfl
  |some x =>
   simp only[aDi];by_cases hlt:j<i
   ·rw[if_pos hlt,if_pos o_]
   ·rw[if_neg hlt,if_neg o_]
theorem CK{want:List cQ}{l:List bH}{i:Nat}{e:bH}(h:l[i]?=some e)(hy:lost want l i=true∨e.gone=true∨want.length≤i):lost want l (i+1)=true:=by
 rw[nZ h];rcases hy with h1|h1|h1
 ·rw[h1];rfl
 ·rw[h1];simp
 ·rw[aCo h1];simp
theorem Sj{want:List cQ}{l:List bH}{i:Nat}{e:bH}{w:cQ}(h:l[i]?=some e)(h1:lost want l i=false)(h2:e.gone=false)(hw:want[i]?=some w):lost want l (i+1) = !decide (e.bC=w):=by
 rw[nZ h,h1,h2,hw,Bool.false_or,Bool.false_or,aBz];simp;exact⟨λh e=>h e.symm,λh e=>h e.symm⟩
def fresh(id:bJ)(made:Int)(n:Nat)(want:List cQ):Option dK:=match want[n]? with|some f=>if made<255 then some ⟨⟨id,made+1,false⟩,f⟩ else none|none=>none
theorem Gm{id:bJ}{made:Int}{n:Nat}{want:List cQ}(h:want.length≤n∨255≤made):fresh id made n want=none:=by
 unfold fresh;split
 ·rename_i f hf;have:=(aAd.1 hf).1;exact if_neg o_
 ·rfl
theorem Mm{id:bJ}{made:Int}{n:Nat}{want:List cQ}{f:cQ}(h:want[n]?=some f)(h2:made<255):fresh id made n want=some ⟨⟨id,made+1,false⟩,f⟩:=by
 unfold fresh;rw[h];exact if_pos h2
theorem Bv{id:bJ}{made:Int}{n:Nat}{want:List cQ}{q:dK}(h:fresh id made n want=some q):made<255∧∃f,want[n]?=some f∧q=⟨⟨id,made+1,false⟩,f⟩:=by
 unfold fresh at h;split at h
 ·rename_i f hf;split at h
  ·injection h with h;exact⟨by assumption,f,hf,h.symm⟩
  ·cases h
 ·cases h
def AP(l:List bH):Option bH:=match l[l.length - 1]? with|some e=>if e.pG then some e else none|none=>none
theorem FA{l:List bH}{e:bH}(h:l[l.length - 1]?=some e)(ho:e.pG=true):AP l=some e:=by
 unfold AP;rw[h];exact if_pos ho
theorem Ch{l:List bH}{e:bH}(h:l[l.length - 1]?=some e)(ho:e.pG=false):AP l=none:=by
 unfold AP;rw[h];exact if_neg (by rw[ho];exact aAl)
theorem yZ{l:List bH}{e:bH}(h:AP l=some e):l[l.length - 1]?=some e∧e.pG=true:=by
 unfold AP at h;split at h
 ·rename_i x hx;split at h
  ·injection h with h;subst h;exact⟨hx,by assumption⟩
  ·cases h
 ·cases h
def next(id:bJ)(made:Int)(l:List bH)(want:List cQ):Option dK:=match AP l with
 |some e=>if e.nt<8 then some ⟨⟨id,e.ord,e.Ab⟩,e.bC⟩ else none
 |none=>fresh id made l.length want
abbrev rQ(q:dK)(now:Int):bH:=⟨q.key.ord,q.bC,1,now,false,false,0,0⟩
def pK(id:bJ)(made:Int)(l:List bH)(want:List cQ)(now:Int):Option (Int×List bH):=match next id made l want with
 |none=>none
 |some q=>match AP l with
  |some e=>some (made,l.set (l.length - 1) (e.gV now))
  |none=>some (made+1,l++[rQ q now])
def idx(p:bH→Bool)(l:List bH):Int:=match l.findIdx? p with|some i=>i|none => -1
theorem P4{p:bH→Bool}{l:List bH}(h:∀x∈l,p x=false):idx p l = -1:=by
 unfold idx;rw[aEp.2 h]
theorem OK{p:bH→Bool}{l:List bH}{i:Nat}{x:bH}(hx:l[i]?=some x)(hp:p x=true)(h:∀j y,j<i→l[j]?=some y→p y=false):idx p l=i:=by
 unfold idx;obtain⟨hi,he⟩:=aAd.1 hx;rw[aDj.2 ⟨hi,by rw[he];exact hp,λj hj=>by rw[h j l[j] hj (aAa o_)];exact aAl⟩]
def cX(id:bJ)(l:List bH)(k:bP):Option (List bH) :=
 if k.id≠id then none else match l.findIdx? λe=>decide (e.ord=k.ord) with
 |none=>none
 |some i=>match l[i]? with
  |none=>none
  |some e=>if (!k.cD && !e.cX)=true then some (l.set i e.qJ) else if (k.cD&&(e.Ab&&(decide (1≤e.back)&&decide (i+1=l.length))))=true then some (l.take i) else none
def quiet(l:List bH)(want:List cQ):Bool:=decide (l.length=want.length)&&l.all λe => !e.pG
def Ej(id:bJ)(made:Int)(l:List bH)(want:List cQ)(g:fU)(now:Int):Bool:=(next id made l want).isSome&&(match AP l with|some e=>e.ready g now|none=>decide (1≤g.dC))
theorem rN{id:bJ}{l:List bH}{k:bP}(h:k.id≠id∨l.findIdx? (λe=>decide (e.ord=k.ord))=none):cX id l k=none:=by
 unfold cX;by_cases h1:k.id≠id
 ·exact if_pos h1
 ·rw[if_neg h1];rcases h with h|h
  ·exact absurd h h1
  ·rw[h]
theorem HP{id:bJ}{l:List bH}{k:bP}{i:Nat}{e:bH}(h1:k.id=id)(h2:l.findIdx? (λe=>decide (e.ord=k.ord))=some i)(h3:l[i]?=some e) :
  cX id l k=if (!k.cD && !e.cX)=true then some (l.set i e.qJ) else if (k.cD&&(e.Ab&&(decide (1≤e.back)&&decide (i+1=l.length))))=true then some (l.take i) else none:=by
 unfold cX;rw[if_neg (λh=>h h1),h2];dsimp only;rw[h3]
theorem KI{p:bH→Bool}{l:List bH}{i:Nat}(h:l.findIdx? p=some i):∃e,l[i]?=some e∧p e=true:=by
 obtain⟨hi,h1,_⟩:=aDj.1 h;exact⟨l[i],aAa hi,h1⟩
theorem QE{e:bH}{now:Int}(ho:e.pG=true):decide (e.gV now=e)=decide (8≤e.nt):=by
 have hb:e.nt=if e.Ab then e.back else e.aW:=rfl
 unfold bH.gV;by_cases h:e.nt<8
 ·rw[if_pos ⟨ho,h⟩,decide_eq_false (show ¬8≤e.nt by omega)];refine decide_eq_false λhe=>?_;cases hu:e.Ab
  ·rw[hu,if_neg aAl] at he;have:=congrArg bH.aW he;dsimp only at this;omega
  ·rw[hu,if_pos rfl] at he;have:=congrArg bH.back he;dsimp only at this;omega
 ·rw[if_neg (λh2=>h h2.2),decide_eq_true rfl,decide_eq_true (show 8≤e.nt by omega)]
structure dS where
 made:Int
 l:List bH
 w:List cQ
def dS.Yr(s:dS)(id:bJ):Option dK:=next id s.made s.l s.w
def dS.gV(s:dS)(id:bJ)(now:Int):dS:=⟨((pK id s.made s.l s.w now).getD (s.made,s.l)).1,((pK id s.made s.l s.w now).getD (s.made,s.l)).2,s.w⟩
def dS.qJ(s:dS)(id:bJ)(k:bP):dS:=⟨s.made,(cX id s.l k).getD s.l,s.w⟩
structure dS.ok(s:dS):Prop where
 sE:∀e∈s.l,e.ok
 Lk:∀f∈s.w,f.ok
 tS:0≤s.made
 nK:s.made≤255
 len:(s.l.length:Int)≤s.made
 wide:s.w.length≤8
theorem bH.RN{e:bH}{g:Bool}(h:e.ok):(e.mark g).ok:=h
theorem bH.Ez{e:bH}(h:e.ok):e.qJ.ok:=h
theorem aHi{want:List cQ}{l:List bH}(h:∀e∈l,e.ok):∀e∈settle want l,e.ok:=by
 intro e he;obtain⟨i,hi,rfl⟩:=aBm he;rw[dJ] at hi;have hx:l[i]?=some l[i]:=aAa hi;have hs:=lX (want:=want) hx;rw[aAa (by rw[dJ];exact hi)] at hs;injection hs with hs
 rw[hs];exact bH.RN (h _ (aCs _))
theorem bH.FI{e:bH}{now:Int}(h:e.ok)(hn:dQ now):(e.gV now).ok:=by
 unfold bH.gV;have hb:e.nt=if e.Ab then e.back else e.aW:=rfl
 split
 ·rename_i hh;obtain⟨q0,q1,q2,q3,q4,q5⟩:=h;unfold dQ at q2 q4;split
  ·rename_i hu;rw[if_pos hu] at hb;exact⟨q0,q1,q2,q3,by unfold dQ;dsimp only;omega,hn⟩
  ·rename_i hu;rw[if_neg hu] at hb;exact⟨q0,q1,by unfold dQ;dsimp only;omega,hn,q4,q5⟩
 ·exact h
theorem Hm{id:bJ}{made:Int}{l:List bH}{want:List cQ}{now:Int}(h:next id made l want=none):pK id made l want now=none:=by
 unfold pK;rw[h]
theorem MA{id:bJ}{made:Int}{l:List bH}{want:List cQ}{now:Int}{q:dK}{e:bH}(h:next id made l want=some q)(ht:AP l=some e):pK id made l want now=some (made,l.set (l.length - 1) (e.gV now)):=by
 unfold pK;rw[h,ht]
theorem MQ{id:bJ}{made:Int}{l:List bH}{want:List cQ}{now:Int}{q:dK}(h:next id made l want=some q)(ht:AP l=none):pK id made l want now=some (made+1,l++[rQ q now]):=by
 unfold pK;rw[h,ht]
theorem HJ{s:dS}{id:bJ}{now:Int}:s.gV id now=s∨(∃e,AP s.l=some e∧e.nt<8∧s.gV id now=⟨s.made,s.l.set (s.l.length - 1) (e.gV now),s.w⟩) ∨
  (∃f,AP s.l=none∧s.made<255∧s.w[s.l.length]?=some f∧s.gV id now=⟨s.made+1,s.l++[rQ ⟨⟨id,s.made+1,false⟩,f⟩ now],s.w⟩):=by
 cases hq:next id s.made s.l s.w with
 |none =>
  refine .inl ?_;unfold dS.gV;rw[Hm hq];rfl
 |some q =>
  cases ht:AP s.l with
  |some e =>
   refine .inr (.inl ⟨e,rfl,?_,?_⟩)
   ·unfold next at hq;rw[ht] at hq;dsimp only at hq;by_cases h8:e.nt<8
    ·exact h8
    ·rw[if_neg h8] at hq;cases hq
   ·unfold dS.gV;rw[MA hq ht];rfl
  |none =>
   have hq2:=hq;unfold next at hq2;rw[ht] at hq2;obtain⟨h1,f,h2,rfl⟩:=Bv hq2;refine .inr (.inr ⟨f,rfl,h1,h2,?_⟩);unfold dS.gV;rw[MQ hq ht];rfl
theorem G7{s:dS}{id:bJ}{k:bP}:s.qJ id k=s∨(∃i e,s.l[i]?=some e∧e.ord=k.ord∧e.cX=false∧s.qJ id k=⟨s.made,s.l.set i e.qJ,s.w⟩) ∨
  (∃i e,s.l[i]?=some e∧e.Ab=true∧1≤e.back∧i+1=s.l.length∧s.qJ id k=⟨s.made,s.l.take i,s.w⟩):=by
 by_cases h1:k.id=id
 case neg=>exact .inl (by unfold dS.qJ;rw[rN (.inl h1)];rfl)
 cases hf:s.l.findIdx? (λe=>decide (e.ord=k.ord)) with
 |none=>exact .inl (by unfold dS.qJ;rw[rN (.inr hf)];rfl)
 |some i =>
  obtain⟨e,he,hk⟩:=KI hf;have hak:=HP h1 hf he;have hk:=of_decide_eq_true hk;by_cases h2:(!k.cD && !e.cX)=true
  ·rw[if_pos h2] at hak;have h2:k.cD=false∧e.cX=false:=by simpa using h2
   exact .inr (.inl ⟨i,e,he,hk,h2.2,by unfold dS.qJ;rw[hak];rfl⟩)
  ·rw[if_neg h2] at hak;by_cases h3:(k.cD&&(e.Ab&&(decide (1≤e.back)&&decide (i+1=s.l.length))))=true
   ·rw[if_pos h3] at hak;have h3:k.cD=true∧e.Ab=true∧1≤e.back∧i+1=s.l.length:=by simpa using h3
    exact .inr (.inr ⟨i,e,he,h3.2.1,h3.2.2.1,h3.2.2.2,by unfold dS.qJ;rw[hak];rfl⟩)
   ·rw[if_neg h3] at hak;exact .inl (by unfold dS.qJ;rw[hak];rfl)
theorem dS.FI{s:dS}{id:bJ}{now:Int}(h:s.ok)(hn:dQ now):(s.gV id now).ok:=by
 rcases HJ (s:=s) (id:=id) (now:=now) with h1|⟨e,ht,_,h1⟩|⟨f,ht,hm,hf,h1⟩
 ·rw[h1];exact h
 ·rw[h1];obtain⟨he,_⟩:=yZ ht;refine⟨λx hx=>?_,h.Lk,h.tS,h.nK,by rw[aAt];exact h.len,h.wide⟩;rcases aCr hx with h2|rfl
  ·exact h.sE x h2
  ·exact bH.FI (h.sE e (aAi he)) hn
 ·rw[h1];have h0:=h.tS;have hl:=h.len;refine⟨λx hx=>?_,h.Lk,by dsimp only;omega,by dsimp only;omega,by simp;omega,h.wide⟩;rcases aBg.1 hx with h2|h2
  ·exact h.sE x h2
  ·rw[aAp] at h2;subst h2;refine⟨by unfold dQ;dsimp only;omega,h.Lk f (aAi hf),by unfold dQ;dsimp only;omega,hn,by unfold dQ;dsimp only;omega,by unfold dQ;dsimp only;omega⟩
theorem dS.Ez{s:dS}{id:bJ}{k:bP}(h:s.ok):(s.qJ id k).ok:=by
 rcases G7 (s:=s) (id:=id) (k:=k) with h1|⟨i,e,he,_,_,h1⟩|⟨i,e,he,_,_,hi,h1⟩
 ·rw[h1];exact h
 ·rw[h1];refine⟨λx hx=>?_,h.Lk,h.tS,h.nK,by rw[aAt];exact h.len,h.wide⟩;rcases aCr hx with h2|rfl
  ·exact h.sE x h2
  ·exact bH.Ez (h.sE e (aAi he))
 ·rw[h1];have hl:=h.len;exact⟨λx hx=>h.sE x (aBs hx),h.Lk,h.tS,h.nK,by dsimp only;rw[aAg];omega,h.wide⟩
end
section
open Go.RowKit Reg
open Mem hiding Rd
abbrev Js(id:bJ)(made:Int)(A:Option Addr)(n c:Nat):Value:=.agg #[.int .i64 id.rep,.int .i64 id.seq,.int .i64 made,.slice A n c]
section
variable (E:Env) (id:bJ) (made:Int) (A:Option Addr) (n c:Nat) (l:List bH)
theorem UF(hr:Rd E fH A n c l)(hl:n≤1000000):aK prog E 217 #[.slice A n c] [] λr H'=>∃A' c',r=.returned (.slice A' n c')∧(n≤c'∧c'≤maxLen)∧H'=[own fH A' n c' l]:=by
 refine t_ func217 ntmps217 ?_;cases A with
 |none =>
  obtain⟨rfl,rfl⟩:=hr.none;repeat first|refine aE ?_|intro
  exact aR rfl aF (aB.oR fH none) ⟨none,0,rfl,⟨aAf _,aAh _⟩,rfl⟩
 |some a =>
  repeat first|refine aE ?_|intro
  rename_i A' c' h1 h2;exact jQ ⟨_,_,rfl,⟨h1,h2⟩,rfl⟩
theorem Cq(hr:Rd E fH A n c l)(hl:n≤1000000):aK prog E 162 #[Js id made A n c] [] λr H'=>∃A' c',r=.returned (Js id made A' n c')∧(n≤c'∧c'≤maxLen)∧H'=[own fH A' n c' l]:=by
 refine t_ func162 ntmps162 ?_;repeat first|refine aE ?_|intro
 refine dX (λM h1=>UF M A n c l h1 hl) ?_;rintro r H' ⟨A',c',rfl,hc,rfl⟩;repeat first|refine aE ?_|intro
 apply cI;(· exact rfl);(· exact aF);(· exact rfl);(· exact rfl);(· exact rfl);(· exact aS);(· exact rfl);rotate_left;(· exact(⟨_,_,rfl,hc,rfl⟩));(· exact aA)
theorem W8(hr:Rd E fH A n c l)(f:FuncId)(fn:Func)(hfn:prog.funcs[f]?=some fn)(hname:(fn.name == "runtime.NumGoroutine")=false)(hbody:fn.body.isNone=false)(cs:List Value)(p:bH→Bool)
  (hcall:∀M R,Sub E R M→∀x:bH,aK prog M f (.agg x.cs.toArray::cs).toArray [] λr H'=>r=.returned (.bool (p x))∧H'=[]) :
  aK prog E 309 #[.slice A n c,.func (.func f) #[] cs.toArray] [] λr H'=>r=.returned (.int .i64 (idx p l))∧H'=[]:=by
 have hn:=hr.len;have hcap:=hr.cap;refine t_ func309 ntmps309 ?_;repeat first|refine aE ?_|intro
 refine C.loop (X:=Nat) (λi=>[(0,.slice A n c),(1,.func (.func f) #[] cs.toArray),(7,.int .i64 n),(8,.int .i64 i)]) (λ_=>[]) (λi=>i≤n∧∀j y,j<i→l[j]?=some y→p y=false) (λi=>n - i) 0 aD aB.refl ⟨aAh _,λj y hj=>by omega⟩ ?_;rintro i G ⟨hi,hall⟩;by_cases hlt:i<n
 ·have hx:l[i]?=some l[i]:=aAa o_;generalize l[i]=x at hx;have hmax:=fX;repeat first|refine aE ?_|intro
  refine L.step sD (S.wB rfl rfl rfl rfl hfn hname hbody aC (λM hE=>hcall M _ hE x) ?_);rintro r H' ⟨rfl,rfl⟩;refine gk bG ?_;cases hp:p x
  ·repeat first|refine aE ?_|intro
   refine⟨i+1,aD,aB.refl,⟨by omega,λj y hj hy=>?_⟩,by omega⟩;by_cases hji:j=i
   ·subst hji;rw[hx] at hy;injection hy with hy;subst hy;exact hp
   ·exact hall j y o_ hy
  ·rw[OK hx hp hall];repeat first|refine aE ?_|intro
   exact B7
 ·obtain rfl:i=n:=o_;rw[P4 (λx hx=>by obtain⟨j,hj,rfl⟩:=aBm hx;exact hall j _ o_ (aAa hj))];repeat first|refine aE ?_|intro
  exact B7
theorem Wg(hr:Rd E fH A n c l):aK prog E 266 #[.slice A n c,.func (.func 267) #[] #[]] [] λr H'=>r=.returned (.bool (l.any (·.pG)))∧H'=[]:=by
 refine t_ func266 ntmps266 ?_;have hany:decide (0≤idx (·.pG) l)=l.any (·.pG):=by
  unfold idx;cases h:l.findIdx? (·.pG) with
  |none =>
   rw[aEp] at h;rw[aBz];simp;exact h
  |some i =>
   rw[aDj] at h;obtain⟨hi,h1,_⟩:=h;rw[aEm.2 ⟨_,aCs hi,h1⟩];exact decide_eq_true (aFo i)
 repeat first|refine aE ?_|intro
 refine cl sD sK aC (λM hE=>W8 M A n c l dB _ _ func267 q_ rfl [] (·.pG) (λE2 _ _ x=>Mr E2 x)) ?_;rintro r H' ⟨rfl,rfl⟩;repeat first|refine aE ?_|intro
 exact aR rfl aF aA (⟨by rw[hany],rfl⟩)
theorem Vi(hr:Rd E fH A n c l):aK prog E 277 #[Js id made A n c] [] λr H'=>r=.returned (.tuple #[.agg ((l[l.length - 1]?).getD El).cs.toArray,.bool (l[l.length - 1]?).isSome])∧H'=[]:=by
 have hn:=hr.len;have hcap:=hr.cap;have hmax:=fX;refine t_ func277 ntmps277 ?_;by_cases h0:n=0
 ·rw[aCo o_];dsimp only[Option.getD,Option.isSome];repeat first|refine aE ?_|intro
  exact Qv
 ·have hs:IntKind.i64.wrap ((n:Int) - 1)=((n - 1:Nat):Int):=by rw[aAq _ o_];omega
  have hx:l[n - 1]?=some l[n - 1]:=aAa o_;rw[←hn,hx];dsimp only[Option.getD,Option.isSome];generalize l[n - 1]=e at hx;repeat first|refine aE ?_|intro
  exact Qv
theorem Y6(e:bH):aK prog E 343 #[Js id made A n c,.agg e.cs.toArray] [] λr H'=>r=.returned (.agg (⟨id,e.ord,e.Ab⟩:bP).cs.toArray)∧H'=[]:=by
 refine t_ func343 ntmps343 ?_;repeat first|refine aE ?_|intro
 refine C.bL 7 (l_ [0,1,2,3,4] (g_ 5 (n_ 6 (g_ 7 .nil)))) _ q_ q_ aB.refl ?_;repeat first|refine aE ?_|intro
 refine eJ (λM=>Gw M e) ?_;repeat first|refine aE ?_|intro
 exact e7_
abbrev Ra(q:Option dK)(r:Ending):Prop:=r=.returned (.tuple #[.agg (q.getD wN).cs.toArray,.bool q.isSome])
theorem Sn(x y:bH):decide ((⟨x.ord,⟨x.bC.kind,x.bC.a,x.bC.n,⟨x.bC.ref.rep,x.bC.ref.seq⟩⟩,x.aW,x.last,x.cX,x.gone,x.back,x.cJ⟩:bH)=⟨y.ord,⟨y.bC.kind,y.bC.a,y.bC.n,⟨y.bC.ref.rep,y.bC.ref.seq⟩⟩,y.aW,y.last,y.cX,y.gone,y.back,y.cJ⟩)=decide (x=y):=rfl
theorem yJ(want:List cQ)(X:Option Addr)(nx cx:Nat)(hr:Rd E fH A n c l)(hw:Rd E eG X nx cx want)(hok:∀e∈l,e.ok)(hm:dQ made) :
  aK prog E 292 #[Js id made A n c,.slice X nx cx] [] λr H'=>Ra (next id made l want) r∧H'=[]:=by
 have hn:=hr.len;have hcap:=hr.cap;have hnw:=hw.len;have hcw:=hw.cap;have hmax:=fX;unfold dQ at hm;unfold Ra;refine t_ func292 ntmps292 ?_;repeat first|refine aE ?_|intro
 refine eV (λM=>Vi M id made A n c l) ?_;repeat ((fail_if_success (refine C.seq (x:=Code.region 2 _ _) ?_));first|refine Cx ?_|refine He ?_|intro _|refine Dr.two ?_ ?_)
 rename_i g2 g4 g6;have hq:∃q,l[l.length - 1]?=q:=⟨_,rfl⟩
 obtain⟨q,hq⟩:=hq;rw[hq];refine C.cut (X:=Unit) (λ_=>[(1,.slice X nx cx),(2,.pointer (some ⟨g2,0,none⟩)),(4,.pointer (some ⟨g4,0,none⟩)),(6,.pointer (some ⟨g6,0,none⟩)),(13,.bool (AP l).isSome)]) (λ_=>[aJ g6 92 (q.getD El).cs,aJ g4 79 wN.cs,aJ g2 90 [.int .i64 id.rep,.int .i64 id.seq,.int .i64 made,.slice A n c]]) (λ_=>True) ?_ ?_
 ·cases q with
  |none =>
   have ht:AP l=none:=by unfold AP;rw[hq]
   rw[ht];dsimp only[Option.getD,Option.isSome];repeat first|refine aE ?_|intro
   exact⟨(),aD,aA,trivial⟩
  |some e =>
   dsimp only[Option.getD,Option.isSome];repeat first|refine aE ?_|intro
   refine bK (λM=>Mr M e) ?_;cases ho:e.pG
   ·rw[Ch hq ho];dsimp only[Option.isSome];repeat first|refine aE ?_|intro
    exact⟨(),aD,aA,trivial⟩
   ·rw[FA hq ho];dsimp only[Option.isSome];repeat first|refine aE ?_|intro
    exact⟨(),aD,aA,trivial⟩
 rintro - G -;unfold next;cases htip:AP l with
 |some e =>
  obtain⟨he,ho⟩:=yZ htip;rw[hq] at he;subst he;have heok:e.ok:=hok e (aAi hq);dsimp only[Option.getD,Option.isSome];obtain⟨w,hw1⟩:∃w,IntKind.i64.wrap (e.last+1)=w:=⟨_,rfl⟩
  have hd:=(Sn (e.gV w) e).trans (QE ho);repeat first|refine aE ?_|intro
  refine rA (l_ [0,1,2,3,5] (g_ 4 (n_ 6 .nil))) ?_;repeat first|refine aE ?_|intro
  refine iO (λM=>Xe M e w heok) ?_;generalize e.gV w=x at *;rintro r H' ⟨rfl,rfl⟩;refine gd bG aA ?_;by_cases h8:e.nt<8
  ·rw[if_pos h8];rw[decide_eq_false (show ¬8≤e.nt by omega)] at hd;dsimp only[Option.getD,Option.isSome];repeat first|refine aE ?_|intro
   refine rB (l_ [0,1,3,4] (g_ 2 (n_ 5 (g_ 6 (n_ 7 .nil))))) ([aJ g6 92 e.cs,aJ g2 90 [.int .i64 id.rep,.int .i64 id.seq,.int .i64 made,.slice A n c]]) ?_;repeat first|refine aE ?_|intro
   refine eJ (λM=>Y6 M id made A n c e) ?_;repeat first|refine aE ?_|intro
   exact Qv
  ·rw[if_neg h8];rw[decide_eq_true (show 8≤e.nt by omega)] at hd;dsimp only[Option.getD,Option.isSome];repeat first|refine aE ?_|intro
   exact Qv
 |none =>
  dsimp only[Option.getD,Option.isSome];by_cases h1:nx≤n
  ·rw[Gm (.inl o_)];dsimp only[Option.getD,Option.isSome];repeat first|refine aE ?_|intro
   exact Qv
  by_cases h2:255≤made
  ·rw[Gm (.inr h2)];dsimp only[Option.getD,Option.isSome];repeat first|refine aE ?_|intro
   exact Qv
  have hx:want[n]?=some want[n]:=aAa o_;rw[←hn,Mm hx o_];dsimp only[Option.getD,Option.isSome];generalize want[n]=f at hx;repeat first|refine aE ?_|intro
  refine rB (l_ [0,1,2,3,4,5,6,7,8,9,10,11,12] (g_ 13 (n_ 14 .nil))) ([aJ g2 90 [.int .i64 id.rep,.int .i64 id.seq,.int .i64 made,.slice A n c]]) ?_;repeat first|refine aE ?_|intro
  exact Qv
end
theorem RZ(x y:cQ):decide ((⟨x.kind,x.a,x.n,⟨x.ref.rep,x.ref.seq⟩⟩:cQ)=⟨y.kind,y.a,y.n,⟨y.ref.rep,y.ref.seq⟩⟩)=decide (x=y):=rfl
theorem Oa(e:bH)(b:Bool):Ba fH e 9 (.bool b) (e.mark b):=Ba.Yu rfl sD rfl
section
variable (E:Env) (id:bJ) (made:Int) (A:Option Addr) (n c:Nat) (l:List bH) (want:List cQ) (X:Option Addr) (nx cx:Nat)
theorem KH(hr:Rd E fH A n c l)(hw:Rd E eG X nx cx want)(hl:n≤1000000) :
  aK prog E 349 #[Js id made A n c,.slice X nx cx] [] λr H'=>∃A' c',r=.returned (Js id made A' n c')∧(n≤c'∧c'≤maxLen)∧H'=[own fH A' n c' (settle want l)]:=by
 have hn:=hr.len;have hnw:=hw.len;have hcw:=hw.cap;have hmax:=fX;refine t_ func349 ntmps349 ?_;repeat first|refine aE ?_|intro
 refine dX (λM h1=>Cq M id made A n c l h1 hl) ?_;rintro r H' ⟨A',c',rfl,⟨hc1,hc2⟩,rfl⟩;repeat first|refine aE ?_|intro
 rename_i g2 g4;refine C.loop (X:=Nat) (λi=>[(1,.slice X nx cx),(2,.pointer (some ⟨g2,0,none⟩)),(4,.pointer (some ⟨g4,0,none⟩)),(5,.bool (lost want l i)),(11,.slice A' n c'),(12,.int .i64 n),(13,.int .i64 i)])
  (λi=>[aJ g2 90 [.int .i64 id.rep,.int .i64 id.seq,.int .i64 made,.slice A' n c'],aJ g4 90 [.int .i64 0,.int .i64 0,.int .i64 0,.slice none 0 0],own fH A' n c' (pW want l i)]) (λi=>i≤n) (λi=>n - i) 0 aD (by rw[H5];exact aA) (aAh _) ?_
 rintro i G hi;by_cases hlt:i<n
 ·have hx:l[i]?=some l[i]:=aAa o_;generalize l[i]=e at hx;have hst:=P6 (want:=want) hx;have hf:=Oa e (lost want l (i+1));repeat ((fail_if_success (refine C.seq (x:=Code.region 6 _ _) ?_));first|refine Cx ?_|refine He ?_|intro _|refine Dr.two ?_ ?_)
  rename_i g7;refine C.cut (X:=Unit) (λ_=>[(1,.slice X nx cx),(2,.pointer (some ⟨g2,0,none⟩)),(4,.pointer (some ⟨g4,0,none⟩)),(5,.bool (lost want l (i+1))),(6,.int .i64 i),(11,.slice A' n c'),(12,.int .i64 n),(13,.int .i64 i)])
   (λ_=>[aJ g2 90 [.int .i64 id.rep,.int .i64 id.seq,.int .i64 made,.slice A' n c'],aJ g4 90 [.int .i64 0,.int .i64 0,.int .i64 0,.slice none 0 0],own fH A' n c' (pW want l i)]) (λ_=>True) ?_ ?_
  ·clear hf;cases h1:lost want l i
   case true =>
    rw[CK hx (.inl h1)];repeat first|refine aE ?_|intro
    refine rA (l_ [0,1,2,3,4,5,6,7,8,9,10,11,12,13,14,15,16,17,18,19,20] .nil) ?_;repeat first|refine aE ?_|intro
    exact⟨(),aD,aA,trivial⟩
   cases h2:e.gone
   case true =>
    rw[CK hx (.inr (.inl h2))];repeat first|refine aE ?_|intro
    refine rA (l_ [0,1,2,3,4,5,6,7,8,9,10,11,12,13,14,15,16,17,18,19,20] .nil) ?_;repeat first|refine aE ?_|intro
    exact⟨(),aD,aA,trivial⟩
   by_cases h3:nx≤i
   ·rw[CK hx (.inr (.inr o_))];repeat first|refine aE ?_|intro
    refine rA (l_ [0,1,2,3,4,5,6,7,8,9,10,11,12,13,14,15,16,17,18,19,20] .nil) ?_;repeat first|refine aE ?_|intro
    exact⟨(),aD,aA,trivial⟩
   have hwx:want[i]?=some want[i]:=aAa o_;rw[Sj hx h1 h2 hwx];generalize want[i]=w at hwx;rw[←RZ];repeat first|refine aE ?_|intro
   refine rA (l_ [0,1,2,3,4,5,6,7,8,9,10,11,12,13,14,15,16,17,18,19,20] .nil) ?_;repeat first|refine aE ?_|intro
   exact⟨(),aD,aA,trivial⟩
  rintro - G -;have hss:=LN (want:=want) hx;generalize hb:lost want l (i+1)=b at *;repeat first|refine aE ?_|intro
  exact⟨i+1,by rw[hb];exact aD,by rw[←hss];exact aA,by omega,by omega⟩
 ·obtain rfl:i=n:=o_;rw[Mj hn];repeat first|refine aE ?_|intro
  apply cI;(· exact rfl);(· exact aF);(· exact rfl);(· exact rfl);(· exact rfl);(· exact aS);(· exact rfl);rotate_left;(· exact(⟨_,_,rfl,⟨hc1,hc2⟩,rfl⟩));(· exact aA)
end
theorem J4(x y:bJ):decide ((⟨x.rep,x.seq⟩:bJ)=⟨y.rep,y.seq⟩)=decide (x=y):=rfl
theorem Ro(e:bH):Ba fH e 8 (.bool true) e.qJ:=Ba.Yu rfl sD rfl
def BJ(id:bJ)(t:Option (Int×List bH))(d:Int×List bH):Ending→List aL→Prop:=λr H' =>
 ∃A' n' c',r=.returned (.tuple #[Js id (t.getD d).1 A' n' c',.bool t.isSome])∧n'=(t.getD d).2.length∧(n'≤c'∧c'≤maxLen)∧H'=[own fH A' n' c' (t.getD d).2]
def BC(id:bJ)(made:Int)(a:Option (List bH))(l:List bH):Ending→List aL→Prop:=λr H' =>
 ∃A' n' c',r=.returned (.tuple #[Js id made A' n' c',.bool a.isSome])∧n'=(a.getD l).length∧(n'≤c'∧c'≤maxLen)∧H'=[own fH A' n' c' (a.getD l)]
theorem Yn(E:Env)(x:bH)(g:Nat)(o:Int)(hk:qP E ⟨g,2,none⟩ (.int .i64 o)):aK prog E 347 #[.agg x.cs.toArray,.pointer (some ⟨g,0,none⟩)] [] λr H'=>r=.returned (.bool (decide (x.ord=o)))∧H'=[]:=by
 refine t_ func347 ntmps347 ?_;repeat first|refine aE ?_|intro
 exact B7
section
variable (E:Env) (id:bJ) (made:Int) (A:Option Addr) (n c:Nat) (l:List bH) (want:List cQ) (X:Option Addr) (nx cx:Nat)
theorem YM(now:Int)(hr:Rd E fH A n c l)(hw:Rd E eG X nx cx want)(hl:n≤1000000)(hok:∀e∈l,e.ok)(hm:dQ made) :
  aK prog E 306 #[Js id made A n c,.slice X nx cx,.int .i64 now] [] (BJ id (pK id made l want now) (made,l)):=by
 have hn:=hr.len;have hmax:=fX;have hm2:=hm;unfold dQ at hm2;unfold BJ;refine t_ func306 ntmps306 ?_;repeat first|refine aE ?_|intro
 refine DY (λM h1 h2=>yJ M id made A n c l want X nx cx h1 h2 hok hm) ?_;repeat first|refine aE ?_|intro
 refine dX (λM h1=>Cq M id made A n c l h1 hl) ?_;rintro r H' ⟨A',c',rfl,⟨hc1,hc2⟩,rfl⟩;refine gk bG ?_;unfold pK;cases hq:next id made l want with
 |none =>
  dsimp only[Option.getD,Option.isSome];repeat first|refine aE ?_|intro
  apply gS;(· exact rfl);(· exact aF);(· exact rfl);(· exact rfl);(· exact rfl);(· exact aS);(· exact rfl);(· exact aF);rotate_left;(· exact(⟨_,_,_,rfl,hn,⟨hc1,hc2⟩,rfl⟩));(· exact aA)
 |some q =>
  dsimp only[Option.getD,Option.isSome];repeat first|refine aE ?_|intro
  refine eV (λM=>Vi M id made A' n c' l) ?_;repeat ((fail_if_success (refine C.seq (x:=Code.region 6 _ _) ?_));first|refine Cx ?_|refine He ?_|intro _|refine Dr.two ?_ ?_)
  rename_i g3 g6 g8 g10;have hz:∃z,l[l.length - 1]?=z:=⟨_,rfl⟩
  obtain⟨z,hz⟩:=hz;rw[hz];refine C.cut (X:=Unit) (λ_=>[(2,.int .i64 now),(3,.pointer (some ⟨g3,0,none⟩)),(6,.pointer (some ⟨g6,0,none⟩)),(8,.pointer (some ⟨g8,0,none⟩)),(10,.pointer (some ⟨g10,0,none⟩)),(32,.bool (AP l).isSome)]) (λ_=>[aJ g10 92 (z.getD El).cs,aJ g8 79 q.cs,aJ g6 90 [.int .i64 0,.int .i64 0,.int .i64 0,.slice none 0 0],aJ g3 90 [.int .i64 id.rep,.int .i64 id.seq,.int .i64 made,.slice A' n c'],own fH A' n c' l]) (λ_=>True) ?_ ?_
  ·cases z with
   |none =>
    have ht:AP l=none:=by unfold AP;rw[hz]
    rw[ht];dsimp only[Option.getD,Option.isSome];repeat first|refine aE ?_|intro
    exact⟨(),aD,aA,trivial⟩
   |some e =>
    dsimp only[Option.getD,Option.isSome];repeat first|refine aE ?_|intro
    refine bK (λM=>Mr M e) ?_;cases ho:e.pG
    ·rw[Ch hz ho];dsimp only[Option.isSome];repeat first|refine aE ?_|intro
     exact⟨(),aD,aA,trivial⟩
    ·rw[FA hz ho];dsimp only[Option.isSome];repeat first|refine aE ?_|intro
     exact⟨(),aD,aA,trivial⟩
  rintro - G -;cases htip:AP l with
  |some e =>
   obtain⟨he,ho⟩:=yZ htip;rw[hz] at he;subst he;have heok:e.ok:=hok e (aAi hz);have hlt:=(aAd.1 hz).1;have hs:IntKind.i64.wrap ((n:Int) - 1)=((n - 1:Nat):Int):=by rw[aAq _ o_];omega
   rw[←hn] at hz;rw[←hn];dsimp only[Option.getD,Option.isSome];repeat first|refine aE ?_|intro
   refine C.bL 10 (l_ [0,1,2,3,4,5,6,7] (g_ 8 (n_ 9 (g_ 10 .nil)))) _ q_ q_ aB.refl ?_;repeat first|refine aE ?_|intro
   refine iO (λM=>Xe M e now heok) ?_;generalize e.gV now=x;rintro r H' ⟨rfl,rfl⟩;repeat first|refine aE ?_|intro
   apply gS;(· exact rfl);(· exact aF);(· exact rfl);(· exact rfl);(· exact rfl);(· exact aS);(· exact rfl);(· exact aF);rotate_left;(· exact(⟨_,_,_,rfl,by simp[hn],⟨hc1,hc2⟩,rfl⟩));(· exact aA)
  |none =>
   unfold next at hq;rw[htip] at hq;obtain⟨hlt,_⟩:=Bv hq;dsimp only[Option.getD,Option.isSome];repeat first|refine aE ?_|intro
   refine L.fQ sD (S.cB (T:=fH) (e:=(rQ q now)) rfl rfl rfl rfl sD) ?_;rintro _ _ ⟨_,rfl,rfl⟩;repeat first|refine aE ?_|intro
   rename_i h1 h2;apply gS;(· exact rfl);(· exact aF);(· exact rfl);(· exact rfl);(· exact rfl);(· exact aS);(· exact rfl);(· exact aF);rotate_left;(· exact(⟨_,_,_,rfl,by simp[hn],⟨h1,h2⟩,rfl⟩));(· exact aA)
theorem Xi(k:bP)(hr:Rd E fH A n c l)(hl:n≤1000000):aK prog E 307 #[Js id made A n c,.agg k.cs.toArray] [] (BC id made (cX id l k) l):=by
 have hn:=hr.len;have hmax:=fX;unfold BC;refine t_ func307 ntmps307 ?_;repeat first|refine aE ?_|intro
 refine dX (λM h1=>Cq M id made A n c l h1 hl) ?_;rintro r H' ⟨A',c',rfl,⟨hc1,hc2⟩,rfl⟩;repeat first|refine aE ?_|intro
 refine cl sD sK aC (λM hE=>W8 M A' n c' l dB _ _ func347 q_ rfl [_] (λe=>decide (e.ord=k.ord)) (λE2 R2 hE2 x=>Yn E2 x _ k.ord ((qP.aJ hE aS rfl).sub hE2))) ?_;rintro r H' ⟨rfl,rfl⟩;refine gk bG ?_;unfold idx;by_cases hid:k.id=id
 case neg =>
  rw[rN (.inl hid)];have hd:(!decide ((⟨k.id.rep,k.id.seq⟩:bJ)=⟨id.rep,id.seq⟩))=true:=by rw[J4,decide_eq_false hid];rfl
  dsimp only[Option.getD,Option.isSome];repeat first|refine aE ?_|intro
  apply gS;(· exact rfl);(· exact aF);(· exact rfl);(· exact rfl);(· exact rfl);(· exact aS);(· exact rfl);(· exact aF);rotate_left;(· exact(⟨_,_,_,rfl,hn,⟨hc1,hc2⟩,rfl⟩));(· exact aA)
 have hd:(!decide ((⟨k.id.rep,k.id.seq⟩:bJ)=⟨id.rep,id.seq⟩))=false:=by rw[J4,decide_eq_true hid];rfl
 cases hf:l.findIdx? (λe=>decide (e.ord=k.ord)) with
 |none =>
  rw[rN (.inr hf)];dsimp only[Option.getD,Option.isSome];repeat first|refine aE ?_|intro
  apply gS;(· exact rfl);(· exact aF);(· exact rfl);(· exact rfl);(· exact rfl);(· exact aS);(· exact rfl);(· exact aF);rotate_left;(· exact(⟨_,_,_,rfl,hn,⟨hc1,hc2⟩,rfl⟩));(· exact aA)
 |some i =>
  obtain⟨e,he,_⟩:=KI hf;have hi:=(aAd.1 he).1;have hak:=HP hid hf he;have hset:=Ro e;have hs:IntKind.i64.wrap ((n:Int) - 1)=((n - 1:Nat):Int):=by rw[aAq _ o_];omega
  cases hu:k.cD
  ·have h2:(!k.cD)=true:=by rw[hu];rfl
   cases ha:e.cX
   ·have h3:(!e.cX)=true:=by rw[ha];rfl
    rw[hak.trans (show _=some (l.set i e.qJ) by rw[hu,ha];rfl)];dsimp only[Option.getD,Option.isSome];repeat first|refine aE ?_|intro
    apply gS;(· exact rfl);(· exact aF);(· exact rfl);(· exact rfl);(· exact rfl);(· exact aS);(· exact rfl);(· exact aF);rotate_left;(· exact(⟨_,_,_,rfl,by simp[hn],⟨hc1,hc2⟩,rfl⟩));(· exact aA)
   ·have h3:(!e.cX)=false:=by rw[ha];rfl
    rw[hak.trans (show _=none by rw[hu,ha];rfl)];dsimp only[Option.getD,Option.isSome];repeat first|refine aE ?_|intro
    apply gS;(· exact rfl);(· exact aF);(· exact rfl);(· exact rfl);(· exact rfl);(· exact aS);(· exact rfl);(· exact aF);rotate_left;(· exact(⟨_,_,_,rfl,hn,⟨hc1,hc2⟩,rfl⟩));(· exact aA)
  ·have h2:(!k.cD)=false:=by rw[hu];rfl
   rw[hu] at hak;dsimp only;repeat first|refine aE ?_|intro
   cases hun:e.Ab
   ·rw[hak.trans (show _=none by rw[hun];rfl)];dsimp only[Option.getD,Option.isSome];refine bW (λM=>Gw M e) ?_;rw[hun];rintro r H' ⟨rfl,rfl⟩;repeat first|refine aE ?_|intro
    apply gS;(· exact rfl);(· exact aF);(· exact rfl);(· exact rfl);(· exact rfl);(· exact aS);(· exact rfl);(· exact aF);rotate_left;(· exact(⟨_,_,_,rfl,hn,⟨hc1,hc2⟩,rfl⟩));(· exact aA)
   by_cases hb:1≤e.back
   case neg =>
    rw[hak.trans (show _=none by rw[hun,decide_eq_false hb];rfl)];dsimp only[Option.getD,Option.isSome];refine bW (λM=>Gw M e) ?_;rw[hun];rintro r H' ⟨rfl,rfl⟩;repeat first|refine aE ?_|intro
    apply gS;(· exact rfl);(· exact aF);(· exact rfl);(· exact rfl);(· exact rfl);(· exact aS);(· exact rfl);(· exact aF);rotate_left;(· exact(⟨_,_,_,rfl,hn,⟨hc1,hc2⟩,rfl⟩));(· exact aA)
   by_cases hlast:i+1=l.length
   ·rw[hak.trans (show _=some (l.take i) by rw[hun,decide_eq_true hb,decide_eq_true hlast];rfl)];dsimp only[Option.getD,Option.isSome];refine bW (λM=>Gw M e) ?_;rw[hun];rintro r H' ⟨rfl,rfl⟩;refine gk bG ?_;repeat ((fail_if_success (refine C.seq (x:=Code.region 11 _ _) ?_));first|refine Cx ?_|refine He ?_|intro _|refine Dr.two ?_ ?_)
    refine C.conv (aB.FF (T:=fH) (A:=A') (n:=n) (c:=c') (l:=l) (k:=i) o_ dH) ?_;repeat first|refine aE ?_|intro
    apply gS;(· exact rfl);(· exact aF);(· exact rfl);(· exact rfl);(· exact rfl);(· exact aS);(· exact rfl);(· exact aF);rotate_left;(· exact(⟨_,_,_,rfl,by rw[aAg];omega,⟨by omega,hc2⟩,rfl⟩));(· exact aA)
   ·rw[hak.trans (show _=none by rw[hun,decide_eq_true hb,decide_eq_false hlast];rfl)];dsimp only[Option.getD,Option.isSome];refine bW (λM=>Gw M e) ?_;rw[hun];rintro r H' ⟨rfl,rfl⟩;repeat first|refine aE ?_|intro
    apply gS;(· exact rfl);(· exact aF);(· exact rfl);(· exact rfl);(· exact rfl);(· exact aS);(· exact rfl);(· exact aF);rotate_left;(· exact(⟨_,_,_,rfl,hn,⟨hc1,hc2⟩,rfl⟩));(· exact aA)
theorem VW(hr:Rd E fH A n c l)(hw:Rd E eG X nx cx want):aK prog E 206 #[Js id made A n c,.slice X nx cx] [] λr H'=>r=.returned (.bool (quiet l want))∧H'=[]:=by
 have hn:=hr.len;have hnw:=hw.len;have hcap:=hr.cap;have hcw:=hw.cap;have hmax:=fX;unfold quiet;refine t_ func206 ntmps206 ?_;rw[←hn,←hnw];by_cases h:n=nx
 ·rw[decide_eq_true h];have hall:(l.all λe => !e.pG) = !(l.any (·.pG)):=by simp[List.not_any_eq_all_not]
  rw[hall];repeat first|refine aE ?_|intro
  refine eV (λM=>Wg M A n c l) ?_;repeat first|refine aE ?_|intro
  exact B7
 ·rw[decide_eq_false h];repeat first|refine aE ?_|intro
  exact B7
theorem V6(g:fU)(now:Int)(hr:Rd E fH A n c l)(hw:Rd E eG X nx cx want)(hok:∀e∈l,e.ok)(hm:dQ made) :
  aK prog E 291 #[Js id made A n c,.slice X nx cx,.agg g.cs.toArray,.int .i64 now] [] λr H'=>r=.returned (.bool (Ej id made l want g now))∧H'=[]:=by
 unfold Ej;refine t_ func291 ntmps291 ?_;repeat first|refine aE ?_|intro
 refine C1 (λM h1 h2=>yJ M id made A n c l want X nx cx h1 h2 hok hm) ?_;generalize next id made l want=q;rintro r H' ⟨rfl,rfl⟩;repeat first|refine aE ?_|intro
 refine eV (λM=>Vi M id made A n c l) ?_;have hz:∃z,l[l.length - 1]?=z:=⟨_,rfl⟩
 obtain⟨z,hz⟩:=hz;rw[hz];generalize q.isSome=b;cases z with
 |none =>
  have ht:AP l=none:=by unfold AP;rw[hz]
  rw[ht];dsimp only[Option.getD,Option.isSome];cases b;all_goals
   repeat first|refine aE ?_|intro
   exact B7
 |some e =>
  dsimp only[Option.getD,Option.isSome];repeat first|refine aE ?_|intro
  refine bK (λM=>Mr M e) ?_;cases ho:e.pG
  ·rw[Ch hz ho];dsimp only;cases b;all_goals
    repeat first|refine aE ?_|intro
    exact B7
  ·rw[FA hz ho];dsimp only;cases b
   ·repeat first|refine aE ?_|intro
    exact B7
   ·repeat first|refine aE ?_|intro
    refine bK (λM=>VZ M e g now) ?_;repeat first|refine aE ?_|intro
    exact B7
end
structure fG where
 id:bJ
 made:Int
 A:Option Addr
 n:Nat
 c:Nat
 l:List bH
 X:Option Addr
 nx:Nat
 cx:Nat
 w:List cQ
abbrev fG.cs(x:fG):List Value:=[.int .i64 x.id.rep,.int .i64 x.id.seq,.int .i64 x.made,.slice x.A x.n x.c,.slice x.X x.nx x.cx]
def eD:Ty fG where
 val x:=.agg x.cs.toArray
 size:=5
 bytes:=72
 tid:=242
 zero:=.agg #[.int .i64 0,.int .i64 0,.int .i64 0,.slice none 0 0,.slice none 0 0]
 hlen _:=rfl
 lJ a u h:=by simp[Value.cells] at h;rcases h with rfl|rfl|rfl|rfl|rfl<;>rfl
 gL:=sD
 hzero:=rfl
 fW:=q_
 nR:=.inl ⟨q_,λ_=>⟨_,rfl⟩⟩
instance WT:lL eD 72:=⟨rfl⟩
structure Qc where
 id:bJ
 made:Int
 A:Option Addr
 n:Nat
 c:Nat
 l:List bH
abbrev Qc.cs(x:Qc):List Value:=[.int .i64 x.id.rep,.int .i64 x.id.seq,.int .i64 x.made,.slice x.A x.n x.c]
def pZ:Ty Qc where
 val x:=.agg x.cs.toArray
 size:=4
 bytes:=48
 tid:=90
 zero:=.agg #[.int .i64 0,.int .i64 0,.int .i64 0,.slice none 0 0]
 hlen _:=rfl
 lJ a u h:=by simp[Value.cells] at h;rcases h with rfl|rfl|rfl|rfl<;>rfl
 gL:=sD
 hzero:=rfl
 fW:=q_
 nR:=.inl ⟨q_,λ_=>⟨_,rfl⟩⟩
instance XD:lL pZ 48:=⟨rfl⟩
theorem NK:Rec prog 242 [.int .i64 0,.int .i64 0,.int .i64 0,.slice none 0 0,.slice none 0 0] [(0,4),(4,1)]:=⟨q_,q_⟩
instance Tc:cL 242 [.int .i64 0,.int .i64 0,.int .i64 0,.slice none 0 0,.slice none 0 0] [(0,4),(4,1)]:=⟨NK⟩
theorem IA:Rec prog 310 [.bool false,.int .i64 0,.slice none 0 0] [(0,1),(1,1),(2,1)]:=⟨q_,q_⟩
instance Qs:cL 310 [.bool false,.int .i64 0,.slice none 0 0] [(0,1),(1,1),(2,1)]:=⟨IA⟩
abbrev gJ(x:fG):aL:=own fH x.A x.n x.c x.l
abbrev iD(x:fG):aL:=own eG x.X x.nx x.cx x.w
abbrev lg(g:Nat)(B:Option Addr)(n d:Nat)(r:Int):aL:=aJ g 310 [.bool true,.int .i64 r,.slice B n d]
abbrev vM(g:Nat)(B:Option Addr)(n d:Nat)(r:Int)(ls:List fG):List aL:=[lg g B n d r,own eD B n d ls,aO gJ ls,aO iD ls]
def fG.s(x:fG):dS:=⟨x.made,x.l,x.w⟩
structure fG.ok(r:Int)(i:Nat)(e:fG):Prop where
 id:e.id=⟨r,((i+1:Nat):Int)⟩
 n:e.n=e.l.length
 c:e.n≤e.c∧e.c≤maxLen
 nx:e.nx=e.w.length
 cx:e.nx≤e.cx∧e.cx≤maxLen
 s:e.s.ok
def EE(r:Int)(ls:List fG):Prop:=∀(i:Nat) (e:fG),ls[i]?=some e→e.ok r i
theorem EE.set{r:Int}{ls:List fG}(h:EE r ls){i:Nat}{e:fG}(he:e.ok r i):EE r (ls.set i e):=by
 intro j x hx;rw[aDr] at hx;split at hx
 ·rename_i hij;subst hij;split at hx
  ·injection hx with hx;subst hx;exact he
  ·cases hx
 ·exact h j x hx
theorem EE.push{r:Int}{ls:List fG}(h:EE r ls){e:fG}(he:e.ok r ls.length):EE r (ls++[e]):=by
 intro j x hx;by_cases hj:j<ls.length
 ·rw[aBp hj] at hx;exact h j x hx
 ·rw[aBc o_] at hx;have h0:j - ls.length=0:=by
   have:=(aAd.1 hx).1;simp at this;omega
  rw[h0] at hx;injection hx with hx
  subst hx;rw[show j=ls.length by omega];exact he
theorem dS.Kk:(⟨0,[],[]⟩:dS).ok:=⟨λ_ h=>(aAk h).elim,λ_ h=>(aAk h).elim,aCd _,by decide,aCd _,by decide⟩
section
variable (E:Env) (g:Nat) (B:Option Addr) (n d:Nat) (r:Int) (ls:List fG)
theorem Xl:aK prog E 264 #[.int .i64 r] [] λe H'=>∃g',e=.returned (.pointer (some ⟨g',0,none⟩))∧H'=[lg g' none 0 0 r]:=by
 refine t_ func264 ntmps264 ?_;repeat first|refine cY ?_|intro
 exact jQ ⟨_,rfl,rfl⟩
theorem u6(s:Int):aK prog E 348 #[.pointer (some ⟨g,0,none⟩),.int .i64 s] [lg g B n d r] λe H'=>e=.returned (.agg #[.int .i64 r,.int .i64 s])∧H'=[lg g B n d r]:=by
 refine t_ func348 ntmps348 ?_;repeat first|refine cY ?_|intro
 exact e7_
def OL(r:Int)(n:Nat)(a:bJ):Prop:=a.rep=r∧1≤a.seq∧a.seq≤n
theorem JR(a:bJ)(hn:n≤100000)(h:¬OL r n a):aK prog E 305 #[.pointer (some ⟨g,0,none⟩),.agg a.cs.toArray] [lg g B n d r] λe H'=>e=.returned (.pointer none)∧H'=[lg g B n d r]:=by
 have hmax:=fX;unfold OL at h;refine t_ func305 ntmps305 ?_;by_cases h1:a.rep=r
 ·by_cases h2:a.seq<1
  ·repeat first|refine cY ?_|intro
   refine rA (l_ [0,1,2,3,4,5,6,7,8,9,10,11,12,13,14,15,16,17,18,19,20,21,22,23,24,25,26,27,28,29,30,31,32] .nil) ?_;repeat first|refine cY ?_|intro
   exact B7
  ·have h3:(n:Int)<a.seq:=o_;repeat first|refine cY ?_|intro
   refine rA (l_ [0,1,2,3,4,5,6,7,8,9,10,11,12,13,14,15,16,17,18,19,20,21,22,23,24,25,26,27,28,29,30,31,32] .nil) ?_;repeat first|refine cY ?_|intro
   exact B7
 ·repeat first|refine cY ?_|intro
  refine rA (l_ [0,1,2,3,4,5,6,7,8,9,10,11,12,13,14,15,16,17,18,19,20,21,22,23,24,25,26,27,28,29,30,31,32] .nil) ?_;repeat first|refine cY ?_|intro
  exact B7
theorem uJ(i:Nat)(hn:n≤100000)(hi:i<n){e:fG}(he:ls[i]?=some e):aK prog E 305 #[.pointer (some ⟨g,0,none⟩),.agg #[.int .i64 r,.int .i64 ((i+1:Nat):Int)]] [lg g B n d r,own eD B n d ls] λe H'=>e=.returned (.pointer (some ((ad B).add (i*eD.size))))∧H'=[lg g B n d r,own eD B n d ls]:=by
 have hmax:=fX;have hs:IntKind.i64.wrap (((i+1:Nat):Int) - 1)=((i:Nat):Int):=by rw[aAq _ o_];omega
 refine t_ func305 ntmps305 ?_;repeat first|refine cY ?_|intro
 refine rA (l_ [0,1,2,3,4,5,6,7,8,9,10,11,12,13,14,15,16,17,18,19,20,21,22,23,24,25,26,27,28,29,30,31,32] .nil) ?_;repeat first|refine cY ?_|intro
 refine rA (l_ [0,1,2,3,4,5,6,7,8] .nil) ?_;repeat first|refine cY ?_|intro
 exact B7
theorem Kf(A:Option Addr)(n c:Nat)(l:List cQ)(hr:Rd E eG A n c l)(hl:n≤100000):aK prog E 232 #[.slice A n c] [] λr H'=>∃A' c',r=.returned (.slice A' n c')∧(n≤c'∧c'≤maxLen)∧H'=[own eG A' n c' l]:=by
 refine t_ func232 ntmps232 ?_;cases A with
 |none =>
  obtain⟨rfl,rfl⟩:=hr.none;repeat first|refine cY ?_|intro
  exact aR rfl aF (aB.nil eG) ⟨_,_,rfl,⟨aAf _,aAh _⟩,rfl⟩
 |some a =>
  repeat first|refine cY ?_|intro
  exact aR rfl aF aA (⟨_,_,rfl,⟨by assumption,by assumption⟩,rfl⟩)
end
end
end Go.Proofs.YtmilalkjbojciaaGreat.Sep
namespace Go.Proofs.YtmilalkjbojciaaGreat.Crc
section
def Ug:Nat:=3988292384
def LB(c:Nat):Nat:=if c % 2=1 then(c / 2) ^^^ Ug else c / 2
def bits(c:Nat):Nat→Nat
 |0=>c
 |k+1=>LB (bits c k)
def byte(c x:Nat):Nat:=bits (c ^^^ x) 8
def raw(c:Nat)(l:List UInt8):Nat:=l.foldl (λc x=>byte c x.toNat) c
def more(c:Nat)(l:List UInt8):Nat:=4294967295 ^^^ raw (4294967295 ^^^ c) l
def sum(l:List UInt8):Nat:=more 0 l
theorem zP{a b:Nat}(ha:a<4294967296)(hb:b<4294967296):a ^^^ b<4294967296:=Nat.xor_lt_two_pow (n:=32) ha hb
theorem Qr{c:Nat}(h:c<4294967296):LB c<4294967296:=by
 unfold LB;split
 ·exact zP o_ sD
 ·omega
theorem FG{c:Nat}(h:c<4294967296):∀k,bits c k<4294967296
 |0=>h
 |k+1=>Qr (FG h k)
theorem Rg{c x:Nat}(h:c<4294967296)(hx:x<256):byte c x<4294967296:=FG (zP h o_) 8
theorem Np{c:Nat}(h:c<4294967296):∀l,raw c l<4294967296:=by
 intro l;induction l generalizing c with
 |nil=>exact h
 |cons x l ih=>exact ih (Rg h (aEr x))
theorem KN{c:Nat}(h:c<4294967296)(l:List UInt8):more c l<4294967296:=zP sD (Np (zP sD h) l)
theorem EW(l:List UInt8):sum l<4294967296:=KN sD l
theorem CM(c:Nat)(a b:List UInt8):raw c (a++b)=raw (raw c a) b:=List.foldl_append
theorem PA(c:Nat)(a:List UInt8)(x:UInt8):raw c (a++[x])=byte (raw c a) x.toNat:=by rw[CM];rfl
theorem Kl(a b:Nat):a ^^^ (a ^^^ b)=b:=by rw[←Nat.xor_assoc,Nat.xor_self,Nat.zero_xor]
theorem Gp(c:Nat)(a b:List UInt8):more c (a++b)=more (more c a) b:=by
 unfold more;rw[CM,Kl]
theorem OS(c:Nat):more c []=c:=Kl _ _
end
section
open Go.RowKit Mem
theorem YA{c:Nat}(h:c<4294967296):Go.bits .and .u32 (c:Int) 1=((c % 2:Nat):Int):=by
 rw[show(1:Int)=((1:Nat):Int) from rfl,u32_and_nat c 1 h sD,nat_mask1]
theorem T5{c:Nat}(h:c<4294967296):Go.bits .xor .u32 IntKind.u32.max (c:Int)=((4294967295 ^^^ c:Nat):Int):=u32_xor_nat 4294967295 c sD h
theorem QO(c:Nat)(hc:c<4294967296)(A:Option Addr)(n cap B:Nat)(l:List UInt8)(W:World)(hr:Rd Fq W B A n cap l) :
  Calls prog 294 #[.int .u32 (c:Int),.slice A n cap] W λe w'=>e=.returned (.int .u32 (more c l:Nat))∧W=w':=by
 have hn:=hr.cap;have hnl:=Lib.hid hr.len;unfold maxLen at hn;have hx:=T5 hc;have hd:∀l,4294967295 ^^^ raw (4294967295 ^^^ c) l=more c l:=λ_=>rfl;have HD:=Lib.hid hd;clear hd;have hc0:4294967295 ^^^ c<4294967296:=zP sD hc;generalize 4294967295 ^^^ c=c0 at *
 go_enter func294,ntmps294
 go_wp2
 clear hx
 go_loop [5,12] (λt i=>∃k:Nat,k≤n∧i=.int .i64 k∧t=.int .u32 (raw c0 (l.take k):Nat)) (λ_ i=>n - (intOf i).toNat)
 case atStart=>exact⟨0,by omega,rfl,rfl⟩
 case round =>
  obtain⟨k,hk,rfl,rfl⟩:=hrel;have hb:=Np hc0 (l.take k);by_cases hlt:k<n
  ·obtain⟨ad,rfl,_,hl,hcell⟩:=hr.j9 hlt;have hs:raw c0 (l.take (k+1))=byte (raw c0 (l.take k)) l[k].toNat:=by
    rw[aAn hl,PA]
   have HS:=Lib.hid hs;clear hs;have hx:=aEr l[k];generalize hR:raw c0 (l.take k)=R at *;clear hR;generalize l[k].toNat=x at *;have hxx:Go.bits .xor .u32 (R:Int) (x:Int)=((R ^^^ x:Nat):Int):=u32_xor_nat R x hb o_;have hR2:R ^^^ x<4294967296:=zP hb o_;have hby:bits (R ^^^ x) 8=byte R x:=rfl;have HBY:=Lib.hid hby
   clear hby
   generalize hY:R ^^^ x=Y at *;clear hY
   go_wp2
   clear hxx
   go_loop [5,20] (λt i=>∃j:Nat,j≤8∧i=.int .i64 j∧t=.int .u32 (bits Y j:Nat)) (λ_ i=>8 - (intOf i).toNat)
   case atStart=>exact⟨0,by omega,rfl,rfl⟩
   case round =>
    obtain⟨j,hj,rfl,rfl⟩:=hrel;have hbb:=FG hR2 j;have hst:bits Y (j+1)=LB (bits Y j):=rfl;have HST:=Lib.hid hst;clear hst;by_cases h8:j<8
    ·generalize bits Y j=Z at *;have hm:=YA hbb;have hq:(Z:Int) / 2=((Z / 2:Nat):Int):=by simp
     have hp:Go.bits .xor .u32 ((Z:Int) / 2) 3988292384=((Z / 2 ^^^ Ug:Nat):Int):=by
      rw[hq];exact u32_xor_nat (Z / 2) 3988292384 o_ sD
     clear hq;by_cases h1:Z % 2=1
     ·have hs1:LB Z=Z / 2 ^^^ Ug:=if_pos h1;have HS1:=Lib.hid hs1;clear hs1
      go_wp2
      all_goals go_round
      case rel=>exact⟨j+1,by omega,by go_num,J7 (by rw[HST.out,HS1.out])⟩
      case measure=>simp[intOf];omega
     ·have hs1:LB Z=Z / 2:=if_neg h1;have HS1:=Lib.hid hs1;clear hs1 hp
      go_wp2
      all_goals go_round
      case rel=>exact⟨j+1,by omega,by go_num,by rw[HST.out,HS1.out];simp⟩
      case measure=>simp[intOf];omega
    ·obtain rfl:j=8:=o_
     go_wp2
     go_round
     case rel=>exact⟨k+1,by omega,by go_num,J7 (by rw[HS.out,HBY.out])⟩
     case measure=>simp[intOf];omega
  ·obtain rfl:k=n:=o_
   go_wp2
   go_ret
   exact⟨SP (by rw[T5 hb,HD.out,hnl.out,aAo]),rfl⟩
def FK(c:Nat)(ls:List (List UInt8)):Nat:=ls.foldl more c
theorem R9{c:Nat}(h:c<4294967296):∀ls,FK c ls<4294967296:=by
 intro ls;induction ls generalizing c with
 |nil=>exact h
 |cons x l ih=>exact ih (KN h x)
theorem FE(c:Nat)(ls:List (List UInt8)):FK c ls=more c ls.flatten:=by
 induction ls generalizing c with
 |nil=>exact(OS c).symm
 |cons x l ih=>rw[aFs,Gp,←ih];rfl
theorem MK(c:Nat)(ls:List (List UInt8))(x:List UInt8):FK c (ls++[x])=more (FK c ls) x:=by simp[FK]
end
end Go.Proofs.YtmilalkjbojciaaGreat.Crc
namespace Go.Proofs.YtmilalkjbojciaaGreat.Frm
open Oct
def fr(b:List UInt8):List UInt8:=be b.length 2++b++be (Crc.sum b) 4++[90]
theorem bO(b:List UInt8):(fr b).length=b.length+7:=by simp[fr,aP];omega
def size(l:List UInt8):Nat:=get (l.take 2)
def ok(l:List UInt8):Prop:=2≤l.length∧1≤size l∧size l≤4096∧size l+7≤l.length∧l[size l+6]?=some 90∧get ((l.drop (size l+2)).take 4)=Crc.sum ((l.drop 2).take (size l))
instance (l:List UInt8):Decidable (ok l):=by unfold ok;exact inferInstance
def kG(l:List UInt8):Option (List UInt8×Nat):=if ok l then some ((l.drop 2).take (size l),size l+7) else none
theorem lW{l x:List UInt8}{k:Nat}(h:kG l=some (x,k)):8≤k∧k≤l.length∧x.length+7=k:=by
 unfold kG at h;split at h
 ·rename_i ho;injection h with h;injection h with h1 h2
  subst h1 h2;obtain⟨h1,h2,h3,h4,_⟩:=ho;simp;omega
 ·cases h
theorem Hf{l:List UInt8}(h2:2≤l.length)(_h1:1≤size l)(h3:size l+7≤l.length):(l[size l+6]?=some 90∧get ((l.drop (size l+2)).take 4)=Crc.sum ((l.drop 2).take (size l)))↔fr ((l.drop 2).take (size l))=l.take (size l+7):=by
 have hlen:((l.drop 2).take (size l)).length=size l:=by simp;omega
 have e1:l.take (size l+7)=l.take 2++(l.drop 2).take (size l)++(l.drop (size l+2)).take 4++(l.drop (size l+6)).take 1:=by
  rw[show size l+7=2+size l+4+1 by omega,aDd,aDd,aDd,show 2+size l+4=size l+6 by omega,show 2+size l=size l+2 by omega]
 have e2:be (size l) 2=l.take 2:=by
  have:=Ec (l.take 2);rw[aAg,aBr h2] at this;exact this
 have hl4:((l.drop (size l+2)).take 4).length=4:=by simp;omega
 have lJ:(l.drop (size l+6)).take 1=[90]↔l[size l+6]?=some 90:=by
  rw[aAm o_,aAa o_,aEl,aCg];constructor
  ·intro h;injection h with h _;rw[h]
  ·intro h;injection h with h;rw[h]
 have hfour:be (Crc.sum ((l.drop 2).take (size l))) 4=(l.drop (size l+2)).take 4↔get ((l.drop (size l+2)).take 4)=Crc.sum ((l.drop 2).take (size l)):=by
  constructor
  ·intro h;rw[←h,FD,aEc];exact Crc.EW _
  ·intro h;rw[←h];have:=Ec ((l.drop (size l+2)).take 4);rw[hl4] at this;exact this
 unfold fr;rw[e1,hlen,e2,←lJ,←hfour];constructor
 ·rintro⟨h5,h6⟩;rw[h5,h6]
 ·intro h;have h7:=List.append_inj' h (by rw[aAg];simp;omega);have h8:=List.append_inj' h7.1 (by rw[aP,hl4]);exact⟨h7.2.symm,h8.2⟩
theorem Jq{b t:List UInt8}(h:b.length≤4096):size (fr b++t)=b.length:=by
 unfold size fr;rw[aAb,aAb,aAb,aBj (aP _ _),FD,aEc o_]
theorem yY{b t:List UInt8}(h1:1≤b.length)(h:b.length≤4096):kG (fr b++t)=some (b,b.length+7):=by
 have hs:=Jq (t:=t) h;have hl:(fr b++t).length=b.length+7+t.length:=by rw[aAe,bO]
 have e:((fr b++t).drop 2).take (size (fr b++t))=b:=by
  rw[hs];unfold fr;rw[aAb,aAb,aAb,aBu (aP _ _),aBj rfl]
 have hok:ok (fr b++t):=by
  have h2:2≤(fr b++t).length:=o_;have h3:1≤size (fr b++t):=o_;have h4:size (fr b++t)+7≤(fr b++t).length:=o_;refine⟨h2,h3,by omega,h4,(Hf h2 h3 h4).2 ?_⟩;rw[e,hs,aBj (bO b)]
 unfold kG;rw[if_pos hok,e,hs]
def scan:Nat→List UInt8→List (List UInt8)×Nat
 |0,_=>([],0)
 |k+1,l=>match kG l with
  |none=>([],0)
  |some (x,n)=>(x::(scan k (l.drop n)).1,n+(scan k (l.drop n)).2)
theorem uM{k:Nat}{l:List UInt8}(h:kG l=none):scan k l=([],0):=by
 cases k with
 |zero=>rfl
 |succ k=>simp[scan,h]
theorem AG{k:Nat}{l x:List UInt8}{n:Nat}(h:kG l=some (x,n)):scan (k+1) l=(x::(scan k (l.drop n)).1,n+(scan k (l.drop n)).2):=by simp[scan,h]
theorem Lo{k m:Nat}{l:List UInt8}(hk:l.length≤k)(hm:l.length≤m):scan k l=scan m l:=by
 induction k generalizing l m with
 |zero =>
  have h0:l=[]:=aBi o_;subst h0;rw[uM (k:=m) rfl];rfl
 |succ k ih =>
  cases hq:kG l with
  |none=>rw[uM hq,uM hq]
  |some r =>
   obtain⟨x,n⟩:=r;have hb:=lW hq;cases m with
   |zero=>omega
   |succ m =>
    have:=ih (l:=l.drop n) (m:=m) (by simp;omega) (by simp;omega);rw[AG hq,AG hq,this]
def cZ(l:List UInt8):List (List UInt8):=(scan l.length l).1
def upto(l:List UInt8):Nat:=(scan l.length l).2
theorem gR{l:List UInt8}(h:kG l=none):cZ l=[]∧upto l=0:=by unfold cZ upto;rw[uM h];exact⟨rfl,rfl⟩
theorem kM{l x:List UInt8}{n:Nat}(h:kG l=some (x,n)):cZ l=x::cZ (l.drop n)∧upto l=n+upto (l.drop n):=by
 have hb:=lW h;unfold cZ upto;have e:scan l.length l=(x::(scan (l.length - 1) (l.drop n)).1,n+(scan (l.length - 1) (l.drop n)).2):=by
  rw[show l.length=(l.length - 1)+1 by omega];exact AG h
 have e2:scan (l.length - 1) (l.drop n)=scan (l.drop n).length (l.drop n):=Lo (by simp;omega) (aAf _);rw[e,e2];exact⟨rfl,rfl⟩
theorem yG(l:List UInt8):8*(cZ l).length≤l.length:=by
 have key:∀(k:Nat) (l:List UInt8),l.length≤k→8*(cZ l).length≤l.length:=by
  intro k
  induction k with
  |zero =>
   intro l hl;have h0:l=[]:=aBi o_;subst h0;rw[(gR (l:=[]) rfl).1];simp
  |succ k ih =>
   intro l hl;cases hq:kG l with
   |none=>rw[(gR hq).1];simp
   |some r =>
    obtain⟨x,n⟩:=r;have hb:=lW hq;have:=ih (l.drop n) (by simp;omega);rw[(kM hq).1,aAs];simp at this;omega
 exact key _ l (aAf _)
theorem Cp{b:List UInt8}(h:b.length≤4096){k z:Nat}(hk:k<b.length+7):kG ((fr b).take k++List.replicate z 0)=none:=by
 unfold kG;refine if_neg ?_;rintro⟨h2,h1,h3,h4,h5,_⟩;have hl:((fr b).take k).length=k:=by rw[aAg,bO];omega
 have hge:k≤size ((fr b).take k++List.replicate z 0)+6:=by
  by_cases hk2:2≤k
  ·have e:size ((fr b).take k++List.replicate z 0)=b.length:=by
    have h6:=Jq (t:=[]) h;unfold size at h6⊢;rw[aAc] at h6;rw[aCw o_,aEn,aBr hk2,h6]
   omega
  ·omega
 rw[aBc o_,aDc] at h5;split at h5
 ·cases h5
 ·cases h5
theorem I8(ls:List (List UInt8))(hls:∀x∈ls,1≤x.length∧x.length≤4096)(cut z:Nat)(hc:cut≤(ls.map fr).flatten.length) :
  ∃k,k≤ls.length∧cZ ((ls.map fr).flatten.take cut++List.replicate z 0)=ls.take k∧((ls.take k).map fr).flatten.length≤cut∧(k<ls.length→cut<((ls.take (k+1)).map fr).flatten.length):=by
 induction ls generalizing cut with
 |nil =>
  refine⟨0,aAf _,?_,by simp,λh=>absurd h (by simp)⟩;have h0:kG (List.replicate z 0)=none:=by
   have:=Cp (b:=[]) (k:=0) (z:=z) (by simp) (by simp);simpa using this
  simpa using(gR h0).1
 |cons x ls ih =>
  have hx:=hls x (by simp);simp only[aCi,aFs,aAe,bO] at hc⊢;by_cases hk:cut<x.length+7
  ·refine⟨0,aAh _,?_,by simp,λ_=>by simp[bO];omega⟩;rw[aCw (by rw[bO];omega),(gR (Cp hx.2 hk)).1];rfl
  ·obtain⟨k,h1,h2,h3,h4⟩:=ih (λy hy=>hls y (by simp[hy])) (cut - (x.length+7)) o_;have e:(fr x++(ls.map fr).flatten).take cut=fr x++((ls.map fr).flatten).take (cut - (x.length+7)):=by
    rw[aEt,aAj (by rw[bO];omega),bO]
   refine⟨k+1,by simp;omega,?_,?_,λh=>?_⟩
   ·rw[e,aAb];have hg:=yY (b:=x) (t:=((ls.map fr).flatten).take (cut - (x.length+7))++List.replicate z 0) hx.1 hx.2;rw[(kM hg).1,aBu (bO x),h2];rfl
   ·simp only[aEl,aCi,aFs,aAe,bO];omega
   ·have:=h4 (by simpa using h);rw[aEl,aCi,aFs,aAe,bO];omega
end Go.Proofs.YtmilalkjbojciaaGreat.Frm
namespace Go.Proofs.YtmilalkjbojciaaGreat.Sep
section
def sp(D:List UInt8)(o:Nat)(x:List UInt8):List UInt8:=D.take o++x++D.drop (o+x.length)
theorem dZ{D:List UInt8}{o:Nat}{x:List UInt8}(h:o+x.length≤D.length):(sp D o x).length=D.length:=by
 unfold sp;simp only[aAe,aAg,aBd];omega
theorem oM{D:List UInt8}{o:Nat}{x:List UInt8}(h:o+x.length≤D.length)(j:Nat):(sp D o x)[j]?=if j<o then D[j]? else if j<o+x.length then x[j - o]? else D[j]?:=by
 unfold sp;have h1:(D.take o).length=o:=by rw[aAg];omega
 by_cases h2:j<o
 ·rw[if_pos h2,aAb,aBp o_,aEd,if_pos h2]
 ·rw[if_neg h2];by_cases h3:j<o+x.length
  ·rw[if_pos h3,aBp (by rw[aAe];omega),aBc o_,h1]
  ·rw[if_neg h3,aBc (by rw[aAe];omega),aAe,h1,aCv];congr 1;omega
theorem aLw(D:List UInt8)(o:Nat):sp D o []=D:=by unfold sp;simp
theorem iA{l:List UInt8}{k j:Nat}:(l.take k)[j]?=if j<k then l[j]? else none:=aEd
theorem Cu{l:List AR}{i:Nat}(h:i<l.length):flat l=flat (l.take i)++l[i].1++flat (l.drop (i+1)):=by
 have:l=l.take i++l[i]::l.drop (i+1):=by rw[←aAm h,aAx]
 conv=>lhs;rw[this]
 rw[mS,aAb];rfl
theorem F4{l:List AR}{i k:Nat}{b:List UInt8}(hb:b.length=32)(hk:k≤32)(h:i<l.length):flat (l.set i (front k b hb hk l[i]))=sp (flat l) (32*i) (b.take k):=by
 have hset:l.set i (front k b hb hk l[i])=l.take i++front k b hb hk l[i]::l.drop (i+1):=by
  rw[aDg,if_pos h]
 have hA:(flat (l.take i)).length=32*i:=by rw[eI,aAg];omega
 have hS:=l[i].2;have hbk:(b.take k).length=k:=by rw[aAg];omega
 rw[hset,mS,Cu h];show flat (l.take i)++((b.take k++l[i].1.drop k)++flat (l.drop (i+1)))=_;unfold sp;rw[hbk];simp only[aAb];have hd:(flat (l.take i)++(l[i].1++flat (l.drop (i+1)))).drop (32*i+k)=l[i].1.drop k++flat (l.drop (i+1)):=by
  rw[←hA,aGj,aFa o_];simp
 rw[aBj hA,hd]
theorem GB{l:List AR}{i:Nat}(h:i<l.length):l[i].1=((flat l).drop (32*i)).take 32:=by
 have hA:(flat (l.take i)).length=32*i:=by rw[eI,aAg];omega
 rw[Cu h,aAb,aBu hA,aBj l[i].2]
theorem LA(l:List AR)(k:Nat):flat (l.take k)=(flat l).take (32*k):=by
 by_cases h:k≤l.length
 ·have h1:flat l=flat (l.take k)++flat (l.drop k):=by rw[←mS,aAx]
  rw[h1,aBj (by rw[eI,aAg];omega)]
 ·rw[aAj o_,aAj (by rw[eI];omega)]
theorem MJ(l:List AR)(k:Nat):flat (l.drop k)=(flat l).drop (32*k):=by
 by_cases h:k≤l.length
 ·have h1:flat l=flat (l.take k)++flat (l.drop k):=by rw[←mS,aAx]
  rw[h1,aBu (by rw[eI,aAg];omega)]
 ·rw[List.drop_eq_nil_of_le o_,List.drop_eq_nil_of_le (by rw[eI];omega)];rfl
def bS(N h:Nat):Nat:=32*(1+h*N)
def bB(D:List UInt8)(N h:Nat):List UInt8:=(D.drop (bS N h)).take (32*N)
theorem IU(l:List AR)(N h:Nat):flat ((l.drop (1+h*N)).take N)=bB (flat l) N h:=by
 unfold bB bS;rw[LA,MJ]
theorem eH{D:List UInt8}{N h:Nat}(hD:D.length=32*(2*N+1))(hh:h≤1):(bB D N h).length=32*N:=by
 unfold bB bS;rw[aAg,aBd,hD];have:h*N≤1*N:=aBa _ hh;omega
theorem qY{D:List UInt8}{N h p:Nat}(hp:p<32*N):(bB D N h)[p]?=D[bS N h+p]?:=by
 unfold bB;rw[iA,if_pos hp,aCv]
def Hc(at_ len:Nat):Nat:=if len=0 then 0 else(at_+len+31) / 32 - at_ / 32
def iT(F:Int)(a len:Nat):Bool:=decide (0≤F∧F<32*(Hc a len:Nat))
def lq(F:Int)(a len:Nat):Nat:=if 0≤F∧F<32*(Hc a len:Nat) then min len (F.toNat - a % 32) else len
def fY(F:Int)(a len:Nat):Int:=if 0≤F∧F<32*(Hc a len:Nat) then -1 else if F = -1 then -1 else F - 32*(Hc a len:Nat)
theorem Wz(F:Int)(a len:Nat):lq F a len≤len:=by unfold lq;split<;>omega
theorem zV{F:Int}{a len:Nat}(h:iT F a len=false):lq F a len=len:=by
 unfold iT at h;have h:=of_decide_eq_false h;unfold lq;rw[if_neg h]
theorem rU{F:Int}(h : -1≤F)(a len:Nat) : -1≤fY F a len:=by unfold fY;split;omega;split<;>omega
theorem R6{D b:List UInt8}{N h a i k:Nat}(hD:D.length=32*(2*N+1))(hh:h≤1)(hfit:a+b.length≤32*N)(hi0:a / 32≤i)(hi:32*i<a+b.length)(hk:k≤32) :
  sp (sp D (bS N h+a) (b.take (min b.length (32*i - a)))) (bS N h+32*i) ((((sp (bB D N h) a b).drop (32*i)).take 32).take k)=sp D (bS N h+a) (b.take (min b.length (32*i+k - a))):=by
 have hNh:h*N≤1*N:=aBa _ hh;have hfr:bS N h+32*N≤D.length:=by unfold bS;omega
 have hol:=eH (D:=D) hD hh;have h32:32*i+32≤32*N:=o_;have hspl:(sp (bB D N h) a b).length=32*N:=by rw[dZ o_,hol]
 have l1:(b.take (min b.length (32*i - a))).length=min b.length (32*i - a):=by rw[aAg];omega
 have l2:(b.take (min b.length (32*i+k - a))).length=min b.length (32*i+k - a):=by rw[aAg];omega
 have l3:((((sp (bB D N h) a b).drop (32*i)).take 32).take k).length=k:=by simp only[aAg,aBd];omega
 have b1:bS N h+a+(b.take (min b.length (32*i - a))).length≤D.length:=by rw[l1];omega
 have b2:bS N h+a+(b.take (min b.length (32*i+k - a))).length≤D.length:=by rw[l2];omega
 have b3:bS N h+32*i+((((sp (bB D N h) a b).drop (32*i)).take 32).take k).length≤(sp D (bS N h+a) (b.take (min b.length (32*i - a)))).length:=by rw[l3,dZ b1];omega
 apply aCk;intro j;rw[oM b3,oM b2,oM b1,l1,l2,l3];have hX:∀p,p<32*N→(sp (bB D N h) a b)[p]?=if p<a then D[bS N h+p]? else if p<a+b.length then b[p - a]? else D[bS N h+p]?:=by
  intro p hp;rw[oM o_,qY hp]
 have hS:∀t,t<k→((((sp (bB D N h) a b).drop (32*i)).take 32).take k)[t]?=(sp (bB D N h) a b)[32*i+t]?:=by
  intro t ht;rw[iA,if_pos ht,iA,if_pos o_,aCv]
 revert hX hS;generalize (((sp (bB D N h) a b).drop (32*i)).take 32).take k=Z;generalize sp (bB D N h) a b=W;generalize bS N h=f at *;intro hX hS;by_cases j1:j<f+32*i
 ·rw[if_pos j1];by_cases j2:j<f+a
  ·rw[if_pos j2,if_pos j2]
  ·rw[if_neg j2,if_neg j2];by_cases j3:j - (f+a)<b.length
   ·rw[if_pos o_,if_pos o_,iA,iA,if_pos o_,if_pos o_]
   ·rw[if_neg o_,if_neg o_]
 ·rw[if_neg j1];by_cases j4:j<f+32*i+k
  ·rw[if_pos j4,hS _ o_,hX _ o_];have e:32*i+(j - (f+32*i))=j - f:=o_;rw[e];by_cases j2:j<f+a
   ·rw[if_pos j2,if_pos o_];congr 1;omega
   ·rw[if_neg j2,if_neg o_];by_cases j3:j - (f+a)<b.length
    ·rw[if_pos o_,if_pos o_,iA,if_pos o_];congr 1;omega
    ·rw[if_neg o_,if_neg o_];congr 1;omega
  ·rw[if_neg j4];by_cases j2:j<f+a
   ·rw[if_pos j2,if_pos j2]
   ·rw[if_neg j2,if_neg j2,if_neg o_,if_neg o_]
theorem LC{l x:List UInt8}{k:Nat}(h:Frm.kG l=some (x,k)):l.take k=Frm.fr x∧1≤x.length∧x.length≤4096:=by
 unfold Frm.kG at h;split at h
 ·rename_i ho;injection h with h;injection h with h1 h2
  obtain⟨h3,h4,h5,h6,h7⟩:=ho;have hf:=(Frm.Hf h3 h4 h6).1 h7;subst h1 h2;refine⟨hf.symm,?_,?_⟩<;>(rw[aAg,aBd];omega)
 ·cases h
def cat(ls:List (List UInt8)):List UInt8:=(ls.map Frm.fr).flatten
theorem CY(x:List UInt8)(ls:List (List UInt8)):cat (x::ls)=Frm.fr x++cat ls:=rfl
theorem vU(a b:List (List UInt8)):cat (a++b)=cat a++cat b:=by simp[cat]
theorem yP(b:List UInt8):cat [b]=Frm.fr b:=by simp[cat]
def YO(ls:List (List UInt8)):Prop:=∀x∈ls,1≤x.length∧x.length≤4096
theorem zB(l:List UInt8):l.take (Frm.upto l)=cat (Frm.cZ l)∧YO (Frm.cZ l)∧Frm.upto l≤l.length:=by
 have key:∀(k:Nat) (l:List UInt8),l.length≤k→l.take (Frm.upto l)=cat (Frm.cZ l)∧YO (Frm.cZ l)∧Frm.upto l≤l.length:=by
  intro k
  induction k with
  |zero =>
   intro l hl;have h0:l=[]:=aBi o_;subst h0;have:=Frm.gR (l:=[]) rfl;rw[this.1,this.2];exact⟨rfl,λ_ h=>(aAk h).elim,aAf _⟩
  |succ k ih =>
   intro l hl;cases hq:Frm.kG l with
   |none =>
    have:=Frm.gR hq;rw[this.1,this.2];exact⟨rfl,λ_ h=>(aAk h).elim,aAh _⟩
   |some r =>
    obtain⟨x,n⟩:=r;have hb:=Frm.lW hq;obtain⟨h1,h2,h3⟩:=LC hq;have:=Frm.kM hq;rw[this.1,this.2];obtain⟨i1,i2,i3⟩:=ih (l.drop n) (by rw[aBd];omega);rw[aBd] at i3;refine⟨by rw[aDd,h1,i1,CY],λy hy=>?_,by omega⟩;rcases aEj.1 hy with rfl|hy
    ·exact⟨h2,h3⟩
    ·exact i2 y hy
 exact key _ l (aAf _)
theorem I9(z:Nat):Frm.kG (List.replicate z 0)=none:=by
 have:=Frm.Cp (b:=[]) (k:=0) (z:=z) (by simp) (by simp);simpa using this
theorem oW{ls:List (List UInt8)}(h:YO ls)(z:Nat):Frm.cZ (cat ls++List.replicate z 0)=ls∧Frm.upto (cat ls++List.replicate z 0)=(cat ls).length:=by
 induction ls with
 |nil =>
  have:=Frm.gR (I9 z);exact⟨this.1,this.2⟩
 |cons x ls ih =>
  have hx:=h x aBo;obtain⟨i1,i2⟩:=ih λy hy=>h y (aBl _ hy);have hg:=Frm.yY (b:=x) (t:=cat ls++List.replicate z 0) hx.1 hx.2;rw[CY,aAb,(Frm.kM hg).1,(Frm.kM hg).2,aBu (Frm.bO x),i1,i2,aAe,Frm.bO];exact⟨rfl,rfl⟩
end
section
open Go.RowKit Reg Oct
open Mem hiding Rd
def cQ.put(f:cQ):List UInt8:=be f.kind.toNat 1++(be f.a.toNat 1++(be (GF f.n) 8++(be f.ref.rep.toNat 1++be f.ref.seq.toNat 2)))
theorem cQ.bD(f:cQ):f.put.length=13:=by simp[cQ.put,aP]
theorem cQ.bR{f:cQ}(h:f.check=0):(1≤f.kind∧f.kind≤11)∧(0≤f.a∧f.a≤255)∧(0≤f.ref.rep∧f.ref.rep≤255)∧0≤f.ref.seq∧f.ref.seq≤65535:=by
 unfold cQ.check at h;split at h
 ·rename_i h1;split at h
  ·rename_i h2;exact⟨h1,h2⟩
  ·cases h
 ·cases h
theorem RW(f:cQ):(([UInt8.ofNat f.kind.toNat,UInt8.ofNat f.a.toNat]++be (GF f.n) 8)++[UInt8.ofNat f.ref.rep.toNat])++be f.ref.seq.toNat 2=f.put:=by
 simp[cQ.put,nC]
section
variable (E:Env) (f:cQ)
theorem XL(h:f.check=0):aK prog E 153 #[.agg f.cs.toArray] [] λr H'=>∃A' c',r=.returned (.tuple #[.slice A' 13 c',.int .i64 0])∧H'=[own aU A' 13 c' f.put]:=by
 obtain⟨⟨k0,k1⟩,⟨a0,a1⟩,⟨p0,p1⟩,s0,s1⟩:=cQ.bR h;have hu:=EV f.n;have w2:=G9 f.n;have w3:=eZ s0 o_;have g3:f.ref.seq.toNat<18446744073709551616:=o_;have o2:1≤2∧2≤8:=o_;have o8:1≤8∧8≤8:=o_;have hfin:=RW f;refine t_ func153 ntmps153 ?_;repeat first|refine aE ?_|intro
 refine bW (λM=>ES M f) ?_;rw[h];rintro r H' ⟨rfl,rfl⟩;repeat first|refine aE ?_|intro
 rename_i gb g;refine dX (λM h1=>kY M (some ⟨g,0,none⟩) 2 2 10 8 [UInt8.ofNat f.kind.toNat,UInt8.ofNat f.a.toNat] (GF f.n) 8 rfl rfl o8 h1 hu (by decide)) ?_;rintro r H' ⟨A1,c1',rfl,hc1,rfl⟩;repeat first|refine aE ?_|intro
 refine rB (l_ [0,1,2,3,4,7,8,9,10] (g_ 5 (g_ 6 (g_ 11 (l_ [12,13] .nil))))) ([aJ gb 77 f.cs]) ?_;repeat first|refine aE ?_|intro
 rename_i A2 c2 _ _;refine cg rfl sD bA sK aC (λM hE=>kY M A2 (10+1) c2 13 2 _ f.ref.seq.toNat 2 rfl rfl o2 dB g3 sD) ?_;rintro r H' ⟨A3,c3,rfl,hc3,rfl⟩;repeat first|refine aE ?_|intro
 rw[hfin];exact Cz ⟨_,_,rfl,rfl⟩
end
def bH.mJ(e:bH):Int:=(if e.cX then 1 else 0)+(if e.gone then 2 else 0)
theorem U3(E:Env)(e:bH):aK prog E 155 #[.agg e.cs.toArray] [] λr H'=>r=.returned (.int .i64 e.mJ)∧H'=[]:=by
 refine t_ func155 ntmps155 ?_;unfold bH.mJ;have b1:Go.bits .or .i64 0 1=1:=sD;have b2:Go.bits .or .i64 0 2=2:=sD;have b3:Go.bits .or .i64 1 2=3:=sD;cases ha:e.cX;all_goals
  cases hg:e.gone;all_goals
   repeat first|refine aE ?_|intro
   exact B7
def bH.put(e:bH):List UInt8:=be e.ord.toNat 1++(e.bC.put++(be e.aW.toNat 1++(be e.last.toNat 4++(be e.back.toNat 1++(be e.cJ.toNat 4++[UInt8.ofNat e.mJ.toNat,69,69])))))
theorem bH.bD(e:bH):e.put.length=27:=by simp[bH.put,aP,cQ.bD]
theorem Re(e:bH):(((((([UInt8.ofNat e.ord.toNat]++e.bC.put)++[UInt8.ofNat e.aW.toNat])++be e.last.toNat 4)++[UInt8.ofNat e.back.toNat])++be e.cJ.toNat 4)++[UInt8.ofNat e.mJ.toNat,UInt8.ofNat (Int.toNat 69),UInt8.ofNat (Int.toNat 69)])=e.put:=by
 rw[show UInt8.ofNat (Int.toNat 69)=69 from rfl];simp[bH.put,nC]
section
variable (E:Env) (e:bH)
theorem Jx(hm:e.may=false):aK prog E 91 #[.agg e.cs.toArray] [] λr H'=>r=.returned (.slice none 0 0)∧H'=[]:=by
 refine t_ func91 ntmps91 ?_;repeat first|refine aE ?_|intro
 refine bW (λM=>Jk M e) ?_;rw[hm];rintro r H' ⟨rfl,rfl⟩;repeat first|refine aE ?_|intro
 exact B7
theorem J2(hm:e.may=true):aK prog E 91 #[.agg e.cs.toArray] [] λr H'=>∃A' c',r=.returned (.slice A' 27 c')∧H'=[own aU A' 27 c' e.put]:=by
 obtain⟨⟨o0,o1⟩,hw,⟨s0,s1⟩,⟨⟨b0,b1⟩,_⟩,⟨l0,l1⟩,⟨k0,k1⟩,_⟩:=(bH.bY e).1 hm;have w1:=eZ l0 o_;have w2:=eZ k0 o_;have g1:e.last.toNat<18446744073709551616:=o_;have g2:e.cJ.toNat<18446744073709551616:=o_;have o4:1≤4∧4≤8:=o_;have hfin:=Re e;have f0:0≤e.mJ:=by unfold bH.mJ;split<;>split<;>omega
 have f1:e.mJ<256:=by unfold bH.mJ;split<;>split<;>omega
 refine t_ func91 ntmps91 ?_;repeat first|refine aE ?_|intro
 refine bW (λM=>Jk M e) ?_;rw[hm];rintro r H' ⟨rfl,rfl⟩;repeat first|refine aE ?_|intro
 refine bW (λM=>XL M e.bC hw) ?_;rintro r H' ⟨A1,c1,rfl,rfl⟩;repeat first|refine aE ?_|intro
 rename_i gb _ A2 c2 _ _;refine rB (l_ [0,1,2,3,6,7,8] (g_ 4 (g_ 5 (g_ 9 (n_ 10 .nil))))) ([aJ gb 92 e.cs]) ?_;repeat first|refine aE ?_|intro
 rename_i A3 c3 _ _;refine cg rfl sD bA sK aC (λM hE=>kY M A3 (1+13+1) c3 19 4 _ e.last.toNat 4 rfl rfl o4 dB g1 sD) ?_;rintro r H' ⟨A4,c4,rfl,hc4,rfl⟩;repeat first|refine aE ?_|intro
 refine rB (l_ [0,1,2,3,6,7,8] (g_ 4 (g_ 5 (g_ 9 (n_ 10 .nil))))) ([aJ gb 92 e.cs]) ?_;repeat first|refine aE ?_|intro
 rename_i A5 c5 _ _;refine cg rfl sD bA sK aC (λM hE=>kY M A5 (19+1) c5 24 4 _ e.cJ.toNat 4 rfl rfl o4 dB g2 sD) ?_;rintro r H' ⟨A6,c6,rfl,hc6,rfl⟩;repeat first|refine aE ?_|intro
 refine bK (λM=>U3 M e) ?_;repeat first|refine aE ?_|intro
 rw[hfin,show 24+3=27 from rfl];exact jQ ⟨_,_,rfl,rfl⟩
end
abbrev fK:List Nat:=[1,1,8,1,2]
def sT(l:List UInt8):cQ:=⟨bX l 0 1,bX l 1 1,rV (bX l 2 8),⟨bX l 10 1,bX l 11 2⟩⟩
def WM(l:List UInt8):cQ:=⟨va fK l 0,va fK l 1,rV (va fK l 2),⟨va fK l 3,va fK l 4⟩⟩
theorem Lw{l:List UInt8}(h:13≤l.length):WM l=sT l:=by
 unfold WM sT;rw[dN (k:=0) (w:=1) rfl rfl sD o_,dN (k:=1) (w:=1) rfl rfl sD o_,dN (k:=2) (w:=8) rfl rfl sD o_,dN (k:=10) (w:=1) rfl rfl sD o_,dN (k:=11) (w:=2) rfl rfl sD o_]
def eY(l:List UInt8):Option cQ:=if (sT l).check=0 then some (sT l) else none
theorem iK(E:Env)(gr g:Nat)(s s':Bool×List UInt8)(w:Nat)(v:Nat)(hs:jV s w=s')(hv:vl s w=v)(A:Option Addr)(n c:Nat)(W:Int)(hW:W=w)(hw:1≤w∧w≤8)(hr:Rd E aU A n c s.2) :
  aK prog E 297 #[.int .i64 W,.pointer (some ⟨gr,0,none⟩)] [aJ gr 276 [.pointer (some ⟨g,0,none⟩)],pC g true s.1 A n c] (Sd gr g A n c s.2 s' (.int .u64 v)):=by
 subst hs hv;have hwid:wid W=(w:Int):=by unfold wid;rw[if_neg o_];exact hW
 have hlt:=jR s w;have hlt2:vl s w<18446744073709551616:=aDe hlt (aBw (aDx o_ hw.2) sD);have hc:=qZ hlt2;refine t_ func297 ntmps297 ?_;repeat first|refine aE ?_|intro
 refine dX (λM=>iG M g s.1 A n c s.2 W) ?_;obtain⟨o,ho⟩:∃o,nx s.1 s.2 (w:Int)=(o,jV s w):=⟨_,rfl⟩
 have htk:=Gl s w;rw[ho] at htk;rw[hwid,ho];rintro e H' ⟨A',n',c',rfl,hal,rfl⟩;dsimp only at htk hal⊢;rw[htk];repeat first|refine aE ?_|intro
 exact jQ ⟨_,_,_,rfl,hal,rfl⟩
theorem HO(E:Env)(A:Option Addr)(n c:Nat)(l:List UInt8)(r:Option cQ)(hx:eY l=r)(hr:Rd E aU A n c l)(hl:n=13) :
  aK prog E 250 #[.slice A n c] [] λe H'=>e=.returned (.tuple #[.agg (r.getD zW).cs.toArray,.int .i64 (if r.isSome then 0 else 16)])∧H'=[]:=by
 have hn:=hr.len;have hcap:=hr.cap;have o1:1≤1∧1≤8:=o_;have o2:1≤2∧2≤8:=o_;have o8:1≤8∧8≤8:=o_;have v0:=Ds fK l 0;have v1:=Ds fK l 1;have v2:=Ds fK l 2;have v3:=Ds fK l 3;have v4:=Ds fK l 4;have y0:va fK l 0<256:=v0;have y1:va fK l 1<256:=v1;have y3:va fK l 3<256:=v3;have y4:va fK l 4<65536:=v4;have hsg:=qZ (k:=va fK l 2) v2;have hrun:=Lw (l:=l) o_;have hst:st fK l 5=(false,l.drop 13):=yX (i:=5) sD (by simp;omega);have hd0:l.drop 13=[]:=aCn o_;rw[hd0] at hst;refine t_ func250 ntmps250 ?_;repeat first|refine aE ?_|intro
 refine dX (λM h1=>lD M A n c l h1 (by omega)) ?_;rintro e H' ⟨g,A0,c0,rfl,h5,h6,rfl⟩;refine gk bG ?_;unfold Bs;repeat first|refine aE ?_|intro
 rename_i gres gr;refine L.step sD (S.cW rfl eS rfl rfl func297 q_ rfl aC (λM hE=>iK M gr g (false,l) (st fK l 1) 1 (va fK l 0) rfl rfl A0 n c0 1 rfl o1 dB) ?_);rintro e H' ⟨A1,n1,c1,rfl,hal1,rfl⟩;repeat first|refine aE ?_|intro
 refine L.step sD (S.cW rfl eS rfl rfl func297 q_ rfl aC (λM hE=>iK M gr g (st fK l 1) (st fK l 2) 1 (va fK l 1) rfl rfl A1 n1 c1 1 rfl o1 (hal1 _ dB)) ?_);rintro e H' ⟨A2,n2,c2,rfl,hal2,rfl⟩;repeat first|refine aE ?_|intro
 refine L.step sD (S.cW rfl eS rfl rfl func297 q_ rfl aC (λM hE=>iK M gr g (st fK l 2) (st fK l 3) 8 (va fK l 2) rfl rfl A2 n2 c2 8 rfl o8 (hal2 _ (hal1 _ dB))) ?_);rintro e H' ⟨A3,n3,c3,rfl,hal3,rfl⟩;repeat first|refine aE ?_|intro
 refine L.step sD (S.cW rfl eS rfl rfl func297 q_ rfl aC (λM hE=>iK M gr g (st fK l 3) (st fK l 4) 1 (va fK l 3) rfl rfl A3 n3 c3 1 rfl o1 (hal3 _ (hal2 _ (hal1 _ dB)))) ?_);rintro e H' ⟨A4,n4,c4,rfl,hal4,rfl⟩;repeat first|refine aE ?_|intro
 refine L.step sD (S.cW rfl eS rfl rfl func297 q_ rfl aC (λM hE=>iK M gr g (st fK l 4) (st fK l 5) 2 (va fK l 4) rfl rfl A4 n4 c4 2 rfl o2 (hal4 _ (hal3 _ (hal2 _ (hal1 _ dB))))) ?_);rintro e H' ⟨A5,n5,c5,rfl,hal5,rfl⟩;repeat first|refine aE ?_|intro
 rw[hst] at hal5⊢;dsimp only at hal5⊢;refine cl sD sK aC (λM hE=>xV M g false A5 n5 c5 [] (hal5 _ (hal4 _ (hal3 _ (hal2 _ (hal1 _ dB)))))) ?_;rintro e H' ⟨rfl,rfl⟩;repeat first|refine aE ?_|intro
 refine bW (λM=>ES M (WM l)) ?_;rw[hrun];rintro e H' ⟨rfl,rfl⟩;refine gk bG ?_;unfold eY at hx;by_cases hc:(sT l).check=0
 ·rw[if_pos hc] at hx;subst hx;rw[hc,←hrun];repeat first|refine aE ?_|intro
  exact Qv
 ·rw[if_neg hc] at hx;subst hx;repeat first|refine aE ?_|intro
  exact Qv
end
section
open Go.RowKit Oct Dly
theorem FX(l:List UInt8):(sT l).ok:=by
 have a0:=eM l 0 1;have a1:=eM l 1 1;have a2:=Ii (k:=bX l 2 8) (eM l 2 8);have a3:=eM l 10 1;have a4:=eM l 11 2;refine⟨?_,?_,a2,?_,?_⟩;all_goals (simp only[sT];unfold dQ;omega)
theorem DX{l:List UInt8}(h:l.length=13):(sT l).put=l:=by
 have u8:GF (rV (bX l 2 8))=bX l 2 8:=KB (eM l 2 8);have e1:l=(l.drop 0).take 1++((l.drop 1).take 1++((l.drop 2).take 8++((l.drop 10).take 1++l.drop 11))):=by
  have step:∀i w,l.drop i=(l.drop i).take w++l.drop (i+w):=λi w=>by rw[←aBt,aAx]
  have h0:=step 0 1;have h1:=step 1 1;have h2:=step 2 8;have h3:=step 10 1;rw[←h3,←h2,←h1,←h0,aCh]
 have e2:l.drop 11=(l.drop 11).take 2:=(aAj (by simp;omega)).symm;rw[e2] at e1;unfold cQ.put sT;dsimp only;rw[u8];simp only[aAu];rw[dY o_,dY o_,dY o_,dY o_,dY o_];exact e1.symm
theorem La{f:cQ}(hc:f.check=0)(hn:dQ f.n):sT f.put=f:=by
 obtain⟨⟨k0,k1⟩,⟨a0,a1⟩,⟨p0,p1⟩,s0,s1⟩:=cQ.bR hc;have hu:=EV f.n;have f0:bX f.put 0 1=f.kind.toNat:=dL (a:=[]) rfl o_;have f1:bX f.put 1 1=f.a.toNat:=by
  unfold cQ.put;exact dL (by simp[aP]) o_
 have f2:bX f.put 2 8=GF f.n:=by
  unfold cQ.put;rw[←aAb];exact dL (by simp[aP]) o_
 have f3:bX f.put 10 1=f.ref.rep.toNat:=by
  unfold cQ.put;rw[←aAb,←aAb];exact dL (by simp[aP]) o_
 have f4:bX f.put 11 2=f.ref.seq.toNat:=by
  unfold cQ.put;rw[←aAb,←aAb,←aAb];rw[←aAc (be f.ref.seq.toNat 2)];exact dL (by simp[aP]) o_
 unfold sT;rw[f0,f1,f2,f3,f4,Kj hn];rw[aBn o_,aBn a0,aBn p0,aBn s0]
theorem Cg{f:cQ}(hc:f.check=0)(hn:dQ f.n):eY f.put=some f:=by
 unfold eY;rw[La hc hn,if_pos hc]
theorem uE{l:List UInt8}{f:cQ}(h:eY l=some f):f=sT l∧f.check=0:=by
 unfold eY at h;split at h
 ·injection h with h;subst h;exact⟨rfl,by assumption⟩
 ·cases h
end
end Go.Proofs.YtmilalkjbojciaaGreat.Sep
