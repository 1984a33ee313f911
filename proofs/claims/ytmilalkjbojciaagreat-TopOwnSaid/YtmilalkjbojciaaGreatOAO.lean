/- Part AO: what it needs. No condition. -/
import Derived.Test.YtmilalkjbojciaaGreatOAA
import Derived.Test.YtmilalkjbojciaaGreatOAI
import Derived.Test.YtmilalkjbojciaaGreatOAD
import Derived.Test.YtmilalkjbojciaaGreatOAE
import Derived.WideKeyRuns
set_option maxRecDepth 100000
set_option maxHeartbeats 8000000
open Go.Proofs.Tryz
namespace Go.Proofs.YtmilalkjbojciaaGreat.Oct
def be(n:Nat)(w:Nat):List UInt8:=(List.range w).map λj=>UInt8.ofNat (n / 2 ^ (8*(w - 1 - j)))
def put(b:List UInt8)(n:Nat)(w:Int):List UInt8:=if w<1∨8<w then b else b++be n w.toNat
theorem aP(n w:Nat):(be n w).length=w:=by simp[be]
def get(l:List UInt8):Nat:=l.foldl (λn b=>n*256+b.toNat) 0
theorem zI(l:List UInt8)(b:UInt8):get (l++[b])=get l*256+b.toNat:=by simp[get]
theorem BY:∀l:List UInt8,get l<256 ^ l.length:=by
 have key:∀(r:List UInt8),get r.reverse<256 ^ r.length:=by
  intro r;induction r with
  |nil=>simp[get]
  |cons x r ih =>
   rw[List.reverse_cons,zI,aAs,Nat.pow_succ];have:=aEr x;omega
 intro l;have:=key l.reverse;simpa using this
theorem KF(n w:Nat):be n (w+1)=be (n / 256) w++[UInt8.ofNat n]:=by
 unfold be;rw[List.range_succ,aBk];congr 1
 ·apply List.map_congr_left;intro j hj;have hj:=List.mem_range.1 hj;congr 1;rw[show(256:Nat)=2 ^ 8 by decide,Nat.div_div_eq_div_mul,←Nat.pow_add];congr 2;omega
 ·simp
theorem FD(w:Nat):∀n,get (be n w)=n % 256 ^ w:=by
 induction w with
 |zero=>intro n;simp[be,get,Nat.mod_one]
 |succ w ih =>
  intro n;rw[KF,zI,ih,Nat.pow_succ,aFy (256 ^ w) 256,Nat.mod_mul];simp;omega
theorem Ec(l:List UInt8):be (get l) l.length=l:=by
 have key:∀(r:List UInt8),be (get r.reverse) r.length=r.reverse:=by
  intro r;induction r with
  |nil=>rfl
  |cons x r ih =>
   rw[List.reverse_cons,aAs,KF,zI];have hx:=aEr x;rw[show(get r.reverse*256+x.toNat) / 256=get r.reverse by omega,ih];congr 2;apply aEg.1;simp
 have:=key l.reverse;simpa using this
theorem Qm(n w k:Nat)(h:k<w):(be n w).take (k+1)=(be n w).take k++[UInt8.ofNat (n / 2 ^ (8*(w - 1 - k)))]:=by
 rw[aAn (by rw[aP];exact h)];simp[be]
theorem OV(m:Nat):UInt8.ofNat ((m:Int) % 256).toNat=UInt8.ofNat m:=by
 apply aEg.1;simp;omega
theorem Eb(n k:Nat):(n:Int) / 2 ^ k=((n / 2 ^ k:Nat):Int):=by simp
end Go.Proofs.YtmilalkjbojciaaGreat.Oct
namespace Go.Proofs.YtmilalkjbojciaaGreat.Sep
open Go.RowKit Reg Oct
open Mem hiding Rd
theorem I5:Rec prog 341 [.bool false,.bool false,.slice none 0 0] [(0,1),(1,1),(2,1)]:=⟨by kernel_rfl,by kernel_rfl⟩
instance S0:cL 341 [.bool false,.bool false,.slice none 0 0] [(0,1),(1,1),(2,1)]:=⟨I5⟩
def Bs(g:Nat):Value:=.pointer (some ⟨g,0,none⟩)
def nx(bad:Bool)(l:List UInt8)(n:Int):Option (List UInt8)×Bool×List UInt8 :=
 if bad then(none,true,l) else if n<0∨(l.length:Int)<n then(none,true,l) else(some (l.take n.toNat),false,l.drop n.toNat)
def wid(k:Int):Int:=if k<1∨8<k then -1 else k
abbrev pC(g:Nat)(made bad:Bool)(A:Option Addr)(n c:Nat):aL:=aJ g 341 [.bool made,.bool bad,.slice A n c]
def nS(A:Option Addr)(n c:Nat)(l:List UInt8)(A':Option Addr)(n' c':Nat)(l':List UInt8):Prop:=∀E,Rd E aU A n c l→Rd E aU A' n' c' l'
theorem nS.refl{A:Option Addr}{n c:Nat}{l:List UInt8}:nS A n c l A n c l:=λ_ h=>h
theorem nS.trans{A B C:Option Addr}{n c m d p q:Nat}{l l' l'':List UInt8}(h:nS A n c l B m d l')(k:nS B m d l' C p q l''):nS A n c l C p q l'':=λE x=>k E (h E x)
theorem lD(E:Env)(A:Option Addr)(n c:Nat)(l:List UInt8)(hr:Rd E aU A n c l)(hl:n≤140737488355300) :
  aK prog E 185 #[.slice A n c] [] λe H'=>∃g A' c',e=.returned (Bs g)∧n≤c'∧c'≤maxLen∧H'=[pC g true false A' n c',own aU A' n c' l]:=by
 refine t_ func185 ntmps185 ?_;repeat first|refine aE ?_|intro
 exact aR rfl aF aA (⟨_,_,_,rfl,by assumption,by assumption,rfl⟩)
theorem mH(E:Env)(g:Nat)(made bad:Bool)(A:Option Addr)(n c:Nat) :
  aK prog E 295 #[Bs g] [pC g made bad A n c] λe H'=>e=.returned (.bool (made && !bad))∧H'=[pC g made bad A n c]:=by
 unfold Bs;refine t_ func295 ntmps295 ?_;cases made;all_goals
  repeat first|refine aE ?_|intro
  exact e1_
def OJ(g:Nat)(A:Option Addr)(n c:Nat)(l:List UInt8)(r:Option (List UInt8)×Bool×List UInt8)(e:Ending)(H':List aL):Prop :=
 ∃A' n' c',H'=[pC g true r.2.1 A' n' c']∧nS A n c l A' n' c' r.2.2 ∧
  match r.1 with
  |none=>e=.returned (.tuple #[.slice none 0 0,.bool false])
  |some x=>∃B m d,e=.returned (.tuple #[.slice B m d,.bool true])∧nS A n c l B m d x
theorem GW(E:Env)(g:Nat)(bad:Bool)(A:Option Addr)(n c:Nat)(l:List UInt8)(k:Int)(hr:Rd E aU A n c l) :
  aK prog E 293 #[Bs g,.int .i64 k] [pC g true bad A n c] (OJ g A n c l (nx bad l k)):=by
 have hlen:=hr.len;have hcap:=hr.cap;unfold Bs;refine t_ func293 ntmps293 ?_;repeat first|refine aE ?_|intro
 refine bK (λ(E':Env)=>mH E' g true bad A n c) ?_;cases bad
 ·by_cases hk:k<0∨(n:Int)<k
  ·have hx:nx false l k=(none,true,l):=by simp[nx,←hlen,hk]
   rw[hx];rcases hk with hk|hk
   ·repeat first|refine aE ?_|intro
    exact Cz ⟨_,_,_,rfl,.refl,rfl⟩
   ·by_cases hk0:k<0;all_goals
     repeat first|refine aE ?_|intro
     exact Cz ⟨_,_,_,rfl,.refl,rfl⟩
  ·have hx:nx false l k=(some (l.take k.toNat),false,l.drop k.toNat):=by simp[nx,←hlen,hk]
   rw[hx];obtain⟨k,rfl⟩:=aCf (show 0≤k by omega);rw[aAu];repeat first|refine aE ?_|intro
   exact vT rfl aF aF aA (⟨_,_,_,rfl,λE h=>h.from_ o_,_,_,_,rfl,λE h=>h.upto o_ o_ o_⟩)
 ·have hx:nx true l k=(none,true,l):=rfl;rw[hx];repeat first|refine aE ?_|intro
  exact Cz ⟨_,_,_,rfl,.refl,rfl⟩
def tk:Option (List UInt8)→Value
 |none=>.tuple #[.int .u64 0,.bool false]
 |some x=>.tuple #[.int .u64 (get x:Nat),.bool true]
def PL(g:Nat)(A:Option Addr)(n c:Nat)(l:List UInt8)(r:Option (List UInt8)×Bool×List UInt8)(e:Ending)(H':List aL):Prop :=
 ∃A' n' c',H'=[pC g true r.2.1 A' n' c']∧nS A n c l A' n' c' r.2.2∧e=.returned (tk r.1)
theorem Ul(s x:Nat)(hs:s<256 ^ 7)(hx:x<256):Go.bits .or .u64 ((s:Int)*256) (x:Int)=((s*256+x:Nat):Int):=by
 have e:(s:Int)*256=((s*256:Nat):Int):=by omega
 rw[e,u64_or_nat _ _ o_ o_,nat_join 8 _ _ o_ o_]
theorem Fw{bad:Bool}{l x:List UInt8}{k:Int}(h:(nx bad l k).1=some x):0≤k∧(x.length:Int)=k:=by
 unfold nx at h;split at h
 ·cases h
 ·split at h
  ·cases h
  ·injection h with h
   subst h;rw[aAg];omega
theorem Un(k:Int):wid k≤8:=by unfold wid;split<;>omega
theorem GQ{x:List UInt8}{k:Nat}(hk:k<x.length)(h8:x.length≤8):get (x.take k)<256 ^ 7:=by
 have h1:=BY (x.take k);refine aDe h1 (aDx o_ ?_);rw[aAg];omega
theorem C5{x:List UInt8}{k:Nat}(hk:k<x.length):get (x.take (k+1))=get (x.take k)*256+x[k].toNat:=by
 rw[aAn hk,zI]
theorem iG(E:Env)(g:Nat)(bad:Bool)(A:Option Addr)(n c:Nat)(l:List UInt8)(k:Int)(hr:Rd E aU A n c l) :
  aK prog E 242 #[Bs g,.int .i64 k] [pC g true bad A n c] (PL g A n c l (nx bad l (wid k))):=by
 have hw:wid k=if k<1∨8<k then -1 else k:=rfl
 have hw8:=Un k;refine t_ func242 ntmps242 ?_;iterate 5 (first|refine Cx ?_|refine He ?_|intro _|refine Dr.two ?_ ?_)
 refine C.cut (X:=Unit) (λ_=>[(0,Bs g),(1,.int .i64 (wid k))]) (λ_=>[pC g true bad A n c]) (λ_=>True) ?_ ?_
 ·by_cases h1:k<1
  ·rw[if_pos (.inl h1)] at hw;rw[hw];repeat first|refine aE ?_|intro
   exact⟨(),aD,aB.refl,trivial⟩
  ·by_cases h8:8<k
   ·rw[if_pos (.inr h8)] at hw;rw[hw];repeat first|refine aE ?_|intro
    exact⟨(),aD,aB.refl,trivial⟩
   ·rw[if_neg o_] at hw;rw[hw];repeat first|refine aE ?_|intro
    exact⟨(),aD,aB.refl,trivial⟩
 ·rintro - G -;clear hw;repeat first|refine aE ?_|intro
  refine dX (λ(E':Env)=>GW E' g bad A n c l (wid k)) ?_;rintro e H' ⟨A',n',c',rfl,hal,he⟩;obtain⟨B,m,d,x,ok,rfl,hB,hx,htk⟩:∃B m d x ok,e=.returned (.tuple #[.slice B m d,.bool ok])∧Rd E aU B m d x∧x.length≤8∧tk (nx bad l (wid k)).1=.tuple #[.int .u64 (get x:Nat),.bool ok]:=by
   cases hq:(nx bad l (wid k)).1 with
   |none=>rw[hq] at he;exact⟨none,0,0,[],false,he,Rd.nil _ _,by simp,rfl⟩
   |some x =>
    rw[hq] at he;obtain⟨B,m,d,he,hB⟩:=he;have:=Fw hq;exact⟨B,m,d,x,true,he,hB _ hr,by omega,rfl⟩
  have hm:=hB.len;repeat first|refine aE ?_|intro
  refine C.loop (X:=Nat) (λi=>[(7,.bool ok),(8,.int .u64 (get (x.take i):Nat)),(23,.slice B m d),(24,.int .i64 m),(25,.int .i64 i)]) (λ_=>[pC g true (nx bad l (wid k)).2.1 A' n' c']) (λi=>i≤m) (λi=>m - i) 0 aD aB.refl (aAh _) ?_;rintro i G hi;by_cases hlt:i<m
  ·have hxi:x[i]?=some x[i]:=aAa o_;have hb:=aEr x[i];have hg:=GQ (k:=i) o_ hx;have e3:Go.bits .or .u64 ((Oct.get (x.take i):Nat)*256) (x[i].toNat:Int)=((Oct.get (x.take (i+1)):Nat):Int):=by rw[Ul _ _ hg o_,C5 o_]
   repeat first|refine aE ?_|intro
   exact⟨i+1,aD,aB.refl,by omega,by omega⟩
  ·repeat first|refine aE ?_|intro
   obtain rfl:i=m:=by omega
   have ex:x.take i=x:=aAj o_;rw[ex];exact vT rfl aF aF aA (⟨_,_,_,rfl,hal,by rw[htk]⟩)
def M4(g:Nat)(A:Option Addr)(n c:Nat)(l:List UInt8)(r:Option (List UInt8)×Bool×List UInt8)(e:Ending)(H':List aL):Prop :=
 ∃A' n' c' B d,H'=[own aU B (r.1.getD []).length d (r.1.getD []),pC g true r.2.1 A' n' c']∧nS A n c l A' n' c' r.2.2∧(r.1.getD []).length≤d∧d≤maxLen∧e=.returned (.tuple #[.slice B (r.1.getD []).length d,.bool r.1.isSome])
theorem kR(E:Env)(g:Nat)(bad:Bool)(A:Option Addr)(n c:Nat)(l:List UInt8)(k:Int)(hr:Rd E aU A n c l)(hl:l.length≤140737488355328) :
  aK prog E 244 #[Bs g,.int .i64 k] [pC g true bad A n c] (M4 g A n c l (nx bad l k)):=by
 refine t_ func244 ntmps244 ?_;repeat first|refine aE ?_|intro
 refine dX (λ(E':Env)=>GW E' g bad A n c l k) ?_;rintro e H' ⟨A',n',c',rfl,hal,he⟩;obtain⟨B,m,d,x,ok,rfl,hB,hx,hxl,hok⟩:∃B m d x ok,e=.returned (.tuple #[.slice B m d,.bool ok])∧Rd E aU B m d x∧(nx bad l k).1.getD []=x∧x.length≤l.length∧(nx bad l k).1.isSome=ok:=by
  cases hq:(nx bad l k).1 with
  |none=>rw[hq] at he;exact⟨none,0,0,[],false,he,Rd.nil _ _,rfl,by simp,rfl⟩
  |some x =>
   rw[hq] at he;obtain⟨B,m,d,he,hB⟩:=he;refine⟨B,m,d,x,true,he,hB _ hr,rfl,?_,rfl⟩;unfold nx at hq;split at hq
   ·cases hq
   ·split at hq
    ·cases hq
    ·injection hq with hq;rw[←hq];simp;omega
 have hm:=hB.len;have hn:=hr.len;subst hm hok hx;repeat first|refine aE ?_|intro
 exact vT rfl aF aF aA (⟨_,_,_,_,_,rfl,hal,by assumption,by assumption,rfl⟩)
theorem VE(n i:Nat)(h:i<8):((n:Int)) / 2 ^ min ((8*(i:Int)).toNat) IntKind.u64.bits=((n / 2 ^ (8*i):Nat):Int):=by
 have e:min ((8*(i:Int)).toNat) IntKind.u64.bits=8*i:=by
  have h1:(8*(i:Int)).toNat=8*i:=by omega
  have h2:IntKind.u64.bits=64:=rfl;rw[h1,h2];omega
 rw[e,Eb]
def uQ(r:List UInt8)(e:Ending)(H':List aL):Prop:=∃A' c',e=.returned (.slice A' r.length c')∧r.length≤c'∧c'≤maxLen∧H'=[own aU A' r.length c' r]
theorem FL(E:Env)(A:Option Addr)(nl cap:Nat)(l:List UInt8)(n:Nat)(w:Int)(hr:Rd E aU A nl cap l)(_hn:n<18446744073709551616)(hl:nl≤140737488355300) :
  aK prog E 154 #[.slice A nl cap,.int .u64 n,.int .i64 w] [] (uQ (Oct.put l n w)):=by
 have hnl:=hr.len;refine t_ func154 ntmps154 ?_;by_cases hw:w<1∨8<w
 ·have hp:Oct.put l n w=l:=by simp[Oct.put,hw]
  rw[hp];subst hnl;by_cases h1:w<1;all_goals
   repeat first|refine aE ?_|intro
   exact aR rfl aF aA (⟨_,_,rfl,by assumption,by assumption,rfl⟩)
 ·have hp:Oct.put l n w=l++be n w.toNat:=by simp[Oct.put,hw]
  rw[hp];obtain⟨w,rfl⟩:=aCf (show 0≤w by omega);rw[aAu];repeat first|refine aE ?_|intro
  refine C.loop (X:=Nat×Option Addr×Nat) (λx=>[(1,.int .u64 n),(7,.slice x.2.1 (nl+x.1) x.2.2),(8,.int .i64 ((w:Int) - 1 - x.1))]) (λx=>[own aU x.2.1 (nl+x.1) x.2.2 (l++(be n w).take x.1)]) (λx=>x.1≤w∧nl+x.1≤x.2.2∧x.2.2≤maxLen) (λx=>w - x.1) (0,_,_) aD (by simp only[aCg,aAc];exact aB.refl) ⟨aAh _,by assumption,by assumption⟩ ?_;rintro⟨k,A',c'⟩ G ⟨hk,hc1,hc2⟩;dsimp only at hk hc1 hc2⊢;by_cases hlt:k<w
  ·obtain⟨i,hi⟩:∃i:Nat,(w:Int) - 1 - k=i:=⟨w - 1 - k,by omega⟩
   have e1:=VE n i o_;have e2:l++(be n w).take k++[UInt8.ofNat (((n / 2 ^ (8*i):Nat):Int) % 256).toNat]=l++(be n w).take (k+1):=by
    rw[Qm n w k hlt,OV,aAb,show w - 1 - k=i by omega]
   rw[hi];repeat first|refine aE ?_|intro
   refine⟨(k+1,_,_),aD,?_,by dsimp only;omega,by dsimp only;omega⟩;dsimp only;rw[e2];exact aB.refl
  ·repeat first|refine aE ?_|intro
   obtain rfl:k=w:=by omega
   have e:(be n k).take k=be n k:=aAj (by rw[aP];omega);have el:nl+k=(l++be n k).length:=by rw[aAe,aP,hnl]
   rw[e];rw[el] at hc1⊢;exact jQ ⟨_,_,rfl,hc1,hc2,rfl⟩
theorem UC:((prog.info? 70).bind (·.zero)).map (·.cells.toList)=some [.slice none 0 0]:=by kernel_rfl
instance XJ:Bg 70 [.slice none 0 0]:=⟨UC⟩
theorem Xr:((prog.info? 276).bind (·.zero)).map (·.cells.toList)=some [.pointer none]:=by kernel_rfl
instance Yq:Bg 276 [.pointer none]:=⟨Xr⟩
def PW(n':Nat)(l:List UInt8)(e:Ending)(H':List aL):Prop:=∃A' c',e=.returned (.slice A' n' c')∧(n'≤c'∧c'≤maxLen)∧H'=[own aU A' n' c' l]
theorem uQ.w{nl w n' k:Nat}{W:Int}{l:List UInt8}{e:Ending}{H':List aL}(hW:W=w)(hn:nl+w=n')(hw:1≤w∧w≤8)(hnl:nl=l.length)(h:uQ (Oct.put l k W) e H'):PW n' (l++be k w) e H':=by
 have hp:Oct.put l k W=l++be k w:=by
  unfold Oct.put;rw[if_neg o_,hW,aAu]
 have hl:(l++be k w).length=n':=by rw[aAe,aP];omega
 rw[hp] at h;unfold uQ at h;rw[hl] at h;obtain⟨A',c',h1,h2,h3,h4⟩:=h;exact⟨A',c',h1,⟨h2,h3⟩,h4⟩
theorem kY(E:Env)(A:Option Addr)(nl cap n' w:Nat)(l:List UInt8)(k:Nat)(W:Int)(hW:W=w)(hn:nl+w=n')(hw:1≤w∧w≤8)(hr:Rd E aU A nl cap l)(hk:k<18446744073709551616)(hl:nl≤140737488355300) :
  aK prog E 154 #[.slice A nl cap,.int .u64 k,.int .i64 W] [] (PW n' (l++be k w)) :=
 (FL E A nl cap l k W hr hk hl).mono λ_ _ h=>h.w hW hn hw hr.len
end Go.Proofs.YtmilalkjbojciaaGreat.Sep
namespace Go.Proofs.YtmilalkjbojciaaGreat.Sep
open Oct
def bX(l:List UInt8)(i w:Nat):Nat:=get ((l.drop i).take w)
theorem eM(l:List UInt8)(i w:Nat):bX l i w<256 ^ w:=by
 have h:=BY ((l.drop i).take w);have h2:((l.drop i).take w).length≤w:=by simp;omega
 exact aDe h (aDx o_ h2)
theorem uY{l:List UInt8}{i:Nat}(h:i<l.length):bX l i 1=l[i].toNat:=by
 unfold bX;rw[aAm h,aEl,aCg];simp[Oct.get]
theorem dY{l:List UInt8}{i w:Nat}(h:i+w≤l.length):be (bX l i w) w=(l.drop i).take w:=by
 have:=Ec ((l.drop i).take w);rw[show((l.drop i).take w).length=w by simp;omega] at this;exact this
theorem dL{a b:List UInt8}{i w n:Nat}(hi:a.length=i)(hn:n<256 ^ w):bX (a++(be n w++b)) i w=n:=by
 unfold bX;rw[aBu hi,aBj (aP _ _),FD,aEc hn]
def rV(k:Nat):Int:=if k<9223372036854775808 then k else(k:Int) - 18446744073709551616
def GF(n:Int):Nat:=(n % 18446744073709551616).toNat
theorem EV(n:Int):GF n<18446744073709551616:=by unfold GF;omega
theorem KB{k:Nat}(h:k<18446744073709551616):GF (rV k)=k:=by unfold GF rV;split<;>omega
theorem Kj{n:Int}(h:dQ n):rV (GF n)=n:=by unfold GF rV;unfold dQ at h;split<;>omega
theorem Ii{k:Nat}(h:k<18446744073709551616):dQ (rV k):=by unfold rV dQ;split<;>omega
theorem G9(n:Int):IntKind.u64.wrap n=(GF n:Nat):=by
 rw[IntKind.wrap_u64];unfold GF;omega
theorem eZ{n:Int}(h:0≤n)(h2:n≤9223372036854775807):IntKind.u64.wrap n=(n.toNat:Nat):=by
 rw[IntKind.wrap_u64];omega
theorem qZ{k:Nat}(h:k<18446744073709551616):IntKind.i64.wrap (k:Int)=rV k:=by
 rw[IntKind.wrap_i64];unfold rV;split<;>omega
def aX.may(c:aX):Bool:=c.id.may&&decide (1≤c.time∧c.time≤1073741824)&&small c.kind&&small c.a&&small c.b&&small c.ref.rep&&decide (0≤c.ref.seq∧c.ref.seq≤65535)
theorem aX.bY(c:aX):c.may=true↔(0≤c.id.rep∧c.id.rep≤3∧1≤c.id.seq∧c.id.seq≤65535)∧(1≤c.time∧c.time≤1073741824)∧(0≤c.kind∧c.kind≤255)∧(0≤c.a∧c.a≤255)∧(0≤c.b∧c.b≤255)∧(0≤c.ref.rep∧c.ref.rep≤255)∧0≤c.ref.seq∧c.ref.seq≤65535:=by
 simp[aX.may,bJ.may,small,and_assoc]
def aX.put(c:aX):List UInt8:=be c.id.rep.toNat 1++(be c.id.seq.toNat 2++(be c.time.toNat 4++(be c.kind.toNat 1++(be c.a.toNat 1++(be c.b.toNat 1++(be (GF c.n) 8++(be c.ref.rep.toNat 1++(be c.ref.seq.toNat 2++[67]))))))))
theorem aX.bD(c:aX):c.put.length=22:=by simp[aX.put,aP]
def tM(l:List UInt8):aX:=⟨⟨bX l 0 1,bX l 1 2⟩,bX l 3 4,bX l 7 1,bX l 8 1,bX l 9 1,rV (bX l 10 8),⟨bX l 18 1,bX l 19 2⟩⟩
theorem NX(l:List UInt8):(tM l).ok:=by
 have h0:=eM l 0 1;have h1:=eM l 1 2;have h2:=eM l 3 4;have h3:=eM l 7 1;have h4:=eM l 8 1;have h5:=eM l 9 1;have h6:=eM l 10 8;have h7:=eM l 18 1;have h8:=eM l 19 2;have h9:=Ii (k:=bX l 10 8) o_;unfold tM aX.ok bJ.ok;refine⟨⟨?_,?_⟩,?_,?_,?_,?_,h9,?_,?_⟩<;>unfold dQ<;>dsimp only<;>omega
theorem nC(k:Nat):be k 1=[UInt8.ofNat k]:=by
 simp[be,List.range_succ]
theorem Lb{l:List UInt8}(h:l.length=22)(he:l[21]?=some 67):(tM l).put=l:=by
 have e1:l=(l.drop 0).take 1++((l.drop 1).take 2++((l.drop 3).take 4++((l.drop 7).take 1++((l.drop 8).take 1++((l.drop 9).take 1++((l.drop 10).take 8++((l.drop 18).take 1++((l.drop 19).take 2++l.drop 21)))))))):=by
  have step:∀i w,l.drop i=(l.drop i).take w++l.drop (i+w):=λi w=>by rw[←aBt,aAx]
  have h0:=step 0 1;have h1:=step 1 2;have h2:=step 3 4;have h3:=step 7 1;have h4:=step 8 1;have h5:=step 9 1;have h6:=step 10 8;have h7:=step 18 1;have h8:=step 19 2;rw[←h8,←h7,←h6,←h5,←h4,←h3,←h2,←h1,←h0,aCh]
 have e2:l.drop 21=[67]:=by
  obtain⟨h1,h2⟩:=aAd.1 he;rw[aAm h1,h2,aCn o_]
 rw[e2] at e1;have h6:=eM l 10 8;unfold aX.put tM;dsimp only;rw[KB o_];simp only[aAu];rw[dY o_,dY o_,dY o_,dY o_,dY o_,dY o_,dY o_,dY o_,dY o_];exact e1.symm
theorem LL{c:aX}(hm:c.may=true)(hn:dQ c.n):tM c.put=c:=by
 rw[aX.bY] at hm;obtain⟨⟨i0,i1,i2,i3⟩,⟨t0,t1⟩,⟨k0,k1⟩,⟨a0,a1⟩,⟨b0,b1⟩,⟨r0,r1⟩,s0,s1⟩:=hm;have hu:=EV c.n;have f0:bX c.put 0 1=c.id.rep.toNat:=dL (a:=[]) rfl o_;have f1:bX c.put 1 2=c.id.seq.toNat:=by
  unfold aX.put;exact dL (by simp[aP]) o_
 have f2:bX c.put 3 4=c.time.toNat:=by
  unfold aX.put;rw[←aAb];exact dL (by simp[aP]) o_
 have f3:bX c.put 7 1=c.kind.toNat:=by
  unfold aX.put;rw[←aAb,←aAb];exact dL (by simp[aP]) o_
 have f4:bX c.put 8 1=c.a.toNat:=by
  unfold aX.put;rw[←aAb,←aAb,←aAb];exact dL (by simp[aP]) o_
 have f5:bX c.put 9 1=c.b.toNat:=by
  unfold aX.put;rw[←aAb,←aAb,←aAb,←aAb];exact dL (by simp[aP]) o_
 have f6:bX c.put 10 8=GF c.n:=by
  unfold aX.put;rw[←aAb,←aAb,←aAb,←aAb,←aAb];exact dL (by simp[aP]) o_
 have f7:bX c.put 18 1=c.ref.rep.toNat:=by
  unfold aX.put;rw[←aAb,←aAb,←aAb,←aAb,←aAb,←aAb];exact dL (by simp[aP]) o_
 have f8:bX c.put 19 2=c.ref.seq.toNat:=by
  unfold aX.put;rw[←aAb,←aAb,←aAb,←aAb,←aAb,←aAb,←aAb];exact dL (by simp[aP]) o_
 unfold tM;rw[f0,f1,f2,f3,f4,f5,f6,f7,f8,Kj hn];rw[aBn i0,aBn o_,aBn o_,aBn k0,aBn a0,aBn b0,aBn r0,aBn s0]
theorem Pd(c:aX):c.put[21]?=some 67:=by
 unfold aX.put;rw[←aAb,←aAb,←aAb,←aAb,←aAb,←aAb,←aAb,←aAb,aBc (by simp[aP])];simp[aP]
def tT(l:List UInt8):Option aX:=if l.length=22∧l[21]?=some 67∧(tM l).may=true then some (tM l) else none
theorem Du{l:List UInt8}{c:aX}(h:tT l=some c):c=tM l∧c.may=true∧c.put=l∧c.ok:=by
 unfold tT at h;split at h
 ·rename_i hh;injection h with h
  subst h;exact⟨rfl,hh.2.2,Lb hh.1 hh.2.1,NX l⟩
 ·cases h
theorem CJ{c:aX}(hm:c.may=true)(hn:dQ c.n):tT c.put=some c:=by
 unfold tT;rw[LL hm hn,if_pos ⟨c.bD,Pd c,hm⟩]
def jV(s:Bool×List UInt8)(w:Nat):Bool×List UInt8:=(nx s.1 s.2 w).2
def vl(s:Bool×List UInt8)(w:Nat):Nat:=match (nx s.1 s.2 w).1 with|none=>0|some x=>get x
def Ly(s:Bool×List UInt8)(w:Nat):Bool:=(nx s.1 s.2 w).1.isSome
theorem Ai{l:List UInt8}{k:Nat}(h:k≤l.length):nx false l k=(some (l.take k),false,l.drop k):=by
 unfold nx;rw[if_neg (by simp),if_neg o_,aAu]
theorem TW{l:List UInt8}{k:Nat}(h:l.length<k):nx false l k=(none,true,l):=by
 unfold nx;rw[if_neg (by simp),if_pos o_]
theorem iL{l:List UInt8}{i w:Nat}(h:i+w≤l.length):jV (false,l.drop i) w=(false,l.drop (i+w))∧vl (false,l.drop i) w=bX l i w∧Ly (false,l.drop i) w=true:=by
 have h1:nx false (l.drop i) w=_:=Ai (by simp;omega);unfold jV vl Ly;dsimp only;rw[h1,aBt];exact⟨rfl,rfl,rfl⟩
theorem jR(s:Bool×List UInt8)(w:Nat):vl s w<256 ^ w:=by
 unfold vl nx;split
 ·exact Nat.pow_pos o_
 ·rename_i x hx;split at hx
  ·cases hx
  ·split at hx
   ·cases hx
   ·injection hx with hx
    subst hx;have h:=BY (s.2.take (w:Int).toNat);have h2:(s.2.take (w:Int).toNat).length≤w:=by simp;omega
    exact aDe h (aDx o_ h2)
def runs:List Nat→Bool×List UInt8→Bool×List UInt8
 | [],s=>s
 |w::ws,s=>runs ws (jV s w)
theorem Po(ws:List Nat)(l:List UInt8):runs ws (true,l)=(true,l):=by
 induction ws with
 |nil=>rfl
 |cons w ws ih=>exact ih
theorem Hl(ws:List Nat)(w:Nat)(l:List UInt8)(h:l.length<ws.sum+w):vl (runs ws (false,l)) w=0:=by
 induction ws generalizing l with
 |nil =>
  simp at h;unfold runs vl;dsimp only;rw[TW h]
 |cons a ws ih =>
  simp at h;unfold runs;by_cases ha:a≤l.length
  ·have:=(iL (l:=l) (i:=0) (w:=a) o_).1;rw[aCh,aCa] at this;rw[this];exact ih _ (by simp;omega)
  ·have:jV (false,l) a=(true,l):=by
    unfold jV;dsimp only;rw[TW o_]
   rw[this,Po];rfl
theorem Kv(ws:List Nat)(w:Nat)(s:Bool×List UInt8):runs (ws++[w]) s=jV (runs ws s) w:=by
 induction ws generalizing s with
 |nil=>rfl
 |cons a ws ih=>exact ih _
def st(ws:List Nat)(l:List UInt8)(i:Nat):Bool×List UInt8:=runs (ws.take i) (false,l)
def va(ws:List Nat)(l:List UInt8)(i:Nat):Nat:=vl (st ws l i) (ws.getD i 0)
theorem yX{ws:List Nat}{l:List UInt8}{i:Nat}(hi:i≤ws.length)(h:(ws.take i).sum≤l.length):st ws l i=(false,l.drop (ws.take i).sum):=by
 induction i with
 |zero=>simp[st,runs]
 |succ i ih =>
  have e:ws.take (i+1)=ws.take i++[ws[i]]:=aAn o_;have hs:(ws.take (i+1)).sum=(ws.take i).sum+ws[i]:=by rw[e,List.sum_append];simp
  have h1:=ih o_ o_;unfold st at h1⊢;rw[hs,e,Kv,h1,(iL o_).1]
theorem dN{ws:List Nat}{l:List UInt8}{i k w:Nat}(hk:(ws.take i).sum=k)(hw:ws.getD i 0=w)(hi:i≤ws.length)(h:k+w≤l.length):va ws l i=bX l k w:=by
 subst hk hw;unfold va;rw[yX hi o_,(iL h).2.1]
theorem Fj{ws:List Nat}{l:List UInt8}{i:Nat}(h:l.length<(ws.take i).sum+ws.getD i 0):va ws l i=0:=Hl _ _ _ h
theorem Ds(ws:List Nat)(l:List UInt8)(i:Nat):va ws l i<256 ^ ws.getD i 0:=jR _ _
theorem cN{k:Nat}(h:k<9223372036854775808):rV k=k:=if_pos h
abbrev dW:List Nat:=[1,2,4,1,1,1,8,1,2,1]
def wR(l:List UInt8):aX:=⟨⟨va dW l 0,va dW l 1⟩,va dW l 2,va dW l 3,va dW l 4,va dW l 5,rV (va dW l 6),⟨va dW l 7,va dW l 8⟩⟩
theorem G0{l:List UInt8}(h:22≤l.length):wR l=tM l∧va dW l 9=bX l 21 1∧st dW l 10=(false,l.drop 22):=by
 refine⟨?_,dN rfl rfl sD o_,yX sD (by simpa using h)⟩;unfold wR tM;rw[dN (k:=0) (w:=1) rfl rfl sD o_,dN (k:=1) (w:=2) rfl rfl sD o_,dN (k:=3) (w:=4) rfl rfl sD o_,dN (k:=7) (w:=1) rfl rfl sD o_,dN (k:=8) (w:=1) rfl rfl sD o_,
  dN (k:=9) (w:=1) rfl rfl sD o_,dN (k:=10) (w:=8) rfl rfl sD o_,dN (k:=18) (w:=1) rfl rfl sD o_,dN (k:=19) (w:=2) rfl rfl sD o_]
theorem BA{p q:Prop}[Decidable p][Decidable q]{α:Type}{x y:α}(h:p↔q):(if p then x else y)=if q then x else y:=by
 by_cases hp:p
 ·rw[if_pos hp,if_pos (h.1 hp)]
 ·rw[if_neg hp,if_neg (λhq=>hp (h.2 hq))]
theorem N0(l:List UInt8):tT l=if va dW l 9=67∧(!(st dW l 10).1&&(st dW l 10).2.isEmpty)=true∧(wR l).may=true then some (wR l) else none:=by
 by_cases h:22≤l.length
 ·obtain⟨h1,h2,h3⟩:=G0 h;rw[h1,h2,h3];unfold tT;have e1:(bX l 21 1=67)↔l[21]?=some 67:=by
   rw[uY o_,aAa o_];constructor
   ·intro h;rw[show l[21]=67 from aEg.1 h]
   ·intro h;injection h with h;rw[h];rfl
  have e2:((!(false,l.drop 22).1&&(false,l.drop 22).2.isEmpty)=true)↔l.length=22:=by
   simp;omega
  exact BA ⟨λ⟨a,b,c⟩=>⟨e1.2 b,e2.2 a,c⟩,λ⟨a,b,c⟩=>⟨e2.1 b,e1.1 a,c⟩⟩
 ·rw[Fj (i:=9) (by simp;omega),if_neg (by simp)];exact if_neg λ⟨h1,_⟩=>by omega
def fR(l:List aX):List UInt8:=(l.map aX.put).flatten
theorem jY(l:List aX):(fR l).length=22*l.length:=by
 induction l with
 |nil=>rfl
 |cons c l ih =>
  have:fR (c::l)=c.put++fR l:=rfl;rw[this,aAe,c.bD,ih,aAs];omega
theorem tL(c:aX)(l:List aX):fR (c::l)=c.put++fR l:=rfl
theorem Gj(l:List aX)(c:aX):fR (l++[c])=fR l++c.put:=by simp[fR]
def dP(l:List aX):List UInt8:=UInt8.ofNat l.length::fR l
def pieces:Nat→List UInt8→Option (List aX)
 |0,_=>some []
 |k+1,t=>match tT (t.take 22),pieces k (t.drop 22) with
  |some c,some l=>some (c::l)
  |_,_=>none
theorem tC{k:Nat}{t:List UInt8}{l:List aX}(h:pieces k t=some l)(ht:t.length=22*k):l.length=k∧fR l=t∧l.all aX.may=true∧∀c∈l,c.ok:=by
 induction k generalizing t l with
 |zero =>
  injection h with h
  subst h;exact⟨rfl,(aBi o_).symm,rfl,λ_ hc=>by cases hc⟩
 |succ k ih =>
  unfold pieces at h;split at h
  ·rename_i c l' hc hl;injection h with h
   subst h;obtain⟨h1,h2,h3,h4⟩:=ih hl (by simp;omega);obtain⟨_,hm,hp,hok⟩:=Du hc;refine⟨by simp[h1],?_,by simp[hm];simpa using h3,λx hx=>?_⟩
   ·rw[tL,hp,h2,aAx]
   ·rcases aEj.1 hx with rfl|hx
    ·exact hok
    ·exact h4 x hx
  ·cases h
theorem DH{l:List aX}(hm:l.all aX.may=true)(hn:∀c∈l,dQ c.n):pieces l.length (fR l)=some l:=by
 induction l with
 |nil=>rfl
 |cons c l ih =>
  simp at hm;rw[aAs,pieces,tL,aBj c.bD,aBu c.bD,CJ hm.1 (hn c (by simp)),ih (by simpa using hm.2) λx hx=>hn x (by simp[hx])]
theorem lZ(l:List aX):(dP l).length=1+22*l.length:=by unfold dP;rw[aAs,jY];omega
end Go.Proofs.YtmilalkjbojciaaGreat.Sep
namespace Go.Proofs.YtmilalkjbojciaaGreat.Sep
open Go.RowKit Reg
open Mem hiding Rd
def nW:Nat→List bP→List MapEntry
 |_,[]=>[]
 |i,k::ks=>{ key:=.agg k.cs.toArray,val:=.bool true,born:=i }::nW (i+1) ks
abbrev SR(ks:List bP):Array MapEntry:=(nW 0 ks).toArray
theorem FQ(i:Nat)(ks:List bP)(k:bP):nW i ks++[{ key:=.agg k.cs.toArray,val:=.bool true,born:=i+ks.length }]=nW i (ks++[k]):=by
 induction ks generalizing i with
 |nil=>rfl
 |cons x ks ih =>
  have:=ih (i+1);rw[aCj,nW,nW,aCj,←this,aAs,show i+1+ks.length=i+(ks.length+1) by omega]
def Dq(m:Option Nat)(ks:List bP):aL where
 holds F w:=match m with
  |none=>ks=[]∧∀b,¬F b
  |some g=>(∀b,F b↔b=g)∧w.heap[g]?=some (.map (SR ks) ks.length)
 loc:=by
  intro F w w' h hk;cases m with
  |none=>exact h
  |some g=>exact⟨h.1,(hk _ ((h.1 _).2 rfl)).trans h.2⟩
 lt:=by
  intro F w b h hb;cases m with
  |none=>exact absurd hb (h.2 b)
  |some g=>rw[(h.1 _).1 hb];exact(aBv.1 h.2).1
section
variable {E:Env} {H H' R:List aL} {N:Nat} {F:Nat→Value} {o:Oper} {ρ:Operand→Value} {m:Option Nat} {ks:List bP}
theorem aB.l6:aB E H (Dq none []::H):=λw hw =>
 hw.conv λF h=>⟨F,⟨λ_=>False,F,λb=>by simp,λb h=>h.elim,⟨rfl,λ_ h=>h⟩,h⟩,λ_ h=>h⟩
theorem lY(k:bP)(em:Bool)(w:World):(Instr.checkKey em 10000 75 (.agg k.cs.toArray)).run prog w=.ok () w:=by
 have hu:=underlying75;have hv:=underlying32;have hi:=underlying3;have hb:=underlying4;rw[show(10000:Nat)=9999+1 from rfl,Instr.checkKey];simp only[aAy,run_underlying hu,aAr];rw[←Array.forIn_toList];obtain⟨ti,hti,_,hts,_⟩:=fN.jA;have p0:(part 32 k.cs.toArray 0).run prog w=.ok (.agg #[.int .i64 k.id.rep,.int .i64 k.id.seq]) w:=by
  have hti':prog.info? 32=some ti:=hti;have hts':ti.size=2:=hts;simp[part,isAgg,sizeOf,typeInfo,run_underlying hv,hti',hts',bP.cs]
 have p1:(part 3 k.cs.toArray 2).run prog w=.ok (.int .i64 k.ord) w:=by simp[part,isAgg,run_underlying hi,bP.cs]
 have p2:(part 4 k.cs.toArray 3).run prog w=.ok (.bool k.cD) w:=by simp[part,isAgg,run_underlying hb,bP.cs]
 have q0:∀(x:Int) n,(Instr.checkKey em (n+1) 3 (.int .i64 x)).run prog w=.ok () w:=λx n=>by simp[Instr.checkKey,run_underlying hi]
 have q1:∀(x:Bool) n,(Instr.checkKey em (n+1) 4 (.bool x)).run prog w=.ok () w:=λx n=>by simp[Instr.checkKey,run_underlying hb]
 have r0:(part 3 #[.int .i64 k.id.rep,.int .i64 k.id.seq] 0).run prog w=.ok (.int .i64 k.id.rep) w:=by simp[part,isAgg,run_underlying hi]
 have r1:(part 3 #[.int .i64 k.id.rep,.int .i64 k.id.seq] 1).run prog w=.ok (.int .i64 k.id.seq) w:=by simp[part,isAgg,run_underlying hi]
 have c0:(Instr.checkKey em 9999 32 (.agg #[.int .i64 k.id.rep,.int .i64 k.id.seq])).run prog w=.ok () w:=by
  rw[show(9999:Nat)=9998+1 from rfl,Instr.checkKey];simp only[aAy,run_underlying hv,aAr];rw[←Array.forIn_toList];simp only[List.forIn_cons,List.forIn_nil,aAy,ne_eq,String.reduceEq,not_false_eq_true,if_true,aAr,r0,r1,aCc,show(9998:Nat)=9997+1 from rfl,q0]
 have q2:=q0 k.ord 9998;have q3:=q1 k.cD 9998;simp only[List.forIn_cons,List.forIn_nil,aAy,ne_eq,String.reduceEq,not_false_eq_true,if_true,aAr,p0,p1,p2,c0,aCc,q2,q3]
theorem B8:(match prog.underlying 75 with|some (.array _ _)|some (.struct _)=>true|_=>false)=true:=by kernel_rfl
theorem Bn(k:bP)(w:World):∀(ks:List bP) (i:Nat) (j:Nat),∃r,(Instr.findAsking 75 (.agg k.cs.toArray) (nW j ks) i).run prog w=.ok r w∧(k∈ks→∃q,r=some (q,.bool true))∧(k∉ks→r=none)
 | [],i,j=>⟨none,rfl,λh=>(aAk h).elim,λ_=>rfl⟩
 |x::ks,i,j=>by
  have h1:(Op.equalIn 10000 75 (.agg k.cs.toArray) (.agg x.cs.toArray)).run prog w=.ok (decide (k=x)) w:=(TD (t:=75) (xs:=#[.int .i64 k.id.rep,.int .i64 k.id.seq,.int .i64 k.ord,.bool k.cD]) (ys:=#[.int .i64 x.id.rep,.int .i64 x.id.seq,.int .i64 x.ord,.bool x.cD]) (r:=decide ((⟨⟨k.id.rep,k.id.seq⟩,k.ord,k.cD⟩:bP)=⟨⟨x.id.rep,x.id.seq⟩,x.ord,x.cD⟩))).run w;have h2:(Op.equal 75 (.agg k.cs.toArray) (.agg x.cs.toArray)).run prog w=.ok (decide (k=x)) w:=h1;obtain⟨r,h3,h4,h5⟩:=Bn k w ks (i+1) (j+1);by_cases hkx:k=x
  ·refine⟨some (i,.bool true),?_,λ_=>⟨_,rfl⟩,λh=>absurd (by rw[hkx];exact aBo ..) h⟩;rw[nW,Instr.findAsking];simp only[aAy,h2,aAr,decide_eq_true hkx,if_true,aCc]
  ·refine⟨r,?_,λh=>h4 (by rcases aEj.1 h with h|h;exact absurd h hkx;exact h),λh=>h5 λh'=>h (aBl _ h')⟩;rw[nW,Instr.findAsking];simp only[aAy,h2,aAr,decide_eq_false hkx,aCb,if_false,h3]
theorem Y.Qq{t:TypeId}{x i:Operand}{k:bP}(ho:o.op=.lookup t x i false)(hx:ρ x=.map m)(hi:ρ i=.agg k.cs.toArray)(ht:prog.underlying t=some (.map 75 4))(hm:Has (Dq m ks) H R):qB prog E H ρ o (.bool (decide (k∈ks))):=by
 intro u hu;obtain⟨F,h1,_⟩:=hu.has hm;have hz:∀w,(zeroValue 4).run prog w=.ok (.bool false) w:=λw=>by kernel_rfl
 unfold execOp;simp only[ho,hx,hi,Instr.lookup,aAy,run_underlying ht,aAr];cases m with
 |none =>
  obtain⟨rfl,_⟩:=h1;have hc:=lY k (#[]:Array MapEntry).isEmpty u;have hf:(Instr.findKey 75 (.agg k.cs.toArray) (#[]:Array MapEntry).toList).run prog u=.ok none u:=by rw[run_findKey_eq u B8];rfl
  simp only[aCc,aAr,aAy,hc,hf,hz];simp
 |some g =>
  obtain⟨_,hb⟩:=h1;have hc:=lY k (SR ks).isEmpty u;obtain⟨r,hr,hyes,hno⟩:=Bn k u ks 0 0;have hf:(Instr.findKey 75 (.agg k.cs.toArray) (SR ks).toList).run prog u=.ok r u:=by rw[run_findKey_eq u B8];exact hr
  simp only[aEa hb,aCc,aAr,aAy,hc,hf];by_cases hk:k∈ks
  ·obtain⟨q,rfl⟩:=hyes hk;simp[hk]
  ·rw[hno hk];simp[hk,hz]
theorem S.H8{t:TypeId}{x i v:Operand}{g:Nat}{k:bP}(ho:o.op=.mapUpdate t x i v)(hx:ev F x=.map (some g))(hi:ev F i=.agg k.cs.toArray)(hv:ev F v=.bool true)(ht:prog.underlying t=some (.map 75 4))(hk:k∉ks){ks':List bP}(hl:ks++[k]=ks')(hr:dT (Dq (some g) ks) [Dq (some g) ks'] H H') :
  gK prog N E F H o λr H1=>r=undef∧H1=H':=by
 subst hl;intro a u ha hu Kw Q' hK;obtain⟨R,hhas,F0,h0⟩:=hu.xO hr;obtain⟨h1,hb⟩:=h0;have hc:=lY k false u;obtain⟨r,hr2,hyes,hno⟩:=Bn k u ks 0 0;have hf:(Instr.findKey 75 (.agg k.cs.toArray) (SR ks).toList).run prog u=.ok none u:=by rw[run_findKey_eq u B8,←hno hk];exact hr2
 have hpush:(SR ks).push { key:=.agg k.cs.toArray,val:=.bool true,born:=ks.length }=SR (ks++[k]):=by
  apply Array.ext';have:=FQ 0 ks k;rw[aCa] at this;simpa using this
 have hrun:(execOp (ev F) o).run prog u=.ok .skip { u with heap:=u.heap.setIfInBounds g (.map (SR (ks++[k])) (ks++[k]).length) }:=by
  unfold execOp;simp only[ho,hx,hi,hv,Instr.mapUpdate,aAy,run_underlying ht,aAr,aEa hb,hc,hf,hpush,aEz _ hb];simp
 unfold Oper.wp;rw[ha.eval,hrun];refine hK undef _ _ ⟨rfl,rfl⟩ ?_;have hlt:g<u.heap.size:=(aBv.1 hb).1;refine hu.jX hr rfl rfl rfl (by simp) (G:=λb=>b=g) (λb _ hb=>?_) λF1 k1=>?_
 ·show(u.heap.setIfInBounds g _)[b]?=_;rw[aEv (aFh hb)]
 ·refine⟨F1,⟨F1,λ_=>False,λb=>by simp,λ_ _ h=>h,⟨k1.1,?_⟩,λ_ h=>h⟩,λb hb=>.inl hb,λb _ hb=>(k1.1 b).2 hb⟩;show(u.heap.setIfInBounds g _)[g]?=_;simp[hlt]
theorem S.Oy{t:TypeId}(ho:o.op=.makeMap t none):gK prog N E F H o λr H1=>∃g,r=.map (some g)∧H1=Dq (some g) []::H:=by
 intro a u ha hu Kw Q' hK;have hrun:(execOp (ev F) o).run prog u=.ok (.value (.map (some u.heap.size))) (u.alloc (.map #[] 0)):=by
  unfold execOp;simp only[ho,Option.map_none,run_makeMap,aAy,aAr,aCc]
 unfold Oper.wp;rw[ha.eval,hrun];refine hK _ _ _ ⟨_,rfl,rfl⟩ ?_;refine hu.grow (l:=[Dq (some u.heap.size) []]) rfl rfl rfl (by simp) (λb hb=>aDu _ _ _ hb) (F1:=λb=>b=u.heap.size) ⟨_,λ_=>False,λb=>by simp,λb _ h=>h,⟨λb=>aDl,heap_alloc_new _ _⟩,λb h=>h⟩ (λb hb=>by omega)
theorem V.Zn{x y:Operand}{t t' k e:TypeId}{p:Option Nat}{u:World}(ho:o.op=.binOp .eql t x y t')(ht:prog.underlying t=some (.map k e))(hx:ρ x=.map p)(hy:ρ y=.map none):(execOp ρ o).run prog u=.ok (.value (.bool p.isNone)) u:=by
 have h:∀d,(Op.equalIn (d+1) t (.map p) (.map none)).run prog u=.ok p.isNone u:=λd=>by cases p<;>simp[Op.equalIn,run_underlying ht]
 have h2:(binOp .eql t (.map p) (.map none)).run prog u=.ok (.bool p.isNone) u:=by
  simp only[binOp];simp[show Op.equal t (.map p) (.map none)=Op.equalIn (9999+1) t (.map p) (.map none) from rfl,h]
 simp[execOp,ho,hx,hy,eqGuard,h2]
end
theorem ZQ{P:Program}{E:Env}{H:List aL}{ρ:Operand→Value}{o:Oper}{v:Value}(h:qB P E H ρ o v:=by first|(intro _ _;apply V.funcF;exact rfl;exact eS)|(intro _ _;apply V.Zn;exact rfl;exact rfl;exact rfl;exact rfl)|(apply Y.Qq;exact rfl;exact rfl;exact rfl;exact rfl;exact aS)):qB P E H ρ o v:=h
theorem WX{P:Program}{N:Nat}{E:Env}{F:Nat→Value}{H:List aL}{o:Oper}{K:Value→List aL→Prop}(h:gK P N E F H o K:=by first|exact Sy|(apply S.Oy;exact rfl)|(apply S.H8;exact rfl;exact eS;exact eS;exact eS;exact rfl;exact nD;exact ZK;exact dH)):gK P N E F H o K:=h
theorem p7{p q:Prop}(hq:q)(h:wA q→p:=by intro h;first|(apply L.fQ;decide;exact WX;(first|exact x0 h.out|exact x1 h.out|exact x2 h.out))|(apply L.pX;exact WX;(first|exact x0 h.out|exact x1 h.out|exact x2 h.out))|(apply Dr.WZ;exact rfl;(· rintro k ⟨⟩<;>decide);exact bA;exact WX;(first|exact x0 h.out|exact x1 h.out|exact x2 h.out))|(apply Dr.Iq;exact rfl;(· rintro k ⟨⟩<;>decide);exact bA;exact WX;(first|exact x0 h.out|exact x1 h.out|exact x2 h.out))|(apply zL.Aw;exact rfl;(· rintro k ⟨⟩<;>decide);exact bA;exact WX;(first|(refine y0 ?_ ?_;exact aA;exact h.out)|(refine y1 ?_ ?_;(· intro _;exact aA);exact h.out)|(refine y2 ?_ ?_;(· intro _ _;exact aA);exact h.out)))|(apply Dr.Aw;exact rfl;(· rintro k ⟨⟩<;>decide);exact bA;exact WX;(first|(refine y0 ?_ ?_;exact aA;exact h.out)|(refine y1 ?_ ?_;(· intro _;exact aA);exact h.out)|(refine y2 ?_ ?_;(· intro _ _;exact aA);exact h.out)))):p:=h ⟨hq⟩
theorem qI{p q:Prop}(hq:q)(h:wA q→p:=by intro h;first|exact w_ h.out|(apply L.val;decide;exact ZQ;exact h.out)|(apply FU.take;exact rfl;decide;exact bA;exact ZQ;exact h.out)|(apply Dr.take;exact rfl;decide;exact bA;exact ZQ;exact h.out)|exact p7 h.out|(apply gd;exact bG;exact aA;exact h.out)|(apply gk;exact bG;exact h.out)):p:=h ⟨hq⟩
theorem PN:Rec prog 116 [.map none,.slice none 0 0,.int .i64 0] [(0,1),(1,1),(2,1)]:=⟨by kernel_rfl,by kernel_rfl⟩
instance UB:cL 116 [.map none,.slice none 0 0,.int .i64 0] [(0,1),(1,1),(2,1)]:=⟨PN⟩
abbrev gt(g:Nat)(m:Option Nat)(A:Option Addr)(n c:Nat)(r:Int):aL:=aJ g 116 [.map m,.slice A n c,.int .i64 r]
def bP.other(k:bP):bP:=⟨k.id,k.ord,!k.cD⟩
section
variable (E:Env)
theorem TL(k:bP):aK prog E 147 #[.agg k.cs.toArray] [] λr H'=>r=.returned (.agg k.other.cs.toArray)∧H'=[]:=by
 refine t_ func147 ntmps147 ?_;repeat first|refine qI ?_|intro
 exact e7_
theorem R7(n lo hi:Int)(f:FuncId)(hf:f=65):aK prog E f #[.int .i64 n,.int .i64 lo,.int .i64 hi] [] λe H'=>e=.returned (.int .i64 (if n<lo then lo else if hi<n then hi else n))∧H'=[]:=by
 subst hf;refine t_ func65 ntmps65 ?_;by_cases h1:n<lo
 ·rw[if_pos h1];repeat first|refine qI ?_|intro
  exact e1_
 rw[if_neg h1];by_cases h2:hi<n
 ·rw[if_pos h2];repeat first|refine qI ?_|intro
  exact e1_
 rw[if_neg h2];repeat first|refine qI ?_|intro
 exact e1_
variable (g:Nat) (m:Option Nat) (A:Option Addr) (n c:Nat) (r:Int) (ks:List bP)
theorem Sr(k:bP):aK prog E 93 #[.pointer (some ⟨g,0,none⟩),.agg k.cs.toArray] [gt g m A n c r,Dq m ks] λe H'=>e=.returned (.bool (decide (k∈ks)))∧H'=[gt g m A n c r,Dq m ks]:=by
 refine t_ func93 ntmps93 ?_;repeat first|refine qI ?_|intro
 refine rA (l_ [0,1,2,3,4,5,6,7,8,9,10] .nil) ?_;repeat first|refine qI ?_|intro
 exact e1_
end
section
variable (E:Env)
theorem OG(A:Option Addr)(n c:Nat)(l:List dK)(hr:Rd E cP A n c l)(hl:n≤1000000000):aK prog E 85 #[.slice A n c] [] λr H'=>∃A' c',r=.returned (.slice A' n c')∧(n≤c'∧c'≤maxLen)∧H'=[own cP A' n c' l]:=by
 refine t_ func85 ntmps85 ?_;cases A with
 |none =>
  obtain⟨rfl,rfl⟩:=hr.none;repeat first|refine qI ?_|intro
  exact aR rfl aF (aB.nil cP) ⟨_,_,rfl,⟨aAf _,aAh _⟩,rfl⟩
 |some a =>
  repeat first|refine qI ?_|intro
  exact aR rfl aF aA (⟨_,_,rfl,⟨by assumption,by assumption⟩,rfl⟩)
variable (g:Nat) (m:Option Nat) (A:Option Addr) (n c:Nat) (r:Int) (l:List dK)
abbrev HN(g:Nat)(m:Option Nat)(A:Option Addr)(n c:Nat)(r:Int)(l:List dK):List aL:=[gt g m A n c r,Dq m (l.map dK.key),own cP A n c l]
structure Qd(m:Option Nat)(n c:Nat)(r:Int)(l:List dK):Prop where
 hn:n=l.length
 hc:n≤c∧c≤maxLen
 hm:m=none→l=[]
 hr:0≤r∧r≤255
theorem SE(x:Int):aK prog E 127 #[.pointer (some ⟨g,0,none⟩),.int .i64 x] [gt g m A n c r] λe H'=>e=.returned (.tuple #[])∧H'=[gt g m A n c (if x<0 then 0 else if 255<x then 255 else x)]:=by
 refine t_ func127 ntmps127 ?_;repeat first|refine qI ?_|intro
 refine cl sD sK aC (λE' hE=>R7 E' x 0 255 _ rfl) ?_;rintro e H' ⟨rfl,rfl⟩;repeat first|refine qI ?_|intro
 exact e3_
theorem GV(hr:Rd E cP A n c l)(hl:n≤1000000000):aK prog E 22 #[.pointer (some ⟨g,0,none⟩)] [gt g m A n c r] λe H'=>∃A' c',e=.returned (.slice A' n c')∧(n≤c'∧c'≤maxLen)∧H'=[gt g m A n c r,own cP A' n c' l]:=by
 refine t_ func22 ntmps22 ?_;repeat first|refine qI ?_|intro
 refine cl sD sK aC (λE' hE=>OG E' A n c l (hr.sub hE) hl) ?_;rintro e H' ⟨A',c',rfl,h1,rfl⟩;repeat first|refine qI ?_|intro
 exact jQ ⟨_,_,rfl,h1,rfl⟩
theorem RQ(q:dK)(hq:q.key∈l.map dK.key):aK prog E 29 #[.pointer (some ⟨g,0,none⟩),.agg q.cs.toArray] (HN g m A n c r l) λe H'=>e=.returned (.bool true)∧H'=HN g m A n c r l:=by
 have hd:decide (q.key∈l.map dK.key)=true:=decide_eq_true hq;unfold HN;refine t_ func29 ntmps29 ?_;repeat first|refine qI ?_|intro
 refine bK (λ(E':Env)=>Sr E' g m A n c r (l.map dK.key) q.key) ?_;repeat first|refine qI ?_|intro
 exact e1_
theorem WA(q:dK)(hq:q.key∉l.map dK.key)(hr:0<r∧r≤255):aK prog E 29 #[.pointer (some ⟨g,0,none⟩),.agg q.cs.toArray] (HN g m A n c r l) λe H'=>e=.returned (.bool false)∧H'=HN g m A n c (r - 1) l:=by
 have hd:decide (q.key∈l.map dK.key)=false:=decide_eq_false hq;obtain⟨hr1,hr2⟩:=hr;unfold HN;refine t_ func29 ntmps29 ?_;repeat first|refine qI ?_|intro
 refine bK (λ(E':Env)=>Sr E' g m A n c r (l.map dK.key) q.key) ?_;repeat first|refine qI ?_|intro
 exact e1_
theorem RC(hs:Qd m n c r l)(q:dK)(hq:q.key∉l.map dK.key)(hr:r≤0)(hl:n≤1000000000):aK prog E 29 #[.pointer (some ⟨g,0,none⟩),.agg q.cs.toArray] (HN g m A n c r l) λe H'=>∃m' A' c',e=.returned (.bool true)∧Qd m' (n+1) c' r (l++[q])∧H'=HN g m' A' (n+1) c' r (l++[q]):=by
 have hd:decide (q.key∈l.map dK.key)=false:=decide_eq_false hq;have hmap:(l++[q]).map dK.key=l.map dK.key++[q.key]:=by rw[aBk];rfl
 have hnew:∀m' c',m'≠none→(n+1≤c'∧c'≤maxLen)→Qd m' (n+1) c' r (l++[q]):=λm' c' h1 h2=>⟨by rw[aAe,←hs.hn];rfl,h2,λh=>absurd h h1,hs.hr⟩
 unfold HN;rw[hmap];refine t_ func29 ntmps29 ?_;cases m with
 |none =>
  obtain rfl:=hs.hm rfl;have hq0:q.key∉([]:List bP):=λh=>(aAk h).elim;simp only[aDo,aBq] at hnew hd⊢;repeat first|refine qI ?_|intro
  refine bK (λ(E':Env)=>Sr E' g none A n c r [] q.key) ?_;repeat first|refine qI ?_|intro
  rename_i g5 g2;refine C.bL 6 (l_ [0,1,2,3,4,5] (g_ 6 .nil)) _ q_ q_ aB.refl ?_;repeat first|refine qI ?_|intro
  refine C.bL 10 (l_ [0,1,2,3,4,5] (g_ 6 (g_ 7 (l_ [8,9] (g_ 10 .nil))))) ([gt g (some g2) A n c r,aJ g5 79 q.cs]) q_ q_ aA ?_;repeat first|refine qI ?_|intro
  rename_i A' c' h1 h2;exact aR rfl aF aA (⟨some g2,A',c',rfl,hnew _ _ (λh=>by cases h) ⟨h1,h2⟩,rfl⟩)
 |some g2 =>
  repeat first|refine qI ?_|intro
  refine bK (λ(E':Env)=>Sr E' g (some g2) A n c r (l.map dK.key) q.key) ?_;repeat first|refine qI ?_|intro
  rename_i g5;refine C.bL 6 (l_ [0,1,2,3,4,5] (g_ 6 .nil)) _ q_ q_ aB.refl ?_;repeat first|refine qI ?_|intro
  refine C.bL 10 (l_ [0,1,2,3,4,5] (g_ 6 (g_ 7 (l_ [8,9] (g_ 10 .nil))))) ([gt g (some g2) A n c r,aJ g5 79 q.cs]) q_ q_ aA ?_;repeat first|refine qI ?_|intro
  rename_i A' c' h1 h2;exact aR rfl aF aA (⟨some g2,A',c',rfl,hnew _ _ (λh=>by cases h) ⟨h1,h2⟩,rfl⟩)
end
def jH:Nat→List (bJ×Int)→List MapEntry
 |_,[]=>[]
 |i,k::ks=>{ key:=.agg k.1.cs.toArray,val:=.int .i64 k.2,born:=i }::jH (i+1) ks
abbrev Bz(ks:List (bJ×Int)):Array MapEntry:=(jH 0 ks).toArray
theorem Fs(i:Nat)(ks:List (bJ×Int))(k:bJ×Int):jH i ks++[{ key:=.agg k.1.cs.toArray,val:=.int .i64 k.2,born:=i+ks.length }]=jH i (ks++[k]):=by
 induction ks generalizing i with
 |nil=>rfl
 |cons x ks ih =>
  have:=ih (i+1);rw[aCj,jH,jH,aCj,←this,aAs,show i+1+ks.length=i+(ks.length+1) by omega]
theorem sB(j:Nat)(ks:List (bJ×Int))(q:Nat):(jH j ks)[q]?=(ks[q]?).map λk=>{ key:=.agg k.1.cs.toArray,val:=.int .i64 k.2,born:=j+q }:=by
 induction ks generalizing j q with
 |nil=>rfl
 |cons x ks ih =>
  cases q with
  |zero=>rfl
  |succ q=>rw[jH,aFr,aFr,ih,show j+1+q=j+(q+1) by omega]
theorem IB(j:Nat)(ks:List (bJ×Int)):(jH j ks).length=ks.length:=by
 induction ks generalizing j with
 |nil=>rfl
 |cons x ks ih=>rw[jH,aAs,aAs,ih]
def eT:List (bJ×Int)→bJ→Option (Nat×Int)
 | [],_=>none
 |x::ks,k=>if k=x.1 then some (0,x.2) else(eT ks k).map λq=>(q.1+1,q.2)
theorem wO{ks:List (bJ×Int)}{k:bJ}{q:Nat}{v:Int}(h:eT ks k=some (q,v)):ks[q]?=some (k,v):=by
 induction ks generalizing q with
 |nil=>cases h
 |cons x ks ih =>
  unfold eT at h;split at h
  ·rename_i hk;injection h with h
   injection h with h1 h2
   subst h1 h2 hk;rfl
  ·cases hf:eT ks k with
   |none=>rw[hf] at h;cases h
   |some z =>
    rw[hf] at h;injection h with h
    injection h with h1 h2
    subst h1 h2;rw[aFr];exact ih hf
def QW(g:Nat)(ks:List (bJ×Int)):aL where
 holds F w:=(∀b,F b↔b=g)∧w.heap[g]?=some (.map (Bz ks) ks.length)
 loc:=λh hk=>⟨h.1,(hk _ ((h.1 _).2 rfl)).trans h.2⟩
 lt:=λh hb=>by rw[(h.1 _).1 hb];exact(aBv.1 h.2).1
theorem sP(k:bJ)(em:Bool)(w:World):(Instr.checkKey em 10000 32 (.agg k.cs.toArray)).run prog w=.ok () w:=by
 have hv:=underlying32;have hi:=underlying3;have q0:∀(x:Int) n,(Instr.checkKey em (n+1) 3 (.int .i64 x)).run prog w=.ok () w:=λx n=>by simp[Instr.checkKey,run_underlying hi]
 have r0:(part 3 #[.int .i64 k.rep,.int .i64 k.seq] 0).run prog w=.ok (.int .i64 k.rep) w:=by simp[part,isAgg,run_underlying hi]
 have r1:(part 3 #[.int .i64 k.rep,.int .i64 k.seq] 1).run prog w=.ok (.int .i64 k.seq) w:=by simp[part,isAgg,run_underlying hi]
 rw[show(10000:Nat)=9999+1 from rfl,Instr.checkKey];simp only[aAy,run_underlying hv,aAr];rw[←Array.forIn_toList];have e:k.cs.toArray=#[.int .i64 k.rep,.int .i64 k.seq]:=rfl;rw[e];simp only[List.forIn_cons,List.forIn_nil,aAy,ne_eq,String.reduceEq,not_false_eq_true,if_true,aAr,r0,r1,aCc,show(9999:Nat)=9998+1 from rfl,q0]
theorem RP:(match prog.underlying 32 with|some (.array _ _)|some (.struct _)=>true|_=>false)=true:=by kernel_rfl
theorem D6(k:bJ)(w:World):∀(ks:List (bJ×Int)) (i j:Nat),(Instr.findAsking 32 (.agg k.cs.toArray) (jH j ks) i).run prog w=.ok ((eT ks k).map λq=>(i+q.1,.int .i64 q.2)) w
 | [],i,j=>rfl
 |x::ks,i,j=>by
  have h1:(Op.equalIn 10000 32 (.agg k.cs.toArray) (.agg x.1.cs.toArray)).run prog w=.ok (decide (k=x.1)) w:=(TD (t:=32) (xs:=#[.int .i64 k.rep,.int .i64 k.seq]) (ys:=#[.int .i64 x.1.rep,.int .i64 x.1.seq]) (r:=decide ((⟨k.rep,k.seq⟩:bJ)=⟨x.1.rep,x.1.seq⟩))).run w;have h2:(Op.equal 32 (.agg k.cs.toArray) (.agg x.1.cs.toArray)).run prog w=.ok (decide (k=x.1)) w:=h1;have h3:=D6 k w ks (i+1) (j+1);rw[jH,Instr.findAsking];by_cases hkx:k=x.1
  ·rw[show eT (x::ks) k=some (0,x.2) from if_pos hkx];simp only[aAy,h2,aAr,decide_eq_true hkx,if_true,aCc];rfl
  ·rw[show eT (x::ks) k=(eT ks k).map λq=>(q.1+1,q.2) from if_neg hkx];simp only[aAy,h2,aAr,decide_eq_false hkx,aCb,if_false,h3];cases eT ks k with
   |none=>rfl
   |some q=>simp only[aDi];rw[show i+1+q.1=i+(q.1+1) by omega]
theorem xR(k:bJ)(w:World)(ks:List (bJ×Int)):(Instr.findKey 32 (.agg k.cs.toArray) (Bz ks).toList).run prog w=.ok ((eT ks k).map λq=>(q.1,.int .i64 q.2)) w:=by
 rw[run_findKey_eq w RP];have:=D6 k w ks 0 0;simp only[aCa] at this;exact this
def lO(ks:List (bJ×Int))(k:bJ):Int:=((eT ks k).map Prod.snd).getD 0
def iM(ks:List (bJ×Int))(k:bJ):List (bJ×Int):=match eT ks k with
 |some _=>ks
 |none=>ks++[(k,0)]
def DA(ks:List (bJ×Int))(k:bJ):Nat:=match eT ks k with
 |some q=>q.1
 |none=>ks.length
def yH(ks:List (bJ×Int))(k:bJ):List (bJ×Int):=(iM ks k).set (DA ks k) (k,lO ks k+1)
theorem Oq(ks:List (bJ×Int))(k:bJ):(iM ks k)[DA ks k]?=some (k,lO ks k):=by
 unfold iM DA lO;cases h:eT ks k with
 |none=>simp
 |some q=>obtain⟨q,v⟩:=q;exact wO h
section
variable {E:Env} {H H' R:List aL} {N:Nat} {F:Nat→Value} {o:Oper} {ρ:Operand→Value} {g:Nat} {ks:List (bJ×Int)}
theorem Y.E7{t:TypeId}{x i:Operand}{k:bJ}(ho:o.op=.lookup t x i false)(hx:ρ x=.map (some g))(hi:ρ i=.agg k.cs.toArray)(ht:prog.underlying t=some (.map 32 3))(hm:Has (QW g ks) H R):qB prog E H ρ o (.int .i64 (lO ks k)):=by
 intro u hu;obtain⟨F,h1,_⟩:=hu.has hm;have hz:∀w,(zeroValue 3).run prog w=.ok (.int .i64 0) w:=λw=>by kernel_rfl
 unfold execOp;simp only[ho,hx,hi,Instr.lookup,aAy,run_underlying ht,aAr];obtain⟨_,hb⟩:=h1;have hc:=sP k (Bz ks).isEmpty u;have hf:=xR k u ks;simp only[aEa hb,aCc,aAr,aAy,hc,hf];unfold lO;cases h:eT ks k with
 |none=>simp[hz]
 |some q=>simp
theorem Ln(a b:Int):Instr.sameBits 10000 (.agg #[.int .i64 a,.int .i64 b]) (.agg #[.int .i64 a,.int .i64 b])=true:=by simp[Instr.sameBits]
theorem S.EI{t:TypeId}{x i:Operand}{k:bJ}(ho:o.op=.mapEntry t x i)(hx:ev F x=.map (some g))(hi:ev F i=.agg k.cs.toArray)(ht:prog.underlying t=some (.map 32 3))(hr:dT (QW g ks) [QW g (iM ks k)] H H') :
  gK prog N E F H o λr H1=>r=.tuple #[.int .i64 (lO ks k),.int .i64 (DA ks k:Nat)]∧H1=H':=by
 intro a u ha hu Kw Q' hK;obtain⟨R,hhas,F0,h0⟩:=hu.xO hr;obtain⟨h1,hb⟩:=h0;have hc:=sP k false u;have hf:=xR k u ks;have hz:∀w,(zeroValue 3).run prog w=.ok (.int .i64 0) w:=λw=>by kernel_rfl
 have hrun:(execOp (ev F) o).run prog u=.ok (.value (.tuple #[.int .i64 (lO ks k),.int .i64 (DA ks k:Nat)])) { u with heap:=u.heap.setIfInBounds g (.map (Bz (iM ks k)) (iM ks k).length) }:=by
  unfold execOp;simp only[ho,hx,hi,Instr.mapEntry,aAy,run_underlying ht,aAr,aEa hb,hc,hf];cases h:eT ks k with
  |none =>
   have hpush:(Bz ks).push { key:=.agg k.cs.toArray,val:=.int .i64 0,born:=ks.length }=Bz (ks++[(k,0)]):=by
    apply Array.ext';have:=Fs 0 ks (k,0);rw[aCa] at this;simpa using this
   simp only[Option.map_none,aAy,hz,aAr,hpush,aEz _ hb,aCc];unfold iM lO DA;rw[h];simp[goInt]
  |some q =>
   obtain⟨q,v⟩:=q;have hq:=wO h;have hes:(Bz ks)[q]?=some { key:=.agg k.cs.toArray,val:=.int .i64 v,born:=q }:=by
    show(jH 0 ks).toArray[q]?=_;rw[List.getElem?_toArray,sB,hq];simp
   have hsame:(Instr.keyThatStays (.agg k.cs.toArray) (.agg k.cs.toArray)).run prog u=.ok (.agg k.cs.toArray) u:=by
    unfold Instr.keyThatStays;rw[if_pos (Ln k.rep k.seq)];rfl
   have hmod:((Bz ks).modify q λe=>{ e with key:=.agg k.cs.toArray })=Bz ks:=by
    apply Array.ext
    ·simp
    ·intro i hi1 hi2;rw[Array.getElem_modify];split
     ·rename_i hqi;subst hqi;have:=(aBv.1 hes).2;rw[this]
     ·rfl
   simp only[aDi,aAy,hes,aBe,hsame,aAr,hmod,aEz _ hb,aCc];unfold iM lO DA;rw[h];simp[goInt]
 unfold Oper.wp;rw[ha.eval,hrun];refine hK _ _ _ ⟨rfl,rfl⟩ ?_;have hlt:g<u.heap.size:=(aBv.1 hb).1;refine hu.jX hr rfl rfl rfl (by simp) (G:=λb=>b=g) (λb _ hb=>?_) λF1 k1=>?_
 ·show(u.heap.setIfInBounds g _)[b]?=_;rw[aEv (aFh hb)]
 ·refine⟨F1,⟨F1,λ_=>False,λb=>by simp,λ_ _ h=>h,⟨k1.1,?_⟩,λ_ h=>h⟩,λb hb=>.inl hb,λb _ hb=>(k1.1 b).2 hb⟩;show(u.heap.setIfInBounds g _)[g]?=_;simp[hlt]
theorem S.AN{t:TypeId}{x i v:Operand}{q:Nat}{n:Int}{k:bJ×Int}(ho:o.op=.entryStore t x i v)(hx:ev F x=.map (some g))(hi:ev F i=.int .i64 (q:Nat))(hv:ev F v=.int .i64 n)(hq:ks[q]?=some k)(hr:dT (QW g ks) [QW g (ks.set q (k.1,n))] H H') :
  gK prog N E F H o λr H1=>r=undef∧H1=H':=by
 intro a u ha hu Kw Q' hK;obtain⟨R,hhas,F0,h0⟩:=hu.xO hr;obtain⟨h1,hb⟩:=h0;have hql:=(aAd.1 hq).1;have hlen:=IB 0 ks;have hborn:∀j (hj:j<(Bz ks).size),((Bz ks)[j]'hj).born=j:=λj hj=>by
  have h2:j<(jH 0 ks).length:=by simpa using hj
  have h3:=sB 0 ks j;rw[aAa h2] at h3;have h4:(Bz ks)[j]'hj=(jH 0 ks)[j]'h2:=by simp[Bz]
  rw[h4];cases hk:ks[j]? with
  |none=>rw[hk] at h3;cases h3
  |some z=>rw[hk] at h3;injection h3 with h3;rw[h3];simp
 have hidx:(Bz ks).findIdx? (λe=>(e.born:Int) == (q:Int))=some q:=by
  rw[Array.findIdx?_eq_some_iff_getElem];refine⟨by simp[Bz];omega,?_,λj hj=>?_⟩
  ·rw[hborn];simp
  ·rw[hborn];simp;omega
 have hmod:((Bz ks).modify q λe=>{ e with val:=.int .i64 n })=Bz (ks.set q (k.1,n)):=by
  apply Array.ext';refine aCk λj=>?_;have e1:((Bz ks).modify q λe=>{ e with val:=.int .i64 n }).toList[j]?=if q=j then((Bz ks)[j]?).map (λe=>{ e with val:=.int .i64 n }) else(Bz ks)[j]?:=by
   rw[←aEe,Array.toList_modify,List.getElem?_modify];split
   ·rename_i h;subst h;simp
   ·simp
  rw[e1];show _=(jH 0 (ks.set q (k.1,n)))[j]?;have e2:(Bz ks)[j]?=(jH 0 ks)[j]?:=by simp[Bz]
  rw[e2,sB,sB,aDr];by_cases hqj:q=j
  ·subst hqj;rw[if_pos rfl,if_pos rfl,if_pos hql,hq];rfl
  ·rw[if_neg hqj,if_neg hqj]
 have hrun:(execOp (ev F) o).run prog u=.ok .skip { u with heap:=u.heap.setIfInBounds g (.map (Bz (ks.set q (k.1,n))) (ks.set q (k.1,n)).length) }:=by
  unfold execOp;simp only[ho,hx,hi,hv,Instr.entryStore,aAy,aCc,aAr,aEa hb,asInt,asIntOf,hidx,hmod,aEz _ hb,aAt]
 unfold Oper.wp;rw[ha.eval,hrun];refine hK undef _ _ ⟨rfl,rfl⟩ ?_;have hlt:g<u.heap.size:=(aBv.1 hb).1;refine hu.jX hr rfl rfl rfl (by simp) (G:=λb=>b=g) (λb _ hb=>?_) λF1 k1=>?_
 ·show(u.heap.setIfInBounds g _)[b]?=_;rw[aEv (aFh hb)]
 ·refine⟨F1,⟨F1,λ_=>False,λb=>by simp,λ_ _ h=>h,⟨k1.1,?_⟩,λ_ h=>h⟩,λb hb=>.inl hb,λb _ hb=>(k1.1 b).2 hb⟩;show(u.heap.setIfInBounds g _)[g]?=_;simp[hlt]
theorem S.Nb{t:TypeId}(ho:o.op=.makeMap t none):gK prog N E F H o λr H1=>∃g,r=.map (some g)∧H1=QW g []::H:=by
 intro a u ha hu Kw Q' hK;have hrun:(execOp (ev F) o).run prog u=.ok (.value (.map (some u.heap.size))) (u.alloc (.map #[] 0)):=by
  unfold execOp;simp only[ho,Option.map_none,run_makeMap,aAy,aAr,aCc]
 unfold Oper.wp;rw[ha.eval,hrun];refine hK _ _ _ ⟨_,rfl,rfl⟩ ?_;refine hu.grow (l:=[QW u.heap.size []]) rfl rfl rfl (by simp) (λb hb=>aDu _ _ _ hb) (F1:=λb=>b=u.heap.size) ⟨_,λ_=>False,λb=>by simp,λb _ h=>h,⟨λb=>aDl,heap_alloc_new _ _⟩,λb h=>h⟩ (λb hb=>by omega)
end
end Go.Proofs.YtmilalkjbojciaaGreat.Sep
