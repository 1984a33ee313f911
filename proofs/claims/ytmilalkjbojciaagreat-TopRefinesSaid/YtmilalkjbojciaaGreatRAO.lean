/- Part AO: what it needs. No condition. -/
import Derived.Test.YtmilalkjbojciaaGreatRAA
import Derived.Test.YtmilalkjbojciaaGreatRAH
import Derived.Test.YtmilalkjbojciaaGreatRAE
import Derived.Test.YtmilalkjbojciaaGreatRAB
import Derived.WideKeyRuns
set_option maxRecDepth 100000
set_option maxHeartbeats 8000000
open Go.Proofs.Tryz
namespace Go.Proofs.YtmilalkjbojciaaGreat.Sep
open Go.RowKit Reg
open Mem hiding Rd
abbrev Js(id:bJ)(made:Int)(A:Option Addr)(n c:Nat):Value:=.agg #[.int .i64 id.rep,.int .i64 id.seq,.int .i64 made,.slice A n c]
section
variable (E:Env) (id:bJ) (made:Int) (A:Option Addr) (n c:Nat) (l:List bH)
theorem UF(hr:Rd E fH A n c l)(hl:n≤1000000):aK prog E 217 #[.slice A n c] [] λr H'=>∃A' c',r=.returned (.slice A' n c')∧(n≤c'∧c'≤maxLen)∧H'=[own fH A' n c' l]:=by
 refine t_ func217 ntmps217 ?_;cases A with
 |none =>
  obtain⟨rfl,rfl⟩:=hr.none;repeat first|refine aE ?_|intro
  exact aR rfl aF (aB.oR fH none) ⟨none,0,rfl,⟨aAf _,aAh _⟩,rfl⟩
 |some a =>
  repeat first|refine aE ?_|intro
  rename_i A' c' h1 h2;exact jQ ⟨_,_,rfl,⟨h1,h2⟩,rfl⟩
theorem Cq(hr:Rd E fH A n c l)(hl:n≤1000000):aK prog E 162 #[Js id made A n c] [] λr H'=>∃A' c',r=.returned (Js id made A' n c')∧(n≤c'∧c'≤maxLen)∧H'=[own fH A' n c' l]:=by
 refine t_ func162 ntmps162 ?_;repeat first|refine aE ?_|intro
 refine dX (λM h1=>UF M A n c l h1 hl) ?_;rintro r H' ⟨A',c',rfl,hc,rfl⟩;repeat first|refine aE ?_|intro
 apply cI;(· exact rfl);(· exact aF);(· exact rfl);(· exact rfl);(· exact rfl);(· exact aS);(· exact rfl);rotate_left;(· exact(⟨_,_,rfl,hc,rfl⟩));(· exact aA)
theorem W8(hr:Rd E fH A n c l)(f:FuncId)(fn:Func)(hfn:prog.funcs[f]?=some fn)(hname:(fn.name == "runtime.NumGoroutine")=false)(hbody:fn.body.isNone=false)(cs:List Value)(p:bH→Bool)
  (hcall:∀M R,Sub E R M→∀x:bH,aK prog M f (.agg x.cs.toArray::cs).toArray [] λr H'=>r=.returned (.bool (p x))∧H'=[]) :
  aK prog E 309 #[.slice A n c,.func (.func f) #[] cs.toArray] [] λr H'=>r=.returned (.int .i64 (idx p l))∧H'=[]:=by
 have hn:=hr.len;have hcap:=hr.cap;refine t_ func309 ntmps309 ?_;repeat first|refine aE ?_|intro
 refine C.loop (X:=Nat) (λi=>[(0,.slice A n c),(1,.func (.func f) #[] cs.toArray),(7,.int .i64 n),(8,.int .i64 i)]) (λ_=>[]) (λi=>i≤n∧∀j y,j<i→l[j]?=some y→p y=false) (λi=>n - i) 0 aD aB.refl ⟨aAh _,λj y hj=>by omega⟩ ?_;rintro i G ⟨hi,hall⟩;by_cases hlt:i<n
 ·have hx:l[i]?=some l[i]:=aAa o_;generalize l[i]=x at hx;have hmax:=fX;repeat first|refine aE ?_|intro
  refine L.step sD (S.wB rfl rfl rfl rfl hfn hname hbody aC (λM hE=>hcall M _ hE x) ?_);rintro r H' ⟨rfl,rfl⟩;refine gk bG ?_;cases hp:p x
  ·repeat first|refine aE ?_|intro
   refine⟨i+1,aD,aB.refl,⟨by omega,λj y hj hy=>?_⟩,by omega⟩;by_cases hji:j=i
   ·subst hji;rw[hx] at hy;injection hy with hy;subst hy;exact hp
   ·exact hall j y o_ hy
  ·rw[OK hx hp hall];repeat first|refine aE ?_|intro
   exact B7
 ·obtain rfl:i=n:=o_;rw[P4 (λx hx=>by obtain⟨j,hj,rfl⟩:=aBm hx;exact hall j _ o_ (aAa hj))];repeat first|refine aE ?_|intro
  exact B7
theorem Wg(hr:Rd E fH A n c l):aK prog E 266 #[.slice A n c,.func (.func 267) #[] #[]] [] λr H'=>r=.returned (.bool (l.any (·.pG)))∧H'=[]:=by
 refine t_ func266 ntmps266 ?_;have hany:decide (0≤idx (·.pG) l)=l.any (·.pG):=by
  unfold idx;cases h:l.findIdx? (·.pG) with
  |none =>
   rw[aEp] at h;rw[aBz];simp;exact h
  |some i =>
   rw[aDj] at h;obtain⟨hi,h1,_⟩:=h;rw[aEm.2 ⟨_,aCs hi,h1⟩];exact decide_eq_true (aFo i)
 repeat first|refine aE ?_|intro
 refine cl sD sK aC (λM hE=>W8 M A n c l dB _ _ func267 q_ rfl [] (·.pG) (λE2 _ _ x=>Mr E2 x)) ?_;rintro r H' ⟨rfl,rfl⟩;repeat first|refine aE ?_|intro
 exact aR rfl aF aA (⟨by rw[hany],rfl⟩)
theorem Vi(hr:Rd E fH A n c l):aK prog E 277 #[Js id made A n c] [] λr H'=>r=.returned (.tuple #[.agg ((l[l.length - 1]?).getD El).cs.toArray,.bool (l[l.length - 1]?).isSome])∧H'=[]:=by
 have hn:=hr.len;have hcap:=hr.cap;have hmax:=fX;refine t_ func277 ntmps277 ?_;by_cases h0:n=0
 ·rw[aCo o_];dsimp only[Option.getD,Option.isSome];repeat first|refine aE ?_|intro
  exact Qv
 ·have hs:IntKind.i64.wrap ((n:Int) - 1)=((n - 1:Nat):Int):=by rw[aAq _ o_];omega
  have hx:l[n - 1]?=some l[n - 1]:=aAa o_;rw[←hn,hx];dsimp only[Option.getD,Option.isSome];generalize l[n - 1]=e at hx;repeat first|refine aE ?_|intro
  exact Qv
theorem Y6(e:bH):aK prog E 343 #[Js id made A n c,.agg e.cs.toArray] [] λr H'=>r=.returned (.agg (⟨id,e.ord,e.Ab⟩:bP).cs.toArray)∧H'=[]:=by
 refine t_ func343 ntmps343 ?_;repeat first|refine aE ?_|intro
 refine C.bL 7 (l_ [0,1,2,3,4] (g_ 5 (n_ 6 (g_ 7 .nil)))) _ q_ q_ aB.refl ?_;repeat first|refine aE ?_|intro
 refine eJ (λM=>Gw M e) ?_;repeat first|refine aE ?_|intro
 exact Iv
abbrev Ra(q:Option dK)(r:Ending):Prop:=r=.returned (.tuple #[.agg (q.getD wN).cs.toArray,.bool q.isSome])
theorem Sn(x y:bH):decide ((⟨x.ord,⟨x.bC.kind,x.bC.a,x.bC.n,⟨x.bC.ref.rep,x.bC.ref.seq⟩⟩,x.aW,x.last,x.cX,x.gone,x.back,x.cJ⟩:bH)=⟨y.ord,⟨y.bC.kind,y.bC.a,y.bC.n,⟨y.bC.ref.rep,y.bC.ref.seq⟩⟩,y.aW,y.last,y.cX,y.gone,y.back,y.cJ⟩)=decide (x=y):=rfl
theorem yJ(want:List cQ)(X:Option Addr)(nx cx:Nat)(hr:Rd E fH A n c l)(hw:Rd E eG X nx cx want)(hok:∀e∈l,e.ok)(hm:dQ made) :
  aK prog E 292 #[Js id made A n c,.slice X nx cx] [] λr H'=>Ra (next id made l want) r∧H'=[]:=by
 have hn:=hr.len;have hcap:=hr.cap;have hnw:=hw.len;have hcw:=hw.cap;have hmax:=fX;unfold dQ at hm;unfold Ra;refine t_ func292 ntmps292 ?_;repeat first|refine aE ?_|intro
 refine eV (λM=>Vi M id made A n c l) ?_;repeat ((fail_if_success (refine C.seq (x:=Code.region 2 _ _) ?_));first|refine Cx ?_|refine He ?_|intro _|refine Dr.two ?_ ?_)
 rename_i g2 g4 g6;have hq:∃q,l[l.length - 1]?=q:=⟨_,rfl⟩
 obtain⟨q,hq⟩:=hq;rw[hq];refine C.cut (X:=Unit) (λ_=>[(1,.slice X nx cx),(2,.pointer (some ⟨g2,0,none⟩)),(4,.pointer (some ⟨g4,0,none⟩)),(6,.pointer (some ⟨g6,0,none⟩)),(13,.bool (AP l).isSome)]) (λ_=>[aJ g6 92 (q.getD El).cs,aJ g4 79 wN.cs,aJ g2 90 [.int .i64 id.rep,.int .i64 id.seq,.int .i64 made,.slice A n c]]) (λ_=>True) ?_ ?_
 ·cases q with
  |none =>
   have ht:AP l=none:=by unfold AP;rw[hq]
   rw[ht];dsimp only[Option.getD,Option.isSome];repeat first|refine aE ?_|intro
   exact⟨(),aD,aA,trivial⟩
  |some e =>
   dsimp only[Option.getD,Option.isSome];repeat first|refine aE ?_|intro
   refine bK (λM=>Mr M e) ?_;cases ho:e.pG
   ·rw[Ch hq ho];dsimp only[Option.isSome];repeat first|refine aE ?_|intro
    exact⟨(),aD,aA,trivial⟩
   ·rw[FA hq ho];dsimp only[Option.isSome];repeat first|refine aE ?_|intro
    exact⟨(),aD,aA,trivial⟩
 rintro - G -;unfold next;cases htip:AP l with
 |some e =>
  obtain⟨he,ho⟩:=yZ htip;rw[hq] at he;subst he;have heok:e.ok:=hok e (aAi hq);dsimp only[Option.getD,Option.isSome];obtain⟨w,hw1⟩:∃w,IntKind.i64.wrap (e.last+1)=w:=⟨_,rfl⟩
  have hd:=(Sn (e.gV w) e).trans (QE ho);repeat first|refine aE ?_|intro
  refine rA (l_ [0,1,2,3,5] (g_ 4 (n_ 6 .nil))) ?_;repeat first|refine aE ?_|intro
  refine iO (λM=>Xe M e w heok) ?_;generalize e.gV w=x at *;rintro r H' ⟨rfl,rfl⟩;refine gd bG aA ?_;by_cases h8:e.nt<8
  ·rw[if_pos h8];rw[decide_eq_false (show ¬8≤e.nt by omega)] at hd;dsimp only[Option.getD,Option.isSome];repeat first|refine aE ?_|intro
   refine rB (l_ [0,1,3,4] (g_ 2 (n_ 5 (g_ 6 (n_ 7 .nil))))) ([aJ g6 92 e.cs,aJ g2 90 [.int .i64 id.rep,.int .i64 id.seq,.int .i64 made,.slice A n c]]) ?_;repeat first|refine aE ?_|intro
   refine eJ (λM=>Y6 M id made A n c e) ?_;repeat first|refine aE ?_|intro
   exact Qv
  ·rw[if_neg h8];rw[decide_eq_true (show 8≤e.nt by omega)] at hd;dsimp only[Option.getD,Option.isSome];repeat first|refine aE ?_|intro
   exact Qv
 |none =>
  dsimp only[Option.getD,Option.isSome];by_cases h1:nx≤n
  ·rw[Gm (.inl o_)];dsimp only[Option.getD,Option.isSome];repeat first|refine aE ?_|intro
   exact Qv
  by_cases h2:255≤made
  ·rw[Gm (.inr h2)];dsimp only[Option.getD,Option.isSome];repeat first|refine aE ?_|intro
   exact Qv
  have hx:want[n]?=some want[n]:=aAa o_;rw[←hn,Mm hx o_];dsimp only[Option.getD,Option.isSome];generalize want[n]=f at hx;repeat first|refine aE ?_|intro
  refine rB (l_ [0,1,2,3,4,5,6,7,8,9,10,11,12] (g_ 13 (n_ 14 .nil))) ([aJ g2 90 [.int .i64 id.rep,.int .i64 id.seq,.int .i64 made,.slice A n c]]) ?_;repeat first|refine aE ?_|intro
  exact Qv
end
theorem RZ(x y:cQ):decide ((⟨x.kind,x.a,x.n,⟨x.ref.rep,x.ref.seq⟩⟩:cQ)=⟨y.kind,y.a,y.n,⟨y.ref.rep,y.ref.seq⟩⟩)=decide (x=y):=rfl
theorem Oa(e:bH)(b:Bool):Ba fH e 9 (.bool b) (e.mark b):=Ba.Yu rfl sD rfl
section
variable (E:Env) (id:bJ) (made:Int) (A:Option Addr) (n c:Nat) (l:List bH) (want:List cQ) (X:Option Addr) (nx cx:Nat)
theorem KH(hr:Rd E fH A n c l)(hw:Rd E eG X nx cx want)(hl:n≤1000000) :
  aK prog E 349 #[Js id made A n c,.slice X nx cx] [] λr H'=>∃A' c',r=.returned (Js id made A' n c')∧(n≤c'∧c'≤maxLen)∧H'=[own fH A' n c' (settle want l)]:=by
 have hn:=hr.len;have hnw:=hw.len;have hcw:=hw.cap;have hmax:=fX;refine t_ func349 ntmps349 ?_;repeat first|refine aE ?_|intro
 refine dX (λM h1=>Cq M id made A n c l h1 hl) ?_;rintro r H' ⟨A',c',rfl,⟨hc1,hc2⟩,rfl⟩;repeat first|refine aE ?_|intro
 rename_i g2 g4;refine C.loop (X:=Nat) (λi=>[(1,.slice X nx cx),(2,.pointer (some ⟨g2,0,none⟩)),(4,.pointer (some ⟨g4,0,none⟩)),(5,.bool (lost want l i)),(11,.slice A' n c'),(12,.int .i64 n),(13,.int .i64 i)])
  (λi=>[aJ g2 90 [.int .i64 id.rep,.int .i64 id.seq,.int .i64 made,.slice A' n c'],aJ g4 90 [.int .i64 0,.int .i64 0,.int .i64 0,.slice none 0 0],own fH A' n c' (pW want l i)]) (λi=>i≤n) (λi=>n - i) 0 aD (by rw[H5];exact aA) (aAh _) ?_
 rintro i G hi;by_cases hlt:i<n
 ·have hx:l[i]?=some l[i]:=aAa o_;generalize l[i]=e at hx;have hst:=P6 (want:=want) hx;have hf:=Oa e (lost want l (i+1));repeat ((fail_if_success (refine C.seq (x:=Code.region 6 _ _) ?_));first|refine Cx ?_|refine He ?_|intro _|refine Dr.two ?_ ?_)
  rename_i g7;refine C.cut (X:=Unit) (λ_=>[(1,.slice X nx cx),(2,.pointer (some ⟨g2,0,none⟩)),(4,.pointer (some ⟨g4,0,none⟩)),(5,.bool (lost want l (i+1))),(6,.int .i64 i),(11,.slice A' n c'),(12,.int .i64 n),(13,.int .i64 i)])
   (λ_=>[aJ g2 90 [.int .i64 id.rep,.int .i64 id.seq,.int .i64 made,.slice A' n c'],aJ g4 90 [.int .i64 0,.int .i64 0,.int .i64 0,.slice none 0 0],own fH A' n c' (pW want l i)]) (λ_=>True) ?_ ?_
  ·clear hf;cases h1:lost want l i
   case true =>
    rw[CK hx (.inl h1)];repeat first|refine aE ?_|intro
    refine rA (l_ [0,1,2,3,4,5,6,7,8,9,10,11,12,13,14,15,16,17,18,19,20] .nil) ?_;repeat first|refine aE ?_|intro
    exact⟨(),aD,aA,trivial⟩
   cases h2:e.gone
   case true =>
    rw[CK hx (.inr (.inl h2))];repeat first|refine aE ?_|intro
    refine rA (l_ [0,1,2,3,4,5,6,7,8,9,10,11,12,13,14,15,16,17,18,19,20] .nil) ?_;repeat first|refine aE ?_|intro
    exact⟨(),aD,aA,trivial⟩
   by_cases h3:nx≤i
   ·rw[CK hx (.inr (.inr o_))];repeat first|refine aE ?_|intro
    refine rA (l_ [0,1,2,3,4,5,6,7,8,9,10,11,12,13,14,15,16,17,18,19,20] .nil) ?_;repeat first|refine aE ?_|intro
    exact⟨(),aD,aA,trivial⟩
   have hwx:want[i]?=some want[i]:=aAa o_;rw[Sj hx h1 h2 hwx];generalize want[i]=w at hwx;rw[←RZ];repeat first|refine aE ?_|intro
   refine rA (l_ [0,1,2,3,4,5,6,7,8,9,10,11,12,13,14,15,16,17,18,19,20] .nil) ?_;repeat first|refine aE ?_|intro
   exact⟨(),aD,aA,trivial⟩
  rintro - G -;have hss:=LN (want:=want) hx;generalize hb:lost want l (i+1)=b at *;repeat first|refine aE ?_|intro
  exact⟨i+1,by rw[hb];exact aD,by rw[←hss];exact aA,by omega,by omega⟩
 ·obtain rfl:i=n:=o_;rw[Mj hn];repeat first|refine aE ?_|intro
  apply cI;(· exact rfl);(· exact aF);(· exact rfl);(· exact rfl);(· exact rfl);(· exact aS);(· exact rfl);rotate_left;(· exact(⟨_,_,rfl,⟨hc1,hc2⟩,rfl⟩));(· exact aA)
end
theorem J4(x y:bJ):decide ((⟨x.rep,x.seq⟩:bJ)=⟨y.rep,y.seq⟩)=decide (x=y):=rfl
theorem Ro(e:bH):Ba fH e 8 (.bool true) e.qJ:=Ba.Yu rfl sD rfl
def BJ(id:bJ)(t:Option (Int×List bH))(d:Int×List bH):Ending→List aL→Prop:=λr H' =>
 ∃A' n' c',r=.returned (.tuple #[Js id (t.getD d).1 A' n' c',.bool t.isSome])∧n'=(t.getD d).2.length∧(n'≤c'∧c'≤maxLen)∧H'=[own fH A' n' c' (t.getD d).2]
def BC(id:bJ)(made:Int)(a:Option (List bH))(l:List bH):Ending→List aL→Prop:=λr H' =>
 ∃A' n' c',r=.returned (.tuple #[Js id made A' n' c',.bool a.isSome])∧n'=(a.getD l).length∧(n'≤c'∧c'≤maxLen)∧H'=[own fH A' n' c' (a.getD l)]
theorem Yn(E:Env)(x:bH)(g:Nat)(o:Int)(hk:qP E ⟨g,2,none⟩ (.int .i64 o)):aK prog E 347 #[.agg x.cs.toArray,.pointer (some ⟨g,0,none⟩)] [] λr H'=>r=.returned (.bool (decide (x.ord=o)))∧H'=[]:=by
 refine t_ func347 ntmps347 ?_;repeat first|refine aE ?_|intro
 exact B7
section
variable (E:Env) (id:bJ) (made:Int) (A:Option Addr) (n c:Nat) (l:List bH) (want:List cQ) (X:Option Addr) (nx cx:Nat)
theorem YM(now:Int)(hr:Rd E fH A n c l)(hw:Rd E eG X nx cx want)(hl:n≤1000000)(hok:∀e∈l,e.ok)(hm:dQ made) :
  aK prog E 306 #[Js id made A n c,.slice X nx cx,.int .i64 now] [] (BJ id (pK id made l want now) (made,l)):=by
 have hn:=hr.len;have hmax:=fX;have hm2:=hm;unfold dQ at hm2;unfold BJ;refine t_ func306 ntmps306 ?_;repeat first|refine aE ?_|intro
 refine DY (λM h1 h2=>yJ M id made A n c l want X nx cx h1 h2 hok hm) ?_;repeat first|refine aE ?_|intro
 refine dX (λM h1=>Cq M id made A n c l h1 hl) ?_;rintro r H' ⟨A',c',rfl,⟨hc1,hc2⟩,rfl⟩;refine gk bG ?_;unfold pK;cases hq:next id made l want with
 |none =>
  dsimp only[Option.getD,Option.isSome];repeat first|refine aE ?_|intro
  apply gS;(· exact rfl);(· exact aF);(· exact rfl);(· exact rfl);(· exact rfl);(· exact aS);(· exact rfl);(· exact aF);rotate_left;(· exact(⟨_,_,_,rfl,hn,⟨hc1,hc2⟩,rfl⟩));(· exact aA)
 |some q =>
  dsimp only[Option.getD,Option.isSome];repeat first|refine aE ?_|intro
  refine eV (λM=>Vi M id made A' n c' l) ?_;repeat ((fail_if_success (refine C.seq (x:=Code.region 6 _ _) ?_));first|refine Cx ?_|refine He ?_|intro _|refine Dr.two ?_ ?_)
  rename_i g3 g6 g8 g10;have hz:∃z,l[l.length - 1]?=z:=⟨_,rfl⟩
  obtain⟨z,hz⟩:=hz;rw[hz];refine C.cut (X:=Unit) (λ_=>[(2,.int .i64 now),(3,.pointer (some ⟨g3,0,none⟩)),(6,.pointer (some ⟨g6,0,none⟩)),(8,.pointer (some ⟨g8,0,none⟩)),(10,.pointer (some ⟨g10,0,none⟩)),(32,.bool (AP l).isSome)]) (λ_=>[aJ g10 92 (z.getD El).cs,aJ g8 79 q.cs,aJ g6 90 [.int .i64 0,.int .i64 0,.int .i64 0,.slice none 0 0],aJ g3 90 [.int .i64 id.rep,.int .i64 id.seq,.int .i64 made,.slice A' n c'],own fH A' n c' l]) (λ_=>True) ?_ ?_
  ·cases z with
   |none =>
    have ht:AP l=none:=by unfold AP;rw[hz]
    rw[ht];dsimp only[Option.getD,Option.isSome];repeat first|refine aE ?_|intro
    exact⟨(),aD,aA,trivial⟩
   |some e =>
    dsimp only[Option.getD,Option.isSome];repeat first|refine aE ?_|intro
    refine bK (λM=>Mr M e) ?_;cases ho:e.pG
    ·rw[Ch hz ho];dsimp only[Option.isSome];repeat first|refine aE ?_|intro
     exact⟨(),aD,aA,trivial⟩
    ·rw[FA hz ho];dsimp only[Option.isSome];repeat first|refine aE ?_|intro
     exact⟨(),aD,aA,trivial⟩
  rintro - G -;cases htip:AP l with
  |some e =>
   obtain⟨he,ho⟩:=yZ htip;rw[hz] at he;subst he;have heok:e.ok:=hok e (aAi hz);have hlt:=(aAd.1 hz).1;have hs:IntKind.i64.wrap ((n:Int) - 1)=((n - 1:Nat):Int):=by rw[aAq _ o_];omega
   rw[←hn] at hz;rw[←hn];dsimp only[Option.getD,Option.isSome];repeat first|refine aE ?_|intro
   refine C.bL 10 (l_ [0,1,2,3,4,5,6,7] (g_ 8 (n_ 9 (g_ 10 .nil)))) _ q_ q_ aB.refl ?_;repeat first|refine aE ?_|intro
   refine iO (λM=>Xe M e now heok) ?_;generalize e.gV now=x;rintro r H' ⟨rfl,rfl⟩;repeat first|refine aE ?_|intro
   apply gS;(· exact rfl);(· exact aF);(· exact rfl);(· exact rfl);(· exact rfl);(· exact aS);(· exact rfl);(· exact aF);rotate_left;(· exact(⟨_,_,_,rfl,by simp[hn],⟨hc1,hc2⟩,rfl⟩));(· exact aA)
  |none =>
   unfold next at hq;rw[htip] at hq;obtain⟨hlt,_⟩:=Bv hq;dsimp only[Option.getD,Option.isSome];repeat first|refine aE ?_|intro
   refine L.fQ sD (S.cB (T:=fH) (e:=(rQ q now)) rfl rfl rfl rfl sD) ?_;rintro _ _ ⟨_,rfl,rfl⟩;repeat first|refine aE ?_|intro
   rename_i h1 h2;apply gS;(· exact rfl);(· exact aF);(· exact rfl);(· exact rfl);(· exact rfl);(· exact aS);(· exact rfl);(· exact aF);rotate_left;(· exact(⟨_,_,_,rfl,by simp[hn],⟨h1,h2⟩,rfl⟩));(· exact aA)
theorem Xi(k:bP)(hr:Rd E fH A n c l)(hl:n≤1000000):aK prog E 307 #[Js id made A n c,.agg k.cs.toArray] [] (BC id made (cX id l k) l):=by
 have hn:=hr.len;have hmax:=fX;unfold BC;refine t_ func307 ntmps307 ?_;repeat first|refine aE ?_|intro
 refine dX (λM h1=>Cq M id made A n c l h1 hl) ?_;rintro r H' ⟨A',c',rfl,⟨hc1,hc2⟩,rfl⟩;repeat first|refine aE ?_|intro
 refine cl sD sK aC (λM hE=>W8 M A' n c' l dB _ _ func347 q_ rfl [_] (λe=>decide (e.ord=k.ord)) (λE2 R2 hE2 x=>Yn E2 x _ k.ord ((qP.aJ hE aS rfl).sub hE2))) ?_;rintro r H' ⟨rfl,rfl⟩;refine gk bG ?_;unfold idx;by_cases hid:k.id=id
 case neg =>
  rw[rN (.inl hid)];have hd:(!decide ((⟨k.id.rep,k.id.seq⟩:bJ)=⟨id.rep,id.seq⟩))=true:=by rw[J4,decide_eq_false hid];rfl
  dsimp only[Option.getD,Option.isSome];repeat first|refine aE ?_|intro
  apply gS;(· exact rfl);(· exact aF);(· exact rfl);(· exact rfl);(· exact rfl);(· exact aS);(· exact rfl);(· exact aF);rotate_left;(· exact(⟨_,_,_,rfl,hn,⟨hc1,hc2⟩,rfl⟩));(· exact aA)
 have hd:(!decide ((⟨k.id.rep,k.id.seq⟩:bJ)=⟨id.rep,id.seq⟩))=false:=by rw[J4,decide_eq_true hid];rfl
 cases hf:l.findIdx? (λe=>decide (e.ord=k.ord)) with
 |none =>
  rw[rN (.inr hf)];dsimp only[Option.getD,Option.isSome];repeat first|refine aE ?_|intro
  apply gS;(· exact rfl);(· exact aF);(· exact rfl);(· exact rfl);(· exact rfl);(· exact aS);(· exact rfl);(· exact aF);rotate_left;(· exact(⟨_,_,_,rfl,hn,⟨hc1,hc2⟩,rfl⟩));(· exact aA)
 |some i =>
  obtain⟨e,he,_⟩:=KI hf;have hi:=(aAd.1 he).1;have hak:=HP hid hf he;have hset:=Ro e;have hs:IntKind.i64.wrap ((n:Int) - 1)=((n - 1:Nat):Int):=by rw[aAq _ o_];omega
  cases hu:k.cD
  ·have h2:(!k.cD)=true:=by rw[hu];rfl
   cases ha:e.cX
   ·have h3:(!e.cX)=true:=by rw[ha];rfl
    rw[hak.trans (show _=some (l.set i e.qJ) by rw[hu,ha];rfl)];dsimp only[Option.getD,Option.isSome];repeat first|refine aE ?_|intro
    apply gS;(· exact rfl);(· exact aF);(· exact rfl);(· exact rfl);(· exact rfl);(· exact aS);(· exact rfl);(· exact aF);rotate_left;(· exact(⟨_,_,_,rfl,by simp[hn],⟨hc1,hc2⟩,rfl⟩));(· exact aA)
   ·have h3:(!e.cX)=false:=by rw[ha];rfl
    rw[hak.trans (show _=none by rw[hu,ha];rfl)];dsimp only[Option.getD,Option.isSome];repeat first|refine aE ?_|intro
    apply gS;(· exact rfl);(· exact aF);(· exact rfl);(· exact rfl);(· exact rfl);(· exact aS);(· exact rfl);(· exact aF);rotate_left;(· exact(⟨_,_,_,rfl,hn,⟨hc1,hc2⟩,rfl⟩));(· exact aA)
  ·have h2:(!k.cD)=false:=by rw[hu];rfl
   rw[hu] at hak;dsimp only;repeat first|refine aE ?_|intro
   cases hun:e.Ab
   ·rw[hak.trans (show _=none by rw[hun];rfl)];dsimp only[Option.getD,Option.isSome];refine bW (λM=>Gw M e) ?_;rw[hun];rintro r H' ⟨rfl,rfl⟩;repeat first|refine aE ?_|intro
    apply gS;(· exact rfl);(· exact aF);(· exact rfl);(· exact rfl);(· exact rfl);(· exact aS);(· exact rfl);(· exact aF);rotate_left;(· exact(⟨_,_,_,rfl,hn,⟨hc1,hc2⟩,rfl⟩));(· exact aA)
   by_cases hb:1≤e.back
   case neg =>
    rw[hak.trans (show _=none by rw[hun,decide_eq_false hb];rfl)];dsimp only[Option.getD,Option.isSome];refine bW (λM=>Gw M e) ?_;rw[hun];rintro r H' ⟨rfl,rfl⟩;repeat first|refine aE ?_|intro
    apply gS;(· exact rfl);(· exact aF);(· exact rfl);(· exact rfl);(· exact rfl);(· exact aS);(· exact rfl);(· exact aF);rotate_left;(· exact(⟨_,_,_,rfl,hn,⟨hc1,hc2⟩,rfl⟩));(· exact aA)
   by_cases hlast:i+1=l.length
   ·rw[hak.trans (show _=some (l.take i) by rw[hun,decide_eq_true hb,decide_eq_true hlast];rfl)];dsimp only[Option.getD,Option.isSome];refine bW (λM=>Gw M e) ?_;rw[hun];rintro r H' ⟨rfl,rfl⟩;refine gk bG ?_;repeat ((fail_if_success (refine C.seq (x:=Code.region 11 _ _) ?_));first|refine Cx ?_|refine He ?_|intro _|refine Dr.two ?_ ?_)
    refine C.conv (aB.FF (T:=fH) (A:=A') (n:=n) (c:=c') (l:=l) (k:=i) o_ dH) ?_;repeat first|refine aE ?_|intro
    apply gS;(· exact rfl);(· exact aF);(· exact rfl);(· exact rfl);(· exact rfl);(· exact aS);(· exact rfl);(· exact aF);rotate_left;(· exact(⟨_,_,_,rfl,by rw[aAg];omega,⟨by omega,hc2⟩,rfl⟩));(· exact aA)
   ·rw[hak.trans (show _=none by rw[hun,decide_eq_true hb,decide_eq_false hlast];rfl)];dsimp only[Option.getD,Option.isSome];refine bW (λM=>Gw M e) ?_;rw[hun];rintro r H' ⟨rfl,rfl⟩;repeat first|refine aE ?_|intro
    apply gS;(· exact rfl);(· exact aF);(· exact rfl);(· exact rfl);(· exact rfl);(· exact aS);(· exact rfl);(· exact aF);rotate_left;(· exact(⟨_,_,_,rfl,hn,⟨hc1,hc2⟩,rfl⟩));(· exact aA)
theorem VW(hr:Rd E fH A n c l)(hw:Rd E eG X nx cx want):aK prog E 206 #[Js id made A n c,.slice X nx cx] [] λr H'=>r=.returned (.bool (quiet l want))∧H'=[]:=by
 have hn:=hr.len;have hnw:=hw.len;have hcap:=hr.cap;have hcw:=hw.cap;have hmax:=fX;unfold quiet;refine t_ func206 ntmps206 ?_;rw[←hn,←hnw];by_cases h:n=nx
 ·rw[decide_eq_true h];have hall:(l.all λe => !e.pG) = !(l.any (·.pG)):=by simp[List.not_any_eq_all_not]
  rw[hall];repeat first|refine aE ?_|intro
  refine eV (λM=>Wg M A n c l) ?_;repeat first|refine aE ?_|intro
  exact B7
 ·rw[decide_eq_false h];repeat first|refine aE ?_|intro
  exact B7
theorem V6(g:fU)(now:Int)(hr:Rd E fH A n c l)(hw:Rd E eG X nx cx want)(hok:∀e∈l,e.ok)(hm:dQ made) :
  aK prog E 291 #[Js id made A n c,.slice X nx cx,.agg g.cs.toArray,.int .i64 now] [] λr H'=>r=.returned (.bool (Ej id made l want g now))∧H'=[]:=by
 unfold Ej;refine t_ func291 ntmps291 ?_;repeat first|refine aE ?_|intro
 refine C1 (λM h1 h2=>yJ M id made A n c l want X nx cx h1 h2 hok hm) ?_;generalize next id made l want=q;rintro r H' ⟨rfl,rfl⟩;repeat first|refine aE ?_|intro
 refine eV (λM=>Vi M id made A n c l) ?_;have hz:∃z,l[l.length - 1]?=z:=⟨_,rfl⟩
 obtain⟨z,hz⟩:=hz;rw[hz];generalize q.isSome=b;cases z with
 |none =>
  have ht:AP l=none:=by unfold AP;rw[hz]
  rw[ht];dsimp only[Option.getD,Option.isSome];cases b;all_goals
   repeat first|refine aE ?_|intro
   exact B7
 |some e =>
  dsimp only[Option.getD,Option.isSome];repeat first|refine aE ?_|intro
  refine bK (λM=>Mr M e) ?_;cases ho:e.pG
  ·rw[Ch hz ho];dsimp only;cases b;all_goals
    repeat first|refine aE ?_|intro
    exact B7
  ·rw[FA hz ho];dsimp only;cases b
   ·repeat first|refine aE ?_|intro
    exact B7
   ·repeat first|refine aE ?_|intro
    refine bK (λM=>VZ M e g now) ?_;repeat first|refine aE ?_|intro
    exact B7
end
structure fG where
 id:bJ
 made:Int
 A:Option Addr
 n:Nat
 c:Nat
 l:List bH
 X:Option Addr
 nx:Nat
 cx:Nat
 w:List cQ
abbrev fG.cs(x:fG):List Value:=[.int .i64 x.id.rep,.int .i64 x.id.seq,.int .i64 x.made,.slice x.A x.n x.c,.slice x.X x.nx x.cx]
def eD:Ty fG where
 val x:=.agg x.cs.toArray
 size:=5
 bytes:=72
 tid:=242
 zero:=.agg #[.int .i64 0,.int .i64 0,.int .i64 0,.slice none 0 0,.slice none 0 0]
 hlen _:=rfl
 lJ a u h:=by simp[Value.cells] at h;rcases h with rfl|rfl|rfl|rfl|rfl<;>rfl
 gL:=sD
 hzero:=rfl
 fW:=q_
 nR:=.inl ⟨q_,λ_=>⟨_,rfl⟩⟩
instance WT:lL eD 72:=⟨rfl⟩
structure Qc where
 id:bJ
 made:Int
 A:Option Addr
 n:Nat
 c:Nat
 l:List bH
abbrev Qc.cs(x:Qc):List Value:=[.int .i64 x.id.rep,.int .i64 x.id.seq,.int .i64 x.made,.slice x.A x.n x.c]
def pZ:Ty Qc where
 val x:=.agg x.cs.toArray
 size:=4
 bytes:=48
 tid:=90
 zero:=.agg #[.int .i64 0,.int .i64 0,.int .i64 0,.slice none 0 0]
 hlen _:=rfl
 lJ a u h:=by simp[Value.cells] at h;rcases h with rfl|rfl|rfl|rfl<;>rfl
 gL:=sD
 hzero:=rfl
 fW:=q_
 nR:=.inl ⟨q_,λ_=>⟨_,rfl⟩⟩
instance XD:lL pZ 48:=⟨rfl⟩
theorem NK:Rec prog 242 [.int .i64 0,.int .i64 0,.int .i64 0,.slice none 0 0,.slice none 0 0] [(0,4),(4,1)]:=⟨q_,q_⟩
instance Tc:cL 242 [.int .i64 0,.int .i64 0,.int .i64 0,.slice none 0 0,.slice none 0 0] [(0,4),(4,1)]:=⟨NK⟩
theorem IA:Rec prog 310 [.bool false,.int .i64 0,.slice none 0 0] [(0,1),(1,1),(2,1)]:=⟨q_,q_⟩
instance Qs:cL 310 [.bool false,.int .i64 0,.slice none 0 0] [(0,1),(1,1),(2,1)]:=⟨IA⟩
abbrev gJ(x:fG):aL:=own fH x.A x.n x.c x.l
abbrev iD(x:fG):aL:=own eG x.X x.nx x.cx x.w
abbrev lg(g:Nat)(B:Option Addr)(n d:Nat)(r:Int):aL:=aJ g 310 [.bool true,.int .i64 r,.slice B n d]
abbrev vM(g:Nat)(B:Option Addr)(n d:Nat)(r:Int)(ls:List fG):List aL:=[lg g B n d r,own eD B n d ls,aO gJ ls,aO iD ls]
def fG.s(x:fG):dS:=⟨x.made,x.l,x.w⟩
structure fG.ok(r:Int)(i:Nat)(e:fG):Prop where
 id:e.id=⟨r,((i+1:Nat):Int)⟩
 n:e.n=e.l.length
 c:e.n≤e.c∧e.c≤maxLen
 nx:e.nx=e.w.length
 cx:e.nx≤e.cx∧e.cx≤maxLen
 s:e.s.ok
def EE(r:Int)(ls:List fG):Prop:=∀(i:Nat) (e:fG),ls[i]?=some e→e.ok r i
theorem EE.set{r:Int}{ls:List fG}(h:EE r ls){i:Nat}{e:fG}(he:e.ok r i):EE r (ls.set i e):=by
 intro j x hx;rw[aDr] at hx;split at hx
 ·rename_i hij;subst hij;split at hx
  ·injection hx with hx;subst hx;exact he
  ·cases hx
 ·exact h j x hx
theorem EE.push{r:Int}{ls:List fG}(h:EE r ls){e:fG}(he:e.ok r ls.length):EE r (ls++[e]):=by
 intro j x hx;by_cases hj:j<ls.length
 ·rw[aBp hj] at hx;exact h j x hx
 ·rw[aBc o_] at hx;have h0:j - ls.length=0:=by
   have:=(aAd.1 hx).1;simp at this;omega
  rw[h0] at hx;injection hx with hx
  subst hx;rw[show j=ls.length by omega];exact he
theorem dS.Kk:(⟨0,[],[]⟩:dS).ok:=⟨λ_ h=>(aAk h).elim,λ_ h=>(aAk h).elim,aCd _,by decide,aCd _,by decide⟩
section
variable (E:Env) (g:Nat) (B:Option Addr) (n d:Nat) (r:Int) (ls:List fG)
theorem Xl:aK prog E 264 #[.int .i64 r] [] λe H'=>∃g',e=.returned (.pointer (some ⟨g',0,none⟩))∧H'=[lg g' none 0 0 r]:=by
 refine t_ func264 ntmps264 ?_;repeat first|refine cY ?_|intro
 exact jQ ⟨_,rfl,rfl⟩
theorem u6(s:Int):aK prog E 348 #[.pointer (some ⟨g,0,none⟩),.int .i64 s] [lg g B n d r] λe H'=>e=.returned (.agg #[.int .i64 r,.int .i64 s])∧H'=[lg g B n d r]:=by
 refine t_ func348 ntmps348 ?_;repeat first|refine cY ?_|intro
 exact Iv
def OL(r:Int)(n:Nat)(a:bJ):Prop:=a.rep=r∧1≤a.seq∧a.seq≤n
theorem JR(a:bJ)(hn:n≤100000)(h:¬OL r n a):aK prog E 305 #[.pointer (some ⟨g,0,none⟩),.agg a.cs.toArray] [lg g B n d r] λe H'=>e=.returned (.pointer none)∧H'=[lg g B n d r]:=by
 have hmax:=fX;unfold OL at h;refine t_ func305 ntmps305 ?_;by_cases h1:a.rep=r
 ·by_cases h2:a.seq<1
  ·repeat first|refine cY ?_|intro
   refine rA (l_ [0,1,2,3,4,5,6,7,8,9,10,11,12,13,14,15,16,17,18,19,20,21,22,23,24,25,26,27,28,29,30,31,32] .nil) ?_;repeat first|refine cY ?_|intro
   exact B7
  ·have h3:(n:Int)<a.seq:=o_;repeat first|refine cY ?_|intro
   refine rA (l_ [0,1,2,3,4,5,6,7,8,9,10,11,12,13,14,15,16,17,18,19,20,21,22,23,24,25,26,27,28,29,30,31,32] .nil) ?_;repeat first|refine cY ?_|intro
   exact B7
 ·repeat first|refine cY ?_|intro
  refine rA (l_ [0,1,2,3,4,5,6,7,8,9,10,11,12,13,14,15,16,17,18,19,20,21,22,23,24,25,26,27,28,29,30,31,32] .nil) ?_;repeat first|refine cY ?_|intro
  exact B7
theorem uJ(i:Nat)(hn:n≤100000)(hi:i<n){e:fG}(he:ls[i]?=some e):aK prog E 305 #[.pointer (some ⟨g,0,none⟩),.agg #[.int .i64 r,.int .i64 ((i+1:Nat):Int)]] [lg g B n d r,own eD B n d ls] λe H'=>e=.returned (.pointer (some ((ad B).add (i*eD.size))))∧H'=[lg g B n d r,own eD B n d ls]:=by
 have hmax:=fX;have hs:IntKind.i64.wrap (((i+1:Nat):Int) - 1)=((i:Nat):Int):=by rw[aAq _ o_];omega
 refine t_ func305 ntmps305 ?_;repeat first|refine cY ?_|intro
 refine rA (l_ [0,1,2,3,4,5,6,7,8,9,10,11,12,13,14,15,16,17,18,19,20,21,22,23,24,25,26,27,28,29,30,31,32] .nil) ?_;repeat first|refine cY ?_|intro
 refine rA (l_ [0,1,2,3,4,5,6,7,8] .nil) ?_;repeat first|refine cY ?_|intro
 exact B7
theorem Kf(A:Option Addr)(n c:Nat)(l:List cQ)(hr:Rd E eG A n c l)(hl:n≤100000):aK prog E 232 #[.slice A n c] [] λr H'=>∃A' c',r=.returned (.slice A' n c')∧(n≤c'∧c'≤maxLen)∧H'=[own eG A' n c' l]:=by
 refine t_ func232 ntmps232 ?_;cases A with
 |none =>
  obtain⟨rfl,rfl⟩:=hr.none;repeat first|refine cY ?_|intro
  exact aR rfl aF (aB.nil eG) ⟨_,_,rfl,⟨aAf _,aAh _⟩,rfl⟩
 |some a =>
  repeat first|refine cY ?_|intro
  exact aR rfl aF aA (⟨_,_,rfl,⟨by assumption,by assumption⟩,rfl⟩)
end
def nW:Nat→List bP→List MapEntry
 |_,[]=>[]
 |i,k::ks=>{ key:=.agg k.cs.toArray,val:=.bool true,born:=i }::nW (i+1) ks
abbrev SR(ks:List bP):Array MapEntry:=(nW 0 ks).toArray
theorem FQ(i:Nat)(ks:List bP)(k:bP):nW i ks++[{ key:=.agg k.cs.toArray,val:=.bool true,born:=i+ks.length }]=nW i (ks++[k]):=by
 induction ks generalizing i with
 |nil=>rfl
 |cons x ks ih =>
  have:=ih (i+1);rw[aCj,nW,nW,aCj,←this,aAs,show i+1+ks.length=i+(ks.length+1) by omega]
def Dq(m:Option Nat)(ks:List bP):aL where
 holds F w:=match m with
  |none=>ks=[]∧∀b,¬F b
  |some g=>(∀b,F b↔b=g)∧w.heap[g]?=some (.map (SR ks) ks.length)
 loc:=by
  intro F w w' h hk;cases m with
  |none=>exact h
  |some g=>exact⟨h.1,(hk _ ((h.1 _).2 rfl)).trans h.2⟩
 lt:=by
  intro F w b h hb;cases m with
  |none=>exact absurd hb (h.2 b)
  |some g=>rw[(h.1 _).1 hb];exact(aBv.1 h.2).1
section
variable {E:Env} {H H' R:List aL} {N:Nat} {F:Nat→Value} {o:Oper} {ρ:Operand→Value} {m:Option Nat} {ks:List bP}
theorem aB.l6:aB E H (Dq none []::H):=λw hw =>
 hw.conv λF h=>⟨F,⟨λ_=>False,F,λb=>by simp,λb h=>h.elim,⟨rfl,λ_ h=>h⟩,h⟩,λ_ h=>h⟩
theorem lY(k:bP)(em:Bool)(w:World):(Instr.checkKey em 10000 75 (.agg k.cs.toArray)).run prog w=.ok () w:=by
 have hu:=underlying75;have hv:=underlying32;have hi:=underlying3;have hb:=underlying4;rw[show(10000:Nat)=9999+1 from rfl,Instr.checkKey];simp only[aAy,run_underlying hu,aAr];rw[←Array.forIn_toList];obtain⟨ti,hti,_,hts,_⟩:=fN.jA;have p0:(part 32 k.cs.toArray 0).run prog w=.ok (.agg #[.int .i64 k.id.rep,.int .i64 k.id.seq]) w:=by
  have hti':prog.info? 32=some ti:=hti;have hts':ti.size=2:=hts;simp[part,isAgg,sizeOf,typeInfo,run_underlying hv,hti',hts',bP.cs]
 have p1:(part 3 k.cs.toArray 2).run prog w=.ok (.int .i64 k.ord) w:=by simp[part,isAgg,run_underlying hi,bP.cs]
 have p2:(part 4 k.cs.toArray 3).run prog w=.ok (.bool k.cD) w:=by simp[part,isAgg,run_underlying hb,bP.cs]
 have q0:∀(x:Int) n,(Instr.checkKey em (n+1) 3 (.int .i64 x)).run prog w=.ok () w:=λx n=>by simp[Instr.checkKey,run_underlying hi]
 have q1:∀(x:Bool) n,(Instr.checkKey em (n+1) 4 (.bool x)).run prog w=.ok () w:=λx n=>by simp[Instr.checkKey,run_underlying hb]
 have r0:(part 3 #[.int .i64 k.id.rep,.int .i64 k.id.seq] 0).run prog w=.ok (.int .i64 k.id.rep) w:=by simp[part,isAgg,run_underlying hi]
 have r1:(part 3 #[.int .i64 k.id.rep,.int .i64 k.id.seq] 1).run prog w=.ok (.int .i64 k.id.seq) w:=by simp[part,isAgg,run_underlying hi]
 have c0:(Instr.checkKey em 9999 32 (.agg #[.int .i64 k.id.rep,.int .i64 k.id.seq])).run prog w=.ok () w:=by
  rw[show(9999:Nat)=9998+1 from rfl,Instr.checkKey];simp only[aAy,run_underlying hv,aAr];rw[←Array.forIn_toList];simp only[List.forIn_cons,List.forIn_nil,aAy,ne_eq,String.reduceEq,not_false_eq_true,if_true,aAr,r0,r1,aCc,show(9998:Nat)=9997+1 from rfl,q0]
 have q2:=q0 k.ord 9998;have q3:=q1 k.cD 9998;simp only[List.forIn_cons,List.forIn_nil,aAy,ne_eq,String.reduceEq,not_false_eq_true,if_true,aAr,p0,p1,p2,c0,aCc,q2,q3]
theorem B8:(match prog.underlying 75 with|some (.array _ _)|some (.struct _)=>true|_=>false)=true:=q_
theorem Bn(k:bP)(w:World):∀(ks:List bP) (i:Nat) (j:Nat),∃r,(Instr.findAsking 75 (.agg k.cs.toArray) (nW j ks) i).run prog w=.ok r w∧(k∈ks→∃q,r=some (q,.bool true))∧(k∉ks→r=none)
 | [],i,j=>⟨none,rfl,λh=>(aAk h).elim,λ_=>rfl⟩
 |x::ks,i,j=>by
  have h1:(Op.equalIn 10000 75 (.agg k.cs.toArray) (.agg x.cs.toArray)).run prog w=.ok (decide (k=x)) w:=(TD (t:=75) (xs:=#[.int .i64 k.id.rep,.int .i64 k.id.seq,.int .i64 k.ord,.bool k.cD]) (ys:=#[.int .i64 x.id.rep,.int .i64 x.id.seq,.int .i64 x.ord,.bool x.cD]) (r:=decide ((⟨⟨k.id.rep,k.id.seq⟩,k.ord,k.cD⟩:bP)=⟨⟨x.id.rep,x.id.seq⟩,x.ord,x.cD⟩))).run w;have h2:(Op.equal 75 (.agg k.cs.toArray) (.agg x.cs.toArray)).run prog w=.ok (decide (k=x)) w:=h1;obtain⟨r,h3,h4,h5⟩:=Bn k w ks (i+1) (j+1);by_cases hkx:k=x
  ·refine⟨some (i,.bool true),?_,λ_=>⟨_,rfl⟩,λh=>absurd (by rw[hkx];exact aBo ..) h⟩;rw[nW,Instr.findAsking];simp only[aAy,h2,aAr,decide_eq_true hkx,if_true,aCc]
  ·refine⟨r,?_,λh=>h4 (by rcases aEj.1 h with h|h;exact absurd h hkx;exact h),λh=>h5 λh'=>h (aBl _ h')⟩;rw[nW,Instr.findAsking];simp only[aAy,h2,aAr,decide_eq_false hkx,aCb,if_false,h3]
theorem Y.Qq{t:TypeId}{x i:Operand}{k:bP}(ho:o.op=.lookup t x i false)(hx:ρ x=.map m)(hi:ρ i=.agg k.cs.toArray)(ht:prog.underlying t=some (.map 75 4))(hm:Has (Dq m ks) H R):qB prog E H ρ o (.bool (decide (k∈ks))):=by
 intro u hu;obtain⟨F,h1,_⟩:=hu.has hm;have hz:∀w,(zeroValue 4).run prog w=.ok (.bool false) w:=λw=>q_;unfold execOp;simp only[ho,hx,hi,Instr.lookup,aAy,run_underlying ht,aAr];cases m with
 |none =>
  obtain⟨rfl,_⟩:=h1;have hc:=lY k (#[]:Array MapEntry).isEmpty u;have hf:(Instr.findKey 75 (.agg k.cs.toArray) (#[]:Array MapEntry).toList).run prog u=.ok none u:=by rw[run_findKey_eq u B8];rfl
  simp only[aCc,aAr,aAy,hc,hf,hz];simp
 |some g =>
  obtain⟨_,hb⟩:=h1;have hc:=lY k (SR ks).isEmpty u;obtain⟨r,hr,hyes,hno⟩:=Bn k u ks 0 0;have hf:(Instr.findKey 75 (.agg k.cs.toArray) (SR ks).toList).run prog u=.ok r u:=by rw[run_findKey_eq u B8];exact hr
  simp only[aEa hb,aCc,aAr,aAy,hc,hf];by_cases hk:k∈ks
  ·obtain⟨q,rfl⟩:=hyes hk;simp[hk]
  ·rw[hno hk];simp[hk,hz]
theorem S.H8{t:TypeId}{x i v:Operand}{g:Nat}{k:bP}(ho:o.op=.mapUpdate t x i v)(hx:ev F x=.map (some g))(hi:ev F i=.agg k.cs.toArray)(hv:ev F v=.bool true)(ht:prog.underlying t=some (.map 75 4))(hk:k∉ks){ks':List bP}(hl:ks++[k]=ks')(hr:dT (Dq (some g) ks) [Dq (some g) ks'] H H') :
  gK prog N E F H o λr H1=>r=undef∧H1=H':=by
 subst hl;intro a u ha hu Kw Q' hK;obtain⟨R,hhas,F0,h0⟩:=hu.xO hr;obtain⟨h1,hb⟩:=h0;have hc:=lY k false u;obtain⟨r,hr2,hyes,hno⟩:=Bn k u ks 0 0;have hf:(Instr.findKey 75 (.agg k.cs.toArray) (SR ks).toList).run prog u=.ok none u:=by rw[run_findKey_eq u B8,←hno hk];exact hr2
 have hpush:(SR ks).push { key:=.agg k.cs.toArray,val:=.bool true,born:=ks.length }=SR (ks++[k]):=by
  apply Array.ext';have:=FQ 0 ks k;rw[aCa] at this;simpa using this
 have hrun:(execOp (ev F) o).run prog u=.ok .skip { u with heap:=u.heap.setIfInBounds g (.map (SR (ks++[k])) (ks++[k]).length) }:=by
  unfold execOp;simp only[ho,hx,hi,hv,Instr.mapUpdate,aAy,run_underlying ht,aAr,aEa hb,hc,hf,hpush,aEz _ hb];simp
 unfold Oper.wp;rw[ha.eval,hrun];refine hK undef _ _ ⟨rfl,rfl⟩ ?_;have hlt:g<u.heap.size:=(aBv.1 hb).1;refine hu.jX hr rfl rfl rfl (by simp) (G:=λb=>b=g) (λb _ hb=>?_) λF1 k1=>?_
 ·show(u.heap.setIfInBounds g _)[b]?=_;rw[aEv (aFh hb)]
 ·refine⟨F1,⟨F1,λ_=>False,λb=>by simp,λ_ _ h=>h,⟨k1.1,?_⟩,λ_ h=>h⟩,λb hb=>.inl hb,λb _ hb=>(k1.1 b).2 hb⟩;show(u.heap.setIfInBounds g _)[g]?=_;simp[hlt]
theorem S.Oy{t:TypeId}(ho:o.op=.makeMap t none):gK prog N E F H o λr H1=>∃g,r=.map (some g)∧H1=Dq (some g) []::H:=by
 intro a u ha hu Kw Q' hK;have hrun:(execOp (ev F) o).run prog u=.ok (.value (.map (some u.heap.size))) (u.alloc (.map #[] 0)):=by
  unfold execOp;simp only[ho,Option.map_none,run_makeMap,aAy,aAr,aCc]
 unfold Oper.wp;rw[ha.eval,hrun];refine hK _ _ _ ⟨_,rfl,rfl⟩ ?_;refine hu.grow (l:=[Dq (some u.heap.size) []]) rfl rfl rfl (by simp) (λb hb=>aDu _ _ _ hb) (F1:=λb=>b=u.heap.size) ⟨_,λ_=>False,λb=>by simp,λb _ h=>h,⟨λb=>aDl,heap_alloc_new _ _⟩,λb h=>h⟩ (λb hb=>by omega)
theorem V.Zn{x y:Operand}{t t' k e:TypeId}{p:Option Nat}{u:World}(ho:o.op=.binOp .eql t x y t')(ht:prog.underlying t=some (.map k e))(hx:ρ x=.map p)(hy:ρ y=.map none):(execOp ρ o).run prog u=.ok (.value (.bool p.isNone)) u:=by
 have h:∀d,(Op.equalIn (d+1) t (.map p) (.map none)).run prog u=.ok p.isNone u:=λd=>by cases p<;>simp[Op.equalIn,run_underlying ht]
 have h2:(binOp .eql t (.map p) (.map none)).run prog u=.ok (.bool p.isNone) u:=by
  simp only[binOp];simp[show Op.equal t (.map p) (.map none)=Op.equalIn (9999+1) t (.map p) (.map none) from rfl,h]
 simp[execOp,ho,hx,hy,eqGuard,h2]
end
theorem ZQ{P:Program}{E:Env}{H:List aL}{ρ:Operand→Value}{o:Oper}{v:Value}(h:qB P E H ρ o v:=by first|(intro _ _;apply V.funcF;exact rfl;exact eS)|(intro _ _;apply V.Zn;exact rfl;exact rfl;exact rfl;exact rfl)|(apply Y.Qq;exact rfl;exact rfl;exact rfl;exact rfl;exact aS)):qB P E H ρ o v:=h
theorem WX{P:Program}{N:Nat}{E:Env}{F:Nat→Value}{H:List aL}{o:Oper}{K:Value→List aL→Prop}(h:gK P N E F H o K:=by first|exact Sy|(apply S.Oy;exact rfl)|(apply S.H8;exact rfl;exact eS;exact eS;exact eS;exact rfl;exact nD;exact ZK;exact dH)):gK P N E F H o K:=h
theorem p7{p q:Prop}(hq:q)(h:wA q→p:=by intro h;first|(apply L.fQ;decide;exact WX;(first|exact x0 h.out|exact x1 h.out|exact x2 h.out))|(apply L.pX;exact WX;(first|exact x0 h.out|exact x1 h.out|exact x2 h.out))|(apply Dr.WZ;exact rfl;(· rintro k ⟨⟩<;>decide);exact bA;exact WX;(first|exact x0 h.out|exact x1 h.out|exact x2 h.out))|(apply Dr.Iq;exact rfl;(· rintro k ⟨⟩<;>decide);exact bA;exact WX;(first|exact x0 h.out|exact x1 h.out|exact x2 h.out))|(apply zL.Aw;exact rfl;(· rintro k ⟨⟩<;>decide);exact bA;exact WX;(first|(refine y0 ?_ ?_;exact aA;exact h.out)|(refine y1 ?_ ?_;(· intro _;exact aA);exact h.out)|(refine y2 ?_ ?_;(· intro _ _;exact aA);exact h.out)))|(apply Dr.Aw;exact rfl;(· rintro k ⟨⟩<;>decide);exact bA;exact WX;(first|(refine y0 ?_ ?_;exact aA;exact h.out)|(refine y1 ?_ ?_;(· intro _;exact aA);exact h.out)|(refine y2 ?_ ?_;(· intro _ _;exact aA);exact h.out)))):p:=h ⟨hq⟩
theorem qI{p q:Prop}(hq:q)(h:wA q→p:=by intro h;first|exact w_ h.out|(apply L.val;decide;exact ZQ;exact h.out)|(apply FU.take;exact rfl;decide;exact bA;exact ZQ;exact h.out)|(apply Dr.take;exact rfl;decide;exact bA;exact ZQ;exact h.out)|exact p7 h.out|(apply gd;exact bG;exact aA;exact h.out)|(apply gk;exact bG;exact h.out)):p:=h ⟨hq⟩
theorem PN:Rec prog 116 [.map none,.slice none 0 0,.int .i64 0] [(0,1),(1,1),(2,1)]:=⟨q_,q_⟩
instance UB:cL 116 [.map none,.slice none 0 0,.int .i64 0] [(0,1),(1,1),(2,1)]:=⟨PN⟩
abbrev gt(g:Nat)(m:Option Nat)(A:Option Addr)(n c:Nat)(r:Int):aL:=aJ g 116 [.map m,.slice A n c,.int .i64 r]
def bP.other(k:bP):bP:=⟨k.id,k.ord,!k.cD⟩
section
variable (E:Env)
theorem TL(k:bP):aK prog E 147 #[.agg k.cs.toArray] [] λr H'=>r=.returned (.agg k.other.cs.toArray)∧H'=[]:=by
 refine t_ func147 ntmps147 ?_;repeat first|refine qI ?_|intro
 exact Iv
theorem R7(n lo hi:Int)(f:FuncId)(hf:f=65):aK prog E f #[.int .i64 n,.int .i64 lo,.int .i64 hi] [] λe H'=>e=.returned (.int .i64 (if n<lo then lo else if hi<n then hi else n))∧H'=[]:=by
 subst hf;refine t_ func65 ntmps65 ?_;by_cases h1:n<lo
 ·rw[if_pos h1];repeat first|refine qI ?_|intro
  exact B7
 rw[if_neg h1];by_cases h2:hi<n
 ·rw[if_pos h2];repeat first|refine qI ?_|intro
  exact B7
 rw[if_neg h2];repeat first|refine qI ?_|intro
 exact B7
variable (g:Nat) (m:Option Nat) (A:Option Addr) (n c:Nat) (r:Int) (ks:List bP)
theorem Sr(k:bP):aK prog E 93 #[.pointer (some ⟨g,0,none⟩),.agg k.cs.toArray] [gt g m A n c r,Dq m ks] λe H'=>e=.returned (.bool (decide (k∈ks)))∧H'=[gt g m A n c r,Dq m ks]:=by
 refine t_ func93 ntmps93 ?_;repeat first|refine qI ?_|intro
 refine rA (l_ [0,1,2,3,4,5,6,7,8,9,10] .nil) ?_;repeat first|refine qI ?_|intro
 exact B7
end
section
variable (E:Env)
theorem OG(A:Option Addr)(n c:Nat)(l:List dK)(hr:Rd E cP A n c l)(hl:n≤1000000000):aK prog E 85 #[.slice A n c] [] λr H'=>∃A' c',r=.returned (.slice A' n c')∧(n≤c'∧c'≤maxLen)∧H'=[own cP A' n c' l]:=by
 refine t_ func85 ntmps85 ?_;cases A with
 |none =>
  obtain⟨rfl,rfl⟩:=hr.none;repeat first|refine qI ?_|intro
  exact aR rfl aF (aB.nil cP) ⟨_,_,rfl,⟨aAf _,aAh _⟩,rfl⟩
 |some a =>
  repeat first|refine qI ?_|intro
  exact aR rfl aF aA (⟨_,_,rfl,⟨by assumption,by assumption⟩,rfl⟩)
variable (g:Nat) (m:Option Nat) (A:Option Addr) (n c:Nat) (r:Int) (l:List dK)
abbrev HN(g:Nat)(m:Option Nat)(A:Option Addr)(n c:Nat)(r:Int)(l:List dK):List aL:=[gt g m A n c r,Dq m (l.map dK.key),own cP A n c l]
structure Qd(m:Option Nat)(n c:Nat)(r:Int)(l:List dK):Prop where
 hn:n=l.length
 hc:n≤c∧c≤maxLen
 hm:m=none→l=[]
 hr:0≤r∧r≤255
theorem SE(x:Int):aK prog E 127 #[.pointer (some ⟨g,0,none⟩),.int .i64 x] [gt g m A n c r] λe H'=>e=.returned (.tuple #[])∧H'=[gt g m A n c (if x<0 then 0 else if 255<x then 255 else x)]:=by
 refine t_ func127 ntmps127 ?_;repeat first|refine qI ?_|intro
 refine cl sD sK aC (λM hE=>R7 M x 0 255 _ rfl) ?_;rintro e H' ⟨rfl,rfl⟩;repeat first|refine qI ?_|intro
 exact e3_
theorem GV(hr:Rd E cP A n c l)(hl:n≤1000000000):aK prog E 22 #[.pointer (some ⟨g,0,none⟩)] [gt g m A n c r] λe H'=>∃A' c',e=.returned (.slice A' n c')∧(n≤c'∧c'≤maxLen)∧H'=[gt g m A n c r,own cP A' n c' l]:=by
 refine t_ func22 ntmps22 ?_;repeat first|refine qI ?_|intro
 refine cl sD sK aC (λM hE=>OG M A n c l (hr.sub hE) hl) ?_;rintro e H' ⟨A',c',rfl,h1,rfl⟩;repeat first|refine qI ?_|intro
 exact jQ ⟨_,_,rfl,h1,rfl⟩
theorem RQ(q:dK)(hq:q.key∈l.map dK.key):aK prog E 29 #[.pointer (some ⟨g,0,none⟩),.agg q.cs.toArray] (HN g m A n c r l) λe H'=>e=.returned (.bool true)∧H'=HN g m A n c r l:=by
 have hd:decide (q.key∈l.map dK.key)=true:=decide_eq_true hq;unfold HN;refine t_ func29 ntmps29 ?_;repeat first|refine qI ?_|intro
 refine bK (λM=>Sr M g m A n c r (l.map dK.key) q.key) ?_;repeat first|refine qI ?_|intro
 exact B7
theorem WA(q:dK)(hq:q.key∉l.map dK.key)(hr:0<r∧r≤255):aK prog E 29 #[.pointer (some ⟨g,0,none⟩),.agg q.cs.toArray] (HN g m A n c r l) λe H'=>e=.returned (.bool false)∧H'=HN g m A n c (r - 1) l:=by
 have hd:decide (q.key∈l.map dK.key)=false:=decide_eq_false hq;obtain⟨hr1,hr2⟩:=hr;unfold HN;refine t_ func29 ntmps29 ?_;repeat first|refine qI ?_|intro
 refine bK (λM=>Sr M g m A n c r (l.map dK.key) q.key) ?_;repeat first|refine qI ?_|intro
 exact B7
theorem RC(hs:Qd m n c r l)(q:dK)(hq:q.key∉l.map dK.key)(hr:r≤0)(hl:n≤1000000000):aK prog E 29 #[.pointer (some ⟨g,0,none⟩),.agg q.cs.toArray] (HN g m A n c r l) λe H'=>∃m' A' c',e=.returned (.bool true)∧Qd m' (n+1) c' r (l++[q])∧H'=HN g m' A' (n+1) c' r (l++[q]):=by
 have hd:decide (q.key∈l.map dK.key)=false:=decide_eq_false hq;have hmap:(l++[q]).map dK.key=l.map dK.key++[q.key]:=by rw[aBk];rfl
 have hnew:∀m' c',m'≠none→(n+1≤c'∧c'≤maxLen)→Qd m' (n+1) c' r (l++[q]):=λm' c' h1 h2=>⟨by rw[aAe,←hs.hn];rfl,h2,λh=>absurd h h1,hs.hr⟩
 unfold HN;rw[hmap];refine t_ func29 ntmps29 ?_;cases m with
 |none =>
  obtain rfl:=hs.hm rfl;have hq0:q.key∉([]:List bP):=λh=>(aAk h).elim;simp only[aDo,aBq] at hnew hd⊢;repeat first|refine qI ?_|intro
  refine bK (λM=>Sr M g none A n c r [] q.key) ?_;repeat first|refine qI ?_|intro
  rename_i g5 g2;refine C.bL 6 (l_ [0,1,2,3,4,5] (g_ 6 .nil)) _ q_ q_ aB.refl ?_;repeat first|refine qI ?_|intro
  refine C.bL 10 (l_ [0,1,2,3,4,5] (g_ 6 (g_ 7 (l_ [8,9] (g_ 10 .nil))))) ([gt g (some g2) A n c r,aJ g5 79 q.cs]) q_ q_ aA ?_;repeat first|refine qI ?_|intro
  rename_i A' c' h1 h2;exact aR rfl aF aA (⟨some g2,A',c',rfl,hnew _ _ (λh=>by cases h) ⟨h1,h2⟩,rfl⟩)
 |some g2 =>
  repeat first|refine qI ?_|intro
  refine bK (λM=>Sr M g (some g2) A n c r (l.map dK.key) q.key) ?_;repeat first|refine qI ?_|intro
  rename_i g5;refine C.bL 6 (l_ [0,1,2,3,4,5] (g_ 6 .nil)) _ q_ q_ aB.refl ?_;repeat first|refine qI ?_|intro
  refine C.bL 10 (l_ [0,1,2,3,4,5] (g_ 6 (g_ 7 (l_ [8,9] (g_ 10 .nil))))) ([gt g (some g2) A n c r,aJ g5 79 q.cs]) q_ q_ aA ?_;repeat first|refine qI ?_|intro
  rename_i A' c' h1 h2;exact aR rfl aF aA (⟨some g2,A',c',rfl,hnew _ _ (λh=>by cases h) ⟨h1,h2⟩,rfl⟩)
end
def jH:Nat→List (bJ×Int)→List MapEntry
 |_,[]=>[]
 |i,k::ks=>{ key:=.agg k.1.cs.toArray,val:=.int .i64 k.2,born:=i }::jH (i+1) ks
abbrev Bz(ks:List (bJ×Int)):Array MapEntry:=(jH 0 ks).toArray
theorem Fs(i:Nat)(ks:List (bJ×Int))(k:bJ×Int):jH i ks++[{ key:=.agg k.1.cs.toArray,val:=.int .i64 k.2,born:=i+ks.length }]=jH i (ks++[k]):=by
 induction ks generalizing i with
 |nil=>rfl
 |cons x ks ih =>
  have:=ih (i+1);rw[aCj,jH,jH,aCj,←this,aAs,show i+1+ks.length=i+(ks.length+1) by omega]
theorem sB(j:Nat)(ks:List (bJ×Int))(q:Nat):(jH j ks)[q]?=(ks[q]?).map λk=>{ key:=.agg k.1.cs.toArray,val:=.int .i64 k.2,born:=j+q }:=by
 induction ks generalizing j q with
 |nil=>rfl
 |cons x ks ih =>
  cases q with
  |zero=>rfl
  |succ q=>rw[jH,aFr,aFr,ih,show j+1+q=j+(q+1) by omega]
theorem IB(j:Nat)(ks:List (bJ×Int)):(jH j ks).length=ks.length:=by
 induction ks generalizing j with
 |nil=>rfl
 |cons x ks ih=>rw[jH,aAs,aAs,ih]
def eT:List (bJ×Int)→bJ→Option (Nat×Int)
 | [],_=>none
 |x::ks,k=>if k=x.1 then some (0,x.2) else(eT ks k).map λq=>(q.1+1,q.2)
theorem wO{ks:List (bJ×Int)}{k:bJ}{q:Nat}{v:Int}(h:eT ks k=some (q,v)):ks[q]?=some (k,v):=by
 induction ks generalizing q with
 |nil=>cases h
 |cons x ks ih =>
  unfold eT at h;split at h
  ·rename_i hk;injection h with h
   injection h with h1 h2
   subst h1 h2 hk;rfl
  ·cases hf:eT ks k with
   |none=>rw[hf] at h;cases h
   |some z =>
    rw[hf] at h;injection h with h
    injection h with h1 h2
    subst h1 h2;rw[aFr];exact ih hf
def QW(g:Nat)(ks:List (bJ×Int)):aL where
 holds F w:=(∀b,F b↔b=g)∧w.heap[g]?=some (.map (Bz ks) ks.length)
 loc:=λh hk=>⟨h.1,(hk _ ((h.1 _).2 rfl)).trans h.2⟩
 lt:=λh hb=>by rw[(h.1 _).1 hb];exact(aBv.1 h.2).1
theorem sP(k:bJ)(em:Bool)(w:World):(Instr.checkKey em 10000 32 (.agg k.cs.toArray)).run prog w=.ok () w:=by
 have hv:=underlying32;have hi:=underlying3;have q0:∀(x:Int) n,(Instr.checkKey em (n+1) 3 (.int .i64 x)).run prog w=.ok () w:=λx n=>by simp[Instr.checkKey,run_underlying hi]
 have r0:(part 3 #[.int .i64 k.rep,.int .i64 k.seq] 0).run prog w=.ok (.int .i64 k.rep) w:=by simp[part,isAgg,run_underlying hi]
 have r1:(part 3 #[.int .i64 k.rep,.int .i64 k.seq] 1).run prog w=.ok (.int .i64 k.seq) w:=by simp[part,isAgg,run_underlying hi]
 rw[show(10000:Nat)=9999+1 from rfl,Instr.checkKey];simp only[aAy,run_underlying hv,aAr];rw[←Array.forIn_toList];have e:k.cs.toArray=#[.int .i64 k.rep,.int .i64 k.seq]:=rfl;rw[e];simp only[List.forIn_cons,List.forIn_nil,aAy,ne_eq,String.reduceEq,not_false_eq_true,if_true,aAr,r0,r1,aCc,show(9999:Nat)=9998+1 from rfl,q0]
theorem RP:(match prog.underlying 32 with|some (.array _ _)|some (.struct _)=>true|_=>false)=true:=q_
theorem D6(k:bJ)(w:World):∀(ks:List (bJ×Int)) (i j:Nat),(Instr.findAsking 32 (.agg k.cs.toArray) (jH j ks) i).run prog w=.ok ((eT ks k).map λq=>(i+q.1,.int .i64 q.2)) w
 | [],i,j=>rfl
 |x::ks,i,j=>by
  have h1:(Op.equalIn 10000 32 (.agg k.cs.toArray) (.agg x.1.cs.toArray)).run prog w=.ok (decide (k=x.1)) w:=(TD (t:=32) (xs:=#[.int .i64 k.rep,.int .i64 k.seq]) (ys:=#[.int .i64 x.1.rep,.int .i64 x.1.seq]) (r:=decide ((⟨k.rep,k.seq⟩:bJ)=⟨x.1.rep,x.1.seq⟩))).run w;have h2:(Op.equal 32 (.agg k.cs.toArray) (.agg x.1.cs.toArray)).run prog w=.ok (decide (k=x.1)) w:=h1;have h3:=D6 k w ks (i+1) (j+1);rw[jH,Instr.findAsking];by_cases hkx:k=x.1
  ·rw[show eT (x::ks) k=some (0,x.2) from if_pos hkx];simp only[aAy,h2,aAr,decide_eq_true hkx,if_true,aCc];rfl
  ·rw[show eT (x::ks) k=(eT ks k).map λq=>(q.1+1,q.2) from if_neg hkx];simp only[aAy,h2,aAr,decide_eq_false hkx,aCb,if_false,h3];cases eT ks k with
   |none=>rfl
   |some q=>simp only[aDi];rw[show i+1+q.1=i+(q.1+1) by omega]
theorem xR(k:bJ)(w:World)(ks:List (bJ×Int)):(Instr.findKey 32 (.agg k.cs.toArray) (Bz ks).toList).run prog w=.ok ((eT ks k).map λq=>(q.1,.int .i64 q.2)) w:=by
 rw[run_findKey_eq w RP];have:=D6 k w ks 0 0;simp only[aCa] at this;exact this
def lO(ks:List (bJ×Int))(k:bJ):Int:=((eT ks k).map Prod.snd).getD 0
def iM(ks:List (bJ×Int))(k:bJ):List (bJ×Int):=match eT ks k with
 |some _=>ks
 |none=>ks++[(k,0)]
def DA(ks:List (bJ×Int))(k:bJ):Nat:=match eT ks k with
 |some q=>q.1
 |none=>ks.length
def yH(ks:List (bJ×Int))(k:bJ):List (bJ×Int):=(iM ks k).set (DA ks k) (k,lO ks k+1)
theorem Oq(ks:List (bJ×Int))(k:bJ):(iM ks k)[DA ks k]?=some (k,lO ks k):=by
 unfold iM DA lO;cases h:eT ks k with
 |none=>simp
 |some q=>obtain⟨q,v⟩:=q;exact wO h
section
variable {E:Env} {H H' R:List aL} {N:Nat} {F:Nat→Value} {o:Oper} {ρ:Operand→Value} {g:Nat} {ks:List (bJ×Int)}
theorem Y.E7{t:TypeId}{x i:Operand}{k:bJ}(ho:o.op=.lookup t x i false)(hx:ρ x=.map (some g))(hi:ρ i=.agg k.cs.toArray)(ht:prog.underlying t=some (.map 32 3))(hm:Has (QW g ks) H R):qB prog E H ρ o (.int .i64 (lO ks k)):=by
 intro u hu;obtain⟨F,h1,_⟩:=hu.has hm;have hz:∀w,(zeroValue 3).run prog w=.ok (.int .i64 0) w:=λw=>q_;unfold execOp;simp only[ho,hx,hi,Instr.lookup,aAy,run_underlying ht,aAr];obtain⟨_,hb⟩:=h1;have hc:=sP k (Bz ks).isEmpty u;have hf:=xR k u ks;simp only[aEa hb,aCc,aAr,aAy,hc,hf];unfold lO;cases h:eT ks k with
 |none=>simp[hz]
 |some q=>simp
theorem Ln(a b:Int):Instr.sameBits 10000 (.agg #[.int .i64 a,.int .i64 b]) (.agg #[.int .i64 a,.int .i64 b])=true:=by simp[Instr.sameBits]
theorem S.EI{t:TypeId}{x i:Operand}{k:bJ}(ho:o.op=.mapEntry t x i)(hx:ev F x=.map (some g))(hi:ev F i=.agg k.cs.toArray)(ht:prog.underlying t=some (.map 32 3))(hr:dT (QW g ks) [QW g (iM ks k)] H H') :
  gK prog N E F H o λr H1=>r=.tuple #[.int .i64 (lO ks k),.int .i64 (DA ks k:Nat)]∧H1=H':=by
 intro a u ha hu Kw Q' hK;obtain⟨R,hhas,F0,h0⟩:=hu.xO hr;obtain⟨h1,hb⟩:=h0;have hc:=sP k false u;have hf:=xR k u ks;have hz:∀w,(zeroValue 3).run prog w=.ok (.int .i64 0) w:=λw=>q_;have hrun:(execOp (ev F) o).run prog u=.ok (.value (.tuple #[.int .i64 (lO ks k),.int .i64 (DA ks k:Nat)])) { u with heap:=u.heap.setIfInBounds g (.map (Bz (iM ks k)) (iM ks k).length) }:=by
  unfold execOp;simp only[ho,hx,hi,Instr.mapEntry,aAy,run_underlying ht,aAr,aEa hb,hc,hf];cases h:eT ks k with
  |none =>
   have hpush:(Bz ks).push { key:=.agg k.cs.toArray,val:=.int .i64 0,born:=ks.length }=Bz (ks++[(k,0)]):=by
    apply Array.ext';have:=Fs 0 ks (k,0);rw[aCa] at this;simpa using this
   simp only[Option.map_none,aAy,hz,aAr,hpush,aEz _ hb,aCc];unfold iM lO DA;rw[h];simp[goInt]
  |some q =>
   obtain⟨q,v⟩:=q;have hq:=wO h;have hes:(Bz ks)[q]?=some { key:=.agg k.cs.toArray,val:=.int .i64 v,born:=q }:=by
    show(jH 0 ks).toArray[q]?=_;rw[List.getElem?_toArray,sB,hq];simp
   have hsame:(Instr.keyThatStays (.agg k.cs.toArray) (.agg k.cs.toArray)).run prog u=.ok (.agg k.cs.toArray) u:=by
    unfold Instr.keyThatStays;rw[if_pos (Ln k.rep k.seq)];rfl
   have hmod:((Bz ks).modify q λe=>{ e with key:=.agg k.cs.toArray })=Bz ks:=by
    apply Array.ext
    ·simp
    ·intro i hi1 hi2;rw[Array.getElem_modify];split
     ·rename_i hqi;subst hqi;have:=(aBv.1 hes).2;rw[this]
     ·rfl
   simp only[aDi,aAy,hes,aBe,hsame,aAr,hmod,aEz _ hb,aCc];unfold iM lO DA;rw[h];simp[goInt]
 unfold Oper.wp;rw[ha.eval,hrun];refine hK _ _ _ ⟨rfl,rfl⟩ ?_;have hlt:g<u.heap.size:=(aBv.1 hb).1;refine hu.jX hr rfl rfl rfl (by simp) (G:=λb=>b=g) (λb _ hb=>?_) λF1 k1=>?_
 ·show(u.heap.setIfInBounds g _)[b]?=_;rw[aEv (aFh hb)]
 ·refine⟨F1,⟨F1,λ_=>False,λb=>by simp,λ_ _ h=>h,⟨k1.1,?_⟩,λ_ h=>h⟩,λb hb=>.inl hb,λb _ hb=>(k1.1 b).2 hb⟩;show(u.heap.setIfInBounds g _)[g]?=_;simp[hlt]
theorem S.AN{t:TypeId}{x i v:Operand}{q:Nat}{n:Int}{k:bJ×Int}(ho:o.op=.entryStore t x i v)(hx:ev F x=.map (some g))(hi:ev F i=.int .i64 (q:Nat))(hv:ev F v=.int .i64 n)(hq:ks[q]?=some k)(hr:dT (QW g ks) [QW g (ks.set q (k.1,n))] H H') :
  gK prog N E F H o λr H1=>r=undef∧H1=H':=by
 intro a u ha hu Kw Q' hK;obtain⟨R,hhas,F0,h0⟩:=hu.xO hr;obtain⟨h1,hb⟩:=h0;have hql:=(aAd.1 hq).1;have hlen:=IB 0 ks;have hborn:∀j (hj:j<(Bz ks).size),((Bz ks)[j]'hj).born=j:=λj hj=>by
  have h2:j<(jH 0 ks).length:=by simpa using hj
  have h3:=sB 0 ks j;rw[aAa h2] at h3;have h4:(Bz ks)[j]'hj=(jH 0 ks)[j]'h2:=by simp[Bz]
  rw[h4];cases hk:ks[j]? with
  |none=>rw[hk] at h3;cases h3
  |some z=>rw[hk] at h3;injection h3 with h3;rw[h3];simp
 have hidx:(Bz ks).findIdx? (λe=>(e.born:Int) == (q:Int))=some q:=by
  rw[Array.findIdx?_eq_some_iff_getElem];refine⟨by simp[Bz];omega,?_,λj hj=>?_⟩
  ·rw[hborn];simp
  ·rw[hborn];simp;omega
 have hmod:((Bz ks).modify q λe=>{ e with val:=.int .i64 n })=Bz (ks.set q (k.1,n)):=by
  apply Array.ext';refine aCk λj=>?_;have e1:((Bz ks).modify q λe=>{ e with val:=.int .i64 n }).toList[j]?=if q=j then((Bz ks)[j]?).map (λe=>{ e with val:=.int .i64 n }) else(Bz ks)[j]?:=by
   rw[←aEe,Array.toList_modify,List.getElem?_modify];split
   ·rename_i h;subst h;simp
   ·simp
  rw[e1];show _=(jH 0 (ks.set q (k.1,n)))[j]?;have e2:(Bz ks)[j]?=(jH 0 ks)[j]?:=by simp[Bz]
  rw[e2,sB,sB,aDr];by_cases hqj:q=j
  ·subst hqj;rw[if_pos rfl,if_pos rfl,if_pos hql,hq];rfl
  ·rw[if_neg hqj,if_neg hqj]
 have hrun:(execOp (ev F) o).run prog u=.ok .skip { u with heap:=u.heap.setIfInBounds g (.map (Bz (ks.set q (k.1,n))) (ks.set q (k.1,n)).length) }:=by
  unfold execOp;simp only[ho,hx,hi,hv,Instr.entryStore,aAy,aCc,aAr,aEa hb,asInt,asIntOf,hidx,hmod,aEz _ hb,aAt]
 unfold Oper.wp;rw[ha.eval,hrun];refine hK undef _ _ ⟨rfl,rfl⟩ ?_;have hlt:g<u.heap.size:=(aBv.1 hb).1;refine hu.jX hr rfl rfl rfl (by simp) (G:=λb=>b=g) (λb _ hb=>?_) λF1 k1=>?_
 ·show(u.heap.setIfInBounds g _)[b]?=_;rw[aEv (aFh hb)]
 ·refine⟨F1,⟨F1,λ_=>False,λb=>by simp,λ_ _ h=>h,⟨k1.1,?_⟩,λ_ h=>h⟩,λb hb=>.inl hb,λb _ hb=>(k1.1 b).2 hb⟩;show(u.heap.setIfInBounds g _)[g]?=_;simp[hlt]
theorem S.Nb{t:TypeId}(ho:o.op=.makeMap t none):gK prog N E F H o λr H1=>∃g,r=.map (some g)∧H1=QW g []::H:=by
 intro a u ha hu Kw Q' hK;have hrun:(execOp (ev F) o).run prog u=.ok (.value (.map (some u.heap.size))) (u.alloc (.map #[] 0)):=by
  unfold execOp;simp only[ho,Option.map_none,run_makeMap,aAy,aAr,aCc]
 unfold Oper.wp;rw[ha.eval,hrun];refine hK _ _ _ ⟨_,rfl,rfl⟩ ?_;refine hu.grow (l:=[QW u.heap.size []]) rfl rfl rfl (by simp) (λb hb=>aDu _ _ _ hb) (F1:=λb=>b=u.heap.size) ⟨_,λ_=>False,λb=>by simp,λb _ h=>h,⟨λb=>aDl,heap_alloc_new _ _⟩,λb h=>h⟩ (λb hb=>by omega)
end
end Go.Proofs.YtmilalkjbojciaaGreat.Sep
