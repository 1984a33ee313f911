/- Part AE: what it needs. No condition. -/
import Derived.Test.YtmilalkjbojciaaGreatLAA
import Derived.Test.YtmilalkjbojciaaGreatLAC
set_option maxRecDepth 100000
set_option maxHeartbeats 8000000
open Go.Proofs.Tryz
namespace Go.Proofs.YtmilalkjbojciaaGreat.Sep
open Go.RowKit Reg
open Mem hiding Rd
instance:Bg 3 [.int .i64 0]:=⟨q_⟩
def bw{α:Type}(l:List α):List (Nat×α):=(l.zipIdx.map λp=>(p.2,p.1)).reverse
theorem zY{α:Type}(l:List α):(bw l).length=l.length:=by simp[bw]
theorem Ou{α:Type}{l:List α}{k i:Nat}{x:α}(h:(bw l)[k]?=some (i,x)):i+k+1=l.length∧l[i]?=some x:=by
 have hk:k<(bw l).length:=(aAd.1 h).1;rw[zY] at hk;unfold bw at h;rw[List.getElem?_reverse (by simpa using hk)] at h;simp only[aAw,List.length_zipIdx,aBf,List.getElem?_zipIdx,aCa] at h;cases hq:l[l.length - 1 - k]? with
 |none=>rw[hq] at h;cases h
 |some y =>
  rw[hq] at h;simp only[aDi,Option.some.injEq,Prod.mk.injEq] at h;obtain⟨rfl,rfl⟩:=h;exact⟨by omega,hq⟩
theorem Hi{α:Type}{l:List α}{k i:Nat}{x:α}(hi:i+k+1=l.length)(hx:l[i]?=some x):(bw l)[k]?=some (i,x):=by
 unfold bw;rw[List.getElem?_reverse (by simp;omega)];simp only[aAw,List.length_zipIdx,aBf,List.getElem?_zipIdx,aCa];rw[show l.length - 1 - k=i by omega,hx];rfl
abbrev XC(p:Nat×aX):List Value:=[.int .i64 p.1,.agg p.2.cs.toArray]
theorem bwd(E:Env)(g:Nat)(A:Option Addr)(n c:Nat)(l:List aX)(hr:Rd E bE A n c l)(lp:Nat)(J X:Nat→aL)
  (hy:∀E2 R2 i x,Sub E R2 E2→(bw l)[i]?=some x→Ps prog E2 lp (XC x) [J i] (λe H'=>(e=.returned (.bool true)∧H'=[J (i+1)])∨(e=.returned (.bool false)∧H'=[X i]))) :
  aK prog E 381 #[.func (.yield lp) #[] #[],.pointer (some ⟨g,0,none⟩)] (J 0::[aJ g 24 [.slice A n c]])
   (λe H'=>(∃v,e=.returned v)∧(H'=J (bw l).length::[aJ g 24 [.slice A n c]]∨∃i,i<(bw l).length∧H'=X i::[aJ g 24 [.slice A n c]])):=by
 have hn:=hr.len;have hcap:=hr.cap;have hmax:=fX;have hbl:(bw l).length=n:=by rw[zY,hn]
 refine X8 func381 rfl ntmps381 (by simp) ?_;repeat (first|refine HI ?_|refine HC ?_|intro _)
 refine CI.loop (X:=Nat) (λk=>[(0,.func (.yield lp) #[] #[]),(1,.pointer (some ⟨g,0,none⟩)),(3,.int .i64 (n - 1 - k:Int))]) (λk=>[J k,aJ g 24 [.slice A n c]]) (λk=>k≤n) (λk=>n - k) 0 aD aB.refl (aAh _) ?_;intro k G hk;by_cases hlt:k<n
 ·obtain⟨i,hi⟩:∃i:Nat,i+k+1=n:=⟨n - 1 - k,by omega⟩
  have hi2:(n - 1 - k:Int)=(i:Int):=o_;have hx:l[i]?=some l[i]:=aAa o_;generalize l[i]=x at hx;rw[hi2];repeat (first|refine HI ?_|refine HC ?_|intro _)
  refine LI.yield sD rfl I7 aC (λM hE=>hy M _ k (i,x) hE (Hi o_ hx)) ?_;rintro e H' (⟨rfl,rfl⟩|⟨rfl,rfl⟩)
  ·refine⟨_,rfl,_,bG,?_⟩;repeat (first|refine HI ?_|refine HC ?_|intro _)
   exact⟨k+1,aD,aB.refl,by omega,by omega⟩
  ·refine⟨_,rfl,_,bG,?_⟩;repeat (first|refine HI ?_|refine HC ?_|intro _)
   exact VL rfl aA (⟨⟨_,rfl⟩,.inr ⟨k,by omega,rfl⟩⟩)
 ·obtain rfl:k=n:=o_;repeat (first|refine HI ?_|refine HC ?_|intro _)
  exact gO rfl aA (⟨⟨_,rfl⟩,.inl (by rw[hbl])⟩)
theorem Xo(E:Env)(A:Option Addr)(n c:Nat):G E 371 [.slice A n c] [] λe H'=>∃g,e=.returned (.func (.func 381) #[] #[.pointer (some ⟨g,0,none⟩)])∧H'=[aJ g 24 [.slice A n c]]:=by
 refine t_ func371 ntmps371 ?_;repeat first|refine v_ ?_|intro
 exact jQ ⟨_,rfl,rfl⟩
def uI(l:List aX)(c:aX):Nat:=behind (λx=>decide (¬iP c x<0)) l
def lG(l:List aX)(c:aX):List aX:=l.take (uI l c)++[c]++l.drop (uI l c)
theorem lA(l:List aX)(c:aX):(lG l c).length=l.length+1:=by
 have:=AJ (λx=>decide (¬iP c x<0)) l;unfold lG uI;simp only[aAe,aAg,aBd,aAs,aDh];omega
def Tf(l:List aX)(k:Nat):Nat×aX:=((bw l)[k]?).getD (0,dO)
theorem Et{l:List aX}{k:Nat}{x:Nat×aX}(h:(bw l)[k]?=some x):Tf l k=x:=by unfold Tf;rw[h];rfl
theorem Px(E:Env)(A:Option Addr)(n c:Nat)(l:List aX)(c0:aX)(hr:Rd E bE A n c l)(hm:n≤10000):G E 344 [.slice A n c,.agg c0.cs.toArray] [] λe H'=>∃B d,(n+1≤d∧d≤maxLen)∧e=.returned (.slice B (n+1) d)∧H'=[own bE B (n+1) d (lG l c0)]:=by
 have hn:=hr.len;have hcap:=hr.cap;have hmax:=fX;refine Ww func344 rfl ntmps344 (by simp) λhds=>?_;refine WJ.yR ?_;repeat first|refine v_ ?_|intro
 refine WJ.yR ?_;repeat first|refine v_ ?_|intro
 rename_i g3 g5;refine WJ.seq ?_;refine WJ.yR ?_;repeat first|refine v_ ?_|intro
 refine bW (λM=>Xo M A n c) ?_;rintro e H' ⟨g,rfl,rfl⟩;repeat first|refine v_ ?_|intro
 refine WJ.rf (Y:=Nat) (ps:=[10,11]) (xs:=bw l) XC (λk=>[iE (∀j x,j<k→(bw l)[j]?=some x→iP c0 x.2<0),aJ g3 34 c0.cs,aJ g5 3 [.int .i64 0]])
  (λk=>[iE ((∀j x,j<k→(bw l)[j]?=some x→iP c0 x.2<0)∧¬iP c0 (Tf l k).2<0),aJ g3 34 c0.cs,aJ g5 3 [.int .i64 ((Tf l k).1+1:Int)]])
  (λk y=>[(3,.pointer (some ⟨g3,0,none⟩)),(5,.pointer (some ⟨g5,0,none⟩)),(6,.int .i64 (Tf l k).1),(7,.pointer (some ⟨y,0,none⟩))])
  (λk y=>[aJ y 34 (Tf l k).2.cs,iE (∀j x,j<k→(bw l)[j]?=some x→iP c0 x.2<0),aJ g3 34 c0.cs,aJ g5 3 [.int .i64 0]])
  (Hit:=[aJ g 24 [.slice A n c]]) (Hd:=[aJ g 24 [.slice A n c]]) (Hs:=λ_=>[aJ g 24 [.slice A n c]])
  hds rfl ⟨_,func381,q_,rfl⟩ (λ_=>rfl) sD ?_
  (λM R' lp J X hE hy=>bwd M g A n c l (hr.sub hE) lp J X hy) ?_ ?_ ?_ ?_
 ·simp only[aCj,aBq];exact(aB.lH (p:=∀j x,j<0→(bw l)[j]?=some x→iP c0 x.2<0) λj x hj=>absurd hj o_).trans aA
 ·intro E2 R3 lp k x hE hd hx;rw[Et hx];repeat (first|refine HI ?_|refine HC ?_|intro _)
  exact⟨_,aD,aA⟩
 ·intro E2 R3 lp k x y Gf hE hd hx;rw[Et hx];obtain⟨i,x⟩:=x;obtain⟨hi,hxl⟩:=Ou hx;try dsimp only
  refine CI.fact aS λhall=>?_;by_cases hl:iP c0 x<0
  ·repeat (first|refine HI ?_|refine HC ?_|intro _)
   refine Zz sD sK aC (λM hE=>Dm M c0 x) ?_;rintro e H' ⟨rfl,rfl⟩;refine⟨_,rfl,_,bG,?_⟩;repeat (first|refine HI ?_|refine HC ?_|intro _)
   refine⟨(aB.lH (p:=∀j x,j<k+1→(bw l)[j]?=some x→iP c0 x.2<0) λj z hj hz=>?_).trans aA⟩;by_cases hjk:j=k
   ·subst hjk;rw[hx] at hz;injection hz with hz;subst hz;exact hl
   ·exact hall j z o_ hz
  ·repeat (first|refine HI ?_|refine HC ?_|intro _)
   refine Zz sD sK aC (λM hE=>Dm M c0 x) ?_;rintro e H' ⟨rfl,rfl⟩;refine⟨_,rfl,_,bG,?_⟩;repeat (first|refine HI ?_|refine HC ?_|intro _)
   refine⟨rfl,(aB.lH (p:=(∀j x,j<k→(bw l)[j]?=some x→iP c0 x.2<0)∧¬iP c0 x<0) ⟨hall,hl⟩).trans aA⟩
 ·intro D;simp only[aCj,aBq];change WJ _ _ _ _ _ _ [_,_,_,aJ g5 3 [.int .i64 ((0:Nat):Int)],_];refine WJ.fact aS λhall=>?_;refine WJ.ZB ?_;obtain⟨m,hm⟩:∃m,m=0:=⟨_,rfl⟩
  have hkn:m≤n:=by rw[hm];exact aAh _
  have hat:uI l c0=m:=by rw[hm];exact Af (BU λi x hi hx=>by have:=hall (n - 1 - i) (i,x) (by rw[zY];omega) (Hi o_ hx);simpa using this)
  refine C.conv (H':=[vD D,aJ g3 34 c0.cs,aJ g5 3 [.int .i64 (m:Int)],aJ g 24 [.slice A n c]]) (by rw[hm];exact aA) ?_;have hlen:=lA l c0;unfold lG at hlen⊢;rw[hat] at hlen⊢;clear hall hat hm;have hr':Rd (E.jU [{ target:=.collected D,args:=#[] }]) bE A n c l:=hr;have h1:Rd (E.jU [{ target:=.collected D,args:=#[] }]) bE A m c (l.take m):=hr.upto hkn o_ (aAf _);have h2:Rd (E.jU [{ target:=.collected D,args:=#[] }]) bE _ _ _ (l.drop m):=hr.from_ (k:=m) hkn;repeat first|refine v_ ?_|intro
  refine rA (l_ [0,1,2,3,5,6,7] (g_ 4 (g_ 8 (g_ 9 (n_ 10 .nil))))) ?_;repeat first|refine v_ ?_|intro
  refine cg rfl sD bA sK aC (λM hE=>zJ M _ _ _ _ dB (by intro s hs;simp at hs;rcases hs with rfl|rfl|rfl;exact h1.sub hE;exact dB;exact h2.sub hE) (by simp;omega)) ?_;simp only[aDy,aEu,aAc,←aAb,hlen,←hn];rintro e H' ⟨B,d,hd,rfl,rfl⟩;repeat first|refine v_ ?_|intro
  refine⟨_,aS,?_⟩;exact jQ ⟨_,_,hd,rfl,rfl⟩
 ·intro D k hk;simp only[aCj,aBq];change WJ _ _ _ _ _ _ [_,_,_,aJ g5 3 [.int .i64 (((Tf l k).1+1:Nat):Int)],_];refine WJ.fact aS λhall=>?_;refine WJ.ZB ?_;obtain⟨m,hm⟩:∃m,m=(Tf l k).1+1:=⟨_,rfl⟩
  have hkn:m≤n:=by rw[hm];exact(by have h:=aAa hk;rw[Et h];have:=(Ou (i:=(bw l)[k].1) (x:=(bw l)[k].2) h).1;omega)
  have hat:uI l c0=m:=by rw[hm];exact(by have h:=aAa hk;rw[Et h] at hall⊢;have hb:=Ou (i:=(bw l)[k].1) (x:=(bw l)[k].2) h;refine D4 hb.2 (decide_eq_true hall.2) λj y hj hy=>?_;have hjn:=(aAd.1 hy).1;have:=hall.1 (n - 1 - j) (j,y) o_ (Hi o_ hy);simpa using this)
  refine C.conv (H':=[vD D,aJ g3 34 c0.cs,aJ g5 3 [.int .i64 (m:Int)],aJ g 24 [.slice A n c]]) (by rw[hm];exact aA) ?_;have hlen:=lA l c0;unfold lG at hlen⊢;rw[hat] at hlen⊢;clear hall hat hm;have hr':Rd (E.jU [{ target:=.collected D,args:=#[] }]) bE A n c l:=hr;have h1:Rd (E.jU [{ target:=.collected D,args:=#[] }]) bE A m c (l.take m):=hr.upto hkn o_ (aAf _);have h2:Rd (E.jU [{ target:=.collected D,args:=#[] }]) bE _ _ _ (l.drop m):=hr.from_ (k:=m) hkn;repeat first|refine v_ ?_|intro
  refine rA (l_ [0,1,2,3,5,6,7] (g_ 4 (g_ 8 (g_ 9 (n_ 10 .nil))))) ?_;repeat first|refine v_ ?_|intro
  refine cg rfl sD bA sK aC (λM hE=>zJ M _ _ _ _ dB (by intro s hs;simp at hs;rcases hs with rfl|rfl|rfl;exact h1.sub hE;exact dB;exact h2.sub hE) (by simp;omega)) ?_;simp only[aDy,aEu,aAc,←aAb,hlen,←hn];rintro e H' ⟨B,d,hd,rfl,rfl⟩;repeat first|refine v_ ?_|intro
  refine⟨_,aS,?_⟩;exact jQ ⟨_,_,hd,rfl,rfl⟩
instance:cL 221 [.slice none 0 0] [(0,1)]:=⟨⟨q_,q_⟩⟩
theorem Qo(E:Env)(A:Option Addr)(n c:Nat)(l:List aX)(hr:Rd E bE A n c l)(f:FuncId)(cs:List Value)(p:aX→Bool)(hk:xA f=true)(hp:∀M R,Sub E R M→∀x:aX,G M f (.agg x.cs.toArray::cs) [] (cM (.bool (p x)) [])) :
  G E 337 [.slice A n c,.func (.func f) #[] cs.toArray] [] (cM (.bool (l.any p)) []):=by
 refine t_ func337 ntmps337 ?_;repeat first|refine v_ ?_|intro
 refine cl sD sK aC (λM hE=>KM M A n c l dB f cs p hk λE2 R hE2=>hp E2 _ (hE.trans hE2)) ?_;rintro r H' ⟨rfl,rfl⟩;repeat first|refine v_ ?_|intro
 exact aR rfl aF aA (⟨by rw[←rC],rfl⟩)
abbrev pt(g:Nat):Value:=.pointer (some ⟨g,0,none⟩)
section
variable (E:Env) (g:Nat) (B:Option Addr) (m d:Nat) (l:List aX)
theorem Gt(hb:gE E g [.slice B m d])(hr:Rd E bE B m d l):G E 240 [pt g] [] (cM (.int .i64 m) []):=by
 refine t_ func240 ntmps240 ?_;repeat first|refine v_ ?_|intro
 exact B7
theorem tX(hb:gE E g [.slice B m d])(hr:Rd E bE B m d l)(hm:m≤100000):G E 77 [pt g] [] λe H'=>∃A k,(m≤k∧k≤maxLen)∧e=.returned (.slice A m k)∧H'=[own bE A m k l]:=by
 refine t_ func77 ntmps77 ?_;repeat first|refine v_ ?_|intro
 refine dX (λM h1=>xN M B m d l h1 (by omega)) ?_;rintro e H' ⟨A,k,hk,rfl,rfl⟩;repeat first|refine v_ ?_|intro
 exact jQ ⟨_,_,hk,rfl,rfl⟩
theorem JK(hb:gE E g [.slice B m d])(hr:Rd E bE B m d l)(hm:m≤100000):G E 143 [pt g] [] λe H'=>∃q A k,e=.returned (pt q)∧H'=[aJ q 221 [.slice A m k],own bE A m k l]:=by
 refine t_ func143 ntmps143 ?_;repeat first|refine v_ ?_|intro
 refine C1 (λM h1 h2=>tX M g B m d l h1 h2 hm) ?_;rintro e H' ⟨A,k,hk,rfl,rfl⟩;repeat first|refine v_ ?_|intro
 exact jQ ⟨_,_,_,rfl,rfl⟩
theorem JE(hb:gE E g [.slice B m d])(hr:Rd E bE B m d l):G E 179 [pt g] [] (cM (.tuple #[.agg ((l[0]?).getD dO).cs.toArray,.bool (!l.isEmpty)]) []):=by
 have hn:=hr.len;have hc:=hr.cap;refine t_ func179 ntmps179 ?_;repeat first|refine v_ ?_|intro
 refine DY (λM=>Gt M g B m d l) ?_;cases l with
 |nil =>
  obtain rfl:m=0:=hn;simp only[List.getElem?_nil,Option.getD_none,List.isEmpty_nil,Bool.not_true];repeat first|refine v_ ?_|intro
  exact Sa
 |cons x l =>
  simp only[aAs] at hn;have hx:(x::l)[0]?=some x:=rfl;simp only[hx,aBe,List.isEmpty_cons,aRa];repeat first|refine v_ ?_|intro
  exact Sa
def lM(l:List aX)(a:bJ):Bool:=decide (0≤bI l a) && !(l.any λc=>decide (c.id.rep=a.rep∧c.id.seq<a.seq))
theorem WQ(q:Nat)(a:bJ)(h:gE E q a.cs)(x:aX):G E 373 [.agg x.cs.toArray,pt q] [] (cM (.bool (decide (x.id.rep=a.rep∧x.id.seq<a.seq))) []):=by
 refine t_ func373 ntmps373 ?_;repeat' (first|refine w_ ?_|refine k_ ?_|refine f_ ?_ ?_|intro _)
 all_goals exact aR rfl aF aA ⟨rJ,rfl⟩
theorem Lx(hb:gE E g [.slice B m d])(hr:Rd E bE B m d l)(r s:Int):G E 345 [pt g,.agg #[.int .i64 r,.int .i64 s]] [] (cM (.bool (lM l ⟨r,s⟩)) []):=by
 unfold lM;refine t_ func345 ntmps345 ?_;repeat first|refine v_ ?_|intro
 rename_i q;by_cases h:0≤bI l ⟨r,s⟩
 ·rw[decide_eq_true h,aCt];refine rA (l_ [0,1,2,3,4,5,6,7] (g_ 8 (l_ [9,10] .nil))) ?_;repeat first|refine v_ ?_|intro
  refine cl sD sK aC (λM hE=>Qo M B m d l (hr.sub hE) 373 [_] _ sK λE2 R2 hE2 x=>WQ E2 q ⟨r,s⟩ ((gE.of hE aS).sub hE2) x) ?_;rintro e H' ⟨rfl,rfl⟩;repeat first|refine v_ ?_|intro
  exact B7
 ·rw[decide_eq_false h,aCx];refine rA (l_ [0,1,2,3,4,5,6,7] (g_ 8 (l_ [9,10] .nil))) ?_;repeat first|refine v_ ?_|intro
  exact B7
def rF(l:List aX)(a:bJ):List aX:=if lM l a then mD l (bI l a) else l
theorem L5(r s:Int)(hm:m≤100000):G E 303 [pt g,.agg #[.int .i64 r,.int .i64 s]] [aJ g 221 [.slice B m d],own bE B m d l]
  λe H'=>∃A k,e=.returned (.tuple #[.agg (if lM l ⟨r,s⟩ then(l[(bI l ⟨r,s⟩).toNat]?).getD dO else dO).cs.toArray,.bool (lM l ⟨r,s⟩)])∧H'=[aJ g 221 [.slice A (rF l ⟨r,s⟩).length k],own bE A (rF l ⟨r,s⟩).length k (rF l ⟨r,s⟩)]:=by
 unfold rF;refine aK.fact (p:=m=l.length) (λw hw=>by obtain⟨F,h1,_⟩:=hw.has (a:=own bE B m d l) aS;exact h1.1) λhn=>?_;refine t_ func303 ntmps303 ?_;repeat first|refine v_ ?_|intro
 rename_i g3 g4;refine DY (λM h1 h2=>Lx M g B m d l h1 h2 r s) ?_;cases hf:lM l ⟨r,s⟩ with
 |false =>
  simp only[aCb,if_false];rw[←hn];repeat first|refine v_ ?_|intro
  exact gS rfl aF rfl rfl rfl aS rfl aF aA (⟨_,_,rfl,rfl⟩)
 |true =>
  simp only[if_true];have h0:0≤bI l ⟨r,s⟩:=by unfold lM at hf;simp at hf;exact hf.1
  obtain⟨hlt,x,hx,_⟩:=gZ h0;change l[(bI l ⟨r,s⟩).toNat]?=some x at hx;rw[hx,aBe];repeat first|refine v_ ?_|intro
  refine rA (l_ [0,1,2,3,4] (g_ 5 (n_ 6 .nil))) ?_;repeat first|refine v_ ?_|intro
  refine dX (λM h1=>GD M B m d l (bI l ⟨r,s⟩) h1 hm) ?_;rintro e H' ⟨A,k,hk,rfl,rfl⟩;repeat first|refine v_ ?_|intro
  exact gS rfl aF rfl rfl rfl aS rfl aF aA (⟨_,_,rfl,rfl⟩)
theorem OA(x:aX)(hm:m≤10000):G E 302 [pt g,.agg x.cs.toArray] [aJ g 221 [.slice B m d],own bE B m d l]
  λe H'=>∃A k,e=.returned (.bool (decide (bI l x.id<0)))∧H'=[aJ g 221 [.slice A (if bI l x.id<0 then lG l x else l).length k],own bE A (if bI l x.id<0 then lG l x else l).length k (if bI l x.id<0 then lG l x else l)]:=by
 refine aK.fact (p:=m=l.length) (λw hw=>by obtain⟨F,h1,_⟩:=hw.has (a:=own bE B m d l) aS;exact h1.1) λhn=>?_;refine t_ func302 ntmps302 ?_;by_cases h:bI l x.id<0
 ·have h':¬0≤bI l ⟨x.id.rep,x.id.seq⟩:=by show ¬0≤bI l x.id;omega
  simp only[if_pos h,decide_eq_true h];have hl:=lA l x;rw[←hn] at hl;rw[hl];repeat first|refine v_ ?_|intro
  refine rA (l_ [0,1,2,3,4,5,6,7,8] (g_ 9 (l_ [10,11] .nil))) ?_;repeat first|refine v_ ?_|intro
  refine C.bL 9 (l_ [0,1,2,3,4,5] (g_ 6 (l_ [7,8] (g_ 9 .nil)))) _ q_ q_ aB.refl ?_;repeat first|refine v_ ?_|intro
  refine C2 (λM h1=>Px M B m d l x h1 hm) ?_;rintro e H' ⟨A,k,hk,rfl,rfl⟩;repeat first|refine v_ ?_|intro
  exact jQ ⟨_,_,rfl,rfl⟩
 ·have h':0≤bI l ⟨x.id.rep,x.id.seq⟩:=by show 0≤bI l x.id;omega
  simp only[if_neg h,decide_eq_false h];rw[←hn];repeat first|refine v_ ?_|intro
  refine rA (l_ [0,1,2,3,4,5,6,7,8] (g_ 9 (l_ [10,11] .nil))) ?_;repeat first|refine v_ ?_|intro
  exact jQ ⟨_,_,rfl,rfl⟩
end
def Ak(v t:V4)(c:aX):Bool:=c.id.may&&decide (vK v c.id.rep=c.id)&&decide (1≤c.time∧c.time≤1073741824)&&decide (t.get c.id.rep<c.time)
theorem Mn(E:Env)(v t:V4)(c:aX)(hv:v.ok):G E 301 [.agg v.cs.toArray,.agg t.cs.toArray,.agg c.cs.toArray] [] (cM (.bool (Ak v t c)) []):=by
 obtain⟨⟨r,s⟩,tm,kd,a,b,nn,rf⟩:=c;unfold Ak;dsimp only[aX.cs,G];refine t_ func301 ntmps301 ?_;cases h1:bJ.may ⟨r,s⟩ with
 |false =>
  simp only[aCx];repeat first|refine v_ ?_|intro
  refine rA (l_ [0,1] (g_ 2 (l_ [3,4,5,6,7,9,10] (g_ 8 (l_ [11,12,13,14,15] (g_ 16 (l_ [17,18,19,20,21,22,23,24,25,26,27,28] .nil))))))) ?_;repeat first|refine v_ ?_|intro
  exact B7
 |true =>
  have hm:=(bJ.bY _).1 h1;dsimp only at hm;simp only[aCt];cases h2:decide (vK v r=⟨r,s⟩) with
  |false =>
   simp only[aCx];repeat first|refine v_ ?_|intro
   refine rA (l_ [0,1] (g_ 2 (l_ [3,4,5,6,7,9,10] (g_ 8 (l_ [11,12,13,14,15] (g_ 16 (l_ [17,18,19,20,21,22,23,24,25,26,27,28] .nil))))))) ?_;repeat first|refine v_ ?_|intro
   refine eJ (λM=>nY M v r hv) ?_;repeat first|refine v_ ?_|intro
   exact B7
  |true =>
   simp only[aCt];by_cases h3:1≤tm∧tm≤1073741824
   ·rw[decide_eq_true h3,aCt];rcases four (show 0≤r∧r≤3 by omega) with rfl|rfl|rfl|rfl
    ·rw[show t.get 0=t.a from rfl];repeat first|refine v_ ?_|intro
     refine rA (l_ [0,1] (g_ 2 (l_ [3,4,5,6,7,9,10] (g_ 8 (l_ [11,12,13,14,15] (g_ 16 (l_ [17,18,19,20,21,22,23,24,25,26,27,28] .nil))))))) ?_;repeat first|refine v_ ?_|intro
     refine eJ (λM=>nY M v 0 hv) ?_;repeat first|refine v_ ?_|intro
     exact aR rfl aF aA (⟨rJ,rfl⟩)
    ·rw[show t.get 1=t.b from rfl];repeat first|refine v_ ?_|intro
     refine rA (l_ [0,1] (g_ 2 (l_ [3,4,5,6,7,9,10] (g_ 8 (l_ [11,12,13,14,15] (g_ 16 (l_ [17,18,19,20,21,22,23,24,25,26,27,28] .nil))))))) ?_;repeat first|refine v_ ?_|intro
     refine eJ (λM=>nY M v 1 hv) ?_;repeat first|refine v_ ?_|intro
     exact aR rfl aF aA (⟨rJ,rfl⟩)
    ·rw[show t.get 2=t.c from rfl];repeat first|refine v_ ?_|intro
     refine rA (l_ [0,1] (g_ 2 (l_ [3,4,5,6,7,9,10] (g_ 8 (l_ [11,12,13,14,15] (g_ 16 (l_ [17,18,19,20,21,22,23,24,25,26,27,28] .nil))))))) ?_;repeat first|refine v_ ?_|intro
     refine eJ (λM=>nY M v 2 hv) ?_;repeat first|refine v_ ?_|intro
     exact aR rfl aF aA (⟨rJ,rfl⟩)
    ·rw[show t.get 3=t.d from rfl];repeat first|refine v_ ?_|intro
     refine rA (l_ [0,1] (g_ 2 (l_ [3,4,5,6,7,9,10] (g_ 8 (l_ [11,12,13,14,15] (g_ 16 (l_ [17,18,19,20,21,22,23,24,25,26,27,28] .nil))))))) ?_;repeat first|refine v_ ?_|intro
     refine eJ (λM=>nY M v 3 hv) ?_;repeat first|refine v_ ?_|intro
     exact aR rfl aF aA (⟨rJ,rfl⟩)
   ·rw[decide_eq_false h3,aCx];repeat first|refine v_ ?_|intro
    refine rA (l_ [0,1] (g_ 2 (l_ [3,4,5,6,7,9,10] (g_ 8 (l_ [11,12,13,14,15] (g_ 16 (l_ [17,18,19,20,21,22,23,24,25,26,27,28] .nil))))))) ?_;repeat first|refine v_ ?_|intro
    refine eJ (λM=>nY M v r hv) ?_;repeat first|refine v_ ?_|intro
    exact aR rfl aF aA (⟨rJ,rfl⟩)
end Go.Proofs.YtmilalkjbojciaaGreat.Sep
