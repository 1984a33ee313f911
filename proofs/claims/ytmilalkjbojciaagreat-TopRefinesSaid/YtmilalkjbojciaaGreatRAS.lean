/- Part AS: what it needs. No condition. -/
import Derived.Test.YtmilalkjbojciaaGreatRAA
import Derived.Test.YtmilalkjbojciaaGreatRAE
import Derived.Test.YtmilalkjbojciaaGreatRAP
import Derived.Test.YtmilalkjbojciaaGreatRAQ
set_option maxRecDepth 100000
set_option maxHeartbeats 8000000
open Go.Proofs.Tryz
namespace Go.Proofs.YtmilalkjbojciaaGreat.Sep
open Go.RowKit Reg
open Mem hiding Rd
def jP{α:Type}(f:Nat→dS→List α)(ps:List dS):Nat→List α
 |0=>[]
 |k+1=>jP f ps k++(match ps[k]? with|some s=>f k s|none=>[])
theorem I1{α:Type}{f:Nat→dS→List α}{ps:List dS}{k:Nat}{s:dS}(h:ps[k]?=some s):jP f ps (k+1)=jP f ps k++f k s:=by
 show jP f ps k++_=_;rw[h]
def RT(r:Int)(i:Nat):bJ:=⟨r,((i+1:Nat):Int)⟩
def fL(r:Int)(cf:fU)(now:Int)(i:Nat)(s:dS):List dK:=if Ej (RT r i) s.made s.l s.w cf now then[(s.Yr (RT r i)).getD wN] else[]
theorem Tp{ls:List fG}{i:Nat}{e:fG}(h:ls[i]?=some e):(ls.map fG.s)[i]?=some e.s:=by rw[aBf,h];rfl
theorem K4{α:Type}{f:Nat→dS→List α}(hf:∀i s,(f i s).length≤1)(ps:List dS)(k:Nat):(jP f ps k).length≤k:=by
 induction k with
 |zero=>exact aAf _
 |succ k ih =>
  show(jP f ps k++_).length≤_;rw[aAe];cases ps[k]? with
  |none=>simp;omega
  |some s=>have:=hf k s;dsimp only;omega
abbrev mV(v:Qc):aL:=own fH v.A v.n v.c v.l
section
variable (E:Env) (g:Nat) (B:Option Addr) (n d:Nat) (r:Int) (ls:List fG)
theorem JD:aK prog E 161 #[.pointer (some ⟨g,0,none⟩)] [lg g B n d r] λe H'=>e=.returned (.slice B n d)∧H'=[lg g B n d r]:=by
 refine t_ func161 ntmps161 ?_;repeat first|refine cY ?_|intro
 exact B7
theorem U0(cf:fU)(now:Int)(hn:n≤1000)(hnl:n=ls.length)(hok:EE r ls) :
  aK prog E 241 #[.pointer (some ⟨g,0,none⟩),.agg cf.cs.toArray,.int .i64 now] (vM g B n d r ls) λx H'=>∃O m oc,x=.returned (.slice O m oc)∧m=(jP (fL r cf now) (ls.map fG.s) n).length∧H'=[own cP O m oc (jP (fL r cf now) (ls.map fG.s) n),lg g B n d r,own eD B n d ls,aO gJ ls,aO iD ls]:=by
 have hmax:=fX;unfold vM;refine t_ func241 ntmps241 ?_;repeat first|refine cY ?_|intro
 rename_i g4;refine bW (λM=>JD M g B n d r) ?_;rintro x H' ⟨rfl,rfl⟩;repeat first|refine cY ?_|intro
 refine C.loop (X:=Nat×Option Addr×Nat×Nat) (λx=>[(2,.int .i64 now),(4,.pointer (some ⟨g4,0,none⟩)),(7,.slice x.2.1 x.2.2.1 x.2.2.2),(13,.slice B n d),(14,.int .i64 n),(15,.int .i64 x.1)])
  (λx=>[own cP x.2.1 x.2.2.1 x.2.2.2 (jP (fL r cf now) (ls.map fG.s) x.1),aJ g4 23 cf.cs,lg g B n d r,own eD B n d ls,aO gJ ls,aO iD ls]) (λx=>x.1≤n∧x.2.2.1≤x.1∧x.2.2.1=(jP (fL r cf now) (ls.map fG.s) x.1).length) (λx=>n - x.1) (0,none,0,0) aD (by show aB _ _ [own cP none 0 0 [],aJ g4 23 cf.cs,lg g B n d r,own eD B n d ls,aO gJ ls,aO iD ls];exact(aB.oR cP none).trans aA) ⟨aAh _,aAf _,rfl⟩ ?_
 rintro⟨i,O,m,oc⟩ F ⟨hi,hm,hml⟩;dsimp only at hi hm hml⊢;by_cases hlt:i<n
 ·obtain⟨e,he⟩:∃e,ls[i]?=some e:=⟨_,aAa o_⟩
  have hoe:=hok i e he;have hid:RT r i=e.id:=hoe.id.symm;have hm2:dQ e.made:=by have:=hoe.s.tS;have:=hoe.s.nK;unfold dQ;unfold fG.s at *;dsimp only at *;omega
  have hac:=I1 (f:=fL r cf now) (Tp he);repeat first|refine cY ?_|intro
  refine cl sD sK aC (λM hE=>V6 M e.id e.made e.A e.n e.c e.l e.w e.X e.nx e.cx cf now (Sub.aO (f:=gJ) hE aS he rfl) (Sub.aO (f:=iD) hE aS he rfl) hoe.s.sE hm2) ?_;cases hrd:Ej e.id e.made e.l e.w cf now
  ·have hf:fL r cf now i e.s=[]:=by unfold fL fG.s;rw[hid];dsimp only;rw[hrd];rfl
   rw[hf,aAc] at hac;rintro x H' ⟨rfl,rfl⟩;repeat first|refine cY ?_|intro
   refine⟨(i+1,O,m,oc),aD,?_,⟨by dsimp only;omega,by dsimp only;omega,by dsimp only;rw[hac];exact hml⟩,by dsimp only;omega⟩;dsimp only;rw[hac];exact aA
  ·have hf:fL r cf now i e.s=[(next e.id e.made e.l e.w).getD wN]:=by unfold fL fG.s dS.Yr;rw[hid];dsimp only;rw[hrd];rfl
   rw[hf] at hac;rintro x H' ⟨rfl,rfl⟩;repeat first|refine cY ?_|intro
   refine cl sD sK aC (λM hE=>yJ M e.id e.made e.A e.n e.c e.l e.w e.X e.nx e.cx (Sub.aO (f:=gJ) hE aS he rfl) (Sub.aO (f:=iD) hE aS he rfl) hoe.s.sE hm2) ?_;unfold Ra;generalize (next e.id e.made e.l e.w).getD wN=q at hac;rintro x H' ⟨rfl,rfl⟩;repeat first|refine cY ?_|intro
   rename_i O2 c2 k1 k2;refine⟨(i+1,O2,m+1,c2),aD,?_,⟨by dsimp only;omega,by dsimp only;omega,by dsimp only;rw[hac,aAe,←hml];rfl⟩,by dsimp only;omega⟩;dsimp only;rw[hac];exact aA
 obtain rfl:i=n:=o_;repeat first|refine cY ?_|intro
 exact jQ ⟨O,m,oc,rfl,hml,rfl⟩
theorem S9(hn:n≤1000)(hnl:n=ls.length)(hok:EE r ls) :
  aK prog E 100 #[.pointer (some ⟨g,0,none⟩)] (vM g B n d r ls) λx H'=>∃O oc chl,x=.returned (.slice O n oc)∧chl.length=n∧(∀(i:Nat) (e:fG),ls[i]?=some e→∃v:Qc,chl[i]?=some v∧v.id=e.id∧v.made=e.made∧v.l=e.l∧v.n=e.n∧v.n≤v.c∧v.c≤maxLen)∧H'=[own pZ O n oc chl,aO mV chl,lg g B n d r,own eD B n d ls,aO gJ ls,aO iD ls]:=by
 have hmax:=fX;unfold vM;refine t_ func100 ntmps100 ?_;repeat first|refine cY ?_|intro
 refine bW (λM=>JD M g B n d r) ?_;rintro x H' ⟨rfl,rfl⟩;repeat first|refine cY ?_|intro
 refine C.loop (X:=Nat×Option Addr×Nat×List Qc) (λx=>[(3,.slice x.2.1 x.1 x.2.2.1),(7,.slice B n d),(8,.int .i64 n),(9,.int .i64 x.1)])
  (λx=>[own pZ x.2.1 x.1 x.2.2.1 x.2.2.2,aO mV x.2.2.2,lg g B n d r,own eD B n d ls,aO gJ ls,aO iD ls]) (λx=>x.1≤n∧x.2.2.2.length=x.1∧∀(i:Nat) (e:fG),i<x.1→ls[i]?=some e→∃v:Qc,x.2.2.2[i]?=some v∧v.id=e.id∧v.made=e.made∧v.l=e.l∧v.n=e.n∧v.n≤v.c∧v.c≤maxLen) (λx=>n - x.1) (0,none,0,[]) aD ((aB.oR pZ none).trans ((aB.kP mV).trans aA)) ⟨aAh _,rfl,λi e h=>absurd h (aFk _)⟩ ?_
 rintro⟨i,O,oc,chl⟩ F ⟨hi,hcl,hall⟩;dsimp only at hi hcl hall⊢;by_cases hlt:i<n
 ·obtain⟨e,he⟩:∃e,ls[i]?=some e:=⟨_,aAa o_⟩
  have hoe:=hok i e he;have hel:e.n≤1000000:=by have h1:=hoe.s.len;have h2:=hoe.s.nK;have h3:=hoe.n;unfold fG.s at h1 h2;dsimp only at h1 h2;omega
  repeat first|refine cY ?_|intro
  refine cl sD sK aC (λM hE=>Cq M e.id e.made e.A e.n e.c e.l (Sub.aO (f:=gJ) hE aS he rfl) hel) ?_;rintro x H' ⟨A',c',rfl,hc',rfl⟩;repeat first|refine cY ?_|intro
  refine L.fQ sD (S.cB (T:=pZ) (e:=⟨e.id,e.made,A',e.n,c',e.l⟩) rfl rfl rfl rfl sD) ?_;rintro _ _ ⟨_,rfl,rfl⟩;repeat first|refine cY ?_|intro
  rename_i O2 c2 k1 k2;refine⟨(i+1,O2,c2,chl++[⟨e.id,e.made,A',e.n,c',e.l⟩]),aD,aB.trans (aB.push (f:=mV) (l:=chl) (x:=⟨e.id,e.made,A',e.n,c',e.l⟩) aC) aA,⟨by dsimp only;omega,by dsimp only;rw[aAe,hcl];rfl,λj y hj hy=>?_⟩,by dsimp only;omega⟩;dsimp only at hj⊢;by_cases hji:j=i
  ·subst hji;rw[he] at hy;injection hy with hy
   subst hy;exact⟨⟨e.id,e.made,A',e.n,c',e.l⟩,by rw[←hcl];simp,rfl,rfl,rfl,rfl,hc'⟩
  ·obtain⟨v,hv,h⟩:=hall j y o_ hy;exact⟨v,by rw[aBp (by rw[hcl];omega)];exact hv,h⟩
 obtain rfl:i=n:=o_;repeat first|refine cY ?_|intro
 exact aR rfl aF aA (⟨O,oc,chl,rfl,hcl,λj y hy=>hall j y (by have:=(aAd.1 hy).1;omega) hy,rfl⟩)
end
def TY(E:Env)(ls:List fG):Prop:=∀e∈ls,Rd E fH e.A e.n e.c e.l∧Rd E eG e.X e.nx e.cx e.w
theorem TY.sub{E M:Env}{R:List aL}{ls:List fG}(hE:Sub E R M)(h:TY E ls):TY M ls:=λe he=>⟨(h e he).1.sub hE,(h e he).2.sub hE⟩
theorem TY.of{E M:Env}{R R1 R2:List aL}{ls:List fG}(hE:Sub E R M)(h1:Has (aO gJ ls) R R1)(h2:Has (aO iD ls) R R2):TY M ls:=λe he=>by
 obtain⟨i,hi,rfl⟩:=aBm he;exact⟨Sub.aO (f:=gJ) hE h1 (aAa hi) rfl,Sub.aO (f:=iD) hE h2 (aAa hi) rfl⟩
def qG(ps:List dS):Bool:=ps.all λs=>quiet s.l s.w
section
variable (E:Env) (g:Nat) (B:Option Addr) (n d:Nat) (r:Int) (ls:List fG)
theorem p6(x:fG)(hr:Rd E fH x.A x.n x.c x.l)(hw:Rd E eG x.X x.nx x.cx x.w):aK prog E 205 #[.agg x.cs.toArray] [] λe H'=>e=.returned (.bool (!quiet x.l x.w))∧H'=[]:=by
 refine t_ func205 ntmps205 ?_;repeat first|refine cY ?_|intro
 refine DY (λM=>VW M x.id x.made x.A x.n x.c x.l x.w x.X x.nx x.cx) ?_;repeat first|refine cY ?_|intro
 exact B7
theorem Xp(hr:Rd E eD B n d ls)(hst:TY E ls):aK prog E 265 #[.slice B n d,.func (.func 205) #[] #[]] [] λx H'=>(∃i:Int,x=.returned (.int .i64 i)∧decide (0≤i) = !qG (ls.map fG.s))∧H'=[]:=by
 have hn:=hr.len;have hcap:=hr.cap;refine t_ func265 ntmps265 ?_;repeat first|refine cY ?_|intro
 refine C.loop (X:=Nat) (λi=>[(0,.slice B n d),(1,.func (.func 205) #[] #[]),(7,.int .i64 n),(8,.int .i64 i)]) (λ_=>[]) (λi=>i≤n∧∀(j:Nat) (y:fG),j<i→ls[j]?=some y→quiet y.l y.w=true) (λi=>n - i) 0 aD aB.refl ⟨aAh _,λj y hj=>by omega⟩ ?_;rintro i G ⟨hi,hall⟩;by_cases hlt:i<n
 ·have hx:ls[i]?=some ls[i]:=aAa o_;have hmem:ls[i]∈ls:=aCs o_;generalize ls[i]=x at hx hmem;have hmax:=fX;repeat first|refine cY ?_|intro
  refine L.step sD (S.wB (cs:=[]) rfl rfl rfl rfl func205 q_ rfl aC (λM hE=>p6 M x ((hst x hmem).1.sub hE) ((hst x hmem).2.sub hE)) ?_);rintro e H' ⟨rfl,rfl⟩;refine gk bG ?_;cases hp:quiet x.l x.w
  ·have hq:qG (ls.map fG.s)=false:=by
    unfold qG;rw[List.all_eq_false];exact⟨x.s,aFi hmem,by show ¬quiet x.l x.w=true;rw[hp];exact aAl⟩
   repeat first|refine cY ?_|intro
   exact aR rfl aF aA (⟨⟨i,rfl,by rw[hq];exact decide_eq_true (aFo i)⟩,rfl⟩)
  ·repeat first|refine cY ?_|intro
   refine⟨i+1,aD,aB.refl,⟨by omega,λj y hj hy=>?_⟩,by omega⟩;by_cases hji:j=i
   ·subst hji;rw[hx] at hy;injection hy with hy;subst hy;exact hp
   ·exact hall j y o_ hy
 ·obtain rfl:i=n:=o_;have hq:qG (ls.map fG.s)=true:=by
   unfold qG;rw[aDm];intro s hs;obtain⟨y,hy,rfl⟩:=aFn.1 hs;obtain⟨j,hj,rfl⟩:=aBm hy;exact hall j _ o_ (aAa hj)
  repeat first|refine cY ?_|intro
  exact aR rfl aF aA (⟨⟨-1,rfl,by rw[hq];rfl⟩,rfl⟩)
theorem Vj:aK prog E 144 #[.pointer (some ⟨g,0,none⟩)] (vM g B n d r ls) λx H'=>x=.returned (.bool (qG (ls.map fG.s)))∧H'=vM g B n d r ls:=by
 unfold vM;refine t_ func144 ntmps144 ?_;repeat first|refine cY ?_|intro
 refine bW (λM=>JD M g B n d r) ?_;rintro x H' ⟨rfl,rfl⟩;repeat first|refine cY ?_|intro
 have hcont:∀M,Rd M eD B n d ls→TY M ls→aK prog M 204 #[.slice B n d,.func (.func 205) #[] #[]] [] λx H'=>x=.returned (.bool (!qG (ls.map fG.s)))∧H'=[]:=by
  intro E2 h1 h2;refine t_ func204 ntmps204 ?_;repeat first|refine cY ?_|intro
  refine cl sD sK aC (λM hE=>Xp M B n d ls (h1.sub hE) (h2.sub hE)) ?_;rintro x H' ⟨⟨i,rfl,hi⟩,rfl⟩;repeat first|refine cY ?_|intro
  apply aR;(· exact rfl);(· exact aF);rotate_left;(· exact(⟨by rw[←hi],rfl⟩));(· exact aA)
 refine cl sD sK aC (λM hE=>hcont M dB (TY.of hE aS aS)) ?_;rintro x H' ⟨rfl,rfl⟩;repeat first|refine cY ?_|intro
 apply aR;(· exact rfl);(· exact aF);rotate_left;(· exact(⟨by rw[Bool.not_not],rfl⟩));(· exact aA)
theorem VQ(hn:n≤1000)(hnl:n=ls.length)(hok:EE r ls):aK prog E 202 #[.pointer (some ⟨g,0,none⟩)] (vM g B n d r ls) λx H'=>∃g2 B2 d2 l2,x=.returned (.pointer (some ⟨g2,0,none⟩))∧EE r l2∧l2.map fG.s=ls.map fG.s∧(n≤d2∧d2≤maxLen)∧H'=[lg g2 B2 n d2 r,own eD B2 n d2 l2,aO gJ l2,aO iD l2,lg g B n d r,own eD B n d ls,aO gJ ls,aO iD ls]:=by
 have hmax:=fX;unfold vM;refine t_ func202 ntmps202 ?_;repeat first|refine cY ?_|intro
 refine bW (λM=>Xl M r) ?_;rintro x H' ⟨g2,rfl,rfl⟩;repeat first|refine cY ?_|intro
 refine C.loop (X:=Nat×Option Addr×Nat×List fG) (λx=>[(3,.pointer (some ⟨g2,0,none⟩)),(23,.slice B n d),(24,.int .i64 n),(25,.int .i64 x.1)])
  (λx=>[lg g2 x.2.1 x.1 x.2.2.1 r,own eD x.2.1 x.1 x.2.2.1 x.2.2.2,aO gJ x.2.2.2,aO iD x.2.2.2,lg g B n d r,own eD B n d ls,aO gJ ls,aO iD ls])
  (λx=>x.1≤n∧x.2.2.2.length=x.1∧EE r x.2.2.2∧x.2.2.2.map fG.s=(ls.map fG.s).take x.1∧(x.1≤x.2.2.1∧x.2.2.1≤maxLen)) (λx=>n - x.1) (0,none,0,[]) aD ((aB.oR eD none).trans ((aB.kP gJ).trans ((aB.kP iD).trans aA))) ⟨aAh _,rfl,λi e h=>(by cases h),rfl,⟨aAf _,aAh _⟩⟩ ?_
 rintro⟨i,B2,d2,l2⟩ F ⟨hi,hl2,hok2,hp2,hd1,hd2⟩;dsimp only at hi hl2 hok2 hp2 hd1 hd2⊢;by_cases hlt:i<n
 ·obtain⟨e,he⟩:∃e,ls[i]?=some e:=⟨_,aAa o_⟩
  have hoe:=hok i e he;have hel:e.n≤1000000:=by have h1:=hoe.s.len;have h2:=hoe.s.nK;have h3:=hoe.n;unfold fG.s at h1 h2;dsimp only at h1 h2;omega
  have hex:e.nx≤100000:=by have h1:=hoe.s.wide;have h3:=hoe.nx;unfold fG.s at h1;dsimp only at h1;omega
  have htk:(ls.map fG.s).take (i+1)=(ls.map fG.s).take i++[e.s]:=by
   have h:=Tp he;obtain⟨h1,h2⟩:=aAd.1 h;rw[aAn h1,h2]
  repeat first|refine cY ?_|intro
  rename_i g5;refine C.bL 16 (l_ [0,1,2,3,4,5,6,8,9] (g_ 7 (g_ 10 (n_ 11 (g_ 12 (g_ 13 (l_ [14,15] (g_ 16 .nil)))))))) ([lg g2 B2 i d2 r,aJ g5 242 e.cs]) q_ q_ aA ?_;repeat first|refine cY ?_|intro
  refine cg rfl sD bA sK aC (λM hE=>Cq M e.id e.made e.A e.n e.c e.l (Sub.aO (f:=gJ) hE (Has.aM (Has.aM (Has.aM (Has.aM (Has.aM (Has.aM (Has.aM Has.aN))))))) he rfl) hel) ?_;rintro x H' ⟨A',c',rfl,hc',rfl⟩;repeat first|refine cY ?_|intro
  refine cg rfl sD bA sK aC (λM hE=>Kf M e.X e.nx e.cx e.w (Sub.aO (f:=iD) hE (Has.aM (Has.aM (Has.aM (Has.aM (Has.aM (Has.aM (Has.aM (Has.aM (Has.aM Has.aN))))))))) he rfl) hex) ?_;rintro x H' ⟨X',cx',rfl,hcx',rfl⟩;repeat first|refine cY ?_|intro
  refine Dr.Aw rfl (by rintro k ⟨⟩<;>decide) bA (S.cB (T:=eD) (e:=⟨e.id,e.made,A',e.n,c',e.l,X',e.nx,cx',e.w⟩) rfl rfl rfl rfl sD) ?_;rintro _ _ ⟨_,rfl,rfl⟩;refine⟨aA,?_⟩;repeat first|refine cY ?_|intro
  rename_i B3 d3 h1 h2;have hnew:(⟨e.id,e.made,A',e.n,c',e.l,X',e.nx,cx',e.w⟩:fG).ok r i:=⟨hoe.id,hoe.n,hc',hoe.nx,hcx',hoe.s⟩
  refine⟨(i+1,B3,d3,l2++[⟨e.id,e.made,A',e.n,c',e.l,X',e.nx,cx',e.w⟩]),aD,?_,⟨by dsimp only;omega,by dsimp only;rw[aAe,hl2];rfl,hok2.push (by rw[hl2];exact hnew),by dsimp only;rw[aBk,hp2,htk];rfl,⟨h1,h2⟩⟩,by dsimp only;omega⟩;dsimp only;refine aB.trans (aB.push (f:=gJ) (l:=l2) (x:=⟨e.id,e.made,A',e.n,c',e.l,X',e.nx,cx',e.w⟩) aC) ?_;refine aB.trans (aB.push (f:=iD) (l:=l2) (x:=⟨e.id,e.made,A',e.n,c',e.l,X',e.nx,cx',e.w⟩) aC) ?_;exact aA
 obtain rfl:i=n:=o_;repeat first|refine cY ?_|intro
 exact aR rfl aF aA (⟨g2,B2,d2,l2,rfl,hok2,by rw[hp2,aAj (by rw[aAw];omega)],⟨hd1,hd2⟩,rfl⟩)
end
section
variable (E:Env) (g:Nat) (r:Int) (ps:List dS)
theorem SK:G E 144 [pt g] [eC g r ps] (cM (.bool (qG ps)) [eC g r ps]):=by
 refine mI λx hf=>?_;refine aK.post (Vj E g x.B x.ls.length x.d r x.ls) ?_;rintro e H' ⟨rfl,rfl⟩;have h2:=eC.mk (E:=E) (R:=[]) (g:=g) hf;rw[aAc] at h2;exact⟨_,h2,by rw[hf.ps],rfl⟩
theorem RG(hps:ps.length≤1000):G E 202 [pt g] [eC g r ps] λe H'=>∃g2,e=.returned (pt g2)∧H'=[eC g2 r ps,eC g r ps]:=by
 refine mI λx hf=>?_;have hl:x.ls.length=ps.length:=by rw[←hf.ps,aAw]
 refine aK.post (VQ E g x.B x.ls.length x.d r x.ls o_ rfl hf.ok) ?_;rintro e H' ⟨g2,B2,d2,l2,rfl,k1,k2,k3,rfl⟩;have hl2:l2.length=x.ls.length:=by have:=congrArg List.length k2;rwa [aAw,aAw] at this
 have h1:=eC.mk (E:=E) (R:=[]) (g:=g) hf;have h2:=eC.mk (E:=E) (R:=vM g x.B x.ls.length x.d r x.ls) (g:=g2) (x:=⟨B2,d2,l2⟩) (r:=r) (ps:=ps) ⟨k1,by rw[k2,hf.ps],by dsimp only;rw[hl2];exact k3⟩;dsimp only at h2;rw[hl2] at h2;rw[aAc] at h1;refine⟨[eC g2 r ps,eC g r ps],aB.trans h2 ?_,g2,rfl,rfl⟩;intro w hw;have h3:St E (vM g x.B x.ls.length x.d r x.ls++[eC g2 r ps]) w:=hw.conv λF hs=>by
  obtain⟨F1,F2,q1,q2,q3,q4⟩:=hs;exact⟨F,aY.2 ⟨F2,F1,λb=>by rw[q1 b];exact Or.comm,λb u1 u2=>q2 b u2 u1,q4,⟨F1,λ_=>False,λb=>by simp,λ_ _ h=>h,q3,λ_ h=>h⟩⟩,λ_ h=>h⟩
 have h4:=eC.mk (E:=E) (R:=[eC g2 r ps]) (g:=g) hf w h3;exact(show aB E [eC g r ps,eC g2 r ps] [eC g2 r ps,eC g r ps] from aA) w h4
theorem Ry(hps:ps.length≤1000)(cf:fU)(now:Int):G E 241 [pt g,.agg cf.cs.toArray,.int .i64 now] [eC g r ps] λe H'=>∃O oc,e=.returned (.slice O (jP (fL r cf now) ps ps.length).length oc)∧H'=[own cP O (jP (fL r cf now) ps ps.length).length oc (jP (fL r cf now) ps ps.length),eC g r ps]:=by
 refine mI λx hf=>?_;have hl:x.ls.length=ps.length:=by rw[←hf.ps,aAw]
 refine aK.post (U0 E g x.B x.ls.length x.d r x.ls cf now o_ rfl hf.ok) ?_;rintro e H' ⟨O,m,oc,rfl,rfl,rfl⟩;rw[hf.ps,hl];refine⟨[own cP O (jP (fL r cf now) ps ps.length).length oc (jP (fL r cf now) ps ps.length),eC g r ps],?_,O,oc,rfl,rfl⟩;intro w hw;have h3:St E (vM g x.B x.ls.length x.d r x.ls++[own cP O (jP (fL r cf now) ps ps.length).length oc (jP (fL r cf now) ps ps.length)]) w:=hw.conv λF hs=>by
  rw[←hl] at hs⊢;obtain⟨F1,F2,q1,q2,q3,q4⟩:=hs;exact⟨F,aY.2 ⟨F2,F1,λb=>by rw[q1 b];exact Or.comm,λb u1 u2=>q2 b u2 u1,q4,⟨F1,λ_=>False,λb=>by simp,λ_ _ h=>h,q3,λ_ h=>h⟩⟩,λ_ h=>h⟩
 have h4:=eC.mk (E:=E) (g:=g) hf w h3;exact(show aB E [eC g r ps,_] [_,eC g r ps] from aA) w h4
end
section
variable (E:Env) (g:Nat) (A:Option Addr) (n c:Nat) (ls:List gN)
theorem RU(i:Nat)(hn:n≤128)(hl:n=ls.length)(hi:i<n)(hc:n≤c)(hcm:c≤maxLen) :
  aK prog E 183 #[.slice A n c,.int .i64 i,.int .i64 ((i+1:Nat):Int)] [own iC A n c ls] λr H'=>r=.returned (.slice A (n - 1) c)∧H'=[own iC A (n - 1) c (ls.eraseIdx i)]:=by
 have hmax:=fX;have hm1:n≤maxLen:=o_;have hm2:n - 1≤maxLen:=o_;have herase:ls.take i++ls.drop (i+1)=ls.eraseIdx i:=(aDp ..).symm;refine t_ func183 ntmps183 ?_;repeat first|refine aE ?_|intro
 refine L.val sD (Y.slice3 (q:=n) rfl rfl rfl rfl rfl rfl rfl rfl rfl rfl o_ o_ hc) ?_;repeat first|refine aE ?_|intro
 refine rB (l_ [0,1,2,3,4,5] (g_ 6 (n_ 7 .nil))) ([]) ?_;repeat first|refine aE ?_|intro
 refine Dr.take rfl sD bA (λ_ _=>V.slice rfl rfl rfl (S.upto (j:=i) rfl rfl rfl o_)) ?_;repeat first|refine aE ?_|intro
 refine Dr.take rfl sD bA (λ_ _=>V.slice rfl rfl rfl (S.from_ (j:=i+1) rfl rfl rfl o_ hc)) ?_;repeat first|refine aE ?_|intro
 refine Dr.Aw rfl (by rintro k ⟨⟩<;>decide) bA (S.Oi (T:=iC) (m:=n) (n':=n - 1) (l:=ls) (l2:=ls.drop (i+1)) (l':=ls.eraseIdx i) (by_:=40) rfl rfl rfl o_ o_ dH (kV.from_ (kV.own aS) o_) herase rfl rfl o_ o_ o_ o_) ?_;rintro _ _ ⟨rfl,rfl⟩;refine⟨aA,?_⟩;repeat first|refine aE ?_|intro
 refine L.val sD (λ_ _=>V.slice rfl rfl rfl (S.both (j:=n - 1) (m:=n) rfl rfl rfl rfl o_ hc)) ?_;refine L.pX (S.VU (T:=iC) (z:=V1) (j:=n - 1) (k:=n - (n - 1)) rfl rfl rfl rfl (aAf _) o_ o_ dH) ?_;rintro _ _ ⟨rfl,rfl⟩;repeat first|refine aE ?_|intro
 exact B7
theorem Pc(i:Int)(hn:n≤128)(h:i<0∨n≤i):aK prog E 120 #[.pointer (some ⟨g,0,none⟩),.int .i64 i] [wr g A n c] λr H'=>r=.returned (.tuple #[.slice none 0 0,.bool false])∧H'=[wr g A n c]:=by
 refine t_ func120 ntmps120 ?_;repeat first|refine aE ?_|intro
 refine bK (λM=>CN M g A n c i hn h) ?_;repeat first|refine aE ?_|intro
 exact Xs
theorem XI(i:Nat)(hn:n≤128)(hl:n=ls.length)(hc:n≤c)(hcm:c≤maxLen){e:gN}(he:ls[i]?=some e) :
  aK prog E 120 #[.pointer (some ⟨g,0,none⟩),.int .i64 i] [wr g A n c,own iC A n c ls,aO DD ls] λr H'=>r=.returned (.tuple #[.slice e.A e.n e.c,.bool true])∧H'=[own aU e.A e.n e.c e.b,wr g A (n - 1) c,own iC A (n - 1) c (ls.eraseIdx i),aO DD (ls.eraseIdx i)]:=by
 have hi:i<n:=by have:=(aAd.1 he).1;omega
 have hmax:=fX;have hs:IntKind.i64.wrap ((i:Int)+1)=((i+1:Nat):Int):=by rw[aAq _ o_];omega
 refine t_ func120 ntmps120 ?_;repeat first|refine aE ?_|intro
 refine bK (λM=>sG M g A n c ls i hn hi he hl) ?_;repeat first|refine aE ?_|intro
 refine bK (λM=>RU M A n c ls i hn hl hi hc hcm) ?_;repeat first|refine aE ?_|intro
 refine vX (aB.out (f:=DD) (l:=ls) aS he) ?_;exact Xs
theorem PO(i k:Int)(hn:n≤128)(h:i<0∨n≤i):aK prog E 126 #[.pointer (some ⟨g,0,none⟩),.int .i64 i,.int .i64 k] [wr g A n c] λr H'=>r=.returned (.bool false)∧H'=[wr g A n c]:=by
 refine t_ func126 ntmps126 ?_;repeat first|refine aE ?_|intro
 refine bK (λM=>CN M g A n c i hn h) ?_;repeat first|refine aE ?_|intro
 exact B7
theorem LF(i:Nat)(k:Int)(hn:n≤128)(hl:n=ls.length){e:gN}(he:ls[i]?=some e)(hen:e.n≤maxLen)(h:e.broken=true∨k<0∨(e.n:Int)≤k / 8)(hk : -9223372036854775808≤k∧k≤9223372036854775807):aK prog E 126 #[.pointer (some ⟨g,0,none⟩),.int .i64 i,.int .i64 k] [wr g A n c,own iC A n c ls] λr H'=>r=.returned (.bool false)∧H'=[wr g A n c,own iC A n c ls]:=by
 have hi:i<n:=by have:=(aAd.1 he).1;omega
 have hmax:=fX;refine t_ func126 ntmps126 ?_;repeat first|refine aE ?_|intro
 refine bK (λM=>sG M g A n c ls i hn hi he hl) ?_;rcases aBh e.broken with hb|hb
 ·repeat first|refine aE ?_|intro
  exact B7
 by_cases hk0:k<0
 ·repeat first|refine aE ?_|intro
  exact B7
 have hq:(e.n:Int)≤k / 8:=by
  rcases h with h|h|h
  ·rw[hb] at h;cases h
  ·exact absurd h hk0
  ·exact h
 have hw:IntKind.i64.wrap (k.tdiv 8)=k / 8:=by rw[aFg o_];exact aAq _ o_
 repeat first|refine aE ?_|intro
 exact B7
def Dg(b:UInt8)(k:Nat):UInt8:=UInt8.ofNat (b.toNat ^^^ 2 ^ k)
def tJ(b:List UInt8)(k:Nat):List UInt8:=b.set (k / 8) (Dg (b.getD (k / 8) 0) (k % 8))
theorem ZL(b:UInt8){k:Nat}(hk:k<8){z:Int}(hz:z=2 ^ k % 256):Go.bits .xor .u8 (b.toNat:Int) z=((Dg b k).toNat:Int):=by
 subst hz;have hx:=aEr b;have hp2:2 ^ k<256:=Nat.pow_lt_pow_right (n:=8) sD hk;have e:((2:Int) ^ k % 256)=((2 ^ k:Nat):Int):=by
  have h1:((2 ^ k:Nat):Int)=(2:Int) ^ k:=by simp
  have h2:((2 ^ k:Nat):Int)<256:=o_;rw[←h1];exact Int.emod_eq_of_lt (aFo _) h2
 have hlt:b.toNat ^^^ 2 ^ k<256:=Nat.xor_lt_two_pow (n:=8) hx hp2;rw[e,u8_xor_nat _ _ hx hp2,Dg,aEy,aEc hlt]
theorem Wn(i k:Nat)(hn:n≤128)(hl:n=ls.length){e:gN}(he:ls[i]?=some e)(hen:e.n=e.b.length)(hem:e.n≤140737488355300)(hb:e.broken=false)(hk:k / 8<e.n) :
  aK prog E 126 #[.pointer (some ⟨g,0,none⟩),.int .i64 i,.int .i64 k] [wr g A n c,own iC A n c ls,aO DD ls] λr H'=>r=.returned (.bool true)∧H'=[aO DD (ls.set i (e.mark (tJ e.b k))),wr g A n c,own iC A n c (ls.set i (e.mark (tJ e.b k)))]:=by
 have hil:=(aAd.1 he).1;have hi:i<n:=o_;have hmax:=fX;have hem2:e.n≤maxLen:=o_;have hq:IntKind.i64.wrap ((k:Int).tdiv 8)=((k / 8:Nat):Int):=by rw[IntWalk.i64_quo _ _ o_];omega
 have hr:(k:Int).tmod 8=((k % 8:Nat):Int):=by rw[Int.tmod_eq_emod_of_nonneg o_];omega
 obtain⟨x,hx⟩:∃x,e.b[k / 8]?=some x:=⟨_,aAa o_⟩
 have hfl:tJ e.b k=e.b.set (k / 8) (Dg x (k % 8)):=by unfold tJ;rw[aBb,hx];rfl
 have hz:IntKind.u8.wrap (1*2 ^ min ((k % 8:Nat):Int).toNat IntKind.u8.bits)=2 ^ (k % 8) % 256:=by
  rw[aAu,show min (k % 8) IntKind.u8.bits=k % 8 from aBr (show k % 8≤8 by omega),Int.one_mul];exact IntKind.wrap_u8 _
 have hxor:=ZL x (k:=k % 8) o_ rfl;rw[hfl];have hset:Ba iC e 2 (.bool true) (e.mark (e.b.set (k / 8) (Dg x (k % 8)))):=Ba.Yu rfl sD rfl;refine t_ func126 ntmps126 ?_;repeat first|refine aE ?_|intro
 refine bK (λM=>sG M g A n c ls i hn hi he hl) ?_;repeat ((fail_if_success (refine C.seq (x:=Code.region 4 _ _) ?_));first|refine Cx ?_|refine He ?_|intro _|refine Dr.two ?_ ?_)
 refine C.conv (aB.out (f:=DD) (l:=ls) aS he) ?_;repeat first|refine aE ?_|intro
 refine C.bL 13 (l_ [0,1,2,3,4,5,6,7,8,9,10,11,12] (g_ 13 .nil)) _ q_ q_ aB.refl ?_;repeat first|refine aE ?_|intro
 refine vX (aB.BH (f:=DD) (l:=ls.eraseIdx i) (i:=i) (x:=e.mark (e.b.set (k / 8) (Dg x (k % 8)))) aC (uO hil)) ?_;exact B7
end
def gN.p(x:gN):fD:=⟨x.to,x.b,x.broken⟩
def Qa(ls:List gN):Prop:=∀e∈ls,e.n=e.b.length∧e.n≤140737488355300
theorem Qa.add{ls:List gN}(h:Qa ls){e:gN}(h1:e.n=e.b.length)(h2:e.n≤140737488355300):Qa (ls++[e]):=by
 intro x hx;rcases aBg.1 hx with hx|hx
 ·exact h x hx
 ·rw[aAp] at hx;subst hx;exact⟨h1,h2⟩
theorem E1{X:Type}{l:List X}{i:Nat}{e:X}{Z:Type}{f:X→Z}(he:l[i]?=some e):(l.take (i+1)).map f=(l.take i).map f++[f e]:=by
 obtain⟨h,rfl⟩:=aAd.1 he;rw[aAn h,aBk];rfl
section
variable (E:Env) (g:Nat) (A:Option Addr) (n c:Nat) (ls:List gN)
structure s8(E:Env)(g:Nat)(A:Option Addr)(n c:Nat)(ls:List gN):Prop where
 k:qP E ⟨g,0,none⟩ (.slice A n c)
 r:Rd E iC A n c ls
 q:∀e∈ls,Rd E aU e.A e.n e.c e.b
def EK(n:Nat)(ls:List gN):Ending→List aL→Prop:=λr H' =>
 ∃g' A' c' ls',r=.returned (.pointer (some ⟨g',0,none⟩))∧ls'.map gN.p=ls.map gN.p∧Qa ls'∧(n≤c'∧c'≤maxLen)∧H'=[wr g' A' n c',own iC A' n c' ls',aO DD ls']
theorem VM(hW:s8 E g A n c ls)(hn:n≤128)(hok:Qa ls):aK prog E 88 #[.pointer (some ⟨g,0,none⟩)] [] (EK n ls):=by
 obtain⟨hk,hr,hq⟩:=hW;have hl:=hr.len;have hmax:=fX;unfold EK;refine t_ func88 ntmps88 ?_;repeat ((fail_if_success (refine C.seq (x:=Code.region 4 _ _) ?_));first|refine Cx ?_|refine He ?_|intro _|refine Dr.two ?_ ?_)
 rename_i g3;refine C.conv ((aB.oR iC none).trans (aB.kP DD)) ?_;repeat first|refine aE ?_|intro
 refine C.loop (X:=Nat×Option Addr×Nat×List gN) (λx=>[(3,.pointer (some ⟨g3,0,none⟩)),(13,.slice A n c),(14,.int .i64 n),(15,.int .i64 x.1)])
  (λx=>[wr g3 x.2.1 x.1 x.2.2.1,own iC x.2.1 x.1 x.2.2.1 x.2.2.2,aO DD x.2.2.2]) (λx=>x.1≤n∧x.2.2.2.map gN.p=(ls.take x.1).map gN.p∧x.1=x.2.2.2.length∧Qa x.2.2.2∧x.1≤x.2.2.1∧x.2.2.1≤maxLen) (λx=>n - x.1) (0,none,0,[]) aD aA ⟨aAh _,rfl,rfl,λ_ h=>(aAk h).elim,aAf _,aAh _⟩ ?_
 rintro⟨i,B,d,l2⟩ F ⟨hi,hp,h2,h3,h4,h5⟩;dsimp only at hi hp h2 h3 h4 h5⊢;by_cases hlt:i<n
 ·obtain⟨e,he⟩:∃e,ls[i]?=some e:=⟨_,aAa o_⟩
  have hmem:=aAi he;obtain⟨e1,e2⟩:=hok e hmem;have hi128:i<128:=o_;repeat first|refine aE ?_|intro
  refine cl sD sK aC (λM hE=>QA M g3 B i d l2 e.A e.n e.c e.to e.broken e.b hi128 h2 (AS.rd ((hq e hmem).sub hE)) e2) ?_;unfold wI;rintro r H' ⟨B',d',O,co,rfl,⟨j1,j2⟩,rfl⟩;repeat first|refine aE ?_|intro
  exact⟨(i+1,B',d',l2++[⟨e.to,O,e.n,co,e.b,e.broken⟩]),aD,aA,⟨by dsimp only;omega,by dsimp only;rw[E1 he,aBk,hp];rfl,by dsimp only;rw[aAe,←h2];rfl,h3.add e1 e2,j1,j2⟩,by dsimp only;omega⟩
 ·have hin:i=n:=o_;subst hin;repeat first|refine aE ?_|intro
  exact aR rfl aF aA (⟨_,_,_,_,rfl,by rw[hp,aAj o_],h3,⟨h4,h5⟩,rfl⟩)
end
theorem Lr{X Y:Type}{f:X→Y}{l:List X}{k:Nat}:(l.eraseIdx k).map f=(l.map f).eraseIdx k:=by
 rw[aDp,aDp,aBk,aGi,List.map_drop]
structure Wh where
 A:Option Addr
 c:Nat
 ls:List gN
structure Wf(x:Wh)(ws:List fD):Prop where
 p:x.ls.map gN.p=ws
 ok:Qa x.ls
 len:ws.length≤128
 cap:ws.length≤x.c∧x.c≤maxLen
abbrev Ku(g:Nat)(x:Wh):List aL:=[wr g x.A x.ls.length x.c,own iC x.A x.ls.length x.c x.ls,aO DD x.ls]
def aZ(g:Nat)(ws:List fD):aL:=pack λ(x:Wh)=>iE (Wf x ws)::Ku g x
theorem aZ.mk{E:Env}{R:List aL}{g:Nat}{ws:List fD}{x:Wh}(f:Wf x ws):aB E (Ku g x++R) (aZ g ws::R):=λw hw=>by
 have h1:St E (iE (Wf x ws)::Ku g x++R) w:=aB.lH f w hw;exact h1.conv λF hs=>by
  obtain⟨F1,F2,k1,k2,k3,k4⟩:=aY.1 hs;exact⟨F,⟨F1,F2,k1,k2,⟨x,k3⟩,k4⟩,λ_ h=>h⟩
theorem aZ.out{E:Env}{R:List aL}{g:Nat}{ws:List fD}{w:World}(hw:St E (aZ g ws::R) w):∃x:Wh,Wf x ws∧St E (Ku g x++R) w:=by
 obtain⟨x,hs⟩:=hw.unpack (l:=λ(x:Wh)=>iE (Wf x ws)::Ku g x) Has.aN;have hp:=St.lH (H:=_) (R:=_) hs Has.aN;refine⟨x,hp,hs.conv λF hst=>?_⟩;obtain⟨F1,F2,k1,k2,k3,k4⟩:=hst;exact⟨F2,k4,λb hb=>(k1 b).2 (.inr hb)⟩
theorem kN{E:Env}{f:FuncId}{args:Array Value}{g:Nat}{ws:List fD}{Q:Ending→List aL→Prop}(h:∀x:Wh,Wf x ws→aK prog E f args (Ku g x) Q):aK prog E f args [aZ g ws] Q:=by
 intro hds w hw;obtain⟨x,hf,hs⟩:=aZ.out hw;exact h x hf hds w (by simpa using hs)
theorem Wf.n{x:Wh}{ws:List fD}(f:Wf x ws):x.ls.length=ws.length:=by rw[←f.p,aAw]
theorem Wf.at_{x:Wh}{ws:List fD}(f:Wf x ws){i:Nat}{p:fD}(h:ws[i]?=some p):∃e,x.ls[i]?=some e∧e.p=p∧e.n=e.b.length∧e.n≤140737488355300:=by
 rw[←f.p,aBf] at h;cases he:x.ls[i]? with
 |none=>rw[he] at h;cases h
 |some e =>
  rw[he] at h;injection h with h
  exact⟨e,rfl,h,f.ok e (aAi he)⟩
theorem Qa.sub{l m:List gN}(h:Qa l)(hs:∀e∈m,e∈l):Qa m:=λe he=>h e (hs e he)
def xB(ws:List fD)(i:Int):Option fD:=if i<0 then none else ws[i.toNat]?
theorem CX{ws:List fD}{i:Int}(h:xB ws i=none):i<0∨(ws.length:Int)≤i:=by
 unfold xB at h;split at h
 ·exact .inl ‹_›
 ·have:=aBx.1 h;omega
theorem uP{ws:List fD}{i:Int}{p:fD}(h:xB ws i=some p):∃k:Nat,i=k∧ws[k]?=some p:=by
 unfold xB at h;split at h
 ·cases h
 ·exact⟨i.toNat,by omega,h⟩
def zX(ws:List fD)(p:fD):List fD×Bool:=if 128≤ws.length then(ws,false) else(ws++[p],true)
def cR(ws:List fD)(i:Int):List fD:=if i<0 then ws else ws.eraseIdx i.toNat
def Co(ws:List fD)(i:Int):List fD×Bool:=match xB ws i with
 |some p=>zX ws p
 |none=>(ws,false)
def CU(ws:List fD)(i k:Int):List fD×Bool:=match xB ws i with
 |some p=>if p.broken=true∨k<0∨(p.b.length:Int)≤k / 8 then(ws,false) else(ws.set i.toNat ⟨p.to,tJ p.b k.toNat,true⟩,true)
 |none=>(ws,false)
section
variable (E:Env) (g:Nat) (ws:List fD)
theorem Ko:G E 35 [pt g] [aZ g ws] (cM (.int .i64 ws.length) [aZ g ws]):=by
 refine kN λx hf=>?_;have hl:=hf.n;refine aK.post (aK.dU (Hp:=[wr g x.A x.ls.length x.c]) λM _=>Z4 M g x.A x.ls.length x.c (by rw[hl];exact hf.len)) ?_;rintro e H' ⟨H1,⟨rfl,rfl⟩,rfl⟩;have h2:=aZ.mk (E:=E) (R:=[]) (g:=g) hf;rw[aAc] at h2;exact⟨_,h2,by rw[hl],rfl⟩
theorem JU(i:Int):G E 119 [pt g,.int .i64 i] [aZ g ws] (cM (.int .i64 (((xB ws i).map fD.to).getD (-1))) [aZ g ws]):=by
 refine kN λx hf=>?_;have hl:=hf.n;have h2:=aZ.mk (E:=E) (R:=[]) (g:=g) hf;rw[aAc] at h2;cases hi:xB ws i with
 |none =>
  refine aK.post (aK.dU (Hp:=[wr g x.A x.ls.length x.c]) λM _=>VN M g x.A x.ls.length x.c i (by rw[hl];exact hf.len) (by rw[hl];exact CX hi)) ?_;rintro e H' ⟨H1,⟨rfl,rfl⟩,rfl⟩;exact⟨_,h2,rfl,rfl⟩
 |some p =>
  obtain⟨k,rfl,hk⟩:=uP hi;obtain⟨e,he,rfl,_,_⟩:=hf.at_ hk;refine aK.post (aK.dU (Hp:=[wr g x.A x.ls.length x.c,own iC x.A x.ls.length x.c x.ls]) λM _=>Ri M g x.A x.ls.length x.c x.ls k (by rw[hl];exact hf.len) (aAd.1 he).1 he rfl) ?_;rintro e H' ⟨H1,⟨rfl,rfl⟩,rfl⟩;exact⟨_,h2,rfl,rfl⟩
theorem O0(i:Int):G E 125 [pt g,.int .i64 i] [aZ g ws] (cM (.bool (((xB ws i).map fD.broken).getD false)) [aZ g ws]):=by
 refine kN λx hf=>?_;have hl:=hf.n;have h2:=aZ.mk (E:=E) (R:=[]) (g:=g) hf;rw[aAc] at h2;cases hi:xB ws i with
 |none =>
  refine aK.post (aK.dU (Hp:=[wr g x.A x.ls.length x.c]) λM _=>H7 M g x.A x.ls.length x.c i (by rw[hl];exact hf.len) (by rw[hl];exact CX hi)) ?_;rintro e H' ⟨H1,⟨rfl,rfl⟩,rfl⟩;exact⟨_,h2,rfl,rfl⟩
 |some p =>
  obtain⟨k,rfl,hk⟩:=uP hi;obtain⟨e,he,rfl,_,_⟩:=hf.at_ hk;refine aK.post (aK.dU (Hp:=[wr g x.A x.ls.length x.c,own iC x.A x.ls.length x.c x.ls]) λM _=>GM M g x.A x.ls.length x.c x.ls k (by rw[hl];exact hf.len) (aAd.1 he).1 he rfl) ?_;rintro e H' ⟨H1,⟨rfl,rfl⟩,rfl⟩;exact⟨_,h2,rfl,rfl⟩
theorem TO(to:Int)(X:Option Addr)(nx cx:Nat)(b:List UInt8)(hr:Rd E aU X nx cx b)(hnx:nx≤140737488355300):G E 30 [pt g,.int .i64 to,.slice X nx cx] [aZ g ws] (cM (.bool (zX ws ⟨to,b,false⟩).2) [aZ g (zX ws ⟨to,b,false⟩).1]):=by
 refine kN λx hf=>?_;have hl:=hf.n;have hln:=hf.len;have hcap:=hf.cap;unfold zX;by_cases h:128≤ws.length
 ·rw[if_pos h];have h2:=aZ.mk (E:=E) (R:=[]) (g:=g) hf;rw[aAc] at h2;refine aK.post (aK.dU (Hp:=[wr g x.A x.ls.length x.c]) λM _=>Mb M g x.A x.ls.length x.c to X nx cx o_ (by unfold maxLen;omega)) ?_;rintro e H' ⟨H1,⟨rfl,rfl⟩,rfl⟩;exact⟨_,h2,rfl,rfl⟩
 ·rw[if_neg h];refine aK.post (S6 E g x.A x.ls.length x.c x.ls to X nx cx b o_ rfl hr hnx) ?_;rintro e H' ⟨A',c',O,co,rfl,h1,rfl⟩;have h2:=aZ.mk (E:=E) (R:=[]) (g:=g) (x:=⟨A',c',x.ls++[⟨to,O,nx,co,b,false⟩]⟩) (ws:=ws++[⟨to,b,false⟩]) ⟨by rw[aBk,hf.p];rfl,hf.ok.add hr.len hnx,by rw[aAe];simp;omega,by rw[aAe];simp;omega⟩;rw[aAc] at h2;dsimp only[Ku] at h2;rw[aAe] at h2;exact⟨_,h2,rfl,rfl⟩
theorem vV(i:Int):G E 120 [pt g,.int .i64 i] [aZ g ws] λr H'=>match xB ws i with
  |none=>r=.returned (.tuple #[.slice none 0 0,.bool false])∧H'=[aZ g ws]
  |some p=>∃A n c,n≤140737488355300∧r=.returned (.tuple #[.slice A n c,.bool true])∧H'=[own aU A n c p.b,aZ g (cR ws i)]:=by
 refine kN λx hf=>?_;have hl:=hf.n;have hcap:=hf.cap;cases hi:xB ws i with
 |none =>
  have h2:=aZ.mk (E:=E) (R:=[]) (g:=g) hf;rw[aAc] at h2;refine aK.post (aK.dU (Hp:=[wr g x.A x.ls.length x.c]) λM _=>Pc M g x.A x.ls.length x.c i (by rw[hl];exact hf.len) (by rw[hl];exact CX hi)) ?_;rintro e H' ⟨H1,⟨rfl,rfl⟩,rfl⟩;exact⟨_,h2,rfl,rfl⟩
 |some p =>
  obtain⟨k,rfl,hk⟩:=uP hi;obtain⟨e,he,rfl,he1,he2⟩:=hf.at_ hk;have hlt:=(aAd.1 he).1;refine aK.post (XI E g x.A x.ls.length x.c x.ls k (by rw[hl];exact hf.len) rfl o_ hcap.2 he) ?_;rintro r H' ⟨rfl,rfl⟩;have h2:=aZ.mk (E:=E) (R:=[own aU e.A e.n e.c e.b]) (g:=g) (x:=⟨x.A,x.c,x.ls.eraseIdx k⟩) (ws:=cR ws k) ⟨by unfold cR;rw[if_neg o_,aAu,←hf.p,Lr],hf.ok.sub λe he=>aGe he,by unfold cR;rw[if_neg o_,aAu,List.length_eraseIdx];have:=hf.len;split<;>omega,by unfold cR;rw[if_neg o_,aAu,List.length_eraseIdx];dsimp only;refine⟨?_,hcap.2⟩;split<;>omega⟩;dsimp only[Ku] at h2;rw[List.length_eraseIdx_of_lt hlt] at h2;exact⟨_,aB.trans (aB.aV (.cons (.aM .aN) (.cons (.aM .aN) (.cons (.aM .aN) (.cons .aN .nil))))) (aB.trans h2 (aB.aV (.cons (.aM .aN) (.cons .aN .nil)))),_,_,_,he2,rfl,rfl⟩
theorem Ui(i:Int):G E 124 [pt g,.int .i64 i] [aZ g ws] (cM (.bool (Co ws i).2) [aZ g (Co ws i).1]):=by
 refine kN λx hf=>?_;have hl:=hf.n;have hln:=hf.len;have hcap:=hf.cap;have h2:=aZ.mk (E:=E) (R:=[]) (g:=g) hf;rw[aAc] at h2;unfold Co;cases hi:xB ws i with
 |none =>
  refine aK.post (aK.dU (Hp:=[wr g x.A x.ls.length x.c]) λM _=>Pw M g x.A x.ls.length x.c i (by rw[hl];exact hf.len) (by rw[hl];exact CX hi)) ?_;rintro e H' ⟨H1,⟨rfl,rfl⟩,rfl⟩;exact⟨_,h2,rfl,rfl⟩
 |some p =>
  obtain⟨k,rfl,hk⟩:=uP hi;obtain⟨e,he,rfl,he1,he2⟩:=hf.at_ hk;dsimp only;unfold zX;by_cases h:128≤ws.length
  ·rw[if_pos h];refine aK.post (aK.dU (Hp:=[wr g x.A x.ls.length x.c,own iC x.A x.ls.length x.c x.ls]) λM _=>JQ M g x.A x.ls.length x.c x.ls k o_ (aAd.1 he).1 he rfl) ?_;rintro e H' ⟨H1,⟨rfl,rfl⟩,rfl⟩;exact⟨_,h2,rfl,rfl⟩
  ·rw[if_neg h];refine aK.post (Xd E g x.A x.ls.length x.c x.ls k o_ (aAd.1 he).1 he rfl he2) ?_;rintro r H' ⟨A',c',O,co,rfl,h1,rfl⟩;have h2:=aZ.mk (E:=E) (R:=[]) (g:=g) (x:=⟨A',c',x.ls++[⟨e.to,O,e.n,co,e.b,e.broken⟩]⟩) (ws:=ws++[e.p]) ⟨by rw[aBk,hf.p];rfl,hf.ok.add he1 he2,by rw[aAe];simp;omega,by rw[aAe];simp;omega⟩;rw[aAc] at h2;dsimp only[Ku] at h2;rw[aAe] at h2;exact⟨_,h2,rfl,rfl⟩
theorem Vb(i k:Int)(hk64:dQ k):G E 126 [pt g,.int .i64 i,.int .i64 k] [aZ g ws] (cM (.bool (CU ws i k).2) [aZ g (CU ws i k).1]):=by
 refine kN λx hf=>?_;have hl:=hf.n;have hln:=hf.len;have hcap:=hf.cap;have h2:=aZ.mk (E:=E) (R:=[]) (g:=g) hf;rw[aAc] at h2;unfold CU;cases hi:xB ws i with
 |none =>
  refine aK.post (aK.dU (Hp:=[wr g x.A x.ls.length x.c]) λM _=>PO M g x.A x.ls.length x.c i k (by rw[hl];exact hf.len) (by rw[hl];exact CX hi)) ?_;rintro e H' ⟨H1,⟨rfl,rfl⟩,rfl⟩;exact⟨_,h2,rfl,rfl⟩
 |some p =>
  obtain⟨j,rfl,hj⟩:=uP hi;obtain⟨e,he,rfl,he1,he2⟩:=hf.at_ hj;dsimp only;have hlt:=(aAd.1 he).1;by_cases h:e.p.broken=true∨k<0∨(e.p.b.length:Int)≤k / 8
  ·rw[if_pos h];refine aK.post (aK.dU (Hp:=[wr g x.A x.ls.length x.c,own iC x.A x.ls.length x.c x.ls]) λM _=>LF M g x.A x.ls.length x.c x.ls j k o_ rfl he (by unfold maxLen;omega) (by rw[he1];exact h) hk64) ?_;rintro r H' ⟨H1,⟨rfl,rfl⟩,rfl⟩;exact⟨_,h2,rfl,rfl⟩
  ·rw[if_neg h];obtain⟨hb,hk⟩:=not_or.1 h;obtain⟨hk0,hk8⟩:=not_or.1 hk;obtain⟨q,rfl⟩:=aCf (show 0≤k by omega);have hbl:e.p.b.length=e.b.length:=rfl;refine aK.post (Wn E g x.A x.ls.length x.c x.ls j q o_ rfl he he1 he2 (Bool.eq_false_iff.2 hb) o_) ?_;rintro r H' ⟨rfl,rfl⟩;have h2:=aZ.mk (E:=E) (R:=[]) (g:=g) (x:=⟨x.A,x.c,x.ls.set j (e.mark (tJ e.b q))⟩) (ws:=ws.set j ⟨e.to,tJ e.b q,true⟩) ⟨by rw[←hf.p,List.map_set];rfl,λy hy=>by
    rcases aCr hy with hy|rfl
    ·exact hf.ok y hy
    ·exact⟨by dsimp only[gN.mark];unfold tJ;rw[aAt];exact he1,he2⟩,by rw[aAt];exact hln,by rw[aAt];exact hcap⟩
   rw[aAc] at h2;dsimp only[Ku] at h2;rw[aAt] at h2;exact⟨_,aB.trans (aB.aV (.cons (.aM .aN) (.cons (.aM .aN) (.cons .aN .nil)))) h2,rfl,rfl⟩
theorem S8:G E 88 [pt g] [aZ g ws] λr H'=>∃g2,r=.returned (pt g2)∧H'=[aZ g2 ws,aZ g ws]:=by
 refine kN λx hf=>?_;have hl:=hf.n;have hln:=hf.len;have h1:=aZ.mk (E:=E) (R:=[]) (g:=g) hf;rw[aAc] at h1;refine aK.post (aK.read (Q0:=EK x.ls.length x.ls) λM hE=>VM M g x.A x.ls.length x.c x.ls ⟨qP.aJ (i:=0) hE Has.aN rfl,Sub.own hE (.aM .aN),λe he=>?_⟩ o_ hf.ok) ?_
 ·obtain⟨i,hi,rfl⟩:=aBm he;exact Sub.aO (f:=DD) hE (.aM (.aM .aN)) (aAa hi) rfl
 ·rintro r H' ⟨H1,⟨g',A',c',ls',rfl,k1,k2,k3,rfl⟩,rfl⟩;have hl2:ls'.length=x.ls.length:=by have:=congrArg List.length k1;rwa [aAw,aAw] at this
  have h2:=aZ.mk (E:=E) (R:=Ku g x) (g:=g') (x:=⟨A',c',ls'⟩) (ws:=ws) ⟨by rw[k1,hf.p],k2,hln,by dsimp only;omega⟩;dsimp only[Ku] at h2 h1;rw[hl2] at h2;refine⟨[aZ g' ws,aZ g ws],aB.trans h2 ?_,g',rfl,rfl⟩;refine aB.trans (aB.aV (l:=[wr g x.A x.ls.length x.c,own iC x.A x.ls.length x.c x.ls,aO DD x.ls]++[aZ g' ws]) (.cons (.aM .aN) (.cons (.aM .aN) (.cons (.aM .aN) (.cons .aN .nil))))) ?_;exact aB.trans (aZ.mk (x:=x) hf) (aB.aV (.cons (.aM .aN) (.cons .aN .nil)))
end
end Go.Proofs.YtmilalkjbojciaaGreat.Sep
