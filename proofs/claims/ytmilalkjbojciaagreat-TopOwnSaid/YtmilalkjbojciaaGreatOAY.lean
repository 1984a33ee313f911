/- Part AY: what it needs. No condition. -/
import Derived.Test.YtmilalkjbojciaaGreatOAA
import Derived.Test.YtmilalkjbojciaaGreatOAW
import Derived.Test.YtmilalkjbojciaaGreatOAI
import Derived.Test.YtmilalkjbojciaaGreatOAO
import Derived.Test.YtmilalkjbojciaaGreatOAX
import Derived.Test.YtmilalkjbojciaaGreatOAV
set_option maxRecDepth 100000
set_option maxHeartbeats 8000000
open Go.Proofs.Tryz
namespace Go.Proofs.YtmilalkjbojciaaGreat.Sep
open Go.RowKit Reg
open Mem hiding Rd
theorem Sub.arr{α:Type}{T:Ty α}{E E':Env}{R R':List aL}{g:Nat}{t:TypeId}{cs:List Value}(hE:Sub E R E')(h:Has (Sep.aJ g t cs) R R'){i m:Nat}{l:List α}(hm:m=l.length)(hmax:m≤maxLen)(hv:∀j u,(T.bT l)[j]?=some u→cs[i+j]?=some u):Rd E' T (some ⟨g,i,none⟩) m m l:=by
 refine⟨hm,aAf _,hmax,.inr ⟨_,rfl,?_,λj u hu=>?_⟩⟩
 ·obtain⟨F,h1,h2⟩:=hE.fr;obtain⟨F1,F2,h3,_,h5,_⟩:=h.cT h1;exact h2 _ ((h3 _).2 (.inl ((h5.1 _).2 rfl)))
 ·rw[fB];exact(qP.aJ hE h (hv j u hu)).2
def RX{α:Type}(p:α→Bool)(l:List α):Int:=match l.findIdx? p with|some i=>i|none => -1
theorem Bp{α:Type}{p:α→Bool}{l:List α}(h:∀x∈l,p x=false):RX p l = -1:=by
 unfold RX;rw[aEp.2 h]
theorem CB{α:Type}{p:α→Bool}{l:List α}{i:Nat}{x:α}(hx:l[i]?=some x)(hp:p x=true)(h:∀j y,j<i→l[j]?=some y→p y=false):RX p l=i:=by
 unfold RX;obtain⟨hi,he⟩:=aAd.1 hx;rw[aDj.2 ⟨hi,by rw[he];exact hp,λj hj=>by rw[h j l[j] hj (aAa o_)];exact aAl⟩]
theorem E6{α:Type}(p:α→Bool)(l:List α):decide (0≤RX p l)=l.any p:=by
 unfold RX;cases h:l.findIdx? p with
 |none =>
  rw[aEp] at h;rw[aBz];simp;exact h
 |some i =>
  rw[aDj] at h;obtain⟨hi,h1,_⟩:=h;rw[aEm.2 ⟨_,aCs hi,h1⟩];exact decide_eq_true (aFo i)
theorem Ef{α:Type}(p:α→Bool)(l:List α):(!(l.any λx => !p x))=l.all p:=by
 induction l with
 |nil=>rfl
 |cons a l ih=>simp[List.any_cons,List.all_cons,←ih]
section
variable (E:Env)
theorem Yz(n:Int):aK prog E 332 #[.int .i64 n] [] λe H'=>e=.returned (.bool (wV n))∧H'=[]:=by
 refine t_ func332 ntmps332 ?_;repeat first|refine aE ?_|intro
 refine bK (λ(E':Env)=>dV E' n 0 3) ?_;repeat first|refine aE ?_|intro
 exact e1_
theorem Zg(n:Int):aK prog E 334 #[.int .i64 n] [] λe H'=>e=.returned (.bool (!sq n))∧H'=[]:=by
 refine t_ func334 ntmps334 ?_;repeat first|refine aE ?_|intro
 refine bK (λ(E':Env)=>dV E' n 0 65535) ?_;repeat first|refine aE ?_|intro
 exact e1_
theorem Z7(x:bJ):aK prog E 336 #[.agg x.cs.toArray] [] λe H'=>e=.returned (.bool (!x.may))∧H'=[]:=by
 refine t_ func336 ntmps336 ?_;repeat first|refine aE ?_|intro
 refine bK (λ(E':Env)=>yK E' x) ?_;repeat first|refine aE ?_|intro
 exact e1_
theorem Y8(x:aX):aK prog E 338 #[.agg x.cs.toArray] [] λe H'=>e=.returned (.bool (!x.may))∧H'=[]:=by
 refine t_ func338 ntmps338 ?_;repeat first|refine aE ?_|intro
 refine bW (λ(E':Env)=>kF E' x) ?_;cases hx:x.may
 ·rintro e H' ⟨rfl,rfl⟩;repeat first|refine aE ?_|intro
  exact e1_
 ·rintro e H' ⟨rfl,rfl⟩;repeat first|refine aE ?_|intro
  exact e1_
variable (A:Option Addr) (n c:Nat)
theorem p9(l:List Int)(hr:Rd E Au A n c l):aK prog E 368 #[.slice A n c,.func (.func 334) #[] #[]] [] λr H'=>r=.returned (.int .i64 (RX (λx => !sq x) l))∧H'=[]:=by
 have hn:=hr.len;have hcap:=hr.cap;refine t_ func368 ntmps368 ?_;repeat first|refine aE ?_|intro
 refine C.loop (X:=Nat) (λi=>[(0,.slice A n c),(1,.func (.func 334) #[] #[]),(7,.int .i64 n),(8,.int .i64 i)]) (λ_=>[]) (λi=>i≤n∧∀j y,j<i→l[j]?=some y→(λx => !sq x) y=false) (λi=>n - i) 0 aD aB.refl ⟨aAh _,λj y hj=>by omega⟩ ?_;rintro i G ⟨hi,hall⟩;by_cases hlt:i<n
 ·have hx:l[i]?=some l[i]:=aAa o_;generalize l[i]=x at hx;have hmax:=fX;repeat first|refine aE ?_|intro
  refine L.step sD (S.wB rfl rfl rfl rfl func334 q_ rfl aC (λE' hE=>Zg E' x) ?_);rintro r H' ⟨rfl,rfl⟩;refine gk bG ?_;cases hp:sq x
  ·rw[CB (p:=λx => !sq x) hx (by rw[hp];rfl) hall];repeat first|refine aE ?_|intro
   exact e1_
  ·repeat first|refine aE ?_|intro
   refine⟨i+1,aD,aB.refl,⟨by omega,λj y hj hy=>?_⟩,by omega⟩;by_cases hji:j=i
   ·subst hji;rw[hx] at hy;injection hy with hy;subst hy;dsimp only;rw[hp];rfl
   ·exact hall j y o_ hy
 ·obtain rfl:i=n:=by omega
  rw[Bp (λx hx=>by obtain⟨j,hj,rfl⟩:=aBm hx;exact hall j _ o_ (aAa hj))];repeat first|refine aE ?_|intro
  exact e1_
theorem z7(l:List Int)(hr:Rd E Au A n c l):aK prog E 333 #[.slice A n c,.func (.func 334) #[] #[]] [] λr H'=>r=.returned (.bool (l.any λx => !sq x))∧H'=[]:=by
 refine t_ func333 ntmps333 ?_;repeat first|refine aE ?_|intro
 refine eV (λ(E':Env)=>p9 E' A n c l) ?_;repeat first|refine aE ?_|intro
 exact aR rfl aF aA (⟨by rw[←E6],rfl⟩)
theorem ixI(l:List bJ)(hr:Rd E fN A n c l):aK prog E 369 #[.slice A n c,.func (.func 336) #[] #[]] [] λr H'=>r=.returned (.int .i64 (RX (λx => !x.may) l))∧H'=[]:=by
 have hn:=hr.len;have hcap:=hr.cap;refine t_ func369 ntmps369 ?_;repeat first|refine aE ?_|intro
 refine C.loop (X:=Nat) (λi=>[(0,.slice A n c),(1,.func (.func 336) #[] #[]),(7,.int .i64 n),(8,.int .i64 i)]) (λ_=>[]) (λi=>i≤n∧∀j y,j<i→l[j]?=some y→(λx => !x.may) y=false) (λi=>n - i) 0 aD aB.refl ⟨aAh _,λj y hj=>by omega⟩ ?_;rintro i G ⟨hi,hall⟩;by_cases hlt:i<n
 ·have hx:l[i]?=some l[i]:=aAa o_;generalize l[i]=x at hx;have hmax:=fX;repeat first|refine aE ?_|intro
  refine L.step sD (S.wB rfl rfl rfl rfl func336 q_ rfl aC (λE' hE=>Z7 E' x) ?_);rintro r H' ⟨rfl,rfl⟩;refine gk bG ?_;cases hp:x.may
  ·rw[CB (p:=λx => !x.may) hx (by rw[hp];rfl) hall];repeat first|refine aE ?_|intro
   exact e1_
  ·repeat first|refine aE ?_|intro
   refine⟨i+1,aD,aB.refl,⟨by omega,λj y hj hy=>?_⟩,by omega⟩;by_cases hji:j=i
   ·subst hji;rw[hx] at hy;injection hy with hy;subst hy;dsimp only;rw[hp];rfl
   ·exact hall j y o_ hy
 ·obtain rfl:i=n:=by omega
  rw[Bp (λx hx=>by obtain⟨j,hj,rfl⟩:=aBm hx;exact hall j _ o_ (aAa hj))];repeat first|refine aE ?_|intro
  exact e1_
theorem r4(l:List bJ)(hr:Rd E fN A n c l):aK prog E 335 #[.slice A n c,.func (.func 336) #[] #[]] [] λr H'=>r=.returned (.bool (l.any λx => !x.may))∧H'=[]:=by
 refine t_ func335 ntmps335 ?_;repeat first|refine aE ?_|intro
 refine eV (λ(E':Env)=>ixI E' A n c l) ?_;repeat first|refine aE ?_|intro
 exact aR rfl aF aA (⟨by rw[←E6],rfl⟩)
theorem u7(l:List aX)(hr:Rd E bE A n c l):aK prog E 230 #[.slice A n c,.func (.func 338) #[] #[]] [] λr H'=>r=.returned (.int .i64 (RX (λx => !x.may) l))∧H'=[]:=by
 have hn:=hr.len;have hcap:=hr.cap;refine t_ func230 ntmps230 ?_;repeat first|refine aE ?_|intro
 refine C.loop (X:=Nat) (λi=>[(0,.slice A n c),(1,.func (.func 338) #[] #[]),(7,.int .i64 n),(8,.int .i64 i)]) (λ_=>[]) (λi=>i≤n∧∀j y,j<i→l[j]?=some y→(λx => !x.may) y=false) (λi=>n - i) 0 aD aB.refl ⟨aAh _,λj y hj=>by omega⟩ ?_;rintro i G ⟨hi,hall⟩;by_cases hlt:i<n
 ·have hx:l[i]?=some l[i]:=aAa o_;generalize l[i]=x at hx;have hmax:=fX;repeat first|refine aE ?_|intro
  refine L.step sD (S.wB rfl rfl rfl rfl func338 q_ rfl aC (λE' hE=>Y8 E' x) ?_);rintro r H' ⟨rfl,rfl⟩;refine gk bG ?_;cases hp:x.may
  ·rw[CB (p:=λx => !x.may) hx (by rw[hp];rfl) hall];repeat first|refine aE ?_|intro
   exact e1_
  ·repeat first|refine aE ?_|intro
   refine⟨i+1,aD,aB.refl,⟨by omega,λj y hj hy=>?_⟩,by omega⟩;by_cases hji:j=i
   ·subst hji;rw[hx] at hy;injection hy with hy;subst hy;dsimp only;rw[hp];rfl
   ·exact hall j y o_ hy
 ·obtain rfl:i=n:=by omega
  rw[Bp (λx hx=>by obtain⟨j,hj,rfl⟩:=aBm hx;exact hall j _ o_ (aAa hj))];repeat first|refine aE ?_|intro
  exact e1_
theorem p4(l:List aX)(hr:Rd E bE A n c l):aK prog E 337 #[.slice A n c,.func (.func 338) #[] #[]] [] λr H'=>r=.returned (.bool (l.any λx => !x.may))∧H'=[]:=by
 refine t_ func337 ntmps337 ?_;repeat first|refine aE ?_|intro
 refine eV (λ(E':Env)=>u7 E' A n c l) ?_;repeat first|refine aE ?_|intro
 exact aR rfl aF aA (⟨by rw[←E6],rfl⟩)
end
theorem Ao(m:Mg)(A:Option Addr)(n c:Nat)(B:Option Addr)(k d:Nat):∀j u,(Au.bT [m.k0,m.k1,m.k2,m.k3])[j]?=some u→(oK m A n c B k d)[3+j]?=some u:=by
 intro j u h;have e:Au.bT [m.k0,m.k1,m.k2,m.k3]=[.int .i64 m.k0,.int .i64 m.k1,.int .i64 m.k2,.int .i64 m.k3]:=rfl;rw[e] at h
 match j,h with
 |0,h=>exact h
 |1,h=>exact h
 |2,h=>exact h
 |3,h=>exact h
 |j+4,h=>simp at h
section
variable (E:Env) (m:Mg) (A:Option Addr) (n c:Nat) (B:Option Addr) (k d:Nat)
theorem Oj:aK prog E 287 #[.agg (oK m A n c B k d).toArray] [] λe H'=>e=.returned (.bool m.nT)∧H'=[]:=by
 refine t_ func287 ntmps287 ?_;unfold Mg.nT;by_cases h3:m.kind=3
 ·rw[if_pos h3];repeat first|refine aE ?_|intro
  refine bW (λ(E':Env)=>Yz E' m.fr) ?_;cases hf:wV m.fr
  ·rintro e H' ⟨rfl,rfl⟩;repeat first|refine aE ?_|intro
   exact e1_
  ·rintro e H' ⟨rfl,rfl⟩;repeat first|refine aE ?_|intro
   exact e1_
 rw[if_neg h3];by_cases h4:m.kind=4
 ·rw[if_pos h4];by_cases hf:m.fr=9
  ·rw[decide_eq_true hf];repeat first|refine aE ?_|intro
   refine bK (λ(E':Env)=>Yz E' m.to) ?_;repeat first|refine aE ?_|intro
   exact e1_
  ·rw[decide_eq_false hf];repeat first|refine aE ?_|intro
   exact e1_
 rw[if_neg h4];repeat first|refine aE ?_|intro
 refine bW (λ(E':Env)=>Yz E' m.fr) ?_;cases hf:wV m.fr
 ·rintro e H' ⟨rfl,rfl⟩;repeat first|refine aE ?_|intro
  exact e1_
 ·rintro e H' ⟨rfl,rfl⟩;repeat first|refine aE ?_|intro
  refine bK (λ(E':Env)=>Yz E' m.to) ?_;repeat first|refine aE ?_|intro
  exact e1_
def HQ(m:Mg)(A:Option Addr)(n c:Nat)(B:Option Addr)(k d:Nat)(r:Value):Prop :=
 ∃A' n' c' B' k' d',r=.agg (oK m.bare A' n' c' B' k' d').toArray∧(∀E,Rd E fN A n c m.ids→Rd E fN A' n' c' m.bare.ids)∧∀E,Rd E bE B k d m.iS→Rd E bE B' k' d' m.bare.iS
theorem Um(h:m.kind=1):HQ m A n c B k d (.agg #[.int .i64 m.kind,.int .i64 m.fr,.int .i64 m.to,.int .i64 m.k0,.int .i64 m.k1,.int .i64 m.k2,.int .i64 m.k3,.int .i64 m.base,.slice none 0 0,.slice none 0 0,.int .i64 0,.int .i64 0,.int .i64 0,.bool false,.int .i64 0,.int .i64 0,.int .i64 0,.int .i64 0,.int .i64 0]):=by
 have e:m.bare=⟨m.kind,m.fr,m.to,m.k0,m.k1,m.k2,m.k3,m.base,[],[],xX,rZ⟩:=if_pos h;refine⟨none,0,0,none,0,0,by rw[e];rfl,λE _=>by rw[e];exact Rd.nil E fN,λE _=>by rw[e];exact Rd.nil E bE⟩
theorem UW(h:m.kind=2):HQ m A n c B k d (.agg #[.int .i64 m.kind,.int .i64 m.fr,.int .i64 m.to,.int .i64 0,.int .i64 0,.int .i64 0,.int .i64 0,.int .i64 m.base,.slice A n c,.slice B k d,.int .i64 0,.int .i64 0,.int .i64 0,.bool false,.int .i64 0,.int .i64 0,.int .i64 0,.int .i64 0,.int .i64 0]):=by
 have e:m.bare=⟨m.kind,m.fr,m.to,0,0,0,0,m.base,m.ids,m.iS,xX,rZ⟩:=by unfold Mg.bare;rw[if_neg o_,if_pos h]
 refine⟨A,n,c,B,k,d,by rw[e];rfl,λE h=>by rw[e];exact h,λE h=>by rw[e];exact h⟩
theorem UT(h:m.kind=3):HQ m A n c B k d (.agg #[.int .i64 m.kind,.int .i64 m.fr,.int .i64 m.to,.int .i64 0,.int .i64 0,.int .i64 0,.int .i64 0,.int .i64 0,.slice none 0 0,.slice none 0 0,.int .i64 m.key.id.rep,.int .i64 m.key.id.seq,.int .i64 m.key.ord,.bool m.key.cD,.int .i64 m.bC.kind,.int .i64 m.bC.a,.int .i64 m.bC.n,.int .i64 m.bC.ref.rep,.int .i64 m.bC.ref.seq]):=by
 have e:m.bare=⟨m.kind,m.fr,m.to,0,0,0,0,0,[],[],m.key,m.bC⟩:=by unfold Mg.bare;rw[if_neg o_,if_neg o_,if_pos h]
 refine⟨none,0,0,none,0,0,by rw[e],λE _=>by rw[e];exact Rd.nil E fN,λE _=>by rw[e];exact Rd.nil E bE⟩
theorem UY(h:m.kind=4):HQ m A n c B k d (.agg #[.int .i64 m.kind,.int .i64 m.fr,.int .i64 m.to,.int .i64 0,.int .i64 0,.int .i64 0,.int .i64 0,.int .i64 0,.slice none 0 0,.slice none 0 0,.int .i64 m.key.id.rep,.int .i64 m.key.id.seq,.int .i64 m.key.ord,.bool m.key.cD,.int .i64 0,.int .i64 0,.int .i64 0,.int .i64 0,.int .i64 0]):=by
 have e:m.bare=⟨m.kind,m.fr,m.to,0,0,0,0,0,[],[],m.key,rZ⟩:=by unfold Mg.bare;rw[if_neg o_,if_neg o_,if_neg o_,if_pos h]
 refine⟨none,0,0,none,0,0,by rw[e];rfl,λE _=>by rw[e];exact Rd.nil E fN,λE _=>by rw[e];exact Rd.nil E bE⟩
theorem Wm(h:1≤m.kind∧m.kind≤4):aK prog E 290 #[.agg (oK m A n c B k d).toArray] [] λe H'=>(∃r,e=.returned r∧HQ m A n c B k d r)∧H'=[]:=by
 refine t_ func290 ntmps290 ?_;rcases(show m.kind=1∨m.kind=2∨m.kind=3∨m.kind=4 by omega) with h1|h1|h1|h1
 ·have hp:=Um m A n c B k d h1;repeat first|refine aE ?_|intro
  rename_i gb gr g;refine rB (l_ [0,1,2,3,4] (g_ 5 (n_ 6 (g_ 7 .nil)))) ([aJ gb 195 (oK m A n c B k d)]) ?_;repeat first|refine aE ?_|intro
  apply cI;(· exact rfl);(· exact aF);(· exact rfl);(· exact rfl);(· exact rfl);(· exact aS);(· exact rfl);rotate_left;(· exact(⟨⟨_,rfl,hp⟩,rfl⟩));(· exact aA)
 ·have hp:=UW m A n c B k d h1;repeat first|refine aE ?_|intro
  rename_i gb gr g;refine rB (l_ [0,1,2,3,4,5,6] (g_ 7 (n_ 8 (g_ 9 (n_ 10 (g_ 11 .nil)))))) ([aJ gb 195 (oK m A n c B k d)]) ?_;repeat first|refine aE ?_|intro
  apply cI;(· exact rfl);(· exact aF);(· exact rfl);(· exact rfl);(· exact rfl);(· exact aS);(· exact rfl);rotate_left;(· exact(⟨⟨_,rfl,hp⟩,rfl⟩));(· exact aA)
 ·have hp:=UT m A n c B k d h1;repeat first|refine aE ?_|intro
  rename_i gb gr g;refine rB (l_ [0,1,2,3,4] (g_ 5 (n_ 6 (g_ 7 .nil)))) ([aJ gb 195 (oK m A n c B k d)]) ?_;repeat first|refine aE ?_|intro
  apply cI;(· exact rfl);(· exact aF);(· exact rfl);(· exact rfl);(· exact rfl);(· exact aS);(· exact rfl);rotate_left;(· exact(⟨⟨_,rfl,hp⟩,rfl⟩));(· exact aA)
 ·have hp:=UY m A n c B k d h1;repeat first|refine aE ?_|intro
  apply cI;(· exact rfl);(· exact aF);(· exact rfl);(· exact rfl);(· exact rfl);(· exact aS);(· exact rfl);rotate_left;(· exact(⟨⟨_,rfl,hp⟩,rfl⟩));(· exact aA)
theorem Zm(hI:Rd E fN A n c m.ids)(hC:Rd E bE B k d m.iS)(h:1≤m.kind∧m.kind≤4):aK prog E 288 #[.agg (oK m A n c B k d).toArray] [] λe H'=>e=.returned (.bool m.cV)∧H'=[]:=by
 have hn:=hI.len;have hk:=hC.len;have hnc:=hI.cap;have hkc:=hC.cap;have h4m:4≤maxLen:=by decide
 have hkn:=Ao m A n c B k d;refine t_ func288 ntmps288 ?_;unfold Mg.cV;rcases(show m.kind=1∨m.kind=2∨m.kind=3∨m.kind=4 by omega) with h1|h1|h1|h1
 ·rw[if_pos h1];have hall:=Ef sq [m.k0,m.k1,m.k2,m.k3];rw[show[m.k0,m.k1,m.k2,m.k3].all sq=(sq m.k0&&sq m.k1&&sq m.k2&&sq m.k3) by simp[Bool.and_assoc]] at hall;repeat first|refine aE ?_|intro
  rename_i g;refine cl sD sK aC (λE' hE=>z7 E' (some ⟨g,3,none⟩) 4 4 [m.k0,m.k1,m.k2,m.k3] (hE.arr aS rfl h4m hkn)) ?_;rintro e H' ⟨rfl,rfl⟩;refine gk bG ?_;rw[←hall];cases hs:([m.k0,m.k1,m.k2,m.k3].any λx => !sq x)
  ·repeat first|refine aE ?_|intro
   refine bK (λ(E':Env)=>dV E' m.base 0 48) ?_;repeat first|refine aE ?_|intro
   exact e1_
  ·repeat first|refine aE ?_|intro
   exact e1_
 ·rw[if_neg o_,if_pos h1];rw[←hn,←hk,←Ef bJ.may,←Ef aX.may];by_cases hn16:n≤16
  ·have d16:decide (n≤16)=true:=decide_eq_true hn16;rw[d16];repeat first|refine aE ?_|intro
   refine eV (λ(E':Env)=>r4 E' A n c m.ids) ?_;by_cases hk8:k≤8
   ·have d8:decide (k≤8)=true:=decide_eq_true hk8;rw[d8];repeat first|refine aE ?_|intro
    refine eV (λ(E':Env)=>p4 E' B k d m.iS) ?_;cases hs:(m.ids.any λx => !x.may)
    ·cases hs2:(m.iS.any λx => !x.may)
     ·repeat first|refine aE ?_|intro
      refine bK (λ(E':Env)=>dV E' m.base 0 48) ?_;repeat first|refine aE ?_|intro
      exact e1_
     ·repeat first|refine aE ?_|intro
      exact e1_
    ·repeat first|refine aE ?_|intro
     exact e1_
   ·have d8:decide (k≤8)=false:=decide_eq_false hk8;rw[d8];cases hs:(m.ids.any λx => !x.may)
    ·repeat first|refine aE ?_|intro
     exact e1_
    ·repeat first|refine aE ?_|intro
     exact e1_
  ·have d16:decide (n≤16)=false:=decide_eq_false hn16;rw[d16];by_cases hk8:k≤8
   ·repeat first|refine aE ?_|intro
    refine eV (λ(E':Env)=>p4 E' B k d m.iS) ?_;repeat first|refine aE ?_|intro
    exact e1_
   ·repeat first|refine aE ?_|intro
    exact e1_
 ·rw[if_neg o_,if_neg o_,if_pos h1];repeat first|refine aE ?_|intro
  refine bW (λ(E':Env)=>pI E' m.key) ?_;cases hs:m.key.may
  ·rintro e H' ⟨rfl,rfl⟩;repeat first|refine aE ?_|intro
   exact e1_
  ·rintro e H' ⟨rfl,rfl⟩;repeat first|refine aE ?_|intro
   refine bK (λ(E':Env)=>ES E' m.bC) ?_;repeat first|refine aE ?_|intro
   exact e1_
 ·rw[if_neg o_,if_neg o_,if_neg o_];repeat first|refine aE ?_|intro
  refine bK (λ(E':Env)=>pI E' m.key) ?_;repeat first|refine aE ?_|intro
  exact e1_
theorem Cr(hI:Rd E fN A n c m.ids)(hC:Rd E bE B k d m.iS):aK prog E 235 #[.agg (oK m A n c B k d).toArray] [] λe H'=>e=.returned (.int .i64 m.check)∧H'=[]:=by
 refine t_ func235 ntmps235 ?_;unfold Mg.check;repeat first|refine aE ?_|intro
 refine bW (λ(E':Env)=>dV E' m.kind 1 4) ?_;by_cases h:1≤m.kind∧m.kind≤4
 case neg =>
  rw[decide_eq_false h,if_neg h];rintro e H' ⟨rfl,rfl⟩;repeat first|refine aE ?_|intro
  exact e1_
 rw[decide_eq_true h,if_pos h];rintro e H' ⟨rfl,rfl⟩;repeat first|refine aE ?_|intro
 refine bW (λ(E':Env)=>Oj E' m A n c B k d) ?_;cases hp:m.nT
 ·rw[if_neg (by simp)];rintro e H' ⟨rfl,rfl⟩;repeat first|refine aE ?_|intro
  exact e1_
 rintro e H' ⟨rfl,rfl⟩;repeat first|refine aE ?_|intro
 refine C1 (λ(E':Env) h1 h2=>Zm E' m A n c B k d h1 h2 h) ?_;cases hf:m.cV
 ·rw[if_neg (by simp)];rintro e H' ⟨rfl,rfl⟩;repeat first|refine aE ?_|intro
  exact e1_
 rw[if_pos (by rfl)];rintro e H' ⟨rfl,rfl⟩;repeat first|refine aE ?_|intro
 refine rA (l_ [0,2] (g_ 1 (g_ 3 (l_ [4,5] .nil)))) ?_;repeat first|refine aE ?_|intro
 refine iO (λ(E':Env)=>Wm E' m A n c B k d h) ?_;rintro e H' ⟨⟨r,rfl,A',n',c',B',k',d',rfl,hi',hc'⟩,rfl⟩;repeat first|refine aE ?_|intro
 refine cg rfl sD bA sK aC (λE' hE=>YH E' A' n' c' B' k' d' A n c B k d m.bare m (hi' _ dB) (hc' _ dB) dB dB) ?_;by_cases hb:m.bare=m
 ·rw[decide_eq_true hb,if_pos hb];rintro e H' ⟨rfl,rfl⟩;repeat first|refine aE ?_|intro
  exact e1_
 ·rw[decide_eq_false hb,if_neg hb];rintro e H' ⟨rfl,rfl⟩;repeat first|refine aE ?_|intro
  exact e1_
end
end Go.Proofs.YtmilalkjbojciaaGreat.Sep
namespace Go.Proofs.YtmilalkjbojciaaGreat.Sep
open Go.RowKit Reg Oct
open Mem hiding Rd
def wn(w:Nat)(l:List Int):List UInt8:=(l.map λn=>be n.toNat w).flatten
theorem Sm(w:Nat)(l:List Int)(x:Int):wn w (l++[x])=wn w l++be x.toNat w:=by simp[wn]
theorem iI(w:Nat)(l:List Int):(wn w l).length=w*l.length:=by
 induction l with
 |nil=>simp[wn]
 |cons a l ih =>
  have:wn w (a::l)=be a.toNat w++wn w l:=rfl;rw[this,aAe,aP,ih,aAs,Nat.mul_add];omega
abbrev Mi(g:Nat)(A:Option Addr)(n c:Nat)(l:List UInt8):List aL:=[aJ g 330 [.slice A n c],own aU A n c l]
def WP(g n':Nat)(l:List UInt8)(e:Ending)(H':List aL):Prop:=e=.returned (.tuple #[])∧∃A' c',H'=[aJ g 330 [.slice A' n' c'],own aU A' n' c' l]
section
variable (E:Env) (g:Nat) (A:Option Addr) (n c:Nat) (l:List UInt8)
theorem Fo(w n':Nat)(W:Int)(hW:W=w)(hw:1≤w∧w≤8)(B:Option Addr)(k d:Nat)(ns:List Int)(hr:Rd E Au B k d ns)(hns:∀x∈ns,0≤x∧x≤65535)(hk:k≤100)(hnl:n=l.length)(hn:n≤100000)(hn':n+w*k=n') :
  aK prog E 236 #[.pointer (some ⟨g,0,none⟩),.int .i64 W,.slice B k d] (Mi g A n c l) (WP g n' (l++wn w ns)):=by
 subst hn';have hcap:=hr.cap;have hlen:=hr.len;have hmax:=fX;unfold Mi;refine t_ func236 ntmps236 ?_;repeat first|refine aE ?_|intro
 refine C.loop (X:=Nat×Option Addr×Nat) (λx=>[(0,.pointer (some ⟨g,0,none⟩)),(1,.int .i64 W),(8,.slice B k d),(9,.int .i64 k),(10,.int .i64 x.1)]) (λx=>[aJ g 330 [.slice x.2.1 (n+w*x.1) x.2.2],own aU x.2.1 (n+w*x.1) x.2.2 (l++wn w (ns.take x.1))]) (λx=>x.1≤k) (λx=>k - x.1) (0,A,c) aD (by simp[wn];exact aB.refl) (aAh _) ?_;rintro⟨i,A',c'⟩ G hi;dsimp only at hi⊢;by_cases hlt:i<k
 ·have hli:i<ns.length:=by omega
  have hx:ns[i]?=some ns[i]:=aAa hli;have hst:ns.take (i+1)=ns.take i++[ns[i]]:=aAn hli;have hb:=hns _ (aCs hli);generalize ns[i]=x at hx hst hb;have hz:(l++wn w (ns.take i))++be x.toNat w=l++wn w (ns.take (i+1)):=by rw[hst,Sm,aAb]
  have hl2:n+w*i=(l++wn w (ns.take i)).length:=by rw[aAe,iI,aAg];congr 2;omega
  have hwi:w*i≤800:=aBw (Nat.mul_le_mul hw.2 (show i≤100 by omega)) sD;have hnn:n+w*i+w=n+w*(i+1):=by rw[Nat.mul_add,Nat.mul_one];omega
  have hwr:=eZ hb.1 o_;have hxl:x.toNat<18446744073709551616:=by omega
  have hle:n+w*i≤140737488355300:=by omega
  generalize n+w*i=q at *;repeat first|refine aE ?_|intro
  refine dX (λ(E':Env) h1=>kY E' A' q c' (n+w*(i+1)) w (l++wn w (ns.take i)) x.toNat W hW hnn hw h1 hxl hle) ?_;rintro e H' ⟨A1,c1,rfl,hc1,rfl⟩;refine gk bG ?_;rw[hz];repeat first|refine aE ?_|intro
  exact⟨(i+1,A1,c1),aD,aA,by dsimp only;omega,by dsimp only;omega⟩
 ·obtain rfl:i=k:=by omega
  have hall:ns.take i=ns:=aAj o_;rw[hall];repeat first|refine aE ?_|intro
  exact gO rfl aA (⟨rfl,_,_,rfl⟩)
theorem Tx(n':Nat)(a:bJ)(ha:a.may=true)(hnl:n=l.length)(hn:n≤90000)(hn':n+3=n'):aK prog E 237 #[.pointer (some ⟨g,0,none⟩),.agg a.cs.toArray] (Mi g A n c l) (WP g n' (l++gM a)):=by
 subst hn';obtain⟨r0,r1,s0,s1⟩:=(bJ.bY a).1 ha;have o1:1≤1∧1≤8:=by omega
 have o2:1≤2∧2≤8:=by omega
 have b1:∀x∈[a.rep],0≤x∧x≤65535:=λx hx=>by simp at hx;omega
 have b2:∀x∈[a.seq],0≤x∧x≤65535:=λx hx=>by simp at hx;omega
 have hl1:n+1=(l++wn 1 [a.rep]).length:=by rw[aAe,iI,hnl];rfl
 have hfin:(l++wn 1 [a.rep])++wn 2 [a.seq]=l++gM a:=by simp[wn,gM,fI]
 have l1:1≤100:=by omega
 have l2:n≤100000:=by omega
 have l3:n+1≤100000:=by omega
 have l4:n+1*1=n+1:=by omega
 have l5:n+1+2*1=n+3:=by omega
 unfold Mi;refine t_ func237 ntmps237 ?_;repeat first|refine aE ?_|intro
 refine cl sD sK aC (λE' hE=>Fo E' g A n c l 1 (n+1) 1 rfl o1 _ 1 1 [a.rep] dB b1 l1 hnl l2 l4) ?_;rintro e H' ⟨rfl,A1,c1,rfl⟩;repeat first|refine aE ?_|intro
 refine cl sD sK aC (λE' hE=>Fo E' g A1 (n+1) c1 (l++wn 1 [a.rep]) 2 (n+3) 2 rfl o2 _ 1 1 [a.seq] dB b2 l1 hl1 l3 l5) ?_;rintro e H' ⟨rfl,A2,c2,rfl⟩;refine gk bG ?_;rw[hfin];repeat first|refine aE ?_|intro
 exact gO rfl aA (⟨rfl,_,_,rfl⟩)
theorem ON(n':Nat)(k:bP)(hk:k.may=true)(hnl:n=l.length)(hn:n≤80000)(hn':n+5=n'):aK prog E 238 #[.pointer (some ⟨g,0,none⟩),.agg k.cs.toArray] (Mi g A n c l) (WP g n' (l++fI kW (kK k))):=by
 subst hn';obtain⟨hi,o0,o1⟩:=(bP.bY k).1 hk;have hid:k.id.may=true:=(bJ.bY _).2 hi;have w1:1≤1∧1≤8:=by omega
 have b0:∀x∈[k.ord,0],0≤x∧x≤65535:=λx hx=>by simp at hx;omega
 have b1:∀x∈[k.ord,1],0≤x∧x≤65535:=λx hx=>by simp at hx;omega
 have hl1:n+3=(l++gM k.id).length:=by rw[aAe,xF,hnl]
 have l1:2≤100:=by omega
 have l2:n≤90000:=by omega
 have l3:n+3≤100000:=by omega
 have l5:n+3+1*2=n+5:=by omega
 unfold Mi;refine t_ func238 ntmps238 ?_;repeat first|refine aE ?_|intro
 refine bW (λ(E':Env)=>Tx E' g A n c l (n+3) k.id hid hnl l2 rfl) ?_;rintro e H' ⟨rfl,A1,c1,rfl⟩;refine gk bG ?_;cases hu:k.cD
 ·have hfin:(l++gM k.id)++wn 1 [k.ord,0]=l++fI kW (kK k):=by simp[wn,gM,fI,kK,jS,hu]
  repeat first|refine aE ?_|intro
  refine cl sD sK aC (λE' hE=>Fo E' g A1 (n+3) c1 (l++gM k.id) 1 (n+5) 1 rfl w1 _ 2 2 [k.ord,0] dB b0 l1 hl1 l3 l5) ?_;rintro e H' ⟨rfl,A2,c2,rfl⟩;refine gk bG ?_;rw[hfin];repeat first|refine aE ?_|intro
  exact gO rfl aA (⟨rfl,_,_,rfl⟩)
 ·have hfin:(l++gM k.id)++wn 1 [k.ord,1]=l++fI kW (kK k):=by simp[wn,gM,fI,kK,jS,hu]
  repeat first|refine aE ?_|intro
  refine cl sD sK aC (λE' hE=>Fo E' g A1 (n+3) c1 (l++gM k.id) 1 (n+5) 1 rfl w1 _ 2 2 [k.ord,1] dB b1 l1 hl1 l3 l5) ?_;rintro e H' ⟨rfl,A2,c2,rfl⟩;refine gk bG ?_;rw[hfin];repeat first|refine aE ?_|intro
  exact gO rfl aA (⟨rfl,_,_,rfl⟩)
end
theorem Mg.ends{m:Mg}(h:m.check=0):0≤m.fr∧m.fr≤9∧0≤m.to∧m.to≤9:=by
 obtain⟨_,hp,_,_⟩:=Mg.bR h;unfold Mg.nT at hp;split at hp
 ·simp[wV] at hp;omega
 ·split at hp
  ·simp[wV] at hp;omega
  ·simp[wV] at hp;omega
theorem Mg.XG{m:Mg}(h:m.check=0)(h1:m.kind=1):(∀x∈m.ks,0≤x∧x≤65535)∧0≤m.base∧m.base≤48:=by
 obtain⟨_,_,hf,_⟩:=Mg.bR h;unfold Mg.cV at hf;rw[if_pos h1] at hf;simp[sq,bs] at hf;refine⟨λx hx=>?_,by omega⟩;simp at hx;omega
theorem Mg.Tr{m:Mg}(h:m.check=0)(h1:m.kind=2):m.ids.length≤16∧m.ids.all bJ.may=true∧m.iS.length≤8∧m.iS.all aX.may=true∧0≤m.base∧m.base≤48:=by
 obtain⟨_,_,hf,_⟩:=Mg.bR h;unfold Mg.cV at hf;rw[if_neg o_,if_pos h1] at hf;simp only[aAv,decide_eq_true_eq,bs] at hf;exact⟨hf.1.1.1,hf.1.1.2,hf.1.2.1,hf.1.2.2,hf.2⟩
theorem Mg.YR{m:Mg}(h:m.check=0)(h1:m.kind=3):m.key.may=true∧m.bC.check=0:=by
 obtain⟨_,_,hf,_⟩:=Mg.bR h;unfold Mg.cV at hf;rw[if_neg o_,if_neg o_,if_pos h1] at hf;simpa using hf
theorem Mg.W7{m:Mg}(h:m.check=0)(h1:m.kind=4):m.key.may=true:=by
 obtain⟨_,_,hf,_⟩:=Mg.bR h;unfold Mg.cV at hf
 rwa [if_neg o_,if_neg o_,if_neg o_] at hf
theorem Mg.Ta{m:Mg}(h1:m.kind=1):(([]++wn 1 [m.kind,m.fr,m.to])++wn 2 m.ks)++wn 1 [m.base]=m.body:=by
 unfold Mg.body;rw[if_pos h1];simp[wn,fI]
theorem Mg.Tq{m:Mg}(h1:m.kind=2):(((([]++wn 1 [m.kind,m.fr,m.to])++wn 1 [m.base,(m.ids.length:Int)])++kH m.ids)++dP m.iS)=m.body:=by
 unfold Mg.body;rw[if_neg o_,if_pos h1];simp[wn,fI]
theorem Mg.T1{m:Mg}(h1:m.kind=3):((([]++wn 1 [m.kind,m.fr,m.to])++fI kW (kK m.key))++m.bC.put)=m.body:=by
 unfold Mg.body;rw[if_neg o_,if_neg o_,if_pos h1];simp[wn,fI]
theorem Mg.T8{m:Mg}(h1:m.kind=4):(([]++wn 1 [m.kind,m.fr,m.to])++fI kW (kK m.key))=m.body:=by
 unfold Mg.body;rw[if_neg o_,if_neg o_,if_neg o_];simp[wn,fI]
theorem pR(k:bP):(fI kW (kK k)).length=5:=by simp[fI,kK,aP]
theorem Mg.Gz{m:Mg}(h:m.check=0):1≤m.body.length∧m.body.length≤300:=by
 obtain⟨hk,_,_,_⟩:=Mg.bR h;rcases(show m.kind=1∨m.kind=2∨m.kind=3∨m.kind=4 by omega) with h1|h1|h1|h1
 ·rw[←Mg.Ta h1];simp[iI]
 ·obtain⟨h16,_,h8,_⟩:=Mg.Tr h h1;rw[←Mg.Tq h1];simp[iI,jC,lZ];omega
 ·rw[←Mg.T1 h1];simp[iI,pR,cQ.bD]
 ·rw[←Mg.T8 h1];simp[iI,pR]
section
variable (E:Env) (m:Mg) (A:Option Addr) (n c:Nat) (B:Option Addr) (k d:Nat)
theorem Ks(hI:Rd E fN A n c m.ids)(hC:Rd E bE B k d m.iS)(h:m.check≠0):aK prog E 178 #[.agg (oK m A n c B k d).toArray] [] λe H'=>e=.returned (.tuple #[.slice none 0 0,.int .i64 m.check])∧H'=[]:=by
 refine t_ func178 ntmps178 ?_;repeat first|refine aE ?_|intro
 refine C1 (λ(E':Env)=>Cr E' m A n c B k d) ?_;generalize m.check=ck at *;rintro e H' ⟨rfl,rfl⟩;repeat first|refine aE ?_|intro
 exact e2_
def YP(m:Mg)(e:Ending)(H':List aL):Prop:=∃A' c',e=.returned (.tuple #[.slice A' (m.body.length+7) c',.int .i64 0])∧H'=[own aU A' (m.body.length+7) c' m.enc]
theorem KQ(hI:Rd E fN A n c m.ids)(hC:Rd E bE B k d m.iS)(h:m.check=0):aK prog E 178 #[.agg (oK m A n c B k d).toArray] [] (YP m):=by
 have hn:=hI.len;have hk:=hC.len;have hnc:=hI.cap;have hkc:=hC.cap;have hmax:=fX;have hk4:=(Mg.bR h).1;have hb0:=Mg.Gz h;have hef:=Mg.ends h;have h4m:4≤maxLen:=by decide
 have hkn:=Ao m A n c B k d;have o1:1≤1∧1≤8:=by omega
 have o2:1≤2∧2≤8:=by omega
 have b3:∀x∈[m.kind,m.fr,m.to],0≤x∧x≤65535:=λx hx=>by simp at hx;omega
 have z0:0=([]:List UInt8).length:=rfl;have z1:3≤100:=by omega
 have z2:0≤100000:=by omega
 have z3:0+1*3=3:=by omega
 have hl3:3=([]++wn 1 [m.kind,m.fr,m.to]).length:=by rw[aAe,iI];rfl
 have z4:3≤100000:=by omega
 have z5:3≤80000:=by omega
 unfold YP Mg.enc;refine t_ func178 ntmps178 ?_;repeat first|refine aE ?_|intro
 refine C1 (λ(E':Env)=>Cr E' m A n c B k d) ?_;rw[h];rintro e H' ⟨rfl,rfl⟩;repeat first|refine aE ?_|intro
 rename_i gb gw gs;refine L.conv (aB.oR aU none) ?_;refine cl sD sK aC (λE' hE=>Fo E' gw none 0 0 [] 1 3 1 rfl o1 _ 3 3 [m.kind,m.fr,m.to] dB b3 z1 z0 z2 z3) ?_;rintro e H' ⟨rfl,A1,c1,rfl⟩;refine gk bG ?_;generalize hhd:[]++wn 1 [m.kind,m.fr,m.to]=hd at *;rcases(show m.kind=1∨m.kind=2∨m.kind=3∨m.kind=4 by omega) with h1|h1|h1|h1
 ·obtain⟨f1,f2,f3⟩:=Mg.XG h h1;have hbd:=Mg.Ta h1;rw[hhd] at hbd;have yq0:3=hd.length:=hl3;have yq1:4≤100:=by omega
  have yq2:3+2*4=11:=by omega
  have yq3:11=(hd++wn 2 m.ks).length:=by rw[aAe,iI,←hl3];rfl
  have yq4:1≤100:=by omega
  have yq5:11≤100000:=by omega
  have yq6:11+1*1=12:=by omega
  have yq7:∀x∈[m.base],0≤x∧x≤65535:=λx hx=>by simp at hx;omega
  have yq8:12=((hd++wn 2 m.ks)++wn 1 [m.base]).length:=by rw[aAe,iI,←yq3];rfl
  have yq9:1≤12:=by omega
  have yq10:12≤4096:=by omega
  repeat first|refine aE ?_|intro
  refine cl sD sK aC (λE' hE=>Fo E' gw A1 3 c1 hd 2 11 2 rfl o2 (some ⟨gb,3,none⟩) 4 4 m.ks (hE.arr aS rfl h4m hkn) f1 yq1 yq0 z4 yq2) ?_;rintro e H' ⟨rfl,A2,c2,rfl⟩;repeat first|refine aE ?_|intro
  refine cl sD sK aC (λE' hE=>Fo E' gw A2 11 c2 (hd++wn 2 m.ks) 1 12 1 rfl o1 _ 1 1 [m.base] dB yq7 yq4 yq3 yq5 yq6) ?_;rintro e H' ⟨rfl,A3,c3,rfl⟩;refine gk bG ?_;rw[hbd] at yq8⊢;rw[←yq8];repeat first|refine aE ?_|intro
  refine dX (λ(E':Env) h1=>uR E' A3 12 c3 m.body h1 yq9 yq10) ?_;rintro e H' ⟨A4,c4,rfl,rfl⟩;repeat first|refine aE ?_|intro
  exact Cz ⟨_,_,rfl,rfl⟩
 ·obtain⟨f1,f2,f3,f4,f5,f6⟩:=Mg.Tr h h1;have hbd:=Mg.Tq h1;rw[hhd,←hn] at hbd;have xq0:3=hd.length:=hl3;have xq1:2≤100:=by omega
  have xq2:3+1*2=5:=by omega
  have xq3:∀x∈[m.base,(n:Int)],0≤x∧x≤65535:=λx hx=>by simp at hx;omega
  have xq4:5=(hd++wn 1 [m.base,(n:Int)]).length:=by rw[aAe,iI,←hl3];rfl
  have xq5:k≤48:=by omega
  have xq6:m.body.length=5+3*n+(1+22*k):=by rw[←hbd];simp only[aAe,←xq4,jC,lZ];omega
  repeat first|refine aE ?_|intro
  refine cl sD sK aC (λE' hE=>Fo E' gw A1 3 c1 hd 1 5 1 rfl o1 _ 2 2 [m.base,(n:Int)] dB xq3 xq1 xq0 z4 xq2) ?_;rintro e H' ⟨rfl,A2,c2,rfl⟩;refine gk bG ?_;generalize hd++wn 1 [m.base,(n:Int)]=h2 at *;repeat first|refine aE ?_|intro
  refine C.loop (X:=Nat×Option Addr×Nat) (λx=>[(1,.pointer (some ⟨gb,0,none⟩)),(5,.pointer (some ⟨gw,0,none⟩)),(29,.int .i64 m.kind),(52,.slice A n c),(53,.int .i64 n),(54,.int .i64 x.1)]) (λx=>[aJ gw 330 [.slice x.2.1 (5+3*x.1) x.2.2],own aU x.2.1 (5+3*x.1) x.2.2 (h2++kH (m.ids.take x.1)),aJ gb 195 (oK m A n c B k d)]) (λx=>x.1≤n) (λx=>n - x.1) (0,A2,c2) aD (by simp[kH];exact aA) (aAh _) ?_;rintro⟨i,A3,c3⟩ G hi;dsimp only at hi⊢;by_cases hlt:i<n
  ·have hli:i<m.ids.length:=by omega
   have hx:m.ids[i]?=some m.ids[i]:=aAa hli;have hst:m.ids.take (i+1)=m.ids.take i++[m.ids[i]]:=aAn hli;have hmy:m.ids[i].may=true:=by rw[aDm] at f2;exact f2 _ (aCs hli)
   generalize m.ids[i]=x at hx hst hmy;have hz:(h2++kH (m.ids.take i))++gM x=h2++kH (m.ids.take (i+1)):=by rw[hst,DR,aAb]
   have hl2:5+3*i=(h2++kH (m.ids.take i)).length:=by rw[aAe,jC,aAg,←xq4];omega
   have hle:5+3*i≤90000:=by omega
   have hnn:5+3*i+3=5+3*(i+1):=by omega
   repeat first|refine aE ?_|intro
   refine bW (λ(E':Env)=>Tx E' gw A3 (5+3*i) c3 (h2++kH (m.ids.take i)) (5+3*(i+1)) x hmy hl2 hle hnn) ?_;rintro e H' ⟨rfl,A4,c4,rfl⟩;refine gk bG ?_;rw[hz];repeat first|refine aE ?_|intro
   exact⟨(i+1,A4,c4),aD,aA,by dsimp only;omega,by dsimp only;omega⟩
  obtain rfl:i=n:=by omega
  have hall:m.ids.take i=m.ids:=aAj o_;rw[hall];repeat first|refine aE ?_|intro
  refine dX (λ(E':Env) h1=>F6 E' B k d m.iS h1 xq5) ?_;unfold xI;rw[f4];rintro e H' ⟨A4,c4,rfl,rfl⟩;refine gk bG ?_;rw[←hk];repeat first|refine aE ?_|intro
  rw[hbd];have xq7:1≤5+3*i+(1+22*k):=by omega
  have xq8:5+3*i+(1+22*k)≤4096:=by omega
  rw[xq6];rename_i A5 c5 _ _;refine dX (λ(E':Env) h1=>uR E' A5 (5+3*i+(1+22*k)) c5 m.body h1 xq7 xq8) ?_;rintro e H' ⟨A6,c6,rfl,rfl⟩;repeat first|refine aE ?_|intro
  exact Cz ⟨_,_,rfl,rfl⟩
 ·obtain⟨f1,f2⟩:=Mg.YR h h1;have hbd:=Mg.T1 h1;rw[hhd] at hbd;have xq0:3=hd.length:=hl3;have xq6:m.body.length=8+13:=by rw[←hbd];simp only[aAe,←xq0,pR,cQ.bD]
  repeat first|refine aE ?_|intro
  refine bW (λ(E':Env)=>ON E' gw A1 3 c1 hd 8 m.key f1 xq0 z5 rfl) ?_;rintro e H' ⟨rfl,A2,c2,rfl⟩;repeat first|refine aE ?_|intro
  refine bW (λ(E':Env)=>XL E' m.bC f2) ?_;rintro e H' ⟨A4,c4,rfl,rfl⟩;repeat first|refine aE ?_|intro
  rw[hbd];have xq7:1≤8+13:=by omega
  have xq8:8+13≤4096:=by omega
  rw[xq6];rename_i A5 c5 _ _;refine dX (λ(E':Env) h1=>uR E' A5 (8+13) c5 m.body h1 xq7 xq8) ?_;rintro e H' ⟨A6,c6,rfl,rfl⟩;repeat first|refine aE ?_|intro
  exact Cz ⟨_,_,rfl,rfl⟩
 ·have f1:=Mg.W7 h h1;have hbd:=Mg.T8 h1;rw[hhd] at hbd;have xq0:3=hd.length:=hl3;have xq6:m.body.length=8:=by rw[←hbd];simp only[aAe,←xq0,pR]
  repeat first|refine aE ?_|intro
  refine bW (λ(E':Env)=>ON E' gw A1 3 c1 hd 8 m.key f1 xq0 z5 rfl) ?_;rintro e H' ⟨rfl,A2,c2,rfl⟩;refine gk bG ?_;rw[hbd];repeat first|refine aE ?_|intro
  have xq7:1≤8:=by omega
  have xq8:8≤4096:=by omega
  rw[xq6];refine dX (λ(E':Env) h1=>uR E' A2 8 c2 m.body h1 xq7 xq8) ?_;rintro e H' ⟨A6,c6,rfl,rfl⟩;repeat first|refine aE ?_|intro
  exact Cz ⟨_,_,rfl,rfl⟩
end
end Go.Proofs.YtmilalkjbojciaaGreat.Sep
