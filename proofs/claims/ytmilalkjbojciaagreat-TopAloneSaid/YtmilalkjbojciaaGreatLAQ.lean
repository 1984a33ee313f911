/- Part AQ: what it needs. No condition. -/
import Derived.Test.YtmilalkjbojciaaGreatLAA
import Derived.Test.YtmilalkjbojciaaGreatLAK
import Derived.Test.YtmilalkjbojciaaGreatLAD
import Derived.Laws.Externs
import Derived.MapKept
import Derived.Test.YtmilalkjbojciaaGreatLAO
import Derived.Test.YtmilalkjbojciaaGreatLAH
import Derived.Test.YtmilalkjbojciaaGreatLAJ
set_option maxRecDepth 100000
set_option maxHeartbeats 8000000
open Go.Proofs.Tryz
namespace Go.Proofs.YtmilalkjbojciaaGreat.Sep
section
open Go.RowKit Reg
open Mem hiding Rd
theorem Sub.arr{α:Type}{T:Ty α}{E M:Env}{R R':List aL}{g:Nat}{t:TypeId}{cs:List Value}(hE:Sub E R M)(h:Has (Sep.aJ g t cs) R R'){i m:Nat}{l:List α}(hm:m=l.length)(hmax:m≤maxLen)(hv:∀j u,(T.bT l)[j]?=some u→cs[i+j]?=some u):Rd M T (some ⟨g,i,none⟩) m m l:=by
 refine⟨hm,aAf _,hmax,.inr ⟨_,rfl,?_,λj u hu=>?_⟩⟩
 ·obtain⟨F,h1,h2⟩:=hE.fr;obtain⟨F1,F2,h3,_,h5,_⟩:=h.cT h1;exact h2 _ ((h3 _).2 (.inl ((h5.1 _).2 rfl)))
 ·rw[fB];exact(qP.aJ hE h (hv j u hu)).2
def RX{α:Type}(p:α→Bool)(l:List α):Int:=match l.findIdx? p with|some i=>i|none => -1
theorem Bp{α:Type}{p:α→Bool}{l:List α}(h:∀x∈l,p x=false):RX p l = -1:=by
 unfold RX;rw[aEp.2 h]
theorem CB{α:Type}{p:α→Bool}{l:List α}{i:Nat}{x:α}(hx:l[i]?=some x)(hp:p x=true)(h:∀j y,j<i→l[j]?=some y→p y=false):RX p l=i:=by
 unfold RX;obtain⟨hi,he⟩:=aAd.1 hx;rw[aDj.2 ⟨hi,by rw[he];exact hp,λj hj=>by rw[h j l[j] hj (aAa o_)];exact aAl⟩]
theorem E6{α:Type}(p:α→Bool)(l:List α):decide (0≤RX p l)=l.any p:=by
 unfold RX;cases h:l.findIdx? p with
 |none =>
  rw[aEp] at h;rw[aBz];simp;exact h
 |some i =>
  rw[aDj] at h;obtain⟨hi,h1,_⟩:=h;rw[aEm.2 ⟨_,aCs hi,h1⟩];exact decide_eq_true (aFo i)
theorem Ef{α:Type}(p:α→Bool)(l:List α):(!(l.any λx => !p x))=l.all p:=by
 induction l with
 |nil=>rfl
 |cons a l ih=>simp[List.any_cons,List.all_cons,←ih]
section
variable (E:Env)
theorem Yz(n:Int):aK prog E 332 #[.int .i64 n] [] λe H'=>e=.returned (.bool (wV n))∧H'=[]:=by
 refine t_ func332 ntmps332 ?_;repeat first|refine aE ?_|intro
 refine bK (λM=>dV M n 0 3) ?_;repeat first|refine aE ?_|intro
 exact B7
theorem Zg(n:Int):aK prog E 334 #[.int .i64 n] [] λe H'=>e=.returned (.bool (!sq n))∧H'=[]:=by
 refine t_ func334 ntmps334 ?_;repeat first|refine aE ?_|intro
 refine bK (λM=>dV M n 0 65535) ?_;repeat first|refine aE ?_|intro
 exact B7
theorem Z7(x:bJ):aK prog E 336 #[.agg x.cs.toArray] [] λe H'=>e=.returned (.bool (!x.may))∧H'=[]:=by
 refine t_ func336 ntmps336 ?_;repeat first|refine aE ?_|intro
 refine bK (λM=>yK M x) ?_;repeat first|refine aE ?_|intro
 exact B7
theorem Y8(x:aX):aK prog E 338 #[.agg x.cs.toArray] [] λe H'=>e=.returned (.bool (!x.may))∧H'=[]:=by
 refine t_ func338 ntmps338 ?_;repeat first|refine aE ?_|intro
 refine bW (λM=>kF M x) ?_;cases hx:x.may
 ·rintro e H' ⟨rfl,rfl⟩;repeat first|refine aE ?_|intro
  exact B7
 ·rintro e H' ⟨rfl,rfl⟩;repeat first|refine aE ?_|intro
  exact B7
variable (A:Option Addr) (n c:Nat)
theorem p9(l:List Int)(hr:Rd E Au A n c l):aK prog E 368 #[.slice A n c,.func (.func 334) #[] #[]] [] λr H'=>r=.returned (.int .i64 (RX (λx => !sq x) l))∧H'=[]:=by
 have hn:=hr.len;have hcap:=hr.cap;refine t_ func368 ntmps368 ?_;repeat first|refine aE ?_|intro
 refine C.loop (X:=Nat) (λi=>[(0,.slice A n c),(1,.func (.func 334) #[] #[]),(7,.int .i64 n),(8,.int .i64 i)]) (λ_=>[]) (λi=>i≤n∧∀j y,j<i→l[j]?=some y→(λx => !sq x) y=false) (λi=>n - i) 0 aD aB.refl ⟨aAh _,λj y hj=>by omega⟩ ?_;rintro i G ⟨hi,hall⟩;by_cases hlt:i<n
 ·have hx:l[i]?=some l[i]:=aAa o_;generalize l[i]=x at hx;have hmax:=fX;repeat first|refine aE ?_|intro
  refine L.step sD (S.wB rfl rfl rfl rfl func334 q_ rfl aC (λM hE=>Zg M x) ?_);rintro r H' ⟨rfl,rfl⟩;refine gk bG ?_;cases hp:sq x
  ·rw[CB (p:=λx => !sq x) hx (by rw[hp];rfl) hall];repeat first|refine aE ?_|intro
   exact B7
  ·repeat first|refine aE ?_|intro
   refine⟨i+1,aD,aB.refl,⟨by omega,λj y hj hy=>?_⟩,by omega⟩;by_cases hji:j=i
   ·subst hji;rw[hx] at hy;injection hy with hy;subst hy;dsimp only;rw[hp];rfl
   ·exact hall j y o_ hy
 ·obtain rfl:i=n:=o_;rw[Bp (λx hx=>by obtain⟨j,hj,rfl⟩:=aBm hx;exact hall j _ o_ (aAa hj))];repeat first|refine aE ?_|intro
  exact B7
theorem z7(l:List Int)(hr:Rd E Au A n c l):aK prog E 333 #[.slice A n c,.func (.func 334) #[] #[]] [] λr H'=>r=.returned (.bool (l.any λx => !sq x))∧H'=[]:=by
 refine t_ func333 ntmps333 ?_;repeat first|refine aE ?_|intro
 refine eV (λM=>p9 M A n c l) ?_;repeat first|refine aE ?_|intro
 exact aR rfl aF aA (⟨by rw[←E6],rfl⟩)
theorem Le(l:List bJ)(hr:Rd E fN A n c l):aK prog E 369 #[.slice A n c,.func (.func 336) #[] #[]] [] λr H'=>r=.returned (.int .i64 (RX (λx => !x.may) l))∧H'=[]:=by
 have hn:=hr.len;have hcap:=hr.cap;refine t_ func369 ntmps369 ?_;repeat first|refine aE ?_|intro
 refine C.loop (X:=Nat) (λi=>[(0,.slice A n c),(1,.func (.func 336) #[] #[]),(7,.int .i64 n),(8,.int .i64 i)]) (λ_=>[]) (λi=>i≤n∧∀j y,j<i→l[j]?=some y→(λx => !x.may) y=false) (λi=>n - i) 0 aD aB.refl ⟨aAh _,λj y hj=>by omega⟩ ?_;rintro i G ⟨hi,hall⟩;by_cases hlt:i<n
 ·have hx:l[i]?=some l[i]:=aAa o_;generalize l[i]=x at hx;have hmax:=fX;repeat first|refine aE ?_|intro
  refine L.step sD (S.wB rfl rfl rfl rfl func336 q_ rfl aC (λM hE=>Z7 M x) ?_);rintro r H' ⟨rfl,rfl⟩;refine gk bG ?_;cases hp:x.may
  ·rw[CB (p:=λx => !x.may) hx (by rw[hp];rfl) hall];repeat first|refine aE ?_|intro
   exact B7
  ·repeat first|refine aE ?_|intro
   refine⟨i+1,aD,aB.refl,⟨by omega,λj y hj hy=>?_⟩,by omega⟩;by_cases hji:j=i
   ·subst hji;rw[hx] at hy;injection hy with hy;subst hy;dsimp only;rw[hp];rfl
   ·exact hall j y o_ hy
 ·obtain rfl:i=n:=o_;rw[Bp (λx hx=>by obtain⟨j,hj,rfl⟩:=aBm hx;exact hall j _ o_ (aAa hj))];repeat first|refine aE ?_|intro
  exact B7
theorem WI(l:List bJ)(hr:Rd E fN A n c l):aK prog E 335 #[.slice A n c,.func (.func 336) #[] #[]] [] λr H'=>r=.returned (.bool (l.any λx => !x.may))∧H'=[]:=by
 refine t_ func335 ntmps335 ?_;repeat first|refine aE ?_|intro
 refine eV (λM=>Le M A n c l) ?_;repeat first|refine aE ?_|intro
 exact aR rfl aF aA (⟨by rw[←E6],rfl⟩)
theorem u7(l:List aX)(hr:Rd E bE A n c l):aK prog E 230 #[.slice A n c,.func (.func 338) #[] #[]] [] λr H'=>r=.returned (.int .i64 (RX (λx => !x.may) l))∧H'=[]:=by
 have hn:=hr.len;have hcap:=hr.cap;refine t_ func230 ntmps230 ?_;repeat first|refine aE ?_|intro
 refine C.loop (X:=Nat) (λi=>[(0,.slice A n c),(1,.func (.func 338) #[] #[]),(7,.int .i64 n),(8,.int .i64 i)]) (λ_=>[]) (λi=>i≤n∧∀j y,j<i→l[j]?=some y→(λx => !x.may) y=false) (λi=>n - i) 0 aD aB.refl ⟨aAh _,λj y hj=>by omega⟩ ?_;rintro i G ⟨hi,hall⟩;by_cases hlt:i<n
 ·have hx:l[i]?=some l[i]:=aAa o_;generalize l[i]=x at hx;have hmax:=fX;repeat first|refine aE ?_|intro
  refine L.step sD (S.wB rfl rfl rfl rfl func338 q_ rfl aC (λM hE=>Y8 M x) ?_);rintro r H' ⟨rfl,rfl⟩;refine gk bG ?_;cases hp:x.may
  ·rw[CB (p:=λx => !x.may) hx (by rw[hp];rfl) hall];repeat first|refine aE ?_|intro
   exact B7
  ·repeat first|refine aE ?_|intro
   refine⟨i+1,aD,aB.refl,⟨by omega,λj y hj hy=>?_⟩,by omega⟩;by_cases hji:j=i
   ·subst hji;rw[hx] at hy;injection hy with hy;subst hy;dsimp only;rw[hp];rfl
   ·exact hall j y o_ hy
 ·obtain rfl:i=n:=o_;rw[Bp (λx hx=>by obtain⟨j,hj,rfl⟩:=aBm hx;exact hall j _ o_ (aAa hj))];repeat first|refine aE ?_|intro
  exact B7
theorem cfC(l:List aX)(hr:Rd E bE A n c l):aK prog E 337 #[.slice A n c,.func (.func 338) #[] #[]] [] λr H'=>r=.returned (.bool (l.any λx => !x.may))∧H'=[]:=by
 refine t_ func337 ntmps337 ?_;repeat first|refine aE ?_|intro
 refine eV (λM=>u7 M A n c l) ?_;repeat first|refine aE ?_|intro
 exact aR rfl aF aA (⟨by rw[←E6],rfl⟩)
end
theorem Ao(m:Mg)(A:Option Addr)(n c:Nat)(B:Option Addr)(k d:Nat):∀j u,(Au.bT [m.k0,m.k1,m.k2,m.k3])[j]?=some u→(oK m A n c B k d)[3+j]?=some u:=by
 intro j u h;have e:Au.bT [m.k0,m.k1,m.k2,m.k3]=[.int .i64 m.k0,.int .i64 m.k1,.int .i64 m.k2,.int .i64 m.k3]:=rfl;rw[e] at h
 match j,h with
 |0,h=>exact h
 |1,h=>exact h
 |2,h=>exact h
 |3,h=>exact h
 |j+4,h=>simp at h
section
variable (E:Env) (m:Mg) (A:Option Addr) (n c:Nat) (B:Option Addr) (k d:Nat)
theorem Oj:aK prog E 287 #[.agg (oK m A n c B k d).toArray] [] λe H'=>e=.returned (.bool m.nT)∧H'=[]:=by
 refine t_ func287 ntmps287 ?_;unfold Mg.nT;by_cases h3:m.kind=3
 ·rw[if_pos h3];repeat first|refine aE ?_|intro
  refine bW (λM=>Yz M m.fr) ?_;cases hf:wV m.fr
  ·rintro e H' ⟨rfl,rfl⟩;repeat first|refine aE ?_|intro
   exact B7
  ·rintro e H' ⟨rfl,rfl⟩;repeat first|refine aE ?_|intro
   exact B7
 rw[if_neg h3];by_cases h4:m.kind=4
 ·rw[if_pos h4];by_cases hf:m.fr=9
  ·rw[decide_eq_true hf];repeat first|refine aE ?_|intro
   refine bK (λM=>Yz M m.to) ?_;repeat first|refine aE ?_|intro
   exact B7
  ·rw[decide_eq_false hf];repeat first|refine aE ?_|intro
   exact B7
 rw[if_neg h4];repeat first|refine aE ?_|intro
 refine bW (λM=>Yz M m.fr) ?_;cases hf:wV m.fr
 ·rintro e H' ⟨rfl,rfl⟩;repeat first|refine aE ?_|intro
  exact B7
 ·rintro e H' ⟨rfl,rfl⟩;repeat first|refine aE ?_|intro
  refine bK (λM=>Yz M m.to) ?_;repeat first|refine aE ?_|intro
  exact B7
def HQ(m:Mg)(A:Option Addr)(n c:Nat)(B:Option Addr)(k d:Nat)(r:Value):Prop :=
 ∃A' n' c' B' k' d',r=.agg (oK m.bare A' n' c' B' k' d').toArray∧(∀E,Rd E fN A n c m.ids→Rd E fN A' n' c' m.bare.ids)∧∀E,Rd E bE B k d m.iS→Rd E bE B' k' d' m.bare.iS
theorem Um(h:m.kind=1):HQ m A n c B k d (.agg #[.int .i64 m.kind,.int .i64 m.fr,.int .i64 m.to,.int .i64 m.k0,.int .i64 m.k1,.int .i64 m.k2,.int .i64 m.k3,.int .i64 m.base,.slice none 0 0,.slice none 0 0,.int .i64 0,.int .i64 0,.int .i64 0,.bool false,.int .i64 0,.int .i64 0,.int .i64 0,.int .i64 0,.int .i64 0]):=by
 have e:m.bare=⟨m.kind,m.fr,m.to,m.k0,m.k1,m.k2,m.k3,m.base,[],[],xX,rZ⟩:=if_pos h;refine⟨none,0,0,none,0,0,by rw[e];rfl,λE _=>by rw[e];exact Rd.nil E fN,λE _=>by rw[e];exact Rd.nil E bE⟩
theorem UW(h:m.kind=2):HQ m A n c B k d (.agg #[.int .i64 m.kind,.int .i64 m.fr,.int .i64 m.to,.int .i64 0,.int .i64 0,.int .i64 0,.int .i64 0,.int .i64 m.base,.slice A n c,.slice B k d,.int .i64 0,.int .i64 0,.int .i64 0,.bool false,.int .i64 0,.int .i64 0,.int .i64 0,.int .i64 0,.int .i64 0]):=by
 have e:m.bare=⟨m.kind,m.fr,m.to,0,0,0,0,m.base,m.ids,m.iS,xX,rZ⟩:=by unfold Mg.bare;rw[if_neg o_,if_pos h]
 refine⟨A,n,c,B,k,d,by rw[e];rfl,λE h=>by rw[e];exact h,λE h=>by rw[e];exact h⟩
theorem UT(h:m.kind=3):HQ m A n c B k d (.agg #[.int .i64 m.kind,.int .i64 m.fr,.int .i64 m.to,.int .i64 0,.int .i64 0,.int .i64 0,.int .i64 0,.int .i64 0,.slice none 0 0,.slice none 0 0,.int .i64 m.key.id.rep,.int .i64 m.key.id.seq,.int .i64 m.key.ord,.bool m.key.cD,.int .i64 m.bC.kind,.int .i64 m.bC.a,.int .i64 m.bC.n,.int .i64 m.bC.ref.rep,.int .i64 m.bC.ref.seq]):=by
 have e:m.bare=⟨m.kind,m.fr,m.to,0,0,0,0,0,[],[],m.key,m.bC⟩:=by unfold Mg.bare;rw[if_neg o_,if_neg o_,if_pos h]
 refine⟨none,0,0,none,0,0,by rw[e],λE _=>by rw[e];exact Rd.nil E fN,λE _=>by rw[e];exact Rd.nil E bE⟩
theorem UY(h:m.kind=4):HQ m A n c B k d (.agg #[.int .i64 m.kind,.int .i64 m.fr,.int .i64 m.to,.int .i64 0,.int .i64 0,.int .i64 0,.int .i64 0,.int .i64 0,.slice none 0 0,.slice none 0 0,.int .i64 m.key.id.rep,.int .i64 m.key.id.seq,.int .i64 m.key.ord,.bool m.key.cD,.int .i64 0,.int .i64 0,.int .i64 0,.int .i64 0,.int .i64 0]):=by
 have e:m.bare=⟨m.kind,m.fr,m.to,0,0,0,0,0,[],[],m.key,rZ⟩:=by unfold Mg.bare;rw[if_neg o_,if_neg o_,if_neg o_,if_pos h]
 refine⟨none,0,0,none,0,0,by rw[e];rfl,λE _=>by rw[e];exact Rd.nil E fN,λE _=>by rw[e];exact Rd.nil E bE⟩
theorem Wm(h:1≤m.kind∧m.kind≤4):aK prog E 290 #[.agg (oK m A n c B k d).toArray] [] λe H'=>(∃r,e=.returned r∧HQ m A n c B k d r)∧H'=[]:=by
 refine t_ func290 ntmps290 ?_;rcases(show m.kind=1∨m.kind=2∨m.kind=3∨m.kind=4 by omega) with h1|h1|h1|h1
 ·have hp:=Um m A n c B k d h1;repeat first|refine aE ?_|intro
  rename_i gb gr g;refine rB (l_ [0,1,2,3,4] (g_ 5 (n_ 6 (g_ 7 .nil)))) ([aJ gb 195 (oK m A n c B k d)]) ?_;repeat first|refine aE ?_|intro
  apply cI;(· exact rfl);(· exact aF);(· exact rfl);(· exact rfl);(· exact rfl);(· exact aS);(· exact rfl);rotate_left;(· exact(⟨⟨_,rfl,hp⟩,rfl⟩));(· exact aA)
 ·have hp:=UW m A n c B k d h1;repeat first|refine aE ?_|intro
  rename_i gb gr g;refine rB (l_ [0,1,2,3,4,5,6] (g_ 7 (n_ 8 (g_ 9 (n_ 10 (g_ 11 .nil)))))) ([aJ gb 195 (oK m A n c B k d)]) ?_;repeat first|refine aE ?_|intro
  apply cI;(· exact rfl);(· exact aF);(· exact rfl);(· exact rfl);(· exact rfl);(· exact aS);(· exact rfl);rotate_left;(· exact(⟨⟨_,rfl,hp⟩,rfl⟩));(· exact aA)
 ·have hp:=UT m A n c B k d h1;repeat first|refine aE ?_|intro
  rename_i gb gr g;refine rB (l_ [0,1,2,3,4] (g_ 5 (n_ 6 (g_ 7 .nil)))) ([aJ gb 195 (oK m A n c B k d)]) ?_;repeat first|refine aE ?_|intro
  apply cI;(· exact rfl);(· exact aF);(· exact rfl);(· exact rfl);(· exact rfl);(· exact aS);(· exact rfl);rotate_left;(· exact(⟨⟨_,rfl,hp⟩,rfl⟩));(· exact aA)
 ·have hp:=UY m A n c B k d h1;repeat first|refine aE ?_|intro
  apply cI;(· exact rfl);(· exact aF);(· exact rfl);(· exact rfl);(· exact rfl);(· exact aS);(· exact rfl);rotate_left;(· exact(⟨⟨_,rfl,hp⟩,rfl⟩));(· exact aA)
theorem Zm(hI:Rd E fN A n c m.ids)(hC:Rd E bE B k d m.iS)(h:1≤m.kind∧m.kind≤4):aK prog E 288 #[.agg (oK m A n c B k d).toArray] [] λe H'=>e=.returned (.bool m.cV)∧H'=[]:=by
 have hn:=hI.len;have hk:=hC.len;have hnc:=hI.cap;have hkc:=hC.cap;have h4m:4≤maxLen:=sD;have hkn:=Ao m A n c B k d;refine t_ func288 ntmps288 ?_;unfold Mg.cV;rcases(show m.kind=1∨m.kind=2∨m.kind=3∨m.kind=4 by omega) with h1|h1|h1|h1
 ·rw[if_pos h1];have hall:=Ef sq [m.k0,m.k1,m.k2,m.k3];rw[show[m.k0,m.k1,m.k2,m.k3].all sq=(sq m.k0&&sq m.k1&&sq m.k2&&sq m.k3) by simp[Bool.and_assoc]] at hall;repeat first|refine aE ?_|intro
  rename_i g;refine cl sD sK aC (λM hE=>z7 M (some ⟨g,3,none⟩) 4 4 [m.k0,m.k1,m.k2,m.k3] (hE.arr aS rfl h4m hkn)) ?_;rintro e H' ⟨rfl,rfl⟩;refine gk bG ?_;rw[←hall];cases hs:([m.k0,m.k1,m.k2,m.k3].any λx => !sq x)
  ·repeat first|refine aE ?_|intro
   refine bK (λM=>dV M m.base 0 48) ?_;repeat first|refine aE ?_|intro
   exact B7
  ·repeat first|refine aE ?_|intro
   exact B7
 ·rw[if_neg o_,if_pos h1];rw[←hn,←hk,←Ef bJ.may,←Ef aX.may];by_cases hn16:n≤16
  ·have d16:decide (n≤16)=true:=decide_eq_true hn16;rw[d16];repeat first|refine aE ?_|intro
   refine eV (λM=>WI M A n c m.ids) ?_;by_cases hk8:k≤8
   ·have d8:decide (k≤8)=true:=decide_eq_true hk8;rw[d8];repeat first|refine aE ?_|intro
    refine eV (λM=>cfC M B k d m.iS) ?_;cases hs:(m.ids.any λx => !x.may)
    ·cases hs2:(m.iS.any λx => !x.may)
     ·repeat first|refine aE ?_|intro
      refine bK (λM=>dV M m.base 0 48) ?_;repeat first|refine aE ?_|intro
      exact B7
     ·repeat first|refine aE ?_|intro
      exact B7
    ·repeat first|refine aE ?_|intro
     exact B7
   ·have d8:decide (k≤8)=false:=decide_eq_false hk8;rw[d8];cases hs:(m.ids.any λx => !x.may)
    ·repeat first|refine aE ?_|intro
     exact B7
    ·repeat first|refine aE ?_|intro
     exact B7
  ·have d16:decide (n≤16)=false:=decide_eq_false hn16;rw[d16];by_cases hk8:k≤8
   ·repeat first|refine aE ?_|intro
    refine eV (λM=>cfC M B k d m.iS) ?_;repeat first|refine aE ?_|intro
    exact B7
   ·repeat first|refine aE ?_|intro
    exact B7
 ·rw[if_neg o_,if_neg o_,if_pos h1];repeat first|refine aE ?_|intro
  refine bW (λM=>pI M m.key) ?_;cases hs:m.key.may
  ·rintro e H' ⟨rfl,rfl⟩;repeat first|refine aE ?_|intro
   exact B7
  ·rintro e H' ⟨rfl,rfl⟩;repeat first|refine aE ?_|intro
   refine bK (λM=>ES M m.bC) ?_;repeat first|refine aE ?_|intro
   exact B7
 ·rw[if_neg o_,if_neg o_,if_neg o_];repeat first|refine aE ?_|intro
  refine bK (λM=>pI M m.key) ?_;repeat first|refine aE ?_|intro
  exact B7
theorem Cr(hI:Rd E fN A n c m.ids)(hC:Rd E bE B k d m.iS):aK prog E 235 #[.agg (oK m A n c B k d).toArray] [] λe H'=>e=.returned (.int .i64 m.check)∧H'=[]:=by
 refine t_ func235 ntmps235 ?_;unfold Mg.check;repeat first|refine aE ?_|intro
 refine bW (λM=>dV M m.kind 1 4) ?_;by_cases h:1≤m.kind∧m.kind≤4
 case neg =>
  rw[decide_eq_false h,if_neg h];rintro e H' ⟨rfl,rfl⟩;repeat first|refine aE ?_|intro
  exact B7
 rw[decide_eq_true h,if_pos h];rintro e H' ⟨rfl,rfl⟩;repeat first|refine aE ?_|intro
 refine bW (λM=>Oj M m A n c B k d) ?_;cases hp:m.nT
 ·rw[if_neg (by simp)];rintro e H' ⟨rfl,rfl⟩;repeat first|refine aE ?_|intro
  exact B7
 rintro e H' ⟨rfl,rfl⟩;repeat first|refine aE ?_|intro
 refine C1 (λM h1 h2=>Zm M m A n c B k d h1 h2 h) ?_;cases hf:m.cV
 ·rw[if_neg (by simp)];rintro e H' ⟨rfl,rfl⟩;repeat first|refine aE ?_|intro
  exact B7
 rw[if_pos (by rfl)];rintro e H' ⟨rfl,rfl⟩;repeat first|refine aE ?_|intro
 refine rA (l_ [0,2] (g_ 1 (g_ 3 (l_ [4,5] .nil)))) ?_;repeat first|refine aE ?_|intro
 refine iO (λM=>Wm M m A n c B k d h) ?_;rintro e H' ⟨⟨r,rfl,A',n',c',B',k',d',rfl,hi',hc'⟩,rfl⟩;repeat first|refine aE ?_|intro
 refine cg rfl sD bA sK aC (λM hE=>YH M A' n' c' B' k' d' A n c B k d m.bare m (hi' _ dB) (hc' _ dB) dB dB) ?_;by_cases hb:m.bare=m
 ·rw[decide_eq_true hb,if_pos hb];rintro e H' ⟨rfl,rfl⟩;repeat first|refine aE ?_|intro
  exact B7
 ·rw[decide_eq_false hb,if_neg hb];rintro e H' ⟨rfl,rfl⟩;repeat first|refine aE ?_|intro
  exact B7
end
section
variable {E:Env} {H H' R:List aL} {N:Nat} {F:Nat→Value} {o:Oper} {ρ:Operand→Value} {m:Option Nat} {ks:List bP}
theorem V.Oe{t k e:TypeId}{x:Operand}{v:Value}{u:World}(ho:o.op=.makeInterface t x)(hx:ρ x=v)(ht:prog.underlying t=some (.map k e)):(execOp ρ o).run prog u=.ok (.value (.iface t v)) u:=by
 simp[execOp,ho,hx,Instr.makeInterface,run_underlying ht]
theorem V.SN{t xT k e:TypeId}{x:Operand}{v:Value}{u:World}(ho:o.op=.typeAssert x xT t false)(hx:ρ x=.iface t v)(ht:prog.underlying t=some (.map k e)):(execOp ρ o).run prog u=.ok (.value v) u:=by
 simp[execOp,ho,hx,Instr.typeAssert,run_underlying ht,Result.andThen]
theorem S.PS{f:FuncId}{fn:Func}{t:TypeId}{x:Operand}{tys:Array TypeId}{g:Nat}(ho:o.op=.call { callee:=.value (.func f),args:=#[x],argTypes:=tys })(hx:ev F x=.iface t (.map (some g)))
  (hf:prog.funcs[f]?=some fn) (hname:(fn.name == "runtime.NumGoroutine")=false) (hb:fn.body.isNone=true) (hn:Extern.findNext fn=none) (he:Extern.find fn=some Extern.MapsClone.clone) (hm:Has (Dq (some g) ks) H R) :
  gK prog N E F H o λr H1=>∃g',r=.iface t (.map (some g'))∧H1=Dq (some g') ks::H:=by
 intro a u ha hu Kw Q' hK;obtain⟨F0,⟨_,h1⟩,_⟩:=hu.has hm;have hcl:(Extern.MapsClone.clone #[.iface t (.map (some g))]).run prog u=.ok (.iface t (.map (some u.heap.size))) (u.alloc (.map (SR ks) ks.length)):=by
  have e:Extern.MapsClone.clone #[.iface t (.map (some g))]=(getObj g >>= λo=>match o with
   | .map entries clock=>(newObj (.map entries clock) >>= λn=>pure (.iface t (.map (some n))))
   |_=>stuck "maps.clone: a map expected"):=rfl
  rw[e];simp[aEa h1,Result.andThen,go_sem]
 have hrun:(execOp (ev F) o).run prog u=.ok (.value (.iface t (.map (some u.heap.size)))) (u.alloc (.map (SR ks) ks.length)):=by
  have hcall:=run_callFunc_extern (P:=prog) hf hname hb hn he #[.iface t (.map (some g))] u;rw[hcl] at hcall;have hx':ev F (.func f)=.func (.func f) #[] #[]:=rfl;unfold execOp;simp only[ho,resolve,hx',hx,Deferred.ofValue,invoke,aAy,aCc,aAr,aEb,aCi,aDo];simpa using hcall
 unfold Oper.wp;rw[ha.eval,hrun];refine hK _ _ _ ⟨_,rfl,rfl⟩ ?_;exact hu.grow (l:=[Dq (some u.heap.size) ks]) rfl rfl rfl (by simp) (λb hb=>aDu _ _ _ hb) (F1:=λb=>b=u.heap.size) ⟨_,λ_=>False,λb=>by simp,λb _ h=>h,⟨λb=>aDl,heap_alloc_new _ _⟩,λb h=>h⟩ (λb hb=>by omega)
end
section
variable (E:Env) (g:Nat) (m:Option Nat) (A:Option Addr) (n c:Nat) (r:Int) (l:List dK)
theorem VJ(ks:List bP):aK prog E 150 #[.map m] [Dq m ks] λe H'=>∃m',e=.returned (.map m')∧(m'=none→m=none)∧H'=[Dq m' ks,Dq m ks]:=by
 refine t_ func150 ntmps150 ?_;cases m with
 |none =>
  refine C.conv (H':=[Dq none ks,Dq none ks]) (λw hw=>?_) ?_
  ·obtain⟨F,⟨rfl,_⟩,_⟩:=hw.has (R:=[]) Has.aN;exact aB.l6 w hw
  repeat first|refine qI ?_|intro
  exact jQ ⟨none,rfl,λ_=>rfl,rfl⟩
 |some g2 =>
  repeat first|refine qI ?_|intro
  refine L.val sD (λ_ _=>V.Oe rfl rfl rfl) ?_;refine L.fQ sD (S.PS rfl rfl func212 q_ q_ q_ q_ aS) ?_;rintro _ _ ⟨g3,rfl,rfl⟩;refine L.val sD (λ_ _=>V.SN rfl rfl rfl) ?_;repeat first|refine qI ?_|intro
  exact aR rfl aF aA (⟨some g3,rfl,λh=>(by cases h),rfl⟩)
theorem VH(hs:Qd m n c r l)(hl:n≤1000000000):aK prog E 84 #[.pointer (some ⟨g,0,none⟩)] (HN g m A n c r l) λe H'=>∃g' m' A' c',e=.returned (.pointer (some ⟨g',0,none⟩))∧Qd m' n c' r l∧H'=[gt g' m' A' n c' r,Dq m' (l.map dK.key),own cP A' n c' l,gt g m A n c r,Dq m (l.map dK.key),own cP A n c l]:=by
 unfold HN;refine t_ func84 ntmps84 ?_;repeat first|refine qI ?_|intro
 refine rA (l_ [0,1,2,3,5,7,8,9,10] (g_ 4 (g_ 6 (n_ 11 (g_ 12 (n_ 13 .nil)))))) ?_;repeat first|refine qI ?_|intro
 refine iO (λM=>VJ M m (l.map dK.key)) ?_;rintro e H' ⟨m',rfl,hm',rfl⟩;repeat first|refine qI ?_|intro
 refine C2 (λM h1=>GV M g m A n c r l h1 hl) ?_;rintro e H' ⟨A',c',rfl,hc',rfl⟩;repeat first|refine qI ?_|intro
 rename_i g9;exact jQ (⟨g9,m',A',c',rfl,⟨hs.hn,hc',λh=>hs.hm (hm' h),hs.hr⟩,rfl⟩)
end
structure Gh where
 m:Option Nat
 A:Option Addr
 c:Nat
def cK(g:Nat)(r:Int)(l:List dK):aL:=pack λ(x:Gh)=>iE (Qd x.m l.length x.c r l)::HN g x.m x.A l.length x.c r l
theorem cK.mk{E:Env}{R:List aL}{g:Nat}{r:Int}{l:List dK}{x:Gh}(f:Qd x.m l.length x.c r l):aB E (HN g x.m x.A l.length x.c r l++R) (cK g r l::R):=λw hw=>by
 have h1:St E (iE (Qd x.m l.length x.c r l)::HN g x.m x.A l.length x.c r l++R) w:=aB.lH f w hw;exact h1.conv λF hs=>by
  obtain⟨F1,F2,k1,k2,k3,k4⟩:=aY.1 hs;exact⟨F,⟨F1,F2,k1,k2,⟨x,k3⟩,k4⟩,λ_ h=>h⟩
theorem uV{E:Env}{f:FuncId}{args:Array Value}{g:Nat}{r:Int}{l:List dK}{Q:Ending→List aL→Prop}(h:∀x:Gh,Qd x.m l.length x.c r l→aK prog E f args (HN g x.m x.A l.length x.c r l) Q):aK prog E f args [cK g r l] Q:=by
 intro hds w hw;obtain⟨x,hs⟩:=hw.unpack (l:=λ(x:Gh)=>iE (Qd x.m l.length x.c r l)::HN g x.m x.A l.length x.c r l) Has.aN;have hp:=St.lH (H:=_) (R:=_) hs Has.aN;refine h x hp hds w (hs.conv λF hst=>?_);obtain⟨F1,F2,k1,k2,k3,k4⟩:=hst;exact⟨F2,by simpa using k4,λb hb=>(k1 b).2 (.inr hb)⟩
def L8(r:Int)(l:List dK)(q:dK):(Int×List dK)×Bool :=
 if q.key∈l.map dK.key then((r,l),true) else if 0<r then((r - 1,l),false) else((r,l++[q]),true)
section
variable (E:Env) (g:Nat) (r:Int) (l:List dK)
theorem Yg(q:dK)(hl:l.length≤1000000):G E 29 [pt g,.agg q.cs.toArray] [cK g r l] (cM (.bool (L8 r l q).2) [cK g (L8 r l q).1.1 (L8 r l q).1.2]):=by
 refine uV λx hf=>?_;have h2:=cK.mk (E:=E) (R:=[]) (g:=g) hf;rw[aAc] at h2;unfold L8;by_cases hq:q.key∈l.map dK.key
 ·rw[if_pos hq];refine aK.post (RQ E g x.m x.A l.length x.c r l q hq) ?_;rintro e H' ⟨rfl,rfl⟩;exact⟨_,h2,rfl,rfl⟩
 ·rw[if_neg hq];have hr:=hf.hr;by_cases h0:0<r
  ·rw[if_pos h0];refine aK.post (WA E g x.m x.A l.length x.c r l q hq ⟨h0,hr.2⟩) ?_;rintro e H' ⟨rfl,rfl⟩;have h2:=cK.mk (E:=E) (R:=[]) (g:=g) (x:=x) (r:=r - 1) (l:=l) ⟨hf.hn,hf.hc,hf.hm,by omega⟩;rw[aAc] at h2;exact⟨_,h2,rfl,rfl⟩
  ·rw[if_neg h0];refine aK.post (RC E g x.m x.A l.length x.c r l hf q hq o_ o_) ?_;rintro e H' ⟨m',A',c',rfl,k1,rfl⟩;have h3:=cK.mk (E:=E) (R:=[]) (g:=g) (x:=⟨m',A',c'⟩) (r:=r) (l:=l++[q]) (by rw[aAe];exact k1);rw[aAc,aAe] at h3;exact⟨_,h3,rfl,rfl⟩
theorem Pz(n:Int):G E 127 [pt g,.int .i64 n] [cK g r l] (cM (.tuple #[]) [cK g (dF n 0 255) l]):=by
 refine uV λx hf=>?_;refine aK.post (aK.dU (Hp:=[gt g x.m x.A l.length x.c r]) λM _=>SE M g x.m x.A l.length x.c r n) ?_;rintro e H' ⟨H1,⟨rfl,rfl⟩,rfl⟩;have h2:=cK.mk (E:=E) (R:=[]) (g:=g) (x:=x) (r:=dF n 0 255) (l:=l) ⟨hf.hn,hf.hc,hf.hm,by unfold dF;split<;>(try split)<;>omega⟩;rw[aAc] at h2;exact⟨_,h2,rfl,rfl⟩
theorem oB(hl:l.length≤1000000):G E 22 [pt g] [cK g r l] λe H'=>∃A c,(l.length≤c∧c≤maxLen)∧e=.returned (.slice A l.length c)∧H'=[own cP A l.length c l,cK g r l]:=by
 refine uV λx hf=>?_;refine aK.post (aK.dU (Hp:=[gt g x.m x.A l.length x.c r]) λM hE=>GV M g x.m x.A l.length x.c r l (Sub.own hE (.aM .aN)) o_) ?_;rintro e H' ⟨H1,⟨A',c',rfl,h1,rfl⟩,rfl⟩;have h2:=cK.mk (E:=E) (R:=[own cP A' l.length c' l]) (g:=g) hf;exact⟨_,aB.trans (aB.aV (.cons .aN (.cons (.aM .aN) (.cons (.aM .aN) (.cons .aN .nil))))) (aB.trans h2 (aB.aV (.cons (.aM .aN) (.cons .aN .nil)))),A',c',h1,rfl,rfl⟩
theorem Qz(hl:l.length≤1000000):G E 84 [pt g] [cK g r l] λe H'=>∃g2,e=.returned (pt g2)∧H'=[cK g2 r l,cK g r l]:=by
 refine uV λx hf=>?_;refine aK.post (VH E g x.m x.A l.length x.c r l hf o_) ?_;rintro e H' ⟨g',m',A',c',rfl,k1,rfl⟩;have h2:=cK.mk (E:=E) (R:=HN g x.m x.A l.length x.c r l) (g:=g') (x:=⟨m',A',c'⟩) k1;have h3:=cK.mk (E:=E) (R:=[cK g' r l]) (g:=g) hf;refine⟨[cK g' r l,cK g r l],aB.trans h2 (aB.trans (aB.aV (.cons (.aM .aN) (.cons (.aM .aN) (.cons (.aM .aN) (.cons .aN .nil))))) (aB.trans h3 (aB.aV (.cons (.aM .aN) (.cons .aN .nil))))),g',rfl,rfl⟩
end
end
section
open Go.RowKit Reg Oct
open Mem hiding Rd
def wn(w:Nat)(l:List Int):List UInt8:=(l.map λn=>be n.toNat w).flatten
theorem Sm(w:Nat)(l:List Int)(x:Int):wn w (l++[x])=wn w l++be x.toNat w:=by simp[wn]
theorem iI(w:Nat)(l:List Int):(wn w l).length=w*l.length:=by
 induction l with
 |nil=>simp[wn]
 |cons a l ih =>
  have:wn w (a::l)=be a.toNat w++wn w l:=rfl;rw[this,aAe,aP,ih,aAs,Nat.mul_add];omega
abbrev Mi(g:Nat)(A:Option Addr)(n c:Nat)(l:List UInt8):List aL:=[aJ g 330 [.slice A n c],own aU A n c l]
def WP(g n':Nat)(l:List UInt8)(e:Ending)(H':List aL):Prop:=e=.returned (.tuple #[])∧∃A' c',H'=[aJ g 330 [.slice A' n' c'],own aU A' n' c' l]
section
variable (E:Env) (g:Nat) (A:Option Addr) (n c:Nat) (l:List UInt8)
theorem Fo(w n':Nat)(W:Int)(hW:W=w)(hw:1≤w∧w≤8)(B:Option Addr)(k d:Nat)(ns:List Int)(hr:Rd E Au B k d ns)(hns:∀x∈ns,0≤x∧x≤65535)(hk:k≤100)(hnl:n=l.length)(hn:n≤100000)(hn':n+w*k=n') :
  aK prog E 236 #[.pointer (some ⟨g,0,none⟩),.int .i64 W,.slice B k d] (Mi g A n c l) (WP g n' (l++wn w ns)):=by
 subst hn';have hcap:=hr.cap;have hlen:=hr.len;have hmax:=fX;unfold Mi;refine t_ func236 ntmps236 ?_;repeat first|refine aE ?_|intro
 refine C.loop (X:=Nat×Option Addr×Nat) (λx=>[(0,.pointer (some ⟨g,0,none⟩)),(1,.int .i64 W),(8,.slice B k d),(9,.int .i64 k),(10,.int .i64 x.1)]) (λx=>[aJ g 330 [.slice x.2.1 (n+w*x.1) x.2.2],own aU x.2.1 (n+w*x.1) x.2.2 (l++wn w (ns.take x.1))]) (λx=>x.1≤k) (λx=>k - x.1) (0,A,c) aD (by simp[wn];exact aB.refl) (aAh _) ?_;rintro⟨i,A',c'⟩ G hi;dsimp only at hi⊢;by_cases hlt:i<k
 ·have hli:i<ns.length:=o_;have hx:ns[i]?=some ns[i]:=aAa hli;have hst:ns.take (i+1)=ns.take i++[ns[i]]:=aAn hli;have hb:=hns _ (aCs hli);generalize ns[i]=x at hx hst hb;have hz:(l++wn w (ns.take i))++be x.toNat w=l++wn w (ns.take (i+1)):=by rw[hst,Sm,aAb]
  have hl2:n+w*i=(l++wn w (ns.take i)).length:=by rw[aAe,iI,aAg];congr 2;omega
  have hwi:w*i≤800:=aBw (Nat.mul_le_mul hw.2 (show i≤100 by omega)) sD;have hnn:n+w*i+w=n+w*(i+1):=by rw[Nat.mul_add,Nat.mul_one];omega
  have hwr:=eZ hb.1 o_;have hxl:x.toNat<18446744073709551616:=o_;have hle:n+w*i≤140737488355300:=o_;generalize n+w*i=q at *;repeat first|refine aE ?_|intro
  refine dX (λM h1=>kY M A' q c' (n+w*(i+1)) w (l++wn w (ns.take i)) x.toNat W hW hnn hw h1 hxl hle) ?_;rintro e H' ⟨A1,c1,rfl,hc1,rfl⟩;refine gk bG ?_;rw[hz];repeat first|refine aE ?_|intro
  exact⟨(i+1,A1,c1),aD,aA,by dsimp only;omega,by dsimp only;omega⟩
 ·obtain rfl:i=k:=o_;have hall:ns.take i=ns:=aAj o_;rw[hall];repeat first|refine aE ?_|intro
  exact gO rfl aA (⟨rfl,_,_,rfl⟩)
theorem Tx(n':Nat)(a:bJ)(ha:a.may=true)(hnl:n=l.length)(hn:n≤90000)(hn':n+3=n'):aK prog E 237 #[.pointer (some ⟨g,0,none⟩),.agg a.cs.toArray] (Mi g A n c l) (WP g n' (l++gM a)):=by
 subst hn';obtain⟨r0,r1,s0,s1⟩:=(bJ.bY a).1 ha;have o1:1≤1∧1≤8:=o_;have o2:1≤2∧2≤8:=o_;have b1:∀x∈[a.rep],0≤x∧x≤65535:=λx hx=>by simp at hx;omega
 have b2:∀x∈[a.seq],0≤x∧x≤65535:=λx hx=>by simp at hx;omega
 have hl1:n+1=(l++wn 1 [a.rep]).length:=by rw[aAe,iI,hnl];rfl
 have hfin:(l++wn 1 [a.rep])++wn 2 [a.seq]=l++gM a:=by simp[wn,gM,fI]
 have l1:1≤100:=o_;have l2:n≤100000:=o_;have l3:n+1≤100000:=o_;have l4:n+1*1=n+1:=o_;have l5:n+1+2*1=n+3:=o_;unfold Mi;refine t_ func237 ntmps237 ?_;repeat first|refine aE ?_|intro
 refine cl sD sK aC (λM hE=>Fo M g A n c l 1 (n+1) 1 rfl o1 _ 1 1 [a.rep] dB b1 l1 hnl l2 l4) ?_;rintro e H' ⟨rfl,A1,c1,rfl⟩;repeat first|refine aE ?_|intro
 refine cl sD sK aC (λM hE=>Fo M g A1 (n+1) c1 (l++wn 1 [a.rep]) 2 (n+3) 2 rfl o2 _ 1 1 [a.seq] dB b2 l1 hl1 l3 l5) ?_;rintro e H' ⟨rfl,A2,c2,rfl⟩;refine gk bG ?_;rw[hfin];repeat first|refine aE ?_|intro
 exact gO rfl aA (⟨rfl,_,_,rfl⟩)
theorem ON(n':Nat)(k:bP)(hk:k.may=true)(hnl:n=l.length)(hn:n≤80000)(hn':n+5=n'):aK prog E 238 #[.pointer (some ⟨g,0,none⟩),.agg k.cs.toArray] (Mi g A n c l) (WP g n' (l++fI kW (kK k))):=by
 subst hn';obtain⟨hi,o0,o1⟩:=(bP.bY k).1 hk;have hid:k.id.may=true:=(bJ.bY _).2 hi;have w1:1≤1∧1≤8:=o_;have b0:∀x∈[k.ord,0],0≤x∧x≤65535:=λx hx=>by simp at hx;omega
 have b1:∀x∈[k.ord,1],0≤x∧x≤65535:=λx hx=>by simp at hx;omega
 have hl1:n+3=(l++gM k.id).length:=by rw[aAe,xF,hnl]
 have l1:2≤100:=o_;have l2:n≤90000:=o_;have l3:n+3≤100000:=o_;have l5:n+3+1*2=n+5:=o_;unfold Mi;refine t_ func238 ntmps238 ?_;repeat first|refine aE ?_|intro
 refine bW (λM=>Tx M g A n c l (n+3) k.id hid hnl l2 rfl) ?_;rintro e H' ⟨rfl,A1,c1,rfl⟩;refine gk bG ?_;cases hu:k.cD
 ·have hfin:(l++gM k.id)++wn 1 [k.ord,0]=l++fI kW (kK k):=by simp[wn,gM,fI,kK,jS,hu]
  repeat first|refine aE ?_|intro
  refine cl sD sK aC (λM hE=>Fo M g A1 (n+3) c1 (l++gM k.id) 1 (n+5) 1 rfl w1 _ 2 2 [k.ord,0] dB b0 l1 hl1 l3 l5) ?_;rintro e H' ⟨rfl,A2,c2,rfl⟩;refine gk bG ?_;rw[hfin];repeat first|refine aE ?_|intro
  exact gO rfl aA (⟨rfl,_,_,rfl⟩)
 ·have hfin:(l++gM k.id)++wn 1 [k.ord,1]=l++fI kW (kK k):=by simp[wn,gM,fI,kK,jS,hu]
  repeat first|refine aE ?_|intro
  refine cl sD sK aC (λM hE=>Fo M g A1 (n+3) c1 (l++gM k.id) 1 (n+5) 1 rfl w1 _ 2 2 [k.ord,1] dB b1 l1 hl1 l3 l5) ?_;rintro e H' ⟨rfl,A2,c2,rfl⟩;refine gk bG ?_;rw[hfin];repeat first|refine aE ?_|intro
  exact gO rfl aA (⟨rfl,_,_,rfl⟩)
end
theorem Mg.ends{m:Mg}(h:m.check=0):0≤m.fr∧m.fr≤9∧0≤m.to∧m.to≤9:=by
 obtain⟨_,hp,_,_⟩:=Mg.bR h;unfold Mg.nT at hp;split at hp
 ·simp[wV] at hp;omega
 ·split at hp
  ·simp[wV] at hp;omega
  ·simp[wV] at hp;omega
theorem Mg.XG{m:Mg}(h:m.check=0)(h1:m.kind=1):(∀x∈m.ks,0≤x∧x≤65535)∧0≤m.base∧m.base≤48:=by
 obtain⟨_,_,hf,_⟩:=Mg.bR h;unfold Mg.cV at hf;rw[if_pos h1] at hf;simp[sq,bs] at hf;refine⟨λx hx=>?_,by omega⟩;simp at hx;omega
theorem Mg.Tr{m:Mg}(h:m.check=0)(h1:m.kind=2):m.ids.length≤16∧m.ids.all bJ.may=true∧m.iS.length≤8∧m.iS.all aX.may=true∧0≤m.base∧m.base≤48:=by
 obtain⟨_,_,hf,_⟩:=Mg.bR h;unfold Mg.cV at hf;rw[if_neg o_,if_pos h1] at hf;simp only[aAv,decide_eq_true_eq,bs] at hf;exact⟨hf.1.1.1,hf.1.1.2,hf.1.2.1,hf.1.2.2,hf.2⟩
theorem Mg.YR{m:Mg}(h:m.check=0)(h1:m.kind=3):m.key.may=true∧m.bC.check=0:=by
 obtain⟨_,_,hf,_⟩:=Mg.bR h;unfold Mg.cV at hf;rw[if_neg o_,if_neg o_,if_pos h1] at hf;simpa using hf
theorem Mg.W7{m:Mg}(h:m.check=0)(h1:m.kind=4):m.key.may=true:=by
 obtain⟨_,_,hf,_⟩:=Mg.bR h;unfold Mg.cV at hf
 rwa [if_neg o_,if_neg o_,if_neg o_] at hf
theorem Mg.Ta{m:Mg}(h1:m.kind=1):(([]++wn 1 [m.kind,m.fr,m.to])++wn 2 m.ks)++wn 1 [m.base]=m.body:=by
 unfold Mg.body;rw[if_pos h1];simp[wn,fI]
theorem Mg.Tq{m:Mg}(h1:m.kind=2):(((([]++wn 1 [m.kind,m.fr,m.to])++wn 1 [m.base,(m.ids.length:Int)])++kH m.ids)++dP m.iS)=m.body:=by
 unfold Mg.body;rw[if_neg o_,if_pos h1];simp[wn,fI]
theorem Mg.T1{m:Mg}(h1:m.kind=3):((([]++wn 1 [m.kind,m.fr,m.to])++fI kW (kK m.key))++m.bC.put)=m.body:=by
 unfold Mg.body;rw[if_neg o_,if_neg o_,if_pos h1];simp[wn,fI]
theorem Mg.T8{m:Mg}(h1:m.kind=4):(([]++wn 1 [m.kind,m.fr,m.to])++fI kW (kK m.key))=m.body:=by
 unfold Mg.body;rw[if_neg o_,if_neg o_,if_neg o_];simp[wn,fI]
theorem pR(k:bP):(fI kW (kK k)).length=5:=by simp[fI,kK,aP]
theorem Mg.Gz{m:Mg}(h:m.check=0):1≤m.body.length∧m.body.length≤300:=by
 obtain⟨hk,_,_,_⟩:=Mg.bR h;rcases(show m.kind=1∨m.kind=2∨m.kind=3∨m.kind=4 by omega) with h1|h1|h1|h1
 ·rw[←Mg.Ta h1];simp[iI]
 ·obtain⟨h16,_,h8,_⟩:=Mg.Tr h h1;rw[←Mg.Tq h1];simp[iI,jC,lZ];omega
 ·rw[←Mg.T1 h1];simp[iI,pR,cQ.bD]
 ·rw[←Mg.T8 h1];simp[iI,pR]
section
variable (E:Env) (m:Mg) (A:Option Addr) (n c:Nat) (B:Option Addr) (k d:Nat)
theorem Ks(hI:Rd E fN A n c m.ids)(hC:Rd E bE B k d m.iS)(h:m.check≠0):aK prog E 178 #[.agg (oK m A n c B k d).toArray] [] λe H'=>e=.returned (.tuple #[.slice none 0 0,.int .i64 m.check])∧H'=[]:=by
 refine t_ func178 ntmps178 ?_;repeat first|refine aE ?_|intro
 refine C1 (λM=>Cr M m A n c B k d) ?_;generalize m.check=ck at *;rintro e H' ⟨rfl,rfl⟩;repeat first|refine aE ?_|intro
 exact Xs
def YP(m:Mg)(e:Ending)(H':List aL):Prop:=∃A' c',e=.returned (.tuple #[.slice A' (m.body.length+7) c',.int .i64 0])∧H'=[own aU A' (m.body.length+7) c' m.enc]
theorem KQ(hI:Rd E fN A n c m.ids)(hC:Rd E bE B k d m.iS)(h:m.check=0):aK prog E 178 #[.agg (oK m A n c B k d).toArray] [] (YP m):=by
 have hn:=hI.len;have hk:=hC.len;have hnc:=hI.cap;have hkc:=hC.cap;have hmax:=fX;have hk4:=(Mg.bR h).1;have hb0:=Mg.Gz h;have hef:=Mg.ends h;have h4m:4≤maxLen:=sD;have hkn:=Ao m A n c B k d;have o1:1≤1∧1≤8:=o_;have o2:1≤2∧2≤8:=o_;have b3:∀x∈[m.kind,m.fr,m.to],0≤x∧x≤65535:=λx hx=>by simp at hx;omega
 have z0:0=([]:List UInt8).length:=rfl;have z1:3≤100:=o_;have z2:0≤100000:=o_;have z3:0+1*3=3:=o_;have hl3:3=([]++wn 1 [m.kind,m.fr,m.to]).length:=by rw[aAe,iI];rfl
 have z4:3≤100000:=o_;have z5:3≤80000:=o_;unfold YP Mg.enc;refine t_ func178 ntmps178 ?_;repeat first|refine aE ?_|intro
 refine C1 (λM=>Cr M m A n c B k d) ?_;rw[h];rintro e H' ⟨rfl,rfl⟩;repeat first|refine aE ?_|intro
 rename_i gb gw gs;refine L.conv (aB.oR aU none) ?_;refine cl sD sK aC (λM hE=>Fo M gw none 0 0 [] 1 3 1 rfl o1 _ 3 3 [m.kind,m.fr,m.to] dB b3 z1 z0 z2 z3) ?_;rintro e H' ⟨rfl,A1,c1,rfl⟩;refine gk bG ?_;generalize hhd:[]++wn 1 [m.kind,m.fr,m.to]=hd at *;rcases(show m.kind=1∨m.kind=2∨m.kind=3∨m.kind=4 by omega) with h1|h1|h1|h1
 ·obtain⟨f1,f2,f3⟩:=Mg.XG h h1;have hbd:=Mg.Ta h1;rw[hhd] at hbd;have yq0:3=hd.length:=hl3;have yq1:4≤100:=o_;have yq2:3+2*4=11:=o_;have yq3:11=(hd++wn 2 m.ks).length:=by rw[aAe,iI,←hl3];rfl
  have yq4:1≤100:=o_;have yq5:11≤100000:=o_;have yq6:11+1*1=12:=o_;have yq7:∀x∈[m.base],0≤x∧x≤65535:=λx hx=>by simp at hx;omega
  have yq8:12=((hd++wn 2 m.ks)++wn 1 [m.base]).length:=by rw[aAe,iI,←yq3];rfl
  have yq9:1≤12:=o_;have yq10:12≤4096:=o_;repeat first|refine aE ?_|intro
  refine cl sD sK aC (λM hE=>Fo M gw A1 3 c1 hd 2 11 2 rfl o2 (some ⟨gb,3,none⟩) 4 4 m.ks (hE.arr aS rfl h4m hkn) f1 yq1 yq0 z4 yq2) ?_;rintro e H' ⟨rfl,A2,c2,rfl⟩;repeat first|refine aE ?_|intro
  refine cl sD sK aC (λM hE=>Fo M gw A2 11 c2 (hd++wn 2 m.ks) 1 12 1 rfl o1 _ 1 1 [m.base] dB yq7 yq4 yq3 yq5 yq6) ?_;rintro e H' ⟨rfl,A3,c3,rfl⟩;refine gk bG ?_;rw[hbd] at yq8⊢;rw[←yq8];repeat first|refine aE ?_|intro
  refine dX (λM h1=>uR M A3 12 c3 m.body h1 yq9 yq10) ?_;rintro e H' ⟨A4,c4,rfl,rfl⟩;repeat first|refine aE ?_|intro
  exact Cz ⟨_,_,rfl,rfl⟩
 ·obtain⟨f1,f2,f3,f4,f5,f6⟩:=Mg.Tr h h1;have hbd:=Mg.Tq h1;rw[hhd,←hn] at hbd;have xq0:3=hd.length:=hl3;have xq1:2≤100:=o_;have xq2:3+1*2=5:=o_;have xq3:∀x∈[m.base,(n:Int)],0≤x∧x≤65535:=λx hx=>by simp at hx;omega
  have xq4:5=(hd++wn 1 [m.base,(n:Int)]).length:=by rw[aAe,iI,←hl3];rfl
  have xq5:k≤48:=o_;have xq6:m.body.length=5+3*n+(1+22*k):=by rw[←hbd];simp only[aAe,←xq4,jC,lZ];omega
  repeat first|refine aE ?_|intro
  refine cl sD sK aC (λM hE=>Fo M gw A1 3 c1 hd 1 5 1 rfl o1 _ 2 2 [m.base,(n:Int)] dB xq3 xq1 xq0 z4 xq2) ?_;rintro e H' ⟨rfl,A2,c2,rfl⟩;refine gk bG ?_;generalize hd++wn 1 [m.base,(n:Int)]=h2 at *;repeat first|refine aE ?_|intro
  refine C.loop (X:=Nat×Option Addr×Nat) (λx=>[(1,.pointer (some ⟨gb,0,none⟩)),(5,.pointer (some ⟨gw,0,none⟩)),(29,.int .i64 m.kind),(52,.slice A n c),(53,.int .i64 n),(54,.int .i64 x.1)]) (λx=>[aJ gw 330 [.slice x.2.1 (5+3*x.1) x.2.2],own aU x.2.1 (5+3*x.1) x.2.2 (h2++kH (m.ids.take x.1)),aJ gb 195 (oK m A n c B k d)]) (λx=>x.1≤n) (λx=>n - x.1) (0,A2,c2) aD (by simp[kH];exact aA) (aAh _) ?_;rintro⟨i,A3,c3⟩ G hi;dsimp only at hi⊢;by_cases hlt:i<n
  ·have hli:i<m.ids.length:=o_;have hx:m.ids[i]?=some m.ids[i]:=aAa hli;have hst:m.ids.take (i+1)=m.ids.take i++[m.ids[i]]:=aAn hli;have hmy:m.ids[i].may=true:=by rw[aDm] at f2;exact f2 _ (aCs hli)
   generalize m.ids[i]=x at hx hst hmy;have hz:(h2++kH (m.ids.take i))++gM x=h2++kH (m.ids.take (i+1)):=by rw[hst,DR,aAb]
   have hl2:5+3*i=(h2++kH (m.ids.take i)).length:=by rw[aAe,jC,aAg,←xq4];omega
   have hle:5+3*i≤90000:=o_;have hnn:5+3*i+3=5+3*(i+1):=o_;repeat first|refine aE ?_|intro
   refine bW (λM=>Tx M gw A3 (5+3*i) c3 (h2++kH (m.ids.take i)) (5+3*(i+1)) x hmy hl2 hle hnn) ?_;rintro e H' ⟨rfl,A4,c4,rfl⟩;refine gk bG ?_;rw[hz];repeat first|refine aE ?_|intro
   exact⟨(i+1,A4,c4),aD,aA,by dsimp only;omega,by dsimp only;omega⟩
  obtain rfl:i=n:=o_;have hall:m.ids.take i=m.ids:=aAj o_;rw[hall];repeat first|refine aE ?_|intro
  refine dX (λM h1=>F6 M B k d m.iS h1 xq5) ?_;unfold xI;rw[f4];rintro e H' ⟨A4,c4,rfl,rfl⟩;refine gk bG ?_;rw[←hk];repeat first|refine aE ?_|intro
  rw[hbd];have xq7:1≤5+3*i+(1+22*k):=o_;have xq8:5+3*i+(1+22*k)≤4096:=o_;rw[xq6];rename_i A5 c5 _ _;refine dX (λM h1=>uR M A5 (5+3*i+(1+22*k)) c5 m.body h1 xq7 xq8) ?_;rintro e H' ⟨A6,c6,rfl,rfl⟩;repeat first|refine aE ?_|intro
  exact Cz ⟨_,_,rfl,rfl⟩
 ·obtain⟨f1,f2⟩:=Mg.YR h h1;have hbd:=Mg.T1 h1;rw[hhd] at hbd;have xq0:3=hd.length:=hl3;have xq6:m.body.length=8+13:=by rw[←hbd];simp only[aAe,←xq0,pR,cQ.bD]
  repeat first|refine aE ?_|intro
  refine bW (λM=>ON M gw A1 3 c1 hd 8 m.key f1 xq0 z5 rfl) ?_;rintro e H' ⟨rfl,A2,c2,rfl⟩;repeat first|refine aE ?_|intro
  refine bW (λM=>XL M m.bC f2) ?_;rintro e H' ⟨A4,c4,rfl,rfl⟩;repeat first|refine aE ?_|intro
  rw[hbd];have xq7:1≤8+13:=o_;have xq8:8+13≤4096:=o_;rw[xq6];rename_i A5 c5 _ _;refine dX (λM h1=>uR M A5 (8+13) c5 m.body h1 xq7 xq8) ?_;rintro e H' ⟨A6,c6,rfl,rfl⟩;repeat first|refine aE ?_|intro
  exact Cz ⟨_,_,rfl,rfl⟩
 ·have f1:=Mg.W7 h h1;have hbd:=Mg.T8 h1;rw[hhd] at hbd;have xq0:3=hd.length:=hl3;have xq6:m.body.length=8:=by rw[←hbd];simp only[aAe,←xq0,pR]
  repeat first|refine aE ?_|intro
  refine bW (λM=>ON M gw A1 3 c1 hd 8 m.key f1 xq0 z5 rfl) ?_;rintro e H' ⟨rfl,A2,c2,rfl⟩;refine gk bG ?_;rw[hbd];repeat first|refine aE ?_|intro
  have xq7:1≤8:=o_;have xq8:8≤4096:=o_;rw[xq6];refine dX (λM h1=>uR M A2 8 c2 m.body h1 xq7 xq8) ?_;rintro e H' ⟨A6,c6,rfl,rfl⟩;repeat first|refine aE ?_|intro
  exact Cz ⟨_,_,rfl,rfl⟩
end
def MT(g:Nat)(A:Option Addr)(n c:Nat)(l:List UInt8)(s:Rs)(v:Value)(e:Ending)(H':List aL):Prop:=∃A' n' c',e=.returned v∧nS A n c l A' n' c' s.2∧H'=[pC g true s.1 A' n' c']
abbrev rv(g:Nat):Value:=.agg #[.pointer (some ⟨g,0,none⟩)]
section
variable (E:Env) (g:Nat) (A:Option Addr) (n c:Nat)
theorem kO(s s':Rs)(w:Nat)(v:Int)(hs:jV s w=s')(hv:((vl s w:Nat):Int)=v)(W:Int)(hW:W=w)(hw:w=1∨w=2)(hr:Rd E aU A n c s.2) :
  aK prog E 186 #[rv g,.int .i64 W] [pC g true s.1 A n c] (MT g A n c s.2 s' (.int .i64 v)):=by
 subst hs hv;have hwid:wid W=(w:Int):=by unfold wid;rw[if_neg o_];exact hW
 have hlt:=jR s w;have hlt3:256 ^ w≤65536:=by rcases hw with rfl|rfl<;>decide
 have hlt2:vl s w<18446744073709551616:=o_;have hc:IntKind.i64.wrap ((vl s w:Nat):Int)=((vl s w:Nat):Int):=(qZ hlt2).trans (cN o_);refine t_ func186 ntmps186 ?_;repeat first|refine aE ?_|intro
 refine dX (λM=>iG M g s.1 A n c s.2 W) ?_;obtain⟨o,ho⟩:∃o,nx s.1 s.2 (w:Int)=(o,jV s w):=⟨_,rfl⟩
 have htk:=Gl s w;rw[ho] at htk;rw[hwid,ho];rintro e H' ⟨A',n',c',rfl,hal,rfl⟩;dsimp only at htk hal⊢;rw[htk];repeat first|refine aE ?_|intro
 exact jQ ⟨_,_,_,rfl,hal,rfl⟩
theorem BI(s:Rs)(hr:Rd E aU A n c s.2):aK prog E 246 #[rv g] [pC g true s.1 A n c] (MT g A n c s.2 (Ar s) (.agg (CG s).cs.toArray)):=by
 refine t_ func246 ntmps246 ?_;repeat first|refine aE ?_|intro
 rename_i gb gr;refine rB (l_ [0,2] (g_ 1 (g_ 3 (n_ 4 (g_ 5 .nil))))) ([aJ gb 279 [.pointer (some ⟨g,0,none⟩)]]) ?_;repeat first|refine aE ?_|intro
 refine cg rfl sD bA sK aC (λM hE=>kO M g A n c s (jV s 1) 1 _ rfl rfl 1 rfl (.inl rfl) dB) ?_;rintro e H' ⟨A1,n1,c1,rfl,hal1,rfl⟩;repeat first|refine aE ?_|intro
 refine cg rfl sD bA sK aC (λM hE=>kO M g A1 n1 c1 (jV s 1) (Ar s) 2 _ rfl rfl 2 rfl (.inr rfl) (hal1 _ dB)) ?_;rintro e H' ⟨A2,n2,c2,rfl,hal2,rfl⟩;repeat first|refine aE ?_|intro
 apply cI;(· exact rfl);(· exact aF);(· exact rfl);(· exact rfl);(· exact rfl);(· exact aS);(· exact rfl);rotate_left;(· exact(⟨_,_,_,rfl,hal1.trans hal2,rfl⟩));(· exact aA)
theorem Wp(s:Rs)(hr:Rd E aU A n c s.2):aK prog E 249 #[rv g] [pC g true s.1 A n c] (MT g A n c s.2 (An s) (.agg (xP s).cs.toArray)):=by
 refine t_ func249 ntmps249 ?_;repeat first|refine aE ?_|intro
 rename_i gb gr;refine rB (l_ [0,2,4] (g_ 1 (g_ 3 (g_ 5 (l_ [6,7] (g_ 8 .nil)))))) ([aJ gb 279 [.pointer (some ⟨g,0,none⟩)]]) ?_;repeat first|refine aE ?_|intro
 refine C2 (λM=>BI M g A n c s) ?_;rintro e H' ⟨A1,n1,c1,rfl,hal1,rfl⟩;repeat first|refine aE ?_|intro
 refine cg rfl sD bA sK aC (λM hE=>kO M g A1 n1 c1 (Ar s) (jV (Ar s) 1) 1 _ rfl rfl 1 rfl (.inl rfl) (hal1 _ dB)) ?_;rintro e H' ⟨A2,n2,c2,rfl,hal2,rfl⟩;repeat first|refine aE ?_|intro
 refine cg rfl sD bA sK aC (λM hE=>kO M g A2 n2 c2 (jV (Ar s) 1) (An s) 1 _ rfl rfl 1 rfl (.inl rfl) (hal2 _ (hal1 _ dB))) ?_;rintro e H' ⟨A3,n3,c3,rfl,hal3,rfl⟩;repeat first|refine aE ?_|intro
 apply cI;(· exact rfl);(· exact aF);(· exact rfl);(· exact rfl);(· exact rfl);(· exact aS);(· exact rfl);rotate_left;(· exact(⟨_,_,_,rfl,(hal1.trans hal2).trans hal3,rfl⟩));(· exact aA)
end
theorem aK.NV{P:Program}{E:Env}{f:FuncId}{args:Array Value}{H:List aL}{Q Q':Ending→List aL→Prop}(h:aK P E f args H Q)(hq:∀e H',Q e H'→∃H'',Q' e H''∧aB E H' H''):aK P E f args H Q':=by
 exact λhds w hw=>(h hds w hw).mono λ_ _ ⟨H',h1,h2⟩=>(hq _ _ h2).elim λH'' h3=>⟨H'',h3.2 _ h1,h3.1⟩
theorem pM{P:Program}{E:Env}{fn:Func}{R:Ending→List aL→Prop}{F:Nat→Value}{H H1:List aL}{e:Ex}(hc:aB E H H1)(h:gF P E fn R e F H1)(hp:∀c,e≠.panic c:=by intro c h;cases h):gF P E fn R e F H:=by
 cases e with
 |panic c=>exact absurd rfl (hp c)
 |normal=>obtain⟨v,H',h1,h2,h3⟩:=h;exact⟨v,H',λw hw=>h1 w (hc w hw),hc.trans h2,h3⟩
 |ret=>obtain⟨v,H',h1,h2,h3⟩:=h;exact⟨v,H',λw hw=>h1 w (hc w hw),hc.trans h2,h3⟩
 |exit id=>exact h
theorem kZ(s:Rs)(w:Nat):(jV s w).2.length≤s.2.length:=by
 unfold jV nx;split
 ·exact aAf _
 ·split
  ·exact aAf _
  ·simp
theorem EJ(s:Rs)(i:Nat):(lC s i).2.length≤s.2.length:=by
 induction i with
 |zero=>exact aAf _
 |succ i ih=>exact aBw (aBw (kZ _ _) (kZ _ _)) ih
def M6(s:Rs):Nat→Int×Int×Int×Int
 |0=>(0,0,0,0)
 |1=>(vA s 0,0,0,0)
 |2=>(vA s 0,vA s 1,0,0)
 |3=>(vA s 0,vA s 1,vA s 2,0)
 |_=>(vA s 0,vA s 1,vA s 2,vA s 3)
section
variable (E:Env) (A:Option Addr) (n c:Nat)
theorem Wi(l:List UInt8)(hr:Rd E aU A n c l)(hl:n≤140737488355300):aK prog E 248 #[.slice A n c] [] λe H'=>∃O co ek,e=.returned (.tuple #[.slice O (MP l).length co,.int .i64 ek])∧H'=[own bE O (MP l).length co (MP l)]:=by
 by_cases h:∃x t,l=x::t∧x.toNat≤48∧t.length=22*x.toNat
 ·obtain⟨x,t,rfl,h1,h2⟩:=h;refine aK.NV (N6 E A n c x t hr h1 h2) ?_;have hl:MP (x::t)=(pieces x.toNat t).getD []:=if_pos ⟨h1,h2⟩;rw[hl];cases pieces x.toNat t with
  |none =>
   rintro e H' ⟨rfl,rfl⟩;exact⟨_,⟨none,0,16,rfl,rfl⟩,aB.nil bE⟩
  |some xs =>
   rintro e H' ⟨O,co,rfl,rfl⟩;exact⟨_,⟨O,co,0,rfl,rfl⟩,aB.refl⟩
 ·refine aK.NV (NC E A n c l hr hl λx t he hq=>h ⟨x,t,he,hq⟩) ?_;have hl:MP l=[]:=by
   unfold MP;split
   ·rfl
   ·exact if_neg λhq=>h ⟨_,_,rfl,hq⟩
  rw[hl];rintro e H' ⟨rfl,rfl⟩;exact⟨_,⟨none,0,16,rfl,rfl⟩,aB.nil bE⟩
theorem P1(hr:Rd E aU A n c []):aK prog E 250 #[.slice A n c] [] λe H'=>e=.returned (.tuple #[.agg rZ.cs.toArray,.int .i64 16])∧H'=[]:=by
 have hn:=hr.len;have hcap:=hr.cap;have o1:1≤1∧1≤8:=o_;have o2:1≤2∧2≤8:=o_;have o8:1≤8∧8≤8:=o_;have hst:st fK [] 5=(true,[]):=rfl;have v0:va fK [] 0=0:=rfl;have v1:va fK [] 1=0:=rfl;have v2:va fK [] 2=0:=rfl;have v3:va fK [] 3=0:=rfl;have v4:va fK [] 4=0:=rfl;refine t_ func250 ntmps250 ?_;repeat first|refine aE ?_|intro
 refine dX (λM h1=>lD M A n c [] h1 (by simp at hn;omega)) ?_;rintro e H' ⟨g,A0,c0,rfl,h5,h6,rfl⟩;refine gk bG ?_;unfold Bs;repeat first|refine aE ?_|intro
 rename_i gres gr;refine L.step sD (S.cW rfl eS rfl rfl func297 q_ rfl aC (λM hE=>iK M gr g (false,[]) (st fK [] 1) 1 0 rfl v0 A0 n c0 1 rfl o1 dB) ?_);rintro e H' ⟨A1,n1,c1,rfl,hal1,rfl⟩;repeat first|refine aE ?_|intro
 refine L.step sD (S.cW rfl eS rfl rfl func297 q_ rfl aC (λM hE=>iK M gr g (st fK [] 1) (st fK [] 2) 1 0 rfl v1 A1 n1 c1 1 rfl o1 (hal1 _ dB)) ?_);rintro e H' ⟨A2,n2,c2,rfl,hal2,rfl⟩;repeat first|refine aE ?_|intro
 refine L.step sD (S.cW rfl eS rfl rfl func297 q_ rfl aC (λM hE=>iK M gr g (st fK [] 2) (st fK [] 3) 8 0 rfl v2 A2 n2 c2 8 rfl o8 (hal2 _ (hal1 _ dB))) ?_);rintro e H' ⟨A3,n3,c3,rfl,hal3,rfl⟩;repeat first|refine aE ?_|intro
 refine L.step sD (S.cW rfl eS rfl rfl func297 q_ rfl aC (λM hE=>iK M gr g (st fK [] 3) (st fK [] 4) 1 0 rfl v3 A3 n3 c3 1 rfl o1 (hal3 _ (hal2 _ (hal1 _ dB)))) ?_);rintro e H' ⟨A4,n4,c4,rfl,hal4,rfl⟩;repeat first|refine aE ?_|intro
 refine L.step sD (S.cW rfl eS rfl rfl func297 q_ rfl aC (λM hE=>iK M gr g (st fK [] 4) (st fK [] 5) 2 0 rfl v4 A4 n4 c4 2 rfl o2 (hal4 _ (hal3 _ (hal2 _ (hal1 _ dB))))) ?_);rintro e H' ⟨A5,n5,c5,rfl,hal5,rfl⟩;repeat first|refine aE ?_|intro
 rw[hst] at hal5⊢;dsimp only at hal5⊢;refine cl sD sK aC (λM hE=>xV M g true A5 n5 c5 [] (hal5 _ (hal4 _ (hal3 _ (hal2 _ (hal1 _ dB)))))) ?_;rintro e H' ⟨rfl,rfl⟩;repeat first|refine aE ?_|intro
 exact Qv
theorem Wa(o:Option (List UInt8))(ho:∀y,o=some y→y.length=13)(hr:Rd E aU A n c (o.getD [])):aK prog E 250 #[.slice A n c] [] λe H'=>∃ek,e=.returned (.tuple #[.agg ((o.bind eY).getD rZ).cs.toArray,.int .i64 ek])∧H'=[]:=by
 cases o with
 |none =>
  refine aK.mono (P1 E A n c hr) ?_;rintro e H' ⟨rfl,rfl⟩;exact⟨16,rfl,rfl⟩
 |some y =>
  have hl:=hr.len;refine aK.mono (HO E A n c y _ rfl hr (hl.trans (ho y rfl))) ?_;rintro e H' ⟨rfl,rfl⟩;exact⟨_,rfl,rfl⟩
end
abbrev kz:bP:=⟨⟨0,0⟩,0,false⟩
abbrev ez:cQ:=⟨0,0,0,⟨0,0⟩⟩
abbrev QY(kd fr to:Int):Mg:=⟨kd,fr,to,0,0,0,0,0,[],[],kz,ez⟩
section
variable (E:Env) (g gm:Nat) (A:Option Addr) (n c:Nat) (s:Rs) (fr to:Int)
def MB(g gm:Nat)(m:Mg)(e:Ending)(H':List aL):Prop:=∃O p q B k d s' A' n' c',e=.returned (.tuple #[])∧H'=[aJ gm 195 (oK m O p q B k d),own fN O p q m.ids,own bE B k d m.iS,pC g true s' A' n' c']
theorem y8(hr:Rd E aU A n c s.2):aK prog E 187 #[rv g,.pointer (some ⟨gm,0,none⟩)] [aJ gm 195 (oK (QY 1 fr to) none 0 0 none 0 0),pC g true s.1 A n c] (MB g gm ⟨1,fr,to,vA s 0,vA s 1,vA s 2,vA s 3,(vl (FO s 4) 1:Nat),[],[],kz,ez⟩):=by
 refine t_ func187 ntmps187 ?_;repeat first|refine aE ?_|intro
 rename_i gb;refine C.loop (X:=Nat×(Int×Int×Int×Int)×Option Addr×Nat×Nat) (λx=>[(1,.pointer (some ⟨gm,0,none⟩)),(2,.pointer (some ⟨gb,0,none⟩)),(12,.int .i64 1),(15,.int .i64 x.1)]) (λx=>[aJ gb 279 [.pointer (some ⟨g,0,none⟩)],aJ gm 195 (oK ⟨1,fr,to,x.2.1.1,x.2.1.2.1,x.2.1.2.2.1,x.2.1.2.2.2,0,[],[],kz,ez⟩ none 0 0 none 0 0),pC g true (FO s x.1).1 x.2.2.1 x.2.2.2.1 x.2.2.2.2]) (λx=>x.1≤4∧x.2.1=M6 s x.1∧nS A n c s.2 x.2.2.1 x.2.2.2.1 x.2.2.2.2 (FO s x.1).2) (λx=>4 - x.1) (0,(0,0,0,0),A,n,c) aD aA ⟨aAh _,rfl,nS.refl⟩ ?_;rintro⟨i,t,A1,n1,c1⟩ G ⟨hi,ht,hal⟩;dsimp only at hi ht hal⊢;subst ht;rcases(show i=0∨i=1∨i=2∨i=3∨i=4 by omega) with rfl|rfl|rfl|rfl|rfl
 ·dsimp only[M6];repeat first|refine aE ?_|intro
  refine rB (l_ [0,1,2,4,5] (g_ 3 (n_ 6 (g_ 7 .nil)))) ([aJ gb 279 [.pointer (some ⟨g,0,none⟩)]]) ?_;repeat first|refine aE ?_|intro
  refine cg rfl sD bA sK aC (λM hE=>kO M g A1 n1 c1 (FO s 0) (FO s 1) 2 (vA s 0) rfl rfl 2 rfl (.inr rfl) (hal _ dB)) ?_;rintro e H' ⟨A2,n2,c2,rfl,hal2,rfl⟩;repeat first|refine aE ?_|intro
  exact⟨(1,(vA s 0,0,0,0),A2,n2,c2),aD,aA,⟨by dsimp only;omega,rfl,hal.trans hal2⟩,by dsimp only;omega⟩
 ·dsimp only[M6];repeat first|refine aE ?_|intro
  refine rB (l_ [0,1,2,4,5] (g_ 3 (n_ 6 (g_ 7 .nil)))) ([aJ gb 279 [.pointer (some ⟨g,0,none⟩)]]) ?_;repeat first|refine aE ?_|intro
  refine cg rfl sD bA sK aC (λM hE=>kO M g A1 n1 c1 (FO s 1) (FO s 2) 2 (vA s 1) rfl rfl 2 rfl (.inr rfl) (hal _ dB)) ?_;rintro e H' ⟨A2,n2,c2,rfl,hal2,rfl⟩;repeat first|refine aE ?_|intro
  exact⟨(2,(vA s 0,vA s 1,0,0),A2,n2,c2),aD,aA,⟨by dsimp only;omega,rfl,hal.trans hal2⟩,by dsimp only;omega⟩
 ·dsimp only[M6];repeat first|refine aE ?_|intro
  refine rB (l_ [0,1,2,4,5] (g_ 3 (n_ 6 (g_ 7 .nil)))) ([aJ gb 279 [.pointer (some ⟨g,0,none⟩)]]) ?_;repeat first|refine aE ?_|intro
  refine cg rfl sD bA sK aC (λM hE=>kO M g A1 n1 c1 (FO s 2) (FO s 3) 2 (vA s 2) rfl rfl 2 rfl (.inr rfl) (hal _ dB)) ?_;rintro e H' ⟨A2,n2,c2,rfl,hal2,rfl⟩;repeat first|refine aE ?_|intro
  exact⟨(3,(vA s 0,vA s 1,vA s 2,0),A2,n2,c2),aD,aA,⟨by dsimp only;omega,rfl,hal.trans hal2⟩,by dsimp only;omega⟩
 ·dsimp only[M6];repeat first|refine aE ?_|intro
  refine rB (l_ [0,1,2,4,5] (g_ 3 (n_ 6 (g_ 7 .nil)))) ([aJ gb 279 [.pointer (some ⟨g,0,none⟩)]]) ?_;repeat first|refine aE ?_|intro
  refine cg rfl sD bA sK aC (λM hE=>kO M g A1 n1 c1 (FO s 3) (FO s 4) 2 (vA s 3) rfl rfl 2 rfl (.inr rfl) (hal _ dB)) ?_;rintro e H' ⟨A2,n2,c2,rfl,hal2,rfl⟩;repeat first|refine aE ?_|intro
  exact⟨(4,(vA s 0,vA s 1,vA s 2,vA s 3),A2,n2,c2),aD,aA,⟨by dsimp only;omega,rfl,hal.trans hal2⟩,by dsimp only;omega⟩
 ·dsimp only[M6];repeat first|refine aE ?_|intro
  refine cl sD sK aC (λM hE=>kO M g A1 n1 c1 (FO s 4) (jV (FO s 4) 1) 1 (vl (FO s 4) 1:Nat) rfl rfl 1 rfl (.inl rfl) (hal _ dB)) ?_;rintro e H' ⟨A2,n2,c2,rfl,hal2,rfl⟩;repeat first|refine aE ?_|intro
  refine pM ((aB.nil bE).trans (aB.nil fN)) ?_;exact gO rfl aA (⟨none,0,0,none,0,0,_,_,_,_,rfl,rfl⟩)
theorem u4(hr:Rd E aU A n c s.2):aK prog E 187 #[rv g,.pointer (some ⟨gm,0,none⟩)] [aJ gm 195 (oK (QY 4 fr to) none 0 0 none 0 0),pC g true s.1 A n c] (MB g gm ⟨4,fr,to,0,0,0,0,0,[],[],xP s,ez⟩):=by
 refine t_ func187 ntmps187 ?_;repeat first|refine aE ?_|intro
 refine dX (λM=>Wp M g A n c s) ?_;rintro e H' ⟨A2,n2,c2,rfl,hal2,rfl⟩;refine gk bG ?_;generalize xP s=ky at *;repeat first|refine aE ?_|intro
 refine pM ((aB.nil bE).trans (aB.nil fN)) ?_;exact gO rfl aA (⟨none,0,0,none,0,0,_,_,_,_,rfl,rfl⟩)
theorem O3(kd:Int)(hk:¬(1≤kd∧kd≤4)):aK prog E 187 #[rv g,.pointer (some ⟨gm,0,none⟩)] [aJ gm 195 (oK (QY kd fr to) none 0 0 none 0 0),pC g true s.1 A n c] (MB g gm (QY kd fr to)):=by
 have k1:decide (kd=1)=false:=decide_eq_false o_;have k2:decide (kd=2)=false:=decide_eq_false o_;have k3:decide (kd=3)=false:=decide_eq_false o_;have k4:decide (kd=4)=false:=decide_eq_false o_;refine t_ func187 ntmps187 ?_;repeat first|refine aE ?_|intro
 refine pM ((aB.nil bE).trans (aB.nil fN)) ?_;exact gO rfl aA (⟨none,0,0,none,0,0,_,_,_,_,rfl,rfl⟩)
theorem x8(hr:Rd E aU A n c s.2)(hl:s.2.length≤140737488355300):aK prog E 187 #[rv g,.pointer (some ⟨gm,0,none⟩)] [aJ gm 195 (oK (QY 3 fr to) none 0 0 none 0 0),pC g true s.1 A n c] (MB g gm ⟨3,fr,to,0,0,0,0,0,[],[],xP s,IJ (An s)⟩):=by
 have hl2:(An s).2.length≤140737488355328:=aBw (aBw (aBw (kZ _ _) (kZ _ _)) (aBw (kZ _ _) (kZ _ _))) (aBw hl sD);refine t_ func187 ntmps187 ?_;repeat first|refine aE ?_|intro
 refine dX (λM=>Wp M g A n c s) ?_;rintro e H' ⟨A2,n2,c2,rfl,hal2,rfl⟩;refine gk bG ?_;generalize xP s=ky at *;generalize An s=s2 at *;repeat first|refine aE ?_|intro
 refine cl sD sK aC (λM hE=>kR M g s2.1 A2 n2 c2 s2.2 13 (hal2 _ dB) hl2) ?_;have ho:∀y,(nx s2.1 s2.2 13).1=some y→y.length=13:=λy hy=>by have:=(Fw hy).2;omega
 have he:IJ s2=((nx s2.1 s2.2 13).1.bind eY).getD rZ:=rfl;generalize nx s2.1 s2.2 13=o at *;rintro e H' ⟨A3,n3,c3,B,d,rfl,hal3,hmd,hd3,rfl⟩;repeat first|refine aE ?_|intro
 refine dX (λM=>Wa M B _ d o.1 ho) ?_;rw[←he];generalize IJ s2=f at *;rintro e H' ⟨ek,rfl,rfl⟩;repeat first|refine aE ?_|intro
 refine pM ((aB.nil bE).trans (aB.nil fN)) ?_;exact gO rfl aA (⟨none,0,0,none,0,0,_,_,_,_,rfl,rfl⟩)
theorem x7(hr:Rd E aU A n c s.2)(hl:s.2.length≤140737488355300):aK prog E 187 #[rv g,.pointer (some ⟨gm,0,none⟩)] [aJ gm 195 (oK (QY 2 fr to) none 0 0 none 0 0),pC g true s.1 A n c] (MB g gm ⟨2,fr,to,0,0,0,0,(vl s 1:Nat),tH (jV (jV s 1) 1) (Rx (jV s 1)),MP (T6 (lC (jV (jV s 1) 1) (Rx (jV s 1)))),kz,ez⟩):=by
 refine t_ func187 ntmps187 ?_;repeat first|refine aE ?_|intro
 refine dX (λM=>kO M g A n c s (jV s 1) 1 (vl s 1:Nat) rfl rfl 1 rfl (.inl rfl)) ?_;rintro e H' ⟨A1,n1,c1,rfl,hal1,rfl⟩;repeat first|refine aE ?_|intro
 refine cl sD sK aC (λM hE=>kO M g A1 n1 c1 (jV s 1) (jV (jV s 1) 1) 1 (vl (jV s 1) 1:Nat) rfl rfl 1 rfl (.inl rfl) (hal1 _ dB)) ?_;rintro e H' ⟨A2,n2,c2,rfl,hal2,rfl⟩;refine gk bG ?_;have hmin:min (vl (jV s 1) 1:Int) 16=(Rx (jV s 1):Nat):=by unfold Rx;omega
 have hsl:(jV (jV s 1) 1).2.length≤140737488355300:=aBw (aBw (kZ _ _) (kZ _ _)) hl;have hN:Rx (jV s 1)≤16:=Nat.min_le_right _ _;have hal:nS A n c s.2 A2 n2 c2 (jV (jV s 1) 1).2:=hal1.trans hal2;generalize Rx (jV s 1)=N at *;generalize jV (jV s 1) 1=s2 at *;generalize vl s 1=base at *;repeat first|refine aE ?_|intro
 rw[hmin];rename_i gb;refine C.loop (X:=Nat×(Option Addr×Nat)×Option Addr×Nat×Nat) (λx=>[(1,.pointer (some ⟨gm,0,none⟩)),(2,.pointer (some ⟨gb,0,none⟩)),(12,.int .i64 2),(40,.int .i64 N),(41,.int .i64 x.1)]) (λx=>[aJ gb 279 [.pointer (some ⟨g,0,none⟩)],aJ gm 195 (oK ⟨2,fr,to,0,0,0,0,base,[],[],kz,ez⟩ x.2.1.1 x.1 x.2.1.2 none 0 0),own fN x.2.1.1 x.1 x.2.1.2 (tH s2 x.1),pC g true (lC s2 x.1).1 x.2.2.1 x.2.2.2.1 x.2.2.2.2]) (λx=>x.1≤N∧nS A n c s.2 x.2.2.1 x.2.2.2.1 x.2.2.2.2 (lC s2 x.1).2) (λx=>N - x.1) (0,(none,0),A2,n2,c2) aD (by simp only[tH,lC];exact(aB.nil fN).trans aA) ⟨aAh _,hal⟩ ?_;rintro⟨i,⟨O,co⟩,A3,n3,c3⟩ G ⟨hi,hal3⟩;dsimp only at hi hal3⊢;by_cases hlt:i<N
 ·repeat first|refine aE ?_|intro
  refine C.bL 11 (l_ [0,1,2,3,4,5] (g_ 6 (g_ 7 (g_ 8 (l_ [9,10] (g_ 11 .nil)))))) ([aJ gb 279 [.pointer (some ⟨g,0,none⟩)],aJ gm 195 (oK ⟨2,fr,to,0,0,0,0,base,[],[],kz,ez⟩ O i co none 0 0)]) q_ q_ aA ?_;repeat first|refine aE ?_|intro
  refine cg rfl sD bA sK aC (λM hE=>BI M g A3 n3 c3 (lC s2 i) (hal3 _ dB)) ?_;rintro e H' ⟨A4,n4,c4,rfl,hal4,rfl⟩;refine gd bG aA ?_;have hq:Ar (lC s2 i)=lC s2 (i+1):=rfl;rw[hq] at hal4⊢;have hz:tH s2 i++[CG (lC s2 i)]=tH s2 (i+1):=rfl;have hlv:=yU s2 i;generalize CG (lC s2 i)=a at *;repeat first|refine aE ?_|intro
  rename_i O' co' _ _;rw[hz];exact⟨(i+1,(O',co'),A4,n4,c4),aD,aA,⟨by dsimp only;omega,hal3.trans hal4⟩,by dsimp only;omega⟩
 ·obtain rfl:i=N:=o_;have hlv:=yU s2 i;have hsl3:(lC s2 i).2.length≤140737488355328:=aBw (EJ _ _) (aBw hsl sD);have hnl:=Uc (lC s2 i);have hll:(T6 (lC s2 i)).length≤140737488355300:=by unfold T6;split;(· exact aAh _);(· exact aBw (EJ _ _) hsl)
  generalize lC s2 i=s3 at *;repeat first|refine aE ?_|intro
  refine rB (l_ [0,1,2,3] (g_ 4 (g_ 5 (l_ [6,7,8,9,10] .nil)))) ([aJ gb 279 [.pointer (some ⟨g,0,none⟩)]]) ?_;repeat first|refine aE ?_|intro
  refine cg rfl sD bA sK aC (λM hE=>tV M g s3.1 A3 n3 c3 s3.2 (hal3 _ dB)) ?_;rintro e H' ⟨rfl,rfl⟩;repeat first|refine aE ?_|intro
  refine cg rfl sD bA sK aC (λM hE=>kR M g s3.1 A3 n3 c3 s3.2 _ (hal3 _ dB) hsl3) ?_;generalize nx s3.1 s3.2 _=o at *;rintro e H' ⟨A4,n4,c4,B,d,rfl,hal4,hmd,hd3,rfl⟩;refine gd bG aA ?_;rw[hnl];generalize T6 s3=y at *;repeat first|refine aE ?_|intro
  refine dX (λM h1=>Wi M B y.length d y h1 hll) ?_;rintro e H' ⟨Q,cq,ek,rfl,rfl⟩;refine gk bG ?_;generalize MP y=ch at *;repeat first|refine aE ?_|intro
  exact gO rfl aA (⟨_,_,_,_,_,_,_,_,_,_,rfl,rfl⟩)
end
def IQ(a b:bP):Int:=DC [sQ a.id b.id,sX a.ord b.ord]
def uZ(a b:bP):Bool:=if IQ a b≠0 then decide (IQ a b<0) else(!a.cD&&b.cD)
theorem KD(E:Env)(a b:bP):G E 210 [.agg a.cs.toArray,.agg b.cs.toArray] [] (cM (.bool (uZ a b)) []):=by
 have hk:IQ a b=DC [sQ ⟨a.id.rep,a.id.seq⟩ ⟨b.id.rep,b.id.seq⟩,sX a.ord b.ord]:=rfl;unfold uZ;rw[hk];by_cases h:DC [sQ ⟨a.id.rep,a.id.seq⟩ ⟨b.id.rep,b.id.seq⟩,sX a.ord b.ord]=0
 ·have hd:decide (DC [sQ ⟨a.id.rep,a.id.seq⟩ ⟨b.id.rep,b.id.seq⟩,sX a.ord b.ord]≠0)=false:=decide_eq_false (by rw[h];decide);rw[if_neg (by rw[h];decide)];refine t_ func210 ntmps210 ?_;repeat first|refine v_ ?_|intro
  refine rA (l_ [0,1,2,3,5,6,7,8] (g_ 4 (g_ 9 (g_ 10 (g_ 11 (n_ 12 .nil)))))) ?_;repeat first|refine v_ ?_|intro
  rcases aBh a.cD with hu|hu
  ·have hn:(!a.cD)=false:=by rw[hu];rfl
   repeat first|refine v_ ?_|intro
   exact aR rfl aF aA (⟨rJ (by rw[hu];rfl),rfl⟩)
  ·have hn:(!a.cD)=true:=by rw[hu];rfl
   repeat first|refine v_ ?_|intro
   exact aR rfl aF aA (⟨rJ (by rw[hu];rfl),rfl⟩)
 ·have hd:decide (DC [sQ ⟨a.id.rep,a.id.seq⟩ ⟨b.id.rep,b.id.seq⟩,sX a.ord b.ord]≠0)=true:=decide_eq_true h;rw[if_pos h];refine t_ func210 ntmps210 ?_;repeat first|refine v_ ?_|intro
  refine rA (l_ [0,1,2,3,5,6,7,8] (g_ 4 (g_ 9 (g_ 10 (g_ 11 (n_ 12 .nil)))))) ?_;repeat first|refine v_ ?_|intro
  exact B7
def LK(a b:dK):Int:=if uZ a.key b.key then -1 else if uZ b.key a.key then 1 else 0
theorem SD(E:Env)(a b:dK):G E 209 [.agg a.cs.toArray,.agg b.cs.toArray] [] (cM (.int .i64 (LK a b)) []):=by
 have l1:=λM=>KD M a.key b.key;have l2:=λM=>KD M b.key a.key;unfold LK;generalize uZ a.key b.key=x at *;generalize uZ b.key a.key=y at *;cases x with
 |true =>
  refine t_ func209 ntmps209 ?_;repeat first|refine v_ ?_|intro
  refine bK l1 ?_;repeat first|refine v_ ?_|intro
  exact B7
 |false =>
  cases y with
  |true =>
   refine t_ func209 ntmps209 ?_;repeat first|refine v_ ?_|intro
   refine bK l1 ?_;repeat first|refine v_ ?_|intro
   refine bK l2 ?_;repeat first|refine v_ ?_|intro
   exact B7
  |false =>
   refine t_ func209 ntmps209 ?_;repeat first|refine v_ ?_|intro
   refine bK l1 ?_;repeat first|refine v_ ?_|intro
   refine bK l2 ?_;repeat first|refine v_ ?_|intro
   exact B7
def qV(a:Nat):Nat→List dK→List dK
 |0,l=>l
 |j+1,l=>if a<j+1 then(match l[j+1]?,l[j]? with
  |some x,some y=>if LK x y<0 then qV a j ((l.set (j+1) y).set j x) else l
  |_,_=>l) else l
def BX(a:Nat):Nat→Nat→List dK→List dK
 |_,0,l=>l
 |i,k+1,l=>BX a (i+1) k (qV a i l)
def mB(a b:Nat)(l:List dK):List dK:=BX a (a+1) (b - (a+1)) l
theorem zQ(a:Nat):∀(j:Nat) (l:List dK),(qV a j l).length=l.length
 |0,l=>rfl
 |j+1,l=>by
  unfold qV;split
  ·split
   ·split
    ·rw[zQ a j];simp
    ·rfl
   ·rfl
  ·rfl
theorem Jg{a j:Nat}{l:List dK}(h:j≤a):qV a j l=l:=by
 cases j with
 |zero=>rfl
 |succ j=>unfold qV;rw[if_neg o_]
theorem Im{a j:Nat}{l:List dK}{x y:dK}(h:a<j+1)(hx:l[j+1]?=some x)(hy:l[j]?=some y):qV a (j+1) l=if LK x y<0 then qV a j ((l.set (j+1) y).set j x) else l:=by
 show(if a<j+1 then(match l[j+1]?,l[j]? with|some x,some y=>if LK x y<0 then qV a j ((l.set (j+1) y).set j x) else l|_,_=>l) else l)=_;rw[if_pos h,hx,hy]
theorem zN(a:Nat):∀(k i:Nat) (l:List dK),(BX a i k l).length=l.length
 |0,_,_=>rfl
 |k+1,i,l=>by show(BX a (i+1) k (qV a i l)).length=_;rw[zN a k,zQ]
section
variable {N:Nat} {E:Env} {F:Nat→Value} {H R:List aL} {Q:QF} {d z:Nat} {f:FuncId} {x:Operand} {cs vs':List Value} {ops:List Operand} {tys:Array TypeId} {ty:TypeId} {pos:String} {af:Array Edge} {Hp:List aL} {Q1:Ending→List aL→Prop}
theorem j6{os:List Oper}{todo:Td}{Hk:List aL}{gd:Option (Nat×Bool)}{i:Nat}(hi:nth os i=some ⟨some d,.call { callee:=.value x,args:=ops.toArray,argTypes:=tys },ty,pos,af,gd⟩)(hd:d<N)(hg:rE os N F true gd)(hx:ev F x=.func (.func f) #[] cs.toArray)(hv:AO F ops++cs=vs')(hk:xA f=true)(hp:cS Hp H R)
  (law:∀M,Sub E R M→aK prog M f vs'.toArray Hp Q1) (hQ:∀e H',Q1 e H'→∃v,e=.returned v∧∃H2,wK H' R H2∧aB E H2 Hk∧Dr prog N E z os Q Hk todo (pT F d v) H2):Dr prog N E z os Q Hk (.one i true todo) F H:=by
 obtain⟨fn,h1,h2,h3⟩:=iY hk;exact Dr.all (zL.go hi (by rintro k ⟨⟩;exact hd) hg (S.wB rfl hx rfl hv h1 h2 h3 hp law hQ))
end
theorem Ua{α:Type}{T:Ty α}{E:Env}{f:FuncId}{args:Array Value}{A:Option Addr}{n c:Nat}{l:List α}{R:List aL}{Q:Ending→List aL→Prop}(h:(n=0∨∃a,A=some a)→aK prog E f args (own T A n c l::R) Q):aK prog E f args (own T A n c l::R) Q:=λhd w hw=>by
 obtain⟨F,h1,_⟩:=hw.has Has.aN;refine h ?_ hd w hw;rcases h1.2 with⟨h0,_⟩|⟨g,_,hA,_⟩
 ·exact .inl h0
 ·exact .inr ⟨_,hA⟩
theorem VB{α:Type}{T:Ty α}{E:Env}{H:List aL}{ρ:Operand→Value}{o:Oper}{t:TypeId}{x i:Operand}{k:IntKind}{j:Int}{m n c:Nat}{A:Option Addr}(hA:∃a,A=some a)(ho:o.op=.indexAddr t x i)(hx:ρ x=.slice A n c)(hi:ρ i=.int k j)(ht:prog.underlying t=some (.slice T.tid))(hj:j.toNat=m)(h0:0≤j)(hm:m<n){q:Nat}(hq:m*T.size=q):qB prog E H ρ o (.pointer (some ((ad A).add q))):=by
 subst hq;obtain⟨a,rfl⟩:=hA;intro u hu;have hinf:=T.fW;cases hq:prog.info? T.tid with
 |none=>simp[hq] at hinf
 |some ti =>
  simp[hq] at hinf;exact V.indexAddr ho hx hi ht hq h0 o_ hj hinf.2.1 rfl
abbrev U2:Value:=.func (.func 209) #[] #[]
theorem Vk(E:Env)(A:Option Addr)(n c:Nat)(l:List dK)(hn:n≤1000000)(hln:l.length=n)(a b:Nat)(hab:a≤b)(hb:b≤n):G E 310 [.slice A n c,.int .i64 a,.int .i64 b,U2] [own cP A n c l] (cM (.tuple #[]) [own cP A n c (mB a b l)]):=by
 have kf:xA 209=true:=q_;unfold mB;obtain⟨lE,hE⟩:∃lE,BX a (a+1) (b - (a+1)) l=lE:=⟨_,rfl⟩
 rw[hE];have hmax:=fX;refine Ua λhA=>?_;refine t_ func310 ntmps310 ?_;repeat first|refine v_ ?_|intro
 refine C.loop (X:=Nat×List dK) (λx=>[(0,.slice A n c),(1,.int .i64 a),(2,.int .i64 b),(3,U2),(8,.int .i64 x.1)]) (λx=>[own cP A n c x.2])
  (λx=>a+1≤x.1∧(x.1≤b∨x.1=a+1)∧x.2.length=n∧BX a x.1 (b - x.1) x.2=lE) (λx=>b - x.1) (a+1,l) aD aA ⟨aAf _,.inr rfl,hln,hE⟩ ?_
 rintro⟨i,l1⟩ G ⟨h1,h2,h3,h4⟩;dsimp only at h1 h2 h3 h4⊢;by_cases hlt:i<b
 ·have e1:b - i=(b - (i+1))+1:=o_;rw[e1] at h4;have h4:BX a (i+1) (b - (i+1)) (qV a i l1)=lE:=h4;obtain⟨l2,hl2⟩:∃l2,qV a i l1=l2:=⟨_,rfl⟩
  have h5:l2.length=n:=by rw[←hl2,zQ,h3]
  rw[hl2] at h4;repeat first|refine v_ ?_|intro
  refine C.loop (X:=Nat×List dK) (λx=>[(0,.slice A n c),(1,.int .i64 a),(2,.int .i64 b),(3,U2),(8,.int .i64 i),(9,.int .i64 x.1)]) (λx=>[own cP A n c x.2])
   (λx=>a≤x.1∧x.1≤i∧x.2.length=n∧qV a x.1 x.2=l2) (λx=>x.1) (i,l1) aD aA ⟨by dsimp only;omega,aAf _,h3,hl2⟩ ?_
  rintro⟨j,l3⟩ G2 ⟨h6,h7,h8,h9⟩;dsimp only at h6 h7 h8 h9⊢;by_cases hja:a<j
  ·obtain⟨j,rfl⟩:∃m,j=m+1:=⟨j - 1,by omega⟩
   obtain⟨x,hx⟩:∃x,l3[j+1]?=some x:=⟨_,aAa o_⟩
   obtain⟨y,hy⟩:∃y,l3[j]?=some y:=⟨_,aAa o_⟩
   rw[Im hja hx hy] at h9;have by1:=λM=>SD M x y;have hjj:(((j+1:Nat):Int) - 1).toNat=j:=o_;have hy':l3[(((j+1:Nat):Int) - 1).toNat]?=some y:=by rw[hjj];exact hy
   have hy3:(l3.set (j+1) y)[j]?=some y:=by rw[aEq o_];exact hy
   have hy2:(l3.set (j+1) y)[(((j+1:Nat):Int) - 1).toNat]?=some y:=by rw[hjj,aEq o_];exact hy
   generalize LK x y=z at *;by_cases hz:z<0
   ·rw[if_pos hz] at h9;repeat first|refine v_ ?_|intro
    refine rA (l_ [0,1,2,3,4,5,6,7,8,9,10,11,12,13] (g_ 14 (l_ [15,16] .nil))) ?_;repeat first|refine v_ ?_|intro
    refine j6 rfl sD bA rfl rfl kf .nil (λM hE=>by1 M) ?_;rintro e H' ⟨rfl,rfl⟩;repeat first|refine v_ ?_|intro
    refine C.Kp 15 (l_ [0,1,2,3,4,5,6,7,8,9,10,11,12,13,14] (g_ 15 (n_ 16 (g_ 17 .nil)))) [own cP A n c l3] [] q_ q_ aA ?_;repeat (first|refine Dt.take rfl sD rfl bA Cw Cw ?_|refine Dt.kL rfl sD rfl q_ bA Cw ?_)
    refine Dt.We rfl (by rintro k ⟨⟩<;>decide) bA NO ?_;rintro _ _ ⟨rfl,rfl⟩;refine⟨aA,?_⟩;refine Dr.take rfl sD bA (VB (hA.resolve_left o_) rfl rfl rfl rfl hjj o_ o_ (T:=cP) rfl) ?_;repeat first|refine v_ ?_|intro
    simp only[hjj];exact⟨(j,(l3.set (j+1) y).set j x),aD,aA,⟨by dsimp only;omega,by dsimp only;omega,by simp[h8],h9⟩,by dsimp only;omega⟩
   ·rw[if_neg hz] at h9;subst h9;repeat first|refine v_ ?_|intro
    refine rA (l_ [0,1,2,3,4,5,6,7,8,9,10,11,12,13] (g_ 14 (l_ [15,16] .nil))) ?_;repeat first|refine v_ ?_|intro
    refine j6 rfl sD bA rfl rfl kf .nil (λM hE=>by1 M) ?_;rintro e H' ⟨rfl,rfl⟩;repeat first|refine v_ ?_|intro
    exact⟨(i+1,l3),aD,aA,⟨by dsimp only;omega,.inl (by dsimp only;omega),h5,h4⟩,by dsimp only;omega⟩
  ·rw[Jg o_] at h9;subst h9;repeat first|refine v_ ?_|intro
   refine rA (l_ [0,1,2,3,4,5,6,7,8,9,10,11,12,13] (g_ 14 (l_ [15,16] .nil))) ?_;repeat first|refine v_ ?_|intro
   exact⟨(i+1,l3),aD,aA,⟨by dsimp only;omega,.inl (by dsimp only;omega),h5,h4⟩,by dsimp only;omega⟩
 ·have hk0:b - i=0:=o_;rw[hk0] at h4;have h4:l1=lE:=h4;subst h4;repeat first|refine v_ ?_|intro
  exact r4
theorem PZ(E:Env)(A:Option Addr)(n c:Nat)(l:List dK)(hn:n<20)(hln:l.length=n):G E 148 [.slice A n c] [own cP A n c l] (cM (.slice A n c) [own cP A n c (mB 0 n l)]):=by
 have HL:=λM=>Vk M A n c l o_ hln 0 n (aAh _) (aAf _);generalize mB 0 n l=l2 at *;have hmax:=fX;have stb:∀M,G M 268 [.slice A n c,.int .i64 n,U2] [own cP A n c l] (cM (.tuple #[]) [own cP A n c l2]):=λM=>by
  refine t_ func268 ntmps268 ?_;repeat first|refine qI ?_|intro
  refine C.loop (X:=Unit) (λ_=>[(0,.slice A n c),(1,.int .i64 n),(2,U2),(6,.int .i64 20),(7,.int .i64 0),(8,.int .i64 20)]) (λ_=>[own cP A n c l]) (λ_=>True) (λ_=>0) () aD aA trivial ?_;rintro⟨⟩ G -;repeat first|refine qI ?_|intro
  refine bK HL ?_;repeat first|refine qI ?_|intro
  refine C.loop (X:=Unit) (λ_=>[(0,.slice A n c),(1,.int .i64 n),(2,U2),(6,.int .i64 20)]) (λ_=>[own cP A n c l2]) (λ_=>True) (λ_=>0) () aD aA trivial ?_;rintro⟨⟩ G2 -;repeat first|refine qI ?_|intro
  exact r4
 have sts:∀M,G M 208 [.slice A n c,U2] [own cP A n c l] (cM (.tuple #[]) [own cP A n c l2]):=λM=>by
  refine t_ func208 ntmps208 ?_;repeat first|refine qI ?_|intro
  refine bK stb ?_;repeat first|refine qI ?_|intro
  exact r4
 refine t_ func148 ntmps148 ?_;repeat first|refine qI ?_|intro
 refine bK sts ?_;repeat first|refine qI ?_|intro
 exact B7
def BK(o:List dK):Prop:=∀(E:Env) (A:Option Addr) (c:Nat),G E 148 [.slice A o.length c] [own cP A o.length c o] (cM (.slice A o.length c) [own cP A o.length c (mB 0 o.length o)])
theorem BK.rK{o:List dK}(h:o.length<20):BK o:=λE A c=>PZ E A o.length c o h rfl
theorem ZU(E:Env)(g:Nat)(q:dK)(hb:gE E g q.cs)(x:dK):G E 146 [.agg x.cs.toArray,pt g] [] (cM (.bool (decide (x.key=q.key.other))) []):=by
 have oth:=λM=>TL (E:=M) q.key;obtain⟨k2,hk2⟩:∃k2,q.key.other=k2:=⟨_,rfl⟩
 rw[hk2] at oth⊢;refine t_ func146 ntmps146 ?_;repeat first|refine qI ?_|intro
 rename_i g2;refine rB (l_ [0,1,2,3] (g_ 4 (l_ [5,6] .nil))) ([aJ g2 79 _]) ?_;repeat first|refine qI ?_|intro
 refine eJ oth ?_;repeat first|refine qI ?_|intro
 exact B7
def EZ(rest:List dK)(s:List (bJ×Int)×List dK)(q:dK):List (bJ×Int)×List dK :=
 if q.key.cD||rest.any (λx=>decide (x.key=q.key.other)) then s else(yH s.1 q.key.id,s.2++[⟨⟨q.key.id,lO (yH s.1 q.key.id) q.key.id,q.key.cD⟩,q.bC⟩])
def sI:List dK→List (bJ×Int)×List dK→List dK
 | [],s=>s.2
 |q::l,s=>sI l (EZ l s q)
theorem aMa:∀(l:List dK) (s:List (bJ×Int)×List dK),(sI l s).length≤s.2.length+l.length
 | [],s=>aAf _
 |q::l,s=>by
  refine aBw (aMa l (EZ l s q)) ?_;have:(EZ l s q).2.length≤s.2.length+1:=by
   unfold EZ;split
   ·exact aCq _
   ·exact Nat.le_of_eq (aAe ..)
  rw[aAs];omega
def FP(l:List dK):List dK:=mB 0 (sI l ([],[])).length (sI l ([],[]))
end
end Go.Proofs.YtmilalkjbojciaaGreat.Sep
