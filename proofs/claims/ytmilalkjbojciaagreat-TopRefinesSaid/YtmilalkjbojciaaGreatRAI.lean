/- Part AI: what it needs. No condition. -/
import Derived.Test.YtmilalkjbojciaaGreatRAA
import Derived.Test.YtmilalkjbojciaaGreatRAG
import Derived.Test.YtmilalkjbojciaaGreatRAF
import Derived.Test.YtmilalkjbojciaaGreatRAD
import Derived.Test.YtmilalkjbojciaaGreatRAB
import Derived.Test.YtmilalkjbojciaaGreatRAH
set_option maxRecDepth 100000
set_option maxHeartbeats 8000000
open Go.Proofs.Tryz
namespace Go.Proofs.YtmilalkjbojciaaGreat.Sep
structure dD.fit(o:dD):Prop where
 id:o.id.ok
 cC:0≤o.cC∧o.cC≤7
 item:0≤o.item∧o.item≤7
 iN:0≤o.iN∧o.iN≤1000
 cost:0≤o.cost∧o.cost≤1099511627776
structure Bk.fit(b:Bk):Prop where
 ok:b.ok
 C7:∀o∈b.aH,o.fit
 len:b.aH.length≤32
structure Wk.fit(n:Nat)(w:Wk):Prop where
 b:w.b.fit
 out:∀f∈w.out,f.ok
 len:w.out.length≤n
 ref:w.ref.ok
def eK{X:Type}(p:X→Prop)(r:Except Int X):Prop:=∀x,r=.ok x→p x
theorem eK.bind{X Y:Type}{r:Except Int X}{f:X→Except Int Y}{p:X→Prop}{q:Y→Prop}(h:eK p r)(k:∀x,p x→eK q (f x)):eK q (r >>= f):=by
 intro y hy;cases r with
 |ok x=>exact k x (h x rfl) y hy
 |error e=>cases hy
theorem eK.ok{X:Type}{p:X→Prop}{x:X}(h:p x):eK p (.ok x):=by
 intro y hy;injection hy with hy;subst hy;exact h
theorem eK.pure{X:Type}{p:X→Prop}{x:X}(h:p x):eK p (pure x):=eK.ok h
theorem eK.error{X:Type}{p:X→Prop}{k:Int}:eK p (.error k):=by intro y hy;cases hy
theorem eK.mono{X:Type}{p q:X→Prop}{r:Except Int X}(h:eK p r)(k:∀x,p x→q x):eK q r:=λx hx=>k x (h x hx)
theorem eK.ask{p:Bool}{k:Int}{r:Wr}{q:Wk→Prop}(h:p=true→eK q r):eK q (C9 p k r):=by
 unfold C9;split
 ·exact h ‹_›
 ·exact eK.error
theorem eK.iQ{w:Wk}{r:Bk×Int}{n:Nat}(hw:w.fit n)(h:r.2=0→r.1.fit):eK (λw'=>Wk.fit n w'∧w'=⟨r.1,w.out,w.ref⟩∧r.2=0) (w.iQ r):=by
 unfold Wk.iQ;split
 ·rename_i hk;exact eK.ok ⟨⟨h hk,hw.out,hw.len,hw.ref⟩,rfl,hk⟩
 ·exact eK.error
theorem Wk.fit.tell{w:Wk}{n:Nat}(h:w.fit n)(kind a k:Int)(h1:dQ kind)(h2:dQ a)(h3:dQ k):(w.tell kind a k).fit (n+1) :=
 ⟨h.b,λf hf=>by
  rcases aBg.1 hf with hf|hf
  ·exact h.out f hf
  ·obtain rfl:=aAp.1 hf;exact⟨h1,h2,h3,h.ref⟩,by have:=h.len;simp[Wk.tell];omega,h.ref⟩
theorem Wk.fit.le{w:Wk}{n m:Nat}(h:w.fit n)(hm:n≤m):w.fit m:=⟨h.b,h.out,aBw h.len hm,h.ref⟩
theorem F8{b:Bk}{o x:dD}(h:x∈(lK b o).aH):x=o∨x∈b.aH:=by
 unfold lK at h;split at h
 ·rcases aCr h with h|h
  ·exact .inr h
  ·exact .inl h
 ·simp only[aBg,aAp] at h;rcases h with(h|h)|h
  ·exact .inr (aBs h)
  ·exact .inl h
  ·exact .inr (aDw h)
theorem Gg{b:Bk}{o:dD}:(lK b o).aH.length≤b.aH.length+1∧(0≤fA b o.id→(lK b o).aH.length=b.aH.length):=by
 unfold lK;split
 ·exact⟨by simp,λ_=>by simp⟩
 ·refine⟨?_,λh=>absurd h ‹_›⟩;simp only[aAe,aAg,aBd,aDa];omega
theorem J5{b:Bk}{o:dD}(h:b.ok):(lK b o).ok:=by
 unfold lK;split<;>exact h
theorem Ig{b:Bk}{o:dD}(h:o∈b.aH):0≤fA b o.id:=by
 have:=rC (λx:dD=>decide (x.id=o.id)) b.aH;have h2:b.aH.any (λx:dD=>decide (x.id=o.id))=true:=aEm.2 ⟨o,h,by simp⟩;rw[h2] at this;exact of_decide_eq_true this
theorem Wk.fit.put{w:Wk}{n:Nat}(h:w.fit n){o:dD}(st:Int)(ho:o.fit)(hp:0≤fA w.b o.id):(w.put o st).fit n:=by
 have hl:=(Gg (b:=w.b) (o:={ o with state:=st })).2 hp;refine⟨⟨J5 h.b.ok,λx hx=>?_,?_⟩,h.out,h.len,h.ref⟩
 ·rcases F8 hx with rfl|hx
  ·exact⟨ho.id,ho.cC,ho.item,ho.iN,ho.cost⟩
  ·exact h.b.C7 x hx
 ·show(lK w.b { o with state:=st }).aH.length≤32;rw[hl];exact h.b.len
theorem Cl{b:Bk}(h:b.fit)(i n:Int)(k:(jB b i n).2=0):(jB b i n).1.fit :=
 ⟨L7 h.ok i n k,by rw[jZ b i n k];exact h.C7,by rw[jZ b i n k];exact h.len⟩
theorem AE{b:Bk}(h:b.fit)(i n:Int)(k:(nF b i n).2=0):(nF b i n).1.fit :=
 ⟨HK h.ok i n k,by rw[hP b i n k];exact h.C7,by rw[hP b i n k];exact h.len⟩
theorem MC{b:Bk}(h:b.fit)(i n:Int)(k:(sN b i n).2=0):(sN b i n).1.fit :=
 ⟨NU h.ok i n k,by rw[nU b i n k];exact h.C7,by rw[nU b i n k];exact h.len⟩
theorem wD{b:Bk}(h:b.fit)(i n:Int)(k:(jT b i n).2=0):(jT b i n).1.fit :=
 ⟨Kx h.ok i n k,by rw[fS b i n k];exact h.C7,by rw[fS b i n k];exact h.len⟩
theorem HU{b:Bk}(h:b.fit)(i n:Int)(k:(mF b i n).2=0):(mF b i n).1.fit:=by
 refine⟨?_,by rw[oP b i n k];exact h.C7,by rw[oP b i n k];exact h.len⟩;unfold mF at k⊢;split at k
 ·rename_i h1;rw[if_pos h1];exact⟨h.ok.1,O8.iW h.ok.2.1 _ _ h1.2.1 h1.2.2,h.ok.2.2⟩
 ·cases k
theorem QS{b:Bk}(h:b.fit){o:dD}(ho:o.fit)(k:(wH b o).2=0):(wH b o).1.fit:=by
 unfold wH at k⊢;split at k
 ·cases k
 ·split at k
  ·cases k
  ·rename_i h1 h2;rw[if_neg h1,if_neg h2];refine⟨J5 h.ok,λx hx=>?_,?_⟩
   ·rcases F8 hx with rfl|hx
    ·exact ho
    ·exact h.C7 x hx
   ·have:=(Gg (b:=b) (o:=o)).1;show(lK b o).aH.length≤32;omega
theorem eK.order{w:Wk}{n:Nat}(hw:w.fit n){a:bJ}(ha:a.ok)(st:List Int):eK (λp=>Wk.fit n p.1∧p.1=⟨w.b,w.out,a⟩∧p.2.fit∧0≤fA w.b p.2.id) (w.order a st):=by
 obtain⟨q,hq⟩:∃q,q=FT w.b a st:=⟨_,rfl⟩
 obtain⟨o,k⟩:=q;rw[show w.order a st=_ from iF hq];split
 ·have hm:=BF hq ‹_›;exact eK.ok ⟨⟨hw.b,hw.out,hw.len,ha⟩,rfl,hw.b.C7 o hm,Ig hm⟩
 ·exact eK.error
theorem mA{b b':Bk}(h:b'.aH=b.aH)(a:bJ):fA b' a=fA b a:=by unfold fA;rw[h]
theorem i8{x:Int}(h:0≤x∧x≤7):dQ x:=by unfold dQ;omega
theorem i40{x:Int}(h:0≤x∧x≤1099511627776):dQ x:=by unfold dQ;omega
theorem i10{x:Int}(h:0≤x∧x≤1000):dQ x:=by unfold dQ;omega
theorem Cn{b:Bk}{i n:Int}(h:Aj b i n=true):0≤i∧i≤7:=by
 unfold Aj jB at h;split at h
 ·exact ‹_∧_›.1
 ·simp at h
theorem Mo{b:Bk}(hb:b.ok){i n:Int}(hn:0≤n):0≤(mY b i n).1∧(mY b i n).1≤1099511627776:=by
 unfold mY;split
 ·split
  ·have:=O8.B6 hb.2.1 i;exact⟨Int.mul_nonneg hn this.1,by assumption⟩
  ·dsimp only;omega
 ·dsimp only;omega
theorem Wk.VT{w:Wk}(hw:w.fit 0){c:aX}(hc:c.ok):eK (Wk.fit 8) (w.do c):=by
 obtain⟨hid,hti,hki,ha,hb,hn,href⟩:=hc;have h64:∀k:Int,0≤k→k≤1000→dQ k:=λk h1 h2=>i10 ⟨h1,h2⟩;unfold Wk.do;split
 ·exact eK.ask λ_=>(eK.iQ hw λk=>AE hw.b _ _ k).mono λx hx=>hx.1.le o_
 split
 ·exact eK.ask λ_=>(eK.iQ hw λk=>wD hw.b _ _ k).bind λx hx=>eK.pure ((hx.1.tell _ _ _ (h64 _ o_ o_) ha hn).le o_)
 split
 ·refine eK.ask λhp=>?_;simp only[eight,aAv,decide_eq_true_eq] at hp;have tA:0≤oI w.b c∧oI w.b c≤7:=by
   unfold oI;split
   ·rename_i h;simp only[aAv] at h;exact Cn h.2
   ·exact hp.1.2
  refine(eK.iQ hw λk=>QS hw.b ⟨hid,hp.1.1,tA,by dsimp only;omega,by dsimp only;omega⟩ k).bind λx hx=>?_;refine(eK.iQ hx.1 λk=>Cl hx.1.b _ _ k).bind λy hy=>?_;refine eK.pure (Wk.fit.le (Wk.fit.tell (Wk.fit.tell (w:={ y with ref:=c.id }) ⟨hy.1.b,hy.1.out,hy.1.len,hid⟩ _ _ _ (h64 _ o_ o_) (i8 tA) hn) _ _ _ (h64 _ o_ o_) ha (h64 _ o_ o_)) o_)
 split
 ·refine eK.ask λhp=>?_;simp only[decide_eq_true_eq] at hp;refine(eK.order hw href _).bind λp hp2=>?_;obtain⟨w1,o⟩:=p;obtain⟨h1,rfl,h3,h4⟩:=hp2;dsimp only;have key:∀x:Wk,x.fit 0→x.b.aH=w.b.aH→eK (Wk.fit 8) (pure ((x.put { o with iN:=c.n } 1).tell 2 o.item c.n)):=λx hx ho =>
   eK.pure (((hx.put 1 (o:={ o with iN:=c.n }) ⟨h3.id,h3.cC,h3.item,by dsimp only;omega,h3.cost⟩ (by rw[mA ho];exact h4)).tell _ _ _ (h64 _ o_ o_) (i8 h3.item) hn).le o_)
  split
  ·exact(eK.iQ h1 λk=>Cl h1.b _ _ k).bind λx hx=>key x hx.1 (by rw[hx.2.1];exact jZ _ _ _ hx.2.2)
  ·exact(eK.iQ h1 λk=>AE h1.b _ _ k).bind λx hx=>key x hx.1 (by rw[hx.2.1];exact hP _ _ _ hx.2.2)
 split
 ·refine(eK.order hw href _).bind λp hp2=>?_;obtain⟨w1,o⟩:=p;obtain⟨h1,rfl,h3,h4⟩:=hp2;dsimp only;refine(eK.iQ h1 λk=>AE h1.b _ _ k).bind λx hx=>?_;have hx1:=hx.1.tell 3 o.item o.iN (h64 _ o_ o_) (i8 h3.item) (i10 h3.iN);have hxo:(x.tell 3 o.item o.iN).b.aH=w.b.aH:=by show x.b.aH=_;rw[hx.2.1];exact hP _ _ _ hx.2.2
  have key:∀y:Wk,y.fit 2→y.b.aH=w.b.aH→eK (Wk.fit 8) (pure ((y.put o 4).tell 7 o.cC 2)):=λy hy ho =>
   eK.pure (((hy.put 4 h3 (by rw[mA ho];exact h4)).tell _ _ _ (h64 _ o_ o_) (i8 h3.cC) (h64 _ o_ o_)).le o_)
  split
  ·refine eK.bind (p:=λy=>Wk.fit 2 y∧y.b.aH=w.b.aH) ?_ λy hy=>key y hy.1 hy.2;refine(eK.iQ hx1 λk=>wD hx1.b _ _ k).bind λy hy=>eK.pure ⟨hy.1.tell _ _ _ (h64 _ o_ o_) (i8 h3.cC) (i40 h3.cost),?_⟩;show y.b.aH=_;rw[hy.2.1];exact(fS _ _ _ hy.2.2).trans hxo
  ·exact eK.bind (p:=λy=>Wk.fit 2 y∧y.b.aH=w.b.aH) (eK.ok ⟨hx1.le o_,hxo⟩) λy hy=>key y hy.1 hy.2
 split
 ·refine(eK.order hw href _).bind λp hp2=>?_;obtain⟨w1,o⟩:=p;obtain⟨h1,rfl,h3,h4⟩:=hp2;dsimp only;split
  ·exact eK.error
  ·have hc:=Mo hw.b.ok (i:=o.item) h3.iN.1;refine(eK.iQ h1 λk=>MC h1.b _ _ k).bind λx hx=>?_;refine eK.pure ((((hx.1.put 2 (o:={ o with cost:=(mY w.b o.item o.iN).1 }) ⟨h3.id,h3.cC,h3.item,h3.iN,hc⟩ ?_).tell _ _ _ (h64 _ o_ o_) (i8 h3.cC) (i40 hc)).tell _ _ _ (h64 _ o_ o_) (i8 h3.cC) (i40 hc)).le o_);rw[mA (show x.b.aH=w.b.aH by rw[hx.2.1];exact nU _ _ _ hx.2.2)];exact h4
 split
 ·refine(eK.order hw href _).bind λp hp2=>?_;obtain⟨w1,o⟩:=p;obtain⟨h1,rfl,h3,h4⟩:=hp2;have i1:=i8 h3.item;have i2:=i10 h3.iN;exact eK.pure (((((h1.put 3 h3 h4).tell _ _ _ (h64 _ o_ o_) i1 i2).tell _ _ _ (h64 _ o_ o_) i1 i2).tell _ _ _ (h64 _ o_ o_) i1 i2).tell _ _ _ (h64 _ o_ o_) (i8 h3.cC) (h64 _ o_ o_) |>.le o_)
 split
 ·refine(eK.order hw href _).bind λp hp2=>?_;obtain⟨w1,o⟩:=p;obtain⟨h1,rfl,h3,h4⟩:=hp2;dsimp only;refine(eK.iQ h1 λk=>wD h1.b _ _ k).bind λx hx=>?_;refine eK.pure (((hx.1.put 5 h3 ?_).tell _ _ _ (h64 _ o_ o_) (i8 h3.cC) (i40 h3.cost)).le o_);rw[mA (show x.b.aH=w.b.aH by rw[hx.2.1];exact fS _ _ _ hx.2.2)];exact h4
 split
 ·exact(eK.iQ hw λk=>HU hw.b _ _ k).mono λx hx=>hx.1.le o_
 ·exact eK.error
structure Out.fit(o:Out):Prop where
 zM:∀f∈o.zM,f.ok
 len:o.zM.length≤8
theorem Ki{b:Bk}(h:b.fit){c:aX}(hc:c.ok):(C0 b c).1.fit∧(C0 b c).2.fit:=by
 have hw:Wk.fit 0 ⟨b,[],⟨0,0⟩⟩:=⟨h,(λ_ h=>(aAk h).elim),aAf _,⟨show dQ 0 from⟨by decide,by decide⟩,show dQ 0 from⟨by decide,by decide⟩⟩⟩
 unfold C0;cases hd:Wk.do ⟨b,[],⟨0,0⟩⟩ c with
 |ok w=>have:=Wk.VT hw hc w hd;exact⟨this.b,this.out,this.len⟩
 |error k=>exact⟨h,(λ_ h=>(aAk h).elim),aAh _⟩
theorem mG{b:Bk}(h:b.fit){l:List aX}(hl:∀c∈l,c.ok):(gH b l).1.fit∧∀o∈(gH b l).2,o.fit:=by
 induction l generalizing b with
 |nil=>exact⟨h,λ_ h=>by cases h⟩
 |cons c l ih =>
  have h1:=Ki h (hl c aBo);have h2:=ih h1.1 λx hx=>hl x (aBl _ hx);refine⟨h2.1,λo ho=>?_⟩;rcases aEj.1 ho with rfl|ho
  ·exact h1.2
  ·exact h2.2 o ho
theorem lF{b:Bk}{l:List aX}:(gH b l).2.length=l.length:=by
 induction l generalizing b with
 |nil=>rfl
 |cons c l ih=>simp[gH,ih]
theorem pO{b:Bk}{l m:List aX}:gH b (l++m)=((gH (gH b l).1 m).1,(gH b l).2++(gH (gH b l).1 m).2):=by
 induction l generalizing b with
 |nil=>rfl
 |cons c l ih=>simp[gH,ih]
theorem pS:sY.fit:=⟨by refine⟨?_,?_,?_⟩<;>(unfold O8.BH;decide),λ_ h=>(aAk h).elim,aAh _⟩
end Go.Proofs.YtmilalkjbojciaaGreat.Sep
namespace Go.Proofs.YtmilalkjbojciaaGreat.Sep
open Go.RowKit Reg
open Mem hiding Rd
structure Ov where
 code:Int
 X:Option Addr
 n:Nat
 c:Nat
 zM:List cQ
abbrev Ov.cs(x:Ov):List Value:=[.int .i64 x.code,.slice x.X x.n x.c]
def Ov.d(x:Ov):Out:=⟨x.code,x.zM⟩
def rM:Ty Ov where
 val x:=.agg x.cs.toArray
 size:=2
 bytes:=32
 tid:=141
 zero:=.agg #[.int .i64 0,.slice none 0 0]
 hlen _:=rfl
 lJ a u h:=by simp[Value.cells] at h;rcases h with rfl|rfl<;>rfl
 gL:=sD
 hzero:=rfl
 fW:=q_
 nR:=.inl ⟨q_,λ_=>⟨_,rfl⟩⟩
instance:kQ 141 Ov rM:=⟨rfl⟩
instance:lL rM 32:=⟨rfl⟩
instance:Bg 141 [.int .i64 0,.slice none 0 0]:=⟨q_⟩
instance:Bg 46 [.slice none 0 0]:=⟨q_⟩
abbrev dM(x:Ov):aL:=own eG x.X x.n x.c x.zM
structure Bh where
 b:Bk
 A:Option Addr
 m:Nat
 c:Nat
abbrev Bh.cs(x:Bh):List Value:=x.b.cs x.A x.m x.c
abbrev iR(x:Bh):aL:=own eB x.A x.m x.c x.b.aH
theorem UH(E:Env)(x:Bh)(hr:Rd E eB x.A x.m x.c x.b.aH)(hb:x.b.fit)(ch:aX):G E 219 [.agg x.cs.toArray,.agg ch.cs.toArray] []
  λe H'=>∃(y:Bh) (o:Ov),y.b=(C0 x.b ch).1∧o.d=(C0 x.b ch).2∧e=.returned (.tuple #[.agg y.cs.toArray,.agg o.cs.toArray])∧H'=[iR y,dM o]:=by
 have hm:x.m≤1000:=by have:=hr.len;have:=hb.len;omega
 refine aK.mono (VR E x.b x.A x.m x.c hr hb.ok (λo ho=>(hb.C7 o ho).iN) hm ch) ?_;rintro e H' ⟨B,m',d,X,n,k,rfl,rfl⟩;exact⟨⟨(C0 x.b ch).1,B,m',d⟩,⟨(C0 x.b ch).2.code,X,n,k,(C0 x.b ch).2.zM⟩,rfl,rfl,rfl,rfl⟩
theorem M9(E:Env)(x:Bh)(Z:Option Addr)(n k:Nat):G E 165 [.agg x.cs.toArray,.slice Z n k] []
  λe H'=>∃g1 g2,e=.returned (.func (.func 218) #[] #[.pointer (some ⟨g1,0,none⟩),.pointer (some ⟨g2,0,none⟩)])∧H'=[aJ g1 24 [.slice Z n k],aJ g2 45 x.cs]:=by
 dsimp only[Bh.cs,Bk.cs,G];refine t_ func165 ntmps165 ?_;repeat first|refine v_ ?_|intro
 exact aR rfl aF aA ⟨_,_,rfl,rfl⟩
abbrev W9:=List Ov×Bh
def FB(s:W9)(x:Ov×Bh):W9:=(s.1++[x.1],x.2)
abbrev Jw(x:Ov×Bh):List Value:=[.agg x.1.cs.toArray,.agg x.2.cs.toArray]
theorem JM(E:Env)(g1 g2:Nat)(f0:Bh)(hb:f0.b.fit)(Z:Option Addr)(n k:Nat)(l:List aX)(hl:Rd E bE Z n k l)(hok:∀c∈l,c.ok)(hn:n≤1000000)(lp:Nat)(J:W9→aL)
  (hy:∀E2 R2 s x,Sub E R2 E2→s.1.length≤1000000→Ps prog E2 lp (Jw x) (J s::[dM x.1]) (λe H'=>e=.returned (.bool true)∧H'=[J (FB s x)])) :
  aK prog E 218 #[.func (.yield lp) #[] #[],.pointer (some ⟨g1,0,none⟩),.pointer (some ⟨g2,0,none⟩)] (J ([],f0)::[aJ g1 24 [.slice Z n k],aJ g2 45 f0.cs,iR f0])
   (λe H'=>(∃v,e=.returned v)∧∃(s:W9) (Hd:List aL),(s.1.map Ov.d=(gH f0.b l).2∧s.2.b=(gH f0.b l).1∧Hd=[aJ g1 24 [.slice Z n k],aJ g2 45 s.2.cs,iR s.2])∧H'=J s::Hd):=by
 have hlen:=hl.len;have hcap:=hl.cap;have hmax:=fX;refine X8 func218 rfl ntmps218 (by simp) ?_;repeat (first|refine HI ?_|refine HC ?_|intro _)
 refine CI.loop (X:=Nat×W9) (λs=>[(0,.func (.yield lp) #[] #[]),(1,.pointer (some ⟨g1,0,none⟩)),(2,.pointer (some ⟨g2,0,none⟩)),(7,.slice Z n k),(8,.int .i64 n),(9,.int .i64 s.1)]) (λs=>[J s.2,aJ g1 24 [.slice Z n k],aJ g2 45 s.2.2.cs,iR s.2.2])
  (λs=>s.1≤n∧s.2.1.map Ov.d=(gH f0.b (l.take s.1)).2∧s.2.2.b=(gH f0.b (l.take s.1)).1) (λs=>n - s.1) (0,[],f0) aD aA ⟨aAh _,rfl,rfl⟩ ?_
 rintro⟨i,s⟩ G ⟨hi,hs1,hs2⟩;dsimp only at hi hs1 hs2⊢;by_cases hlt:i<n
 ·obtain⟨c,hc⟩:∃c,l[i]?=some c:=⟨_,aAa o_⟩
  have hfit:s.2.b.fit:=by rw[hs2];exact(mG hb λx hx=>hok x (aBs hx)).1
  have law:=λM hr=>UH M s.2 hr hfit c;have hol:s.1.length≤n:=by rw[←aAw (f:=Ov.d),hs1,lF,aAg];omega
  obtain⟨os,y⟩:=s;dsimp only[Bh.cs,Bk.cs,aX.cs,iR,dM] at hs1 hs2 hfit law hol⊢;repeat (first|refine HI ?_|refine HC ?_|intro _)
  refine Zz sD sK aC (λM hE=>law M dB) ?_;rintro e H' ⟨z,o,hz,ho,rfl,rfl⟩;refine⟨_,rfl,_,bG,?_⟩;repeat (first|refine HI ?_|refine HC ?_|intro _)
  refine LI.yield sD rfl I7 aC (λM hE=>hy M _ (os,y) (o,z) hE (by dsimp only;omega)) ?_;rintro e H' ⟨rfl,rfl⟩;refine⟨_,rfl,_,bG,?_⟩;repeat (first|refine HI ?_|refine HC ?_|intro _)
  dsimp only[FB];refine⟨(i+1,os++[o],z),aD,aA,⟨by dsimp only;omega,?_,?_⟩,by dsimp only;omega⟩
  ·dsimp only;rw[take_succ hc,pO,←hs2];simp only[aBk,aCi,aDo,hs1,ho,gH]
  ·dsimp only;rw[take_succ hc,pO,←hs2];simp only[hz,gH]
 ·obtain rfl:i=n:=o_;rw[aAj o_] at hs1 hs2;repeat (first|refine HI ?_|refine HC ?_|intro _)
  exact gO rfl aA (⟨⟨_,rfl⟩,s,_,⟨hs1,hs2,rfl⟩,rfl⟩)
theorem CI.unpack{r:Option Nat}{P:Program}{N:Nat}{E:Env}{cd:Code}{Q:QF}{F:Nat→Value}{H R:List aL}{X:Type}{l:X→List aL}(hh:Has (pack l) H R)(h:∀x,CI r P N E cd Q F (l x++R)):CI r P N E cd Q F H:=⟨λa w ha hw=>by
 obtain⟨x,hx⟩:=hw.unpack hh;exact(h x).get a w ha hx⟩
theorem WJ.unpack{P:Program}{N:Nat}{E:Env}{cd:Code}{Qw:Exit→Act→World→Prop}{F:Nat→Value}{H R:List aL}{X:Type}{l:X→List aL}(hh:Has (pack l) H R)(h:∀x,WJ P N E cd Qw F (l x++R)):WJ P N E cd Qw F H:=⟨λa w ha hw=>by
 obtain⟨x,hx⟩:=hw.unpack hh;exact(h x).get a w ha hx⟩
abbrev KJ(g:Nat)(os:List Ov):aL:=pack λ(x:Option Addr×Nat)=>[aJ g 46 [.slice x.1 os.length x.2],own rM x.1 os.length x.2 os,aO dM os]
def Zr(b:Bk)(l:List aX):Ending→List aL→Prop:=λe H'=>∃(y:Bh) (O:Option Addr) (k:Nat) (os:List Ov),os.map Ov.d=(gH b l).2∧y.b=(gH b l).1∧e=.returned (.tuple #[.agg y.cs.toArray,.slice O os.length k])∧H'=[iR y,own rM O os.length k os,aO dM os]
theorem BM(E:Env)(f0:Bh)(hr:Rd E eB f0.A f0.m f0.c f0.b.aH)(hb:f0.b.fit)(Z:Option Addr)(n k:Nat)(l:List aX)(hl:Rd E bE Z n k l)(hok:∀c∈l,c.ok)(hn:n≤1000000):G E 102 [.agg f0.cs.toArray,.slice Z n k] [] (Zr f0.b l):=by
 have hlen:=hl.len;have hm:f0.m≤1000:=by have:=hr.len;have:=hb.len;omega
 obtain⟨b,A,m,c⟩:=f0;dsimp only at hm hr hb⊢;have clone:=λM hr=>FN M A m c b.aH hr o_;dsimp only[Bh.cs,Bk.cs,G];refine Ww func102 rfl ntmps102 (by simp) λhds=>?_;refine WJ.yR ?_;repeat first|refine v_ ?_|intro
 refine WJ.yR ?_;repeat first|refine v_ ?_|intro
 refine dX clone ?_;rintro e H' ⟨B,d,hd,rfl,rfl⟩;repeat first|refine v_ ?_|intro
 refine WJ.yR ?_;repeat first|refine v_ ?_|intro
 refine WJ.yR ?_;repeat first|refine v_ ?_|intro
 rename_i g2 g4 g6 g7;refine WJ.seq ?_;refine WJ.yR ?_;repeat first|refine v_ ?_|intro
 refine bW (λM=>M9 M ⟨b,B,m,d⟩ Z n k) ?_;rintro e H' ⟨g1,g3,rfl,rfl⟩;repeat first|refine v_ ?_|intro
 refine WJ.rg (Y:=Nat×Nat) (ps:=[18,19]) Jw (λx=>[dM x.1]) FB (λs=>[aJ g4 45 (sY.cs none 0 0),KJ g6 s.1,aJ g7 45 s.2.cs]) ([],⟨b,B,m,d⟩)
  (λs x y=>[(4,.pointer (some ⟨g4,0,none⟩)),(6,.pointer (some ⟨g6,0,none⟩)),(7,.pointer (some ⟨g7,0,none⟩)),(8,.pointer (some ⟨y.1,0,none⟩)),(9,.pointer (some ⟨y.2,0,none⟩))])
  (λs x y=>[aJ y.1 141 x.1.cs,aJ y.2 45 x.2.cs,dM x.1,aJ g4 45 (sY.cs none 0 0),KJ g6 s.1,aJ g7 45 s.2.cs])
  (Hit:=[aJ g1 24 [.slice Z n k],aJ g3 45 (b.cs B m d),own eB B m d b.aH])
  (λs Hd=>s.1.map Ov.d=(gH b l).2∧s.2.b=(gH b l).1∧Hd=[aJ g1 24 [.slice Z n k],aJ g3 45 s.2.cs,iR s.2]) (λs _=>s.1.length≤1000000)
  hds rfl ⟨_,func218,q_,rfl⟩ (λ_=>rfl) sD ?_
  (λM R' lp J hE hy=>JM M g1 g3 ⟨b,B,m,d⟩ hb Z n k l (hl.sub hE) hok hn lp J hy) ?_ ?_ ?_
 ·unfold KJ;dsimp only[Bh.cs,Bk.cs,List.length_nil,List.cons_append,List.nil_append];refine aB.trans (aB.nil rM) (aB.trans (aB.kP dM) ?_);exact aB.trans (aB.pack (l:=λ(x:Option Addr×Nat)=>[aJ g6 46 [.slice x.1 0 x.2],own rM x.1 0 x.2 [],aO dM []]) (none,0) aC) aA
 ·rintro E2 R3 lp s x hE hd hs;obtain⟨o,y⟩:=x;dsimp only[Bh.cs,Bk.cs,Jw,Ov.cs,List.cons_append,List.nil_append];repeat (first|refine HI ?_|refine HC ?_|intro _)
  exact⟨(_,_),aD,aA⟩
 ·rintro E2 R3 lp s x y Gf hE hd hs;obtain⟨o,z⟩:=x;dsimp only[Bh.cs,Bk.cs,Jw,Ov.cs];refine CI.unpack aS λx=>?_;obtain⟨O,k⟩:=x;dsimp only[List.cons_append,List.nil_append];repeat (first|refine HI ?_|refine HC ?_|intro _)
  rename_i O1 k1 _ _;have hl1:(s.1++[o]).length=s.1.length+1:=by simp
  dsimp only[FB,KJ];rw[hl1];refine⟨aB.trans (aB.push (f:=dM) (x:=o) aC) ?_⟩;exact aB.trans (aB.pack (l:=λ(x:Option Addr×Nat)=>[aJ g6 46 [.slice x.1 (s.1.length+1) x.2],own rM x.1 (s.1.length+1) x.2 (s.1++[o]),aO dM (s.1++[o])]) (O1,k1) aC) aA
 ·rintro D s Hd ⟨h1,h2,rfl⟩;dsimp only[Bh.cs,Bk.cs,iR,List.cons_append,List.nil_append];refine WJ.unpack aS λx=>?_;obtain⟨O,k⟩:=x;dsimp only[List.cons_append,List.nil_append];refine WJ.ZB ?_;repeat first|refine v_ ?_|intro
  refine rB (l_ [0,1] (g_ 2 (n_ 3 .nil))) ([aJ g7 45 _,aJ g6 46 _]) ?_;repeat first|refine v_ ?_|intro
  refine⟨_,aS,?_⟩;exact gS (H':=[own eB s.2.A s.2.m s.2.c s.2.b.aH,own rM O s.1.length k s.1,aO dM s.1]) rfl aF rfl rfl rfl aS rfl aF aA ⟨s.2,O,k,s.1,h1,h2,rfl,rfl⟩
theorem Pg(E:Env)(f0:Bh)(hr:Rd E eB f0.A f0.m f0.c f0.b.aH)(hb:f0.b.fit)(Z:Option Addr)(n k:Nat)(l:List aX)(hl:Rd E bE Z n k l)(hok:∀c∈l,c.ok)(hn:n≤1000000):G E 76 [.agg f0.cs.toArray,.slice Z n k] []
  λe H'=>∃y:Bh,y.b=(gH f0.b l).1∧e=.returned (.agg y.cs.toArray)∧H'=[iR y]:=by
 have run:=λM hr hl=>BM M f0 hr hb Z n k l hl hok hn;dsimp only[Bh.cs,Bk.cs,G] at run⊢;refine t_ func76 ntmps76 ?_;repeat first|refine v_ ?_|intro
 refine C1 run ?_;rintro e H' ⟨y,O,k1,os,h1,h2,rfl,rfl⟩;refine gk bG ?_;dsimp only[Bh.cs,Bk.cs,iR];repeat first|refine v_ ?_|intro
 exact cI rfl aF rfl rfl rfl aS rfl aA (⟨y,h2,rfl,rfl⟩)
def kD(f:cQ):Bool:=decide (7≤f.kind∧f.kind≤11)
def tG(f:cQ):Bool := !kD f&&decide (1≤f.kind∧f.kind≤11)
def mU(o:Out)(pF:Bool):List cQ:=if o.code=0 then o.zM.filter tG++(if pF then o.zM.filter kD else[]) else[]
theorem Ld(E:Env)(x:cQ):G E 272 [.agg x.cs.toArray] [] (cM (.bool (kD x)) []):=by
 unfold kD;refine t_ func272 ntmps272 ?_;repeat first|refine v_ ?_|intro
 exact B7
instance {x:cQ}:vZ 272 [.agg x.cs.toArray] (.bool (kD x)):=⟨λE=>Ld E x⟩
theorem GL(E:Env)(o:Ov)(pF:Bool)(hr:Rd E eG o.X o.n o.c o.zM)(hn:o.n≤1000):G E 211 [.agg o.cs.toArray,.bool pF] []
  λe H'=>∃Y m d,e=.returned (.slice Y m d)∧H'=[own eG Y m d (mU o.d pF)]:=by
 obtain⟨code,X,n,c,zM⟩:=o;have hlen:=hr.len;have hcap:=hr.cap;have hmax:=fX;unfold mU Ov.d;dsimp only at hlen hn hr hcap⊢;by_cases h:code=0
 ·rw[if_pos h];subst h;refine t_ func211 ntmps211 ?_;repeat first|refine v_ ?_|intro
  refine C.conv (aB.trans (aB.oR eG none) (aB.oR eG none)) ?_;refine C.scan (Y:=(Option Addr×Nat×Nat)×(Option Addr×Nat×Nat)) hlen (λi y=>[(1,.bool pF),(5,.slice y.1.1 y.1.2.1 y.1.2.2),(6,.slice y.2.1 y.2.2.1 y.2.2.2),(13,.slice X n c),(14,.int .i64 n),(15,.int .i64 i)])
   (λi y=>[own eG y.1.1 y.1.2.1 y.1.2.2 ((zM.take i).filter tG),own eG y.2.1 y.2.2.1 y.2.2.2 ((zM.take i).filter kD)]) (λi y=>y.1.2.1≤i∧y.2.2.1≤i) ((none,0,0),(none,0,0)) aD (by dsimp only[List.take_zero,List.filter_nil];exact aA) ⟨aAf _,aAf _⟩ ?_ ?_
  ·rintro i ⟨⟨A1,n1,c1⟩,⟨A2,n2,c2⟩⟩ x G hi hx ⟨h1,h2⟩;dsimp only at h1 h2⊢;have hf:∀p:cQ→Bool,(zM.take (i+1)).filter p=if p x=true then(zM.take i).filter p++[x] else(zM.take i).filter p:=λp=>by
    rw[take_succ hx,List.filter_append];cases hp:p x<;>simp[List.filter,hp]
   rw[hf,hf];cases hL:kD x with
   |true =>
    rw[if_neg (show ¬tG x=true by simp[tG,hL]),if_pos rfl];repeat first|refine v_ ?_|intro
    refine⟨((A1,n1,c1),(_,n2+1,_)),aD,aA,by dsimp only;omega,by dsimp only;omega⟩
   |false =>
    by_cases hN:1≤x.kind∧x.kind≤11
    ·rw[if_pos (show tG x=true by simp[tG,hL,hN]),if_neg sD];repeat first|refine v_ ?_|intro
     refine⟨((_,n1+1,_),(A2,n2,c2)),aD,aA,by dsimp only;omega,by dsimp only;omega⟩
    ·rw[if_neg (show ¬tG x=true by simp[tG,hL];omega),if_neg sD];repeat first|refine v_ ?_|intro
     refine⟨((A1,n1,c1),(A2,n2,c2)),aD,aA,by dsimp only;omega,by dsimp only;omega⟩
  ·rintro⟨⟨A1,n1,c1⟩,⟨A2,n2,c2⟩⟩ G ⟨h1,h2⟩;rw[aAj o_];dsimp only at h1 h2⊢;cases pF with
   |true =>
    rw[show(if true=true then zM.filter kD else[])=zM.filter kD from rfl];repeat first|refine v_ ?_|intro
    exact jQ ⟨_,_,_,rfl,rfl⟩
   |false =>
    rw[show(if false=true then zM.filter kD else[])=[] from rfl,aAc];repeat first|refine v_ ?_|intro
    exact jQ ⟨_,_,_,rfl,rfl⟩
 ·rw[if_neg h];refine t_ func211 ntmps211 ?_;repeat first|refine v_ ?_|intro
  exact aR rfl aF (aB.trans (aB.oR eG none) aA) ⟨none,0,0,rfl,rfl⟩
instance:cL 153 ([.slice none 0 0,.slice none 0 0]++sY.cs none 0 0++[.bool false,.pointer none,.int .i64 0,.int .i64 0,.int .i64 0,.int .i64 0,.int .i64 0,.int .i64 0,.int .i64 0,.int .i64 0]) [(0,27),(27,1),(28,1),(29,4),(33,4)]:=⟨⟨q_,q_⟩⟩
structure Lg where
 l:List aX
 t:List aX
 known:V4
 times:V4
structure Lh where
 g:Nat
 A:Option Addr
 c:Nat
 O:Option Addr
 k:Nat
 os:List Ov
 y:Bh
 gt:Nat
 T:Option Addr
 q:Nat
abbrev tE(h:Lh)(v:Lg):List Value:=[.slice h.A v.l.length h.c,.slice h.O h.os.length h.k]++h.y.cs++[.bool true,pt h.gt]++v.known.cs++v.times.cs
structure Lf(h:Lh)(v:Lg):Prop where
 outs:h.os.map Ov.d=(gH sY v.l).2
 base:h.y.b=(gH sY v.l).1
 len:v.l.length+v.t.length≤48
 RB:∀c∈v.l,c.ok
 tok:∀c∈v.t,c.ok
 known:v.known.ok
 times:v.times.ok
theorem Lf.n{h:Lh}{v:Lg}(f:Lf h v):h.os.length=v.l.length:=by
 have:=congrArg List.length f.outs
 rwa [aAw,lF] at this
theorem Lf.fit{h:Lh}{v:Lg}(f:Lf h v):h.y.b.fit:=by rw[f.base];exact(mG pS f.RB).1
structure PB(E:Env)(h:Lh)(v:Lg):Prop where
 b:gE E h.g (tE h v)
 l:Rd E bE h.A v.l.length h.c v.l
 o:Rd E rM h.O h.os.length h.k h.os
 y:Rd E eB h.y.A h.y.m h.y.c h.y.b.aH
 tb:gE E h.gt [.slice h.T v.t.length h.q]
 t:Rd E bE h.T v.t.length h.q v.t
def mC(h:Lh)(v:Lg):List aL:=[aJ h.g 153 (tE h v),own bE h.A v.l.length h.c v.l,own rM h.O h.os.length h.k h.os,iR h.y,aJ h.gt 221 [.slice h.T v.t.length h.q],own bE h.T v.t.length h.q v.t]
section
variable (E:Env) (h:Lh) (v:Lg)
theorem nV(hb:gE E h.g (tE h v)):G E 74 [pt h.g] [] (cM (.bool true) []):=by
 dsimp only[tE,Bh.cs,Bk.cs,List.cons_append,List.nil_append] at hb;refine t_ func74 ntmps74 ?_;repeat first|refine v_ ?_|intro
 exact B7
theorem JW(r:PB E h v)(f:Lf h v):G E 16 [pt h.g] [] λe H'=>∃B k,(v.l.length≤k∧k≤maxLen)∧e=.returned (.slice B v.l.length k)∧H'=[own bE B v.l.length k v.l]:=by
 obtain⟨hb,hl,ho,hy,htb,ht⟩:=r;have hln:=f.len;have is:=λM hb=>nV M h v hb;have cln:=λM hr=>xN M h.A v.l.length h.c v.l hr o_;dsimp only[tE,Bh.cs,Bk.cs,List.cons_append,List.nil_append] at hb is;refine t_ func16 ntmps16 ?_;repeat first|refine v_ ?_|intro
 refine eV is ?_;repeat first|refine v_ ?_|intro
 refine cl sD sK aC (λM hE=>cln M (hl.sub hE)) ?_;rintro e H' ⟨B,d,hd,rfl,rfl⟩;repeat first|refine v_ ?_|intro
 exact jQ ⟨_,_,hd,rfl,rfl⟩
theorem Ih(r:PB E h v)(f:Lf h v):G E 40 [pt h.g] [] λe H'=>∃B k,(v.t.length≤k∧k≤maxLen)∧e=.returned (.slice B v.t.length k)∧H'=[own bE B v.t.length k v.t]:=by
 obtain⟨hb,hl,ho,hy,htb,ht⟩:=r;have hln:=f.len;have is:=λM hb=>nV M h v hb;have all:=λM hb hr=>tX M h.gt h.T v.t.length h.q v.t hb hr o_;dsimp only[tE,Bh.cs,Bk.cs,List.cons_append,List.nil_append] at hb is;refine t_ func40 ntmps40 ?_;repeat first|refine v_ ?_|intro
 refine eV is ?_;repeat first|refine v_ ?_|intro
 refine cl sD sK aC (λM hE=>all M (htb.sub hE) (ht.sub hE)) ?_;rintro e H' ⟨B,d,hd,rfl,rfl⟩;repeat first|refine v_ ?_|intro
 exact jQ ⟨_,_,hd,rfl,rfl⟩
theorem aJp(r:PB E h v)(f:Lf h v):G E 41 [pt h.g] [] λe H'=>∃y:Bh,y.b=(gH sY v.l).1∧e=.returned (.agg y.cs.toArray)∧H'=[iR y]:=by
 have hfit:=f.fit;obtain⟨hb,hl,ho,hy,htb,ht⟩:=r;have is:=λM hb=>nV M h v hb;have last:=λM hr=>Pg M h.y hr hfit none 0 0 [] (Rd.nil _ _) (λ_ h=>(aAk h).elim) o_;dsimp only[tE,Bh.cs,Bk.cs,List.cons_append,List.nil_append] at hb is last;refine t_ func41 ntmps41 ?_;repeat first|refine v_ ?_|intro
 refine eV is ?_;repeat first|refine v_ ?_|intro
 refine cl sD sK aC (λM hE=>last M (hy.sub hE)) ?_;rintro e H' ⟨y,h1,rfl,rfl⟩;repeat first|refine v_ ?_|intro
 exact cI rfl aF rfl rfl rfl aS rfl aA (⟨y,h1.trans f.base,rfl,rfl⟩)
theorem aJm(r:PB E h v)(f:Lf h v):G E 18 [pt h.g] [] λe H'=>∃y:Bh,y.b=(gH sY (v.l++v.t)).1∧e=.returned (.agg y.cs.toArray)∧H'=[iR y]:=by
 have hfit:=f.fit;have hln:=f.len;obtain⟨hb,hl,ho,hy,htb,ht⟩:=r;have is:=λM hb=>nV M h v hb;have all:=λM hb hr=>tX M h.gt h.T v.t.length h.q v.t hb hr o_;have last:=λM hr B d hl=>Pg M h.y hr hfit B v.t.length d v.t hl f.tok o_;dsimp only[tE,Bh.cs,Bk.cs,List.cons_append,List.nil_append] at hb is last;refine t_ func18 ntmps18 ?_;repeat first|refine v_ ?_|intro
 refine eV is ?_;repeat first|refine v_ ?_|intro
 refine rB (l_ [0,1,2,3,4,5,6,7,8] (g_ 9 (g_ 10 (g_ 11 .nil)))) ([]) ?_;repeat first|refine v_ ?_|intro
 refine cg rfl sD bA sK aC (λM hE=>all M (htb.sub hE) (ht.sub hE)) ?_;rintro e H' ⟨B,d,hd,rfl,rfl⟩;repeat first|refine v_ ?_|intro
 refine cg rfl sD bA sK aC (λM hE=>last M (hy.sub hE) B d dB) ?_;rintro e H' ⟨y,h1,rfl,rfl⟩;refine gd bG aA ?_;dsimp only[Bh.cs,Bk.cs];repeat first|refine v_ ?_|intro
 exact cI rfl aF rfl rfl rfl aS rfl aA (⟨y,by rw[pO,←f.base,h1],rfl,rfl⟩)
theorem Vc(r:PB E h v)(f:Lf h v):G E 96 [pt h.g] [] (cM (.agg (L0 (v.l++v.t)).cs.toArray) []):=by
 have hln:=f.len;obtain⟨hb,hl,ho,hy,htb,ht⟩:=r;have is:=λM hb=>nV M h v hb;have all:=λM hb hr=>tX M h.gt h.T v.t.length h.q v.t hb hr o_;dsimp only[tE,Bh.cs,Bk.cs,List.cons_append,List.nil_append] at hb is;refine t_ func96 ntmps96 ?_;repeat first|refine v_ ?_|intro
 refine eV is ?_;repeat first|refine v_ ?_|intro
 refine rB (l_ [0,1,2,3,4,5,6,7,8] (g_ 9 (g_ 10 (g_ 11 (g_ 12 (g_ 13 .nil)))))) ([]) ?_;repeat first|refine v_ ?_|intro
 refine cg rfl sD bA sK aC (λM hE=>all M (htb.sub hE) (ht.sub hE)) ?_;rintro e H' ⟨B,d,hd,rfl,rfl⟩;repeat first|refine v_ ?_|intro
 refine cg rfl sD bA sK aC (λM hE=>zJ M _ _ _ _ dB (by intro s hs;simp at hs;rcases hs with rfl|rfl;exact hl.sub hE;exact dB) (by simp;omega)) ?_;simp only[aDy,aEu,aAc];rintro e H' ⟨B2,d2,hd2,rfl,rfl⟩;repeat first|refine v_ ?_|intro
 refine Ib (λM=>RJ M _ _ _ _) ?_;repeat first|refine v_ ?_|intro
 exact Kz
theorem V.Za{ρ:Operand→Value}{o:Oper}{P:Program}{x y z t:Operand}{tys:Array TypeId}{k:IntKind}{a b c d:Int}{u:World}(ho:o.op=.call { callee:=.builtin .max,args:=#[x,y,z,t],argTypes:=tys })(hx:ρ x=.int k a)(hy:ρ y=.int k b)(hz:ρ z=.int k c)(ht:ρ t=.int k d):(execOp ρ o).run P u=.ok (.value (.int k (Max.max (Max.max (Max.max a b) c) d))) u:=by
 have e:∀p q:Int,(if q > p then q else p)=Max.max p q:=λp q=>by rw[Int.max_def];split<;>split<;>omega
 have h:(Builtin.max_ tys o.type #[.int k a,.int k b,.int k c,.int k d]).run P u=.ok (.int k (if d > (if c > (if b > a then b else a) then c else(if b > a then b else a)) then d else(if c > (if b > a then b else a) then c else(if b > a then b else a)))) u:=by
  simp[Builtin.max_,Builtin.max2]
 simp only[e] at h;generalize Max.max (Max.max (Max.max a b) c) d=M_ at h⊢;simp[execOp,ho,resolve,hx,hy,hz,ht,invoke,builtin,h]
def sF(v:Lg):Int:=Max.max (Max.max (Max.max v.times.a v.times.b) v.times.c) v.times.d
theorem UX(r:PB E h v)(_f:Lf h v):G E 97 [pt h.g] [] (cM (.int .i64 (sF v)) []):=by
 obtain⟨hb,hl,ho,hy,htb,ht⟩:=r;have is:=λM hb=>nV M h v hb;dsimp only[tE,Bh.cs,Bk.cs,List.cons_append,List.nil_append] at hb is;refine t_ func97 ntmps97 ?_;repeat first|refine v_ ?_|intro
 refine eV is ?_;repeat first|refine v_ ?_|intro
 refine rA (l_ [0,1,2,3,4,5,6,7,8,9,10,11,12,13,14,15,16,17,18,19,20,21] .nil) ?_;repeat first|refine v_ ?_|intro
 refine Dr.take rfl sD bA (λ_ _=>V.Za rfl rfl rfl rfl rfl) ?_;repeat first|refine v_ ?_|intro
 exact B7
theorem VK(r:PB E h v)(_f:Lf h v):G E 115 [pt h.g] [] (cM (.tuple #[.agg ((v.t[0]?).getD dO).id.cs.toArray,.bool (!v.t.isEmpty)]) []):=by
 obtain⟨hb,hl,ho,hy,htb,ht⟩:=r;have is:=λM hb=>nV M h v hb;have first:=λM hb hr=>JE M h.gt h.T v.t.length h.q v.t hb hr
 dsimp only[tE,Bh.cs,Bk.cs,List.cons_append,List.nil_append] at hb is;generalize (v.t[0]?).getD dO=c at first⊢
 dsimp only[aX.cs] at first
 refine t_ func115 ntmps115 ?_;repeat first|refine v_ ?_|intro
 refine eV is ?_;repeat first|refine v_ ?_|intro
 refine cl sD sK aC (λM hE=>first M (htb.sub hE) (ht.sub hE)) ?_;rintro e H' ⟨rfl,rfl⟩;repeat first|refine v_ ?_|intro
 exact Sa
end
theorem Rq(E:Env)(A:Option Addr)(n c:Nat)(l:List Ov)(hr:Rd E rM A n c l)(hl:n≤1000000):G E 142 [.slice A n c] [] λe H'=>∃B k,(n≤k∧k≤maxLen)∧e=.returned (.slice B n k)∧H'=[own rM B n k l]:=by
 refine t_ func142 ntmps142 ?_;cases A with
 |none =>
  obtain⟨rfl,rfl⟩:=hr.none;repeat first|refine v_ ?_|intro
  exact aR rfl aF (aB.oR rM none) ⟨none,0,⟨aAf _,aAh _⟩,rfl,rfl⟩
 |some a =>
  repeat first|refine v_ ?_|intro
  rename_i B k h1 h2;exact jQ ⟨_,_,⟨h1,h2⟩,rfl,rfl⟩
theorem NR(E:Env)(o:Ov)(hr:Rd E eG o.X o.n o.c o.zM)(hn:o.n≤1000):G E 173 [.agg o.cs.toArray] [] λe H'=>∃z:Ov,z.d=o.d∧e=.returned (.agg z.cs.toArray)∧H'=[dM z]:=by
 have cln:=λM hr=>RV M o.X o.n o.c o.zM hr o_;dsimp only[Ov.cs,G];refine t_ func173 ntmps173 ?_;repeat first|refine v_ ?_|intro
 refine cl sD sK aC (λM hE=>cln M (hr.sub hE)) ?_;rintro e H' ⟨B,d,hd,rfl,rfl⟩;repeat first|refine v_ ?_|intro
 exact cI rfl aF rfl rfl rfl aS rfl aA (⟨⟨o.code,B,o.n,d,o.zM⟩,rfl,rfl,rfl⟩)
theorem KP{P:Program}{E:Env}{F:Nat→Value}{H H' R:List aL}{fn:Func}{Q:Ending→List aL→Prop}{t g u s:Nat}{ty bt:TypeId}{cs:List Value}{d:TypeDesc}{ti:TypeInfo}{v v2:Value}(hr:fn.results=#[.cell t ty,.tmp u,.tmp s])(hv:F t=.pointer (some ⟨g,0,none⟩))(ht:P.underlying ty=some d)(hd:lT d=true)(hi:P.info? ty=some ti)(hb:Has (aJ g bt cs) H R)(hm:ti.size=cs.length)
  (hu:F u=v) (hs:F s=v2) (hc:aB E H H') (h:Q (.returned (.tuple #[.agg cs.toArray,v,v2])) H'):gF P E fn Q .ret F H:=by
 refine⟨.tuple #[.agg cs.toArray,v,v2],H',λw hw=>?_,hc,h⟩;subst hu hs;obtain⟨h1,h2⟩:=mL hv ht hd hi hb hm hw;simp[yC,hr,h1,h2]
section
variable (E:Env) (h:Lh) (v:Lg)
theorem Hy(r:PB E h v)(f:Lf h v):G E 73 [pt h.g] [] λe H'=>∃h2:Lh,h2.os=h.os∧Lf h2 v∧e=.returned (pt h2.g)∧H'=mC h2 v:=by
 have hfit:=f.fit;have hln:=f.len;have hos:=f.n;obtain⟨hb,hl,ho,hy,htb,ht⟩:=r;have is:=λM hb=>nV M h v hb;have c1:=λM hr=>xN M h.A v.l.length h.c v.l hr o_;have c2:=λM hr=>Rq M h.O h.os.length h.k h.os hr o_;have tc:=λM hb hr=>JK M h.gt h.T v.t.length h.q v.t hb hr o_;have last:=λM hr=>Pg M h.y hr hfit none 0 0 [] (Rd.nil _ _) (λ_ h=>(aAk h).elim) o_;dsimp only[tE,Bh.cs,Bk.cs,V4.cs,List.cons_append,List.nil_append] at hb is last;refine t_ func73 ntmps73 ?_;repeat first|refine v_ ?_|intro
 refine cl sD sK aC (λM hE=>is M (hb.sub hE)) ?_;rintro e H' ⟨rfl,rfl⟩;repeat first|refine v_ ?_|intro
 refine rB (l_ [0,1,2,3,4,6,7,8,9,10,12,13,14,15,16] (g_ 5 (g_ 11 (g_ 17 (l_ [18,19] (g_ 20 (l_ [21,22] (g_ 23 (l_ [24,25] (g_ 26 .nil)))))))))) ([]) ?_;repeat first|refine v_ ?_|intro
 refine cg rfl sD bA sK aC (λM hE=>c1 M (hl.sub hE)) ?_;rintro e H' ⟨B,d,hd,rfl,rfl⟩;repeat first|refine v_ ?_|intro
 refine cg rfl sD bA sK aC (λM hE=>c2 M (ho.sub hE)) ?_;rintro e H' ⟨B2,d2,hd2,rfl,rfl⟩;repeat first|refine v_ ?_|intro
 refine cg rfl sD bA sK aC (λM hE=>last M (hy.sub hE)) ?_;rintro e H' ⟨y,h1,rfl,rfl⟩;refine gd bG aA ?_;dsimp only[Bh.cs,Bk.cs,iR];repeat first|refine v_ ?_|intro
 refine cl sD sK aC (λM hE=>tc M (htb.sub hE) (ht.sub hE)) ?_;rintro e H' ⟨q,A,k,rfl,rfl⟩;repeat first|refine v_ ?_|intro
 rename_i g3;exact aR (H':=mC ⟨g3,B,d,B2,d2,h.os,y,q,A,k⟩ v) rfl aF (by unfold mC;dsimp only[tE,Bh.cs,Bk.cs,V4.cs,iR,List.cons_append,List.nil_append];exact aA) ⟨⟨g3,B,d,B2,d2,h.os,y,q,A,k⟩,rfl,⟨f.outs,h1.trans f.base,f.len,f.RB,f.tok,f.known,f.times⟩,rfl,rfl⟩
def Bw(E:Env)(os:List Ov):Prop:=∀o∈os,Rd E eG o.X o.n o.c o.zM
theorem Bw.sub{E M:Env}{R:List aL}{os:List Ov}(hr:Bw E os)(hE:Sub E R M):Bw M os:=λo ho=>(hr o ho).sub hE
theorem U5{os:List Ov}{b:Bk}{l:List aX}(hb:b.fit)(hl:∀c∈l,c.ok)(hm:os.map Ov.d=(gH b l).2){o:Ov}(ho:o∈os):o.d.fit:=(mG hb hl).2 _ (hm▸aFi ho)
def cE(v:Lg)(a:bJ):Out×Bool×Bool :=
 if 0≤bI v.l a then(((gH sY v.l).2[(bI v.l a).toNat]?).getD ⟨0,[]⟩,true,true)
 else if 0≤bI v.t a then(((gH (gH sY v.l).1 (v.t.take ((bI v.t a).toNat+1))).2[(bI v.t a).toNat]?).getD ⟨0,[]⟩,false,true)
 else(⟨0,[]⟩,false,false)
theorem Ed(r:PB E h v)(f:Lf h v)(hro:Bw E h.os)(a:bJ):G E 110 [pt h.g,.agg a.cs.toArray] [] λe H'=>∃o:Ov,o.d=(cE v a).1∧e=.returned (.tuple #[.agg o.cs.toArray,.bool (cE v a).2.1,.bool (cE v a).2.2])∧H'=[dM o]:=by
 have hfit:=f.fit;have hln:=f.len;have hos:=f.n;obtain⟨hb,hl,ho,hy,htb,ht⟩:=r;have hmax:=fX;have is:=λM hb=>nV M h v hb;have all:=λM hb hr=>tX M h.gt h.T v.t.length h.q v.t hb hr o_;dsimp only[tE,Bh.cs,Bk.cs,V4.cs,List.cons_append,List.nil_append] at hb is;obtain⟨ar,aq⟩:=a;unfold cE;by_cases h1:0≤bI v.l ⟨ar,aq⟩
 ·rw[if_pos h1];obtain⟨k1,c1,hc1,_⟩:=gZ h1;have hil:(bI v.l ⟨ar,aq⟩).toNat<v.l.length:=k1;obtain⟨o,hoi⟩:∃o,h.os[(bI v.l ⟨ar,aq⟩).toNat]?=some o:=⟨_,aAa o_⟩
  have hod:(gH sY v.l).2[(bI v.l ⟨ar,aq⟩).toNat]?=some o.d:=by rw[←f.outs,aBf,hoi];rfl
  have hro1:=hro o (aAi hoi);have hn:o.n≤1000:=by have:=(U5 pS f.RB f.outs (aAi hoi)).len;have h2:=hro1.len;unfold Ov.d at this;dsimp only at this;omega
  have own:=λM hr=>NR M o hr hn;rw[hod];dsimp only[Option.getD,Ov.cs,bJ.cs] at own⊢;refine t_ func110 ntmps110 ?_;repeat first|refine v_ ?_|refine Dr.two ?_ ?_|intro
  refine cl sD sK aC (λM hE=>is M (hb.sub hE)) ?_;rintro e H' ⟨rfl,rfl⟩;repeat first|refine v_ ?_|refine Dr.two ?_ ?_|intro
  refine rA (l_ [0,1,2,3,4,5] (g_ 6 (n_ 7 .nil))) ?_;repeat first|refine v_ ?_|refine Dr.two ?_ ?_|intro
  refine cl sD sK aC (λM hE=>own M (hro1.sub hE)) ?_;rintro e H' ⟨z,hz,rfl,rfl⟩;refine gk bG ?_;dsimp only[Ov.cs,dM];repeat first|refine v_ ?_|refine Dr.two ?_ ?_|intro
  exact KP rfl aF rfl rfl rfl aS rfl aF aF aA ⟨z,hz,rfl,rfl⟩
 ·rw[if_neg h1];by_cases h2:0≤bI v.t ⟨ar,aq⟩
  ·rw[if_pos h2];obtain⟨k1,c1,hc1,_⟩:=gZ h2;have hil:(bI v.t ⟨ar,aq⟩).toNat<v.t.length:=k1;have hJ:(bI v.t ⟨ar,aq⟩+1).toNat=(bI v.t ⟨ar,aq⟩).toNat+1:=o_;have hJ2:(bI v.t ⟨ar,aq⟩+1).toNat≤v.t.length:=o_;have hup:bI v.t ⟨ar,aq⟩<48:=o_;have run:=λM hr B d hl=>BM M h.y hr hfit B (bI v.t ⟨ar,aq⟩+1).toNat d (v.t.take (bI v.t ⟨ar,aq⟩+1).toNat) hl (λc hc=>f.tok c (aBs hc)) o_;rw[←hJ];dsimp only[Bh.cs,Bk.cs,Ov.cs,bJ.cs] at run⊢;refine t_ func110 ntmps110 ?_;repeat first|refine v_ ?_|refine Dr.two ?_ ?_|intro
   refine cl sD sK aC (λM hE=>is M (hb.sub hE)) ?_;rintro e H' ⟨rfl,rfl⟩;repeat first|refine v_ ?_|refine Dr.two ?_ ?_|intro
   refine rA (l_ [0,1,2,3,4,5] (g_ 6 (n_ 7 .nil))) ?_;repeat first|refine v_ ?_|refine Dr.two ?_ ?_|intro
   refine cl sD sK aC (λM hE=>all M (htb.sub hE) (ht.sub hE)) ?_;rintro e H' ⟨B,d,hd,rfl,rfl⟩;repeat first|refine v_ ?_|refine Dr.two ?_ ?_|intro
   refine rA (l_ [0,1,2,3,4,5,6,7,8] (.two 9 (l_ [10,11,12] (g_ 13 (g_ 14 (n_ 15 .nil)))) 13 (g_ 9 (l_ [10,11,12] (g_ 14 (n_ 15 .nil)))))) ?_;repeat first|refine v_ ?_|intro
   refine Dr.two ?_ ?_
   ·refine yB rfl sD bA sK aC (λM hE=>run M (hy.sub hE) B d (Rd.upto (show Rd M bE B v.t.length d v.t from dB) hJ2 o_ (aAf _))) ?_;rintro e H' ⟨y,O,k,os,ho1,ho2,rfl,rfl⟩;repeat first|refine v_ ?_|refine Dr.two ?_ ?_|intro
    have hol:os.length=(bI v.t ⟨ar,aq⟩+1).toNat:=by
     have:=congrArg List.length ho1;rw[aAw,lF,aAg] at this;omega
    obtain⟨o,hoi⟩:∃o,os[(bI v.t ⟨ar,aq⟩).toNat]?=some o:=⟨_,aAa o_⟩
    have hod:(gH h.y.b (v.t.take (bI v.t ⟨ar,aq⟩+1).toNat)).2[(bI v.t ⟨ar,aq⟩).toNat]?=some o.d:=by rw[←ho1,aBf,hoi];rfl
    repeat first|refine v_ ?_|refine Dr.two ?_ ?_|intro
    exact KP (H':=[dM o]) rfl aF rfl rfl rfl aS rfl aF aF (aB.trans (aB.out (f:=dM) aS hoi) aA) ⟨o,by rw[←f.base,hod];rfl,rfl,rfl⟩
   ·repeat first|refine v_ ?_|intro
    refine cg rfl sD bA sK aC (λM hE=>run M (hy.sub hE) B d (Rd.upto (show Rd M bE B v.t.length d v.t from dB) hJ2 o_ (aAf _))) ?_;rintro e H' ⟨y,O,k,os,ho1,ho2,rfl,rfl⟩;repeat first|refine v_ ?_|refine Dr.two ?_ ?_|intro
    have hol:os.length=(bI v.t ⟨ar,aq⟩+1).toNat:=by
     have:=congrArg List.length ho1;rw[aAw,lF,aAg] at this;omega
    obtain⟨o,hoi⟩:∃o,os[(bI v.t ⟨ar,aq⟩).toNat]?=some o:=⟨_,aAa o_⟩
    have hod:(gH h.y.b (v.t.take (bI v.t ⟨ar,aq⟩+1).toNat)).2[(bI v.t ⟨ar,aq⟩).toNat]?=some o.d:=by rw[←ho1,aBf,hoi];rfl
    repeat first|refine v_ ?_|refine Dr.two ?_ ?_|intro
    exact KP (H':=[dM o]) rfl aF rfl rfl rfl aS rfl aF aF (aB.trans (aB.out (f:=dM) aS hoi) aA) ⟨o,by rw[←f.base,hod];rfl,rfl,rfl⟩
  ·rw[if_neg h2];dsimp only[Ov.cs,bJ.cs];refine t_ func110 ntmps110 ?_;repeat first|refine v_ ?_|refine Dr.two ?_ ?_|intro
   refine cl sD sK aC (λM hE=>is M (hb.sub hE)) ?_;rintro e H' ⟨rfl,rfl⟩;repeat first|refine v_ ?_|refine Dr.two ?_ ?_|intro
   refine rA (l_ [0,1,2,3,4,5] (g_ 6 (n_ 7 .nil))) ?_;repeat first|refine v_ ?_|refine Dr.two ?_ ?_|intro
   refine cl sD sK aC (λM hE=>all M (htb.sub hE) (ht.sub hE)) ?_;rintro e H' ⟨B,d,hd,rfl,rfl⟩;repeat first|refine v_ ?_|refine Dr.two ?_ ?_|intro
   exact KP rfl aF rfl rfl rfl aS rfl aF aF (aB.trans (aB.nil eG) aA) ⟨⟨0,none,0,0,[]⟩,rfl,rfl,rfl⟩
end
abbrev Hb:Lg:=⟨[],[],FR,FR⟩
theorem Xq(E:Env):G E 279 [] [] λe H'=>∃h:Lh,h.os=[]∧Lf h Hb∧e=.returned (pt h.g)∧H'=mC h Hb:=by
 refine t_ func279 ntmps279 ?_;repeat first|refine v_ ?_|intro
 rename_i g2 g4;refine aR (H':=mC ⟨g4,none,0,none,0,[],⟨sY,none,0,0⟩,g2,none,0⟩ Hb) rfl aF ?_ ⟨⟨g4,none,0,none,0,[],⟨sY,none,0,0⟩,g2,none,0⟩,rfl,⟨rfl,rfl,by decide,(λ_ h=>(aAk h).elim),(λ_ h=>(aAk h).elim),by unfold V4.ok;decide,by unfold V4.ok;decide⟩,rfl,rfl⟩;unfold mC;dsimp only[tE,Bh.cs,Bk.cs,V4.cs,iR,List.length_nil,List.cons_append,List.nil_append];exact aB.trans (aB.nil bE) (aB.trans (aB.nil bE) (aB.trans (aB.nil rM) (aB.trans (aB.nil eB) aA)))
section
variable (E:Env) (h:Lh) (v:Lg)
def Ye(h:Lh)(v:Lg)(c:aX):Ending→List aL→Prop:=λe H'=>∃(h2:Lh) (o:Ov),h2.g=h.g∧h2.gt=h.gt∧h2.T=h.T∧h2.q=h.q∧h2.os=h.os++[o]∧o.d=(C0 h.y.b c).2∧h2.y.b=(C0 h.y.b c).1∧e=.returned (.tuple #[])∧H'=mC h2 { v with l:=v.l++[c] }++[dM o]
theorem M3(f:Lf h v)(c:aX)(hc:c.ok):G E 304 [pt h.g,.agg c.cs.toArray] (mC h v) (Ye h v c):=by
 have hfit:=f.fit;have hln:=f.len;have hos:=f.n;have hmax:=fX;have run:=λM hr B d hl=>BM M h.y hr hfit B 1 d [c] hl (λx hx=>by obtain rfl:=aAp.1 hx;exact hc) o_;unfold mC;dsimp only[tE,Bh.cs,Bk.cs,V4.cs,aX.cs,iR,List.cons_append,List.nil_append,G] at run⊢;refine t_ func304 ntmps304 ?_;repeat first|refine v_ ?_|refine Dr.two ?_ ?_|intro
 rename_i g3;refine C.BI (X:=Nat×Bh×Option Addr×Nat×Ov) (λx=>[(0,pt h.g),(3,pt g3),(4,pt x.1),(5,.slice x.2.2.1 1 x.2.2.2.1)])
  (λx=>[aJ x.1 45 x.2.1.cs,iR x.2.1,own rM x.2.2.1 1 x.2.2.2.1 [x.2.2.2.2],aO dM [x.2.2.2.2],aJ g3 34 c.cs,aJ h.g 153 (tE h v),own bE h.A v.l.length h.c v.l,own rM h.O h.os.length h.k h.os,aJ h.gt 221 [.slice h.T v.t.length h.q],own bE h.T v.t.length h.q v.t])
  (λx=>x.2.2.2.2.d=(C0 h.y.b c).2∧x.2.1.b=(C0 h.y.b c).1) ?_ ?_
 ·refine rA (l_ [0,1,2,3,4] (.two 5 (.two 6 (l_ [7,8,9] (g_ 10 (g_ 11 (n_ 12 .nil)))) 10 (g_ 6 (l_ [7,8,9] (g_ 11 (n_ 12 .nil))))) 10 (g_ 5 (g_ 6 (l_ [7,8,9] (g_ 11 (n_ 12 .nil))))))) ?_;repeat first|refine v_ ?_|intro
  refine Dr.two ?_ ?_
  ·refine zL.Aw rfl (by rintro k ⟨⟩<;>decide) bA (S.cB (T:=bE) (e:=c) rfl rfl rfl rfl sD) ?_;rintro _ _ ⟨_,rfl,rfl⟩;refine⟨aA,?_⟩;repeat first|refine v_ ?_|intro
   refine Dr.two ?_ ?_
   ·refine yB rfl sD bA sK aC (λM hE=>run M dB _ 1 dB) ?_;rintro e H' ⟨y,O,k,os,ho1,ho2,rfl,rfl⟩;repeat first|refine v_ ?_|refine Dr.two ?_ ?_|intro
    obtain⟨o,rfl⟩:∃o,os=[o]:=aFv.1 (by have:=congrArg List.length ho1;rwa [aAw,lF] at this);dsimp only[tE,Bh.cs,Bk.cs,V4.cs,aX.cs,iR,List.length_singleton,List.cons_append,List.nil_append];exact⟨(_,y,O,k,o),aD,aA,by simpa [gH] using ho1,ho2⟩
   ·repeat first|refine v_ ?_|intro
    refine OW (λM h1=>run M h1 _ 1) ?_;rintro e H' ⟨y,O,k,os,ho1,ho2,rfl,rfl⟩;repeat first|refine v_ ?_|refine Dr.two ?_ ?_|intro
    obtain⟨o,rfl⟩:∃o,os=[o]:=aFv.1 (by have:=congrArg List.length ho1;rwa [aAw,lF] at this);dsimp only[tE,Bh.cs,Bk.cs,V4.cs,aX.cs,iR,List.length_singleton,List.cons_append,List.nil_append];exact⟨(_,y,O,k,o),aD,aA,by simpa [gH] using ho1,ho2⟩
  ·repeat ((fail_if_success (refine Dr.all (i:=5) ?_));first|refine w_ ?_|refine k_ ?_|intro _)
   refine Dr.Aw rfl (by rintro k ⟨⟩<;>decide) bA (S.cB (T:=bE) (e:=c) rfl rfl rfl rfl sD) ?_;rintro _ _ ⟨_,rfl,rfl⟩;refine⟨aA,?_⟩;repeat first|refine v_ ?_|intro
   refine OW (λM h1=>run M h1 _ 1) ?_;rintro e H' ⟨y,O,k,os,ho1,ho2,rfl,rfl⟩;repeat first|refine v_ ?_|refine Dr.two ?_ ?_|intro
   obtain⟨o,rfl⟩:∃o,os=[o]:=aFv.1 (by have:=congrArg List.length ho1;rwa [aAw,lF] at this);dsimp only[tE,Bh.cs,Bk.cs,V4.cs,aX.cs,iR,List.length_singleton,List.cons_append,List.nil_append];exact⟨(_,y,O,k,o),aD,aA,by simpa [gH] using ho1,ho2⟩
 ·rintro⟨g4,y,O,k,o⟩ Gf ⟨h1,h2⟩;dsimp only[tE,Bh.cs,Bk.cs,V4.cs,aX.cs,iR,List.cons_append,List.nil_append] at h1 h2⊢;refine C.Kp 19 (l_ [0,1,2,3,4,5,6,7,10,11,12,13,14,16] (g_ 8 (g_ 9 (g_ 15 (l_ [17,18] (g_ 19 (l_ [20,21] (g_ 22 (l_ [23,24] (g_ 25 .nil))))))))))
   [aJ h.g 153 _,aJ g3 34 _,aJ g4 45 _] [aJ g3 34 c.cs,aJ g4 45 y.cs] q_ q_ aA ?_
  repeat (first|refine Dt.take rfl sD rfl bA Cw Cw ?_|refine Dt.kL rfl sD rfl q_ bA Cw ?_)
  refine Dt.Aw rfl (by rintro k ⟨⟩<;>decide) rfl bA (S.cB (T:=bE) (e:=c) rfl rfl rfl rfl sD) ?_;rintro _ _ ⟨_,rfl,rfl⟩;refine⟨aA,?_⟩;refine Dt.Aw rfl (by rintro k ⟨⟩<;>decide) rfl bA NO ?_;rintro _ _ ⟨B1,d1,⟨_,_⟩,rfl,rfl⟩;refine⟨aA,?_⟩;refine Dt.Aw rfl (by rintro k ⟨⟩<;>decide) rfl bA NO ?_;rintro _ _ ⟨B2,d2,⟨_,_⟩,rfl,rfl⟩;refine⟨aA,?_⟩;repeat (first|refine Dt.take rfl sD rfl bA Cw Cw ?_|refine Dt.kL rfl sD rfl q_ bA Cw ?_)
  refine Dt.We rfl (by rintro k ⟨⟩<;>decide) bA NO ?_;rintro _ _ ⟨rfl,rfl⟩;refine⟨aA,?_⟩;repeat first|refine v_ ?_|refine Dr.two ?_ ?_|intro
  obtain⟨H2,hH2⟩:∃H2,H2=(⟨h.g,B1,d1,B2,d2,h.os++[o],y,h.gt,h.T,h.q⟩:Lh):=⟨_,rfl⟩
  have e1:(h.os++[o]).length=h.os.length+1:=by simp
  have e2:(v.l++[c]).length=v.l.length+1:=by simp
  refine gO (H':=mC H2 { v with l:=v.l++[c] }++[dM o]) rfl ?_ ⟨H2,o,by rw[hH2],by rw[hH2],by rw[hH2],by rw[hH2],by rw[hH2],h1,by rw[hH2];exact h2,rfl,rfl⟩;rw[hH2];unfold mC;dsimp only[tE,Bh.cs,Bk.cs,V4.cs,iR,List.cons_append,List.nil_append];rw[e1,e2];refine aB.trans (aB.out (f:=dM) (l:=[o]) (i:=0) (x:=o) (by exact aS) rfl) ?_;exact aA
end
theorem V4.ss(x:V4)(v:Int):x.set 0 v=⟨v,x.b,x.c,x.d⟩∧x.set 1 v=⟨x.a,v,x.c,x.d⟩∧x.set 2 v=⟨x.a,x.b,v,x.d⟩∧x.set 3 v=⟨x.a,x.b,x.c,v⟩:=⟨rfl,rfl,rfl,rfl⟩
def tP(l:List aX)(x:aX):List aX:=if bI l x.id<0 then lG l x else l
def sV(v:Lg)(c:aX):Lg×Int :=
 if 48≤v.l.length+v.t.length then(v,3)
 else if Ak v.known v.times c=false then(v,9)
 else if c.may=false then(v,4)
 else(⟨v.l,tP v.t c,v.known.set c.id.rep c.id.seq,v.times.set c.id.rep c.time⟩,0)
def Zu(h:Lh)(r:Lg×Int):Ending→List aL→Prop:=λe H'=>∃h2:Lh,h2.g=h.g∧h2.os=h.os∧h2.y=h.y∧e=.returned (.int .i64 r.2)∧H'=mC h2 r.1
section
variable (E:Env) (h:Lh) (v:Lg)
theorem N7(f:Lf h v)(c:aX)(hc:c.ok):G E 256 [pt h.g,.agg c.cs.toArray] (mC h v) (Zu h (sV v c)):=by
 have hln:=f.len;have hmax:=fX;have is:=λM hb=>nV M h v hb;have tlen:=λM hb hr=>Gt M h.gt h.T v.t.length h.q v.t hb hr;have fits:=λM=>Mn M v.known v.times c f.known;have put:∀M,G M 302 [pt h.gt,.agg c.cs.toArray] [aJ h.gt 221 [.slice h.T v.t.length h.q],own bE h.T v.t.length h.q v.t]
   (λe H'=>∃A k,e=.returned (.bool (decide (bI v.t c.id<0)))∧H'=[aJ h.gt 221 [.slice A (tP v.t c).length k],own bE A (tP v.t c).length k (tP v.t c)]):=λM=>OA M h.gt h.T v.t.length h.q v.t c o_
 have check:=λM=>kF M c;unfold mC sV;dsimp only[tE,Bh.cs,Bk.cs,V4.cs,aX.cs,iR,List.cons_append,List.nil_append,G] at is fits put check⊢;by_cases h1:48≤v.l.length+v.t.length
 ·rw[if_pos h1];refine t_ func256 ntmps256 ?_;repeat first|refine v_ ?_|intro
  refine eV is ?_;repeat first|refine v_ ?_|intro
  refine rA (l_ [0,1,2,3,4,5,6,7,8,9] (g_ 10 (l_ [11,12,13] .nil))) ?_;repeat first|refine v_ ?_|intro
  refine Ju tlen ?_;repeat first|refine v_ ?_|intro
  exact aR (H':=mC h v) rfl aF (by unfold mC;dsimp only[tE,Bh.cs,Bk.cs,V4.cs,iR,List.cons_append,List.nil_append];exact aA) ⟨h,rfl,rfl,rfl,rfl,rfl⟩
 ·rw[if_neg h1];rcases aBh (Ak v.known v.times c) with h2|h2
  ·rw[if_neg (show ¬Ak v.known v.times c=false by rw[h2];decide)];rw[h2] at fits;rcases aBh c.may with h3|h3
   ·rw[if_neg (show ¬c.may=false by rw[h3];decide)];rw[h3] at check;have hmay:=(aX.bY c).1 h3;refine t_ func256 ntmps256 ?_;repeat first|refine v_ ?_|intro
    refine eV is ?_;repeat first|refine v_ ?_|intro
    refine rA (l_ [0,1,2,3,4,5,6,7,8,9] (g_ 10 (l_ [11,12,13] .nil))) ?_;repeat first|refine v_ ?_|intro
    refine Ju tlen ?_;repeat first|refine v_ ?_|intro
    refine rA (l_ [0,1,2,3,4,5,6,7,8] (g_ 9 (l_ [10,11] .nil))) ?_;repeat first|refine v_ ?_|intro
    refine eJ fits ?_;repeat first|refine v_ ?_|intro
    refine bK check ?_;repeat first|refine v_ ?_|intro
    rename_i g3;refine rB (l_ [0,1,2,3,4] (g_ 5 .nil)) ([aJ h.g 153 _,aJ g3 34 _]) ?_;repeat first|refine v_ ?_|intro
    refine iO put ?_;rintro e H' ⟨A,k,rfl,rfl⟩;repeat first|refine v_ ?_|intro
    generalize tP v.t c=t2;refine rB (l_ [0,1,2,3,4,5,6,7,8,9,10,11,12,13,14,15,17,18] (g_ 16 (n_ 19 (g_ 20 .nil)))) ([aJ g3 34 _]) ?_;repeat first|refine v_ ?_|intro
    obtain⟨⟨r,s⟩,tm,kd,a,b,nn,rf⟩:=c;dsimp only at hmay⊢;rcases four ⟨hmay.1.1,hmay.1.2.1⟩ with rfl|rfl|rfl|rfl
    all_goals
     repeat first|refine v_ ?_|intro
     simp only[Int.reduceToNat,Nat.reduceAdd,List.set_cons_succ,List.set_cons_zero];repeat first|refine v_ ?_|intro
     refine aR (H':=mC ⟨h.g,h.A,h.c,h.O,h.k,h.os,h.y,h.gt,A,k⟩ ⟨v.l,t2,_,_⟩) rfl aF ?_ ⟨⟨h.g,h.A,h.c,h.O,h.k,h.os,h.y,h.gt,A,k⟩,rfl,rfl,rfl,rfl,rfl⟩;unfold mC;simp only[V4.ss v.known,V4.ss v.times];dsimp only[tE,Bh.cs,Bk.cs,V4.cs,iR,List.cons_append,List.nil_append];exact aA
   ·rw[if_pos h3];rw[h3] at check;refine t_ func256 ntmps256 ?_;repeat first|refine v_ ?_|intro
    refine eV is ?_;repeat first|refine v_ ?_|intro
    refine rA (l_ [0,1,2,3,4,5,6,7,8,9] (g_ 10 (l_ [11,12,13] .nil))) ?_;repeat first|refine v_ ?_|intro
    refine Ju tlen ?_;repeat first|refine v_ ?_|intro
    refine rA (l_ [0,1,2,3,4,5,6,7,8] (g_ 9 (l_ [10,11] .nil))) ?_;repeat first|refine v_ ?_|intro
    refine eJ fits ?_;repeat first|refine v_ ?_|intro
    refine bK check ?_;repeat first|refine v_ ?_|intro
    exact aR (H':=mC h v) rfl aF (by unfold mC;dsimp only[tE,Bh.cs,Bk.cs,V4.cs,iR,List.cons_append,List.nil_append];exact aA) ⟨h,rfl,rfl,rfl,rfl,rfl⟩
  ·rw[if_pos h2];rw[h2] at fits;refine t_ func256 ntmps256 ?_;repeat first|refine v_ ?_|intro
   refine eV is ?_;repeat first|refine v_ ?_|intro
   refine rA (l_ [0,1,2,3,4,5,6,7,8,9] (g_ 10 (l_ [11,12,13] .nil))) ?_;repeat first|refine v_ ?_|intro
   refine Ju tlen ?_;repeat first|refine v_ ?_|intro
   refine rA (l_ [0,1,2,3,4,5,6,7,8] (g_ 9 (l_ [10,11] .nil))) ?_;repeat first|refine v_ ?_|intro
   refine eJ fits ?_;repeat first|refine v_ ?_|intro
   exact aR (H':=mC h v) rfl aF (by unfold mC;dsimp only[tE,Bh.cs,Bk.cs,V4.cs,iR,List.cons_append,List.nil_append];exact aA) ⟨h,rfl,rfl,rfl,rfl,rfl⟩
end
def fZ(v:Lg)(a:bJ):Lg×Int :=
 if bI v.t a<0 then(v,14)
 else if lM v.t a=false then(v,9)
 else(⟨v.l++[(v.t[(bI v.t a).toNat]?).getD dO],rF v.t a,v.known,v.times⟩,0)
def TB(h:Lh)(_v:Lg)(r:Lg×Int):Ending→List aL→Prop:=λe H'=>∃(h2:Lh) (new:List Ov),h2.g=h.g∧h2.os=h.os++new∧Lf h2 r.1∧e=.returned (.int .i64 r.2)∧H'=mC h2 r.1++[aO dM new]
section
variable (E:Env) (h:Lh) (v:Lg)
theorem MX{l:List aX}{a:bJ}{c:aX}(hc:c∈rF l a):c∈l:=by
 unfold rF at hc;split at hc
 ·unfold mD at hc;split at hc
  ·rcases aBg.1 hc with h|h
   ·exact aBs h
   ·exact aDw h
  ·exact hc
 ·exact hc
theorem Pr{l:List aX}{a:bJ}(h:lM l a=true):0≤bI l a∧(bI l a).toNat<l.length∧(rF l a).length+1=l.length:=by
 have h0:0≤bI l a:=by unfold lM at h;simp only[aAv,decide_eq_true_eq] at h;exact h.1
 have h1:=(gZ h0).1;have h2:(bI l a).toNat<l.length:=h1;refine⟨h0,h2,?_⟩;unfold rF;rw[if_pos h];unfold mD;rw[if_pos ⟨h0,by omega⟩];simp only[aAe,aAg,aBd];omega
theorem HE(f:Lf h v)(a:bJ):G E 257 [pt h.g,.agg a.cs.toArray] (mC h v) (TB h v (fZ v a)):=by
 have hln:=f.len;have hmax:=fX;obtain⟨ar,aq⟩:=a;have is:=λM hb=>nV M h v hb;have all:=λM hb hr=>tX M h.gt h.T v.t.length h.q v.t hb hr o_;have take:=λM=>L5 M h.gt h.T v.t.length h.q v.t ar aq o_;obtain⟨c0,hc0⟩:∃c,c=(if lM v.t ⟨ar,aq⟩ then(v.t[(bI v.t ⟨ar,aq⟩).toNat]?).getD dO else dO):=⟨_,rfl⟩
 obtain⟨T2,hT2⟩:∃t,t=rF v.t ⟨ar,aq⟩:=⟨_,rfl⟩
 rw[←hc0,←hT2] at take;have fin:∀H,aB E H (aO dM []::H):=λH=>aB.kP dM;unfold mC fZ;dsimp only[tE,Bh.cs,Bk.cs,V4.cs,bJ.cs,aX.cs,iR,List.cons_append,List.nil_append,G] at is take⊢;by_cases h1:bI v.t ⟨ar,aq⟩<0
 ·rw[if_pos h1];refine t_ func257 ntmps257 ?_;repeat first|refine v_ ?_|refine Dr.two ?_ ?_|intro
  refine eV is ?_;repeat first|refine v_ ?_|refine Dr.two ?_ ?_|intro
  refine rA (l_ [0,1,2,3,5] (g_ 4 (g_ 6 (n_ 7 .nil)))) ?_;repeat first|refine v_ ?_|refine Dr.two ?_ ?_|intro
  refine OW all ?_;rintro e H' ⟨B,d,hd,rfl,rfl⟩;repeat first|refine v_ ?_|refine Dr.two ?_ ?_|intro
  refine aR (H':=mC h v++[aO dM []]) rfl aF (aB.trans (fin _) ?_) ⟨h,[],rfl,by simp,f,rfl,rfl⟩;unfold mC;dsimp only[tE,Bh.cs,Bk.cs,V4.cs,iR,List.cons_append,List.nil_append];exact aA
 ·rw[if_neg h1];refine t_ func257 ntmps257 ?_;repeat first|refine v_ ?_|refine Dr.two ?_ ?_|intro
  refine eV is ?_;repeat first|refine v_ ?_|refine Dr.two ?_ ?_|intro
  refine rA (l_ [0,1,2,3,5] (g_ 4 (g_ 6 (n_ 7 .nil)))) ?_;repeat first|refine v_ ?_|refine Dr.two ?_ ?_|intro
  refine OW all ?_;rintro e H' ⟨B,d,hd,rfl,rfl⟩;repeat first|refine v_ ?_|refine Dr.two ?_ ?_|intro
  rename_i g3;obtain⟨fr,hfr⟩:∃b,b=lM v.t ⟨ar,aq⟩:=⟨_,rfl⟩
  rw[←hfr] at take;refine C.BI (X:=Nat×Option Addr×Nat) (λx=>[(0,pt h.g),(5,pt x.1),(6,.bool fr)])
   (λx=>[aJ x.1 34 c0.cs,aJ h.gt 221 [.slice x.2.1 T2.length x.2.2],own bE x.2.1 T2.length x.2.2 T2,aJ h.g 153 (tE h v),own bE h.A v.l.length h.c v.l,own rM h.O h.os.length h.k h.os,iR h.y]) (λ_=>True) ?_ ?_
  ·refine rB (l_ [0,1,2,3,4] (.two 5 (l_ [6,7,8] (g_ 9 (g_ 10 (n_ 11 .nil)))) 9 (g_ 5 (l_ [6,7,8] (g_ 10 (n_ 11 .nil)))))) ([aJ h.g 153 _,aJ g3 32 _]) ?_;repeat first|refine v_ ?_|intro
   refine Dr.two ?_ ?_
   ·refine yB rfl sD bA sK aC (λM hE=>take M) ?_;rintro e H' ⟨A,k,rfl,rfl⟩;repeat first|refine v_ ?_|refine Dr.two ?_ ?_|intro
    dsimp only[tE,Bh.cs,Bk.cs,V4.cs,aX.cs,iR,List.cons_append,List.nil_append];exact⟨(_,A,k),aD,aA,trivial⟩
   ·repeat first|refine v_ ?_|intro
    refine iO take ?_;rintro e H' ⟨A,k,rfl,rfl⟩;repeat first|refine v_ ?_|refine Dr.two ?_ ?_|intro
    dsimp only[tE,Bh.cs,Bk.cs,V4.cs,aX.cs,iR,List.cons_append,List.nil_append];exact⟨(_,A,k),aD,aA,trivial⟩
  ·rintro⟨g5,A,k⟩ Gf _;dsimp only[tE,Bh.cs,Bk.cs,V4.cs,aX.cs,iR,List.cons_append,List.nil_append];rw[←hfr];rcases aBh fr with hF|hF
   ·have hFr:lM v.t ⟨ar,aq⟩=true:=by rw[←hfr,hF]
    obtain⟨q1,q2,q3⟩:=Pr hFr;rw[←hT2] at q3;have hc1:c0=(v.t[(bI v.t ⟨ar,aq⟩).toNat]?).getD dO:=by rw[hc0,if_pos hFr]
    have hc2:c0∈v.t:=by rw[hc1,aAa q2];exact aCs q2
    have f1:Lf ⟨h.g,h.A,h.c,h.O,h.k,h.os,h.y,h.gt,A,k⟩ ⟨v.l,T2,v.known,v.times⟩:=⟨f.outs,f.base,by dsimp only;omega,f.RB,λc hc=>f.tok c (MX (hT2▸hc)),f.known,f.times⟩
    have more:=λM=>M3 M _ _ f1 c0 (f.tok _ hc2);subst hF;rw[if_neg (show ¬true=false by decide),←hc1,←hT2];unfold mC at more;dsimp only[tE,Bh.cs,Bk.cs,V4.cs,aX.cs,iR,List.cons_append,List.nil_append] at more;repeat first|refine v_ ?_|refine Dr.two ?_ ?_|intro
    refine rB (l_ [0,1,2,3] (g_ 4 .nil)) ([aJ g5 34 _]) ?_;repeat first|refine v_ ?_|refine Dr.two ?_ ?_|intro
    refine iO more ?_;rintro e H' ⟨h2,o,e1,e2,e3,e4,e5,e6,e7,rfl,rfl⟩;dsimp only at e1 e2 e3 e4 e5 e6 e7;unfold mC;dsimp only[tE,Bh.cs,Bk.cs,V4.cs,aX.cs,iR,List.cons_append,List.nil_append];repeat first|refine v_ ?_|refine Dr.two ?_ ?_|intro
    have f2:Lf h2 ⟨v.l++[c0],T2,v.known,v.times⟩:=by
     refine⟨?_,?_,?_,?_,f1.tok,f.known,f.times⟩
     ·dsimp only;rw[e5,aBk,f.outs,pO];simp only[aCi,aDo,e6,f.base,gH]
     ·dsimp only;rw[e7,pO,f.base];rfl
     ·dsimp only;simp only[aAe,aDa];omega
     ·intro x hx;rcases aBg.1 hx with hx|hx
      ·exact f.RB x hx
      ·obtain rfl:=aAp.1 hx;exact f.tok _ hc2
    refine aR (H':=mC h2 ⟨v.l++[c0],T2,v.known,v.times⟩++[aO dM [o]]) rfl aF (aB.trans (fin _) (aB.trans (aB.push (f:=dM) (l:=[]) (x:=o) aC) ?_)) ⟨h2,[o],e1,e5,f2,rfl,rfl⟩;unfold mC;dsimp only[tE,Bh.cs,Bk.cs,V4.cs,iR,List.cons_append,List.nil_append];exact aA
   ·have hFr:lM v.t ⟨ar,aq⟩=false:=by rw[←hfr,hF]
    have hT3:T2=v.t:=by rw[hT2];unfold rF;rw[if_neg (by rw[hFr];decide)]
    subst hF;rw[if_pos rfl];repeat first|refine v_ ?_|refine Dr.two ?_ ?_|intro
    refine aR (H':=mC ⟨h.g,h.A,h.c,h.O,h.k,h.os,h.y,h.gt,A,k⟩ v++[aO dM []]) rfl aF (aB.trans (fin _) ?_) ⟨⟨h.g,h.A,h.c,h.O,h.k,h.os,h.y,h.gt,A,k⟩,[],rfl,by simp,⟨f.outs,f.base,f.len,f.RB,f.tok,f.known,f.times⟩,rfl,rfl⟩;unfold mC;rw[hT3];dsimp only[tE,Bh.cs,Bk.cs,V4.cs,iR,List.cons_append,List.nil_append];exact aA
end
theorem aK.read{P:Program}{E:Env}{f:FuncId}{args:Array Value}{Hr:List aL}{Q0:Ending→List aL→Prop}(h:∀M,Sub E Hr M→aK P M f args [] Q0):aK P E f args Hr (λe H'=>∃H1,Q0 e H1∧H'=H1++Hr):=by
 intro hds w hw;obtain⟨M,hds',hE,hst,hback⟩:=St.enter (Hp:=[]) (R:=Hr) hw;exact(h M hE hds' w hst).mono λe w' ⟨H1,h1,h2⟩=>⟨H1++Hr,hback _ _ h1,H1,h2,rfl⟩
def cO(g:Nat)(v:Lg)(os:List Ov):aL:=pack λ(h:Lh)=>iE (h.g=g∧h.os=os∧Lf h v)::mC h v
theorem cO.mk{E:Env}{R:List aL}{h:Lh}{v:Lg}(f:Lf h v):aB E (mC h v++R) (cO h.g v h.os::R):=λw hw=>by
 have h1:St E (iE (h.g=h.g∧h.os=h.os∧Lf h v)::mC h v++R) w:=aB.lH ⟨rfl,rfl,f⟩ w hw;exact h1.conv λF hs=>by
  obtain⟨F1,F2,k1,k2,k3,k4⟩:=aY.1 hs;exact⟨F,⟨F1,F2,k1,k2,⟨h,k3⟩,k4⟩,λ_ h=>h⟩
theorem cO.out{E:Env}{R:List aL}{g:Nat}{v:Lg}{os:List Ov}{w:World}(hw:St E (cO g v os::R) w):∃h:Lh,h.g=g∧h.os=os∧Lf h v∧St E (mC h v++R) w:=by
 obtain⟨h,hs⟩:=hw.unpack (l:=λ(h:Lh)=>iE (h.g=g∧h.os=os∧Lf h v)::mC h v) Has.aN;have hp:=St.lH (H:=_) (R:=_) hs Has.aN;refine⟨h,hp.1,hp.2.1,hp.2.2,hs.conv λF hst=>?_⟩;obtain⟨F1,F2,k1,k2,k3,k4⟩:=hst;exact⟨F2,k4,λb hb=>(k1 b).2 (.inr hb)⟩
theorem PB.of{E M:Env}{h:Lh}{v:Lg}(hE:Sub E (mC h v) M):PB M h v:=by
 unfold mC at hE;exact⟨gE.of hE aS,dB,dB,dB,gE.of hE aS,dB⟩
theorem lS{E:Env}{f:FuncId}{args:Array Value}{g:Nat}{v:Lg}{os:List Ov}{Q0:Ending→List aL→Prop}(law:∀M h,PB M h v→Lf h v→h.g=g→h.os=os→(∀A n c T l,Rd (α:=cQ) E T A n c l→Rd M T A n c l)→aK prog M f args [] Q0) :
  aK prog E f args [cO g v os] (λe H'=>∃H1,Q0 e H1∧H'=H1++[cO g v os]):=by
 intro hds w hw;obtain⟨h,rfl,rfl,hf,hs⟩:=cO.out hw;have hs:St E (mC h v) w:=by simpa using hs
 have:=(aK.read (P:=prog) (E:=E) (f:=f) (args:=args) (Hr:=mC h v) (Q0:=Q0) λM hE=>law M h (PB.of hE) hf rfl rfl λA n c T l hr=>hr.sub hE) hds w hs;exact this.mono λe w' ⟨H',h1,H1,h2,h3⟩=>⟨H1++[cO h.g v h.os],by
  subst h3;have h4:St E (mC h v++H1) w':=h1.conv λF hs=>by
   obtain⟨F1,F2,k1,k2,k3,k4⟩:=aY.1 hs;exact⟨F,aY.2 ⟨F2,F1,λb=>by rw[k1 b];exact Or.comm,λb h1 h2=>k2 b h2 h1,k4,k3⟩,λ_ h=>h⟩
  have h5:=cO.mk hf w' h4;exact h5.conv λF hs=>by
   obtain⟨F1,F2,k1,k2,k3,k4⟩:=hs;exact⟨F,aY.2 ⟨F2,F1,λb=>by rw[k1 b];exact Or.comm,λb h1 h2=>k2 b h2 h1,k4,⟨F1,λ_=>False,λb=>by simp,λ_ _ h=>h,k3,λ_ h=>h⟩⟩,λ_ h=>h⟩,H1,h2,rfl⟩
end Go.Proofs.YtmilalkjbojciaaGreat.Sep
