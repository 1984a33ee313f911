/- Part BA: what it needs. No condition. -/
import Derived.Test.YtmilalkjbojciaaGreatLAW
set_option maxRecDepth 100000
set_option maxHeartbeats 8000000
open Go.Proofs.Tryz
namespace Go.Proofs.YtmilalkjbojciaaGreat.Sep
section
open Go.RowKit Reg
open Mem hiding Rd
def d16(b:Bk)(x:aX):Option Bk :=
 if x.kind=1 then(if aKh b.fP x.a x.n=0 then some ⟨b.fP.set x.a (b.fP.get x.a+x.n),b.mO,b.eO,b.aH⟩ else none)
 else if x.kind=2 then(if aKh b.eO x.a x.n=0 then some ⟨b.fP,b.mO,b.eO.set x.a (b.eO.get x.a+x.n),b.aH⟩ else none)
 else if x.kind=3 then(if ((0<=x.a/\x.a<=7)/\(0<=x.b/\x.b<=7)/\1<=x.n/\x.n<=1000)/\fA b x.id<0/\b.aH.length<32/\0<=aJv b x then some (lK ⟨b.fP.set (aJv b x) (b.fP.get (aJv b x) - x.n),b.mO,b.eO,b.aH⟩ ⟨x.id,x.a,aJv b x,x.n,0,1⟩) else none)
 else if x.kind=9 then(if (0<=x.a/\x.a<=7)/\0<=x.n/\x.n<=1073741824 then some ⟨b.fP,b.mO.set x.a x.n,b.eO,b.aH⟩ else none)
 else if (4<=x.kind/\x.kind<=8)/\(x.kind=4->1<=x.n/\x.n<=1000) then(vL b x.ref).bind (aKa b x) else none
theorem aMt{p:Prop}[Decidable p]{u:Bk}:(if p then some u else none).isSome=true↔p:=by
 by_cases h:p<;>simp[h]
section
variable (E:Env) (A:Option Addr) (n c:Nat)
theorem aPi(b:Bk)(hb:b.fit)(x:aX)(hr:Rd E eB A n c b.aH):G E 136 [.agg (b.cs A n c).toArray,.agg x.cs.toArray] [] (Yes ((d16 b x).isSome=true)):=by
 have hn:=hr.len;have hcap:=hr.cap;have hmax:=fX;have ad1:=λM A hr=>aOl M A b.fP hb.ok.1 hr x.a x.n;have ad2:=λM A hr=>aOl M A b.eO hb.ok.2.2 hr x.a x.n;have plc:=λM hr=>aOr M A n c b x hr;have fnd:=λM hr=>aKw M b A n c hr x.ref;have abt:=λM hk hx o ho=>aOk M A n c b hb.ok x hk hx o ho;unfold d16;obtain⟨⟨ir,is⟩,tm,kd,a,bb,nn,⟨rr,rs⟩⟩:=x;dsimp only[aX.cs,bJ.cs] at ad1 ad2 plc fnd abt⊢;by_cases k1:kd=1
 ·subst k1;rw[if_pos rfl,aMt];generalize aKh b.fP a nn=q at *;refine t_ func136 ntmps136 ?_;repeat first|refine v_ ?_|intro
  refine rA (l_ [0,1,2,3,4,5] (g_ 6 (n_ 7 .nil))) ?_;repeat first|refine v_ ?_|intro
  refine cg rfl sD bA sK aC (λM hE=>ad1 M _ (rd8 (gE.of hE aS) λm hm=>by rw[aCa];exact(Bk.cell hm).1)) ?_;rintro e H' ⟨rfl,rfl⟩;repeat first|refine v_ ?_|intro
  exact jQ ⟨_,rfl,aDl,rfl⟩
 rw[if_neg k1];by_cases k2:kd=2
 ·subst k2;rw[if_pos rfl,aMt];generalize aKh b.eO a nn=q at *;refine t_ func136 ntmps136 ?_;repeat first|refine v_ ?_|intro
  refine rA (l_ [0,1,2,3,4,5] (g_ 6 (n_ 7 .nil))) ?_;repeat first|refine v_ ?_|intro
  refine cg rfl sD bA sK aC (λM hE=>ad2 M _ (rd8 (gE.of hE aS) λm hm=>(Bk.cell hm).2.2)) ?_;rintro e H' ⟨rfl,rfl⟩;repeat first|refine v_ ?_|intro
  exact jQ ⟨_,rfl,aDl,rfl⟩
 rw[if_neg k2];by_cases k3:kd=3
 ·subst k3;rw[if_pos rfl,aMt];refine t_ func136 ntmps136 ?_;repeat first|refine v_ ?_|intro
  refine dX plc ?_;rintro e H' ⟨k,rfl,hk,rfl⟩;repeat first|refine v_ ?_|intro
  exact jQ ⟨_,rfl,hk,rfl⟩
 rw[if_neg k3];by_cases k9:kd=9
 ·subst k9;rw[if_pos rfl,aMt];refine t_ func136 ntmps136 ?_;repeat' (first|refine w_ ?_|refine k_ ?_|refine f_ ?_ ?_|intro _)
  all_goals exact aR rfl aF aA ⟨_,rfl,by omega,rfl⟩
 rw[if_neg k9];by_cases k4:(4<=kd/\kd<=8)/\(kd=4->1<=nn/\nn<=1000)
 ·rw[if_pos k4];have h4:¬(kd=4/\¬(1<=nn/\nn<=1000)):=λq=>q.2 (k4.2 q.1);have h5:kd≠4\/(1<=nn/\nn<=1000):=o_;by_cases hp:0<=fA b ⟨rr,rs⟩
  ·obtain⟨o,f1,f2,f3⟩:=OB b hp;rw[f1,Option.bind_some];have ho:=hb.C7 o (aAi f2);have abt2:=λM=>abt M k4.1 k4.2 o ho;generalize (aKa b ⟨⟨ir,is⟩,tm,kd,a,bb,nn,⟨rr,rs⟩⟩ o).isSome=u at *;obtain⟨k,hk⟩:=aCf hp;rw[hk] at fnd f2;rw[aAu] at f2;refine t_ func136 ntmps136 ?_;rcases h5 with h5|h5
   ·repeat first|refine v_ ?_|intro
    refine eV fnd ?_;repeat first|refine v_ ?_|intro
    refine rA (l_ [0,1,2,3,4,5,6] (g_ 7 (n_ 8 .nil))) ?_;repeat first|refine v_ ?_|intro
    refine iO abt2 ?_;rintro e H' ⟨k,rfl,hk2,rfl⟩;repeat first|refine v_ ?_|intro
    exact jQ ⟨_,rfl,hk2,rfl⟩
   ·by_cases h6:kd=4
    ·subst h6;repeat first|refine v_ ?_|intro
     refine eV fnd ?_;repeat first|refine v_ ?_|intro
     refine rA (l_ [0,1,2,3,4,5,6] (g_ 7 (n_ 8 .nil))) ?_;repeat first|refine v_ ?_|intro
     refine iO abt2 ?_;rintro e H' ⟨k,rfl,hk2,rfl⟩;repeat first|refine v_ ?_|intro
     exact jQ ⟨_,rfl,hk2,rfl⟩
    ·repeat first|refine v_ ?_|intro
     refine eV fnd ?_;repeat first|refine v_ ?_|intro
     refine rA (l_ [0,1,2,3,4,5,6] (g_ 7 (n_ 8 .nil))) ?_;repeat first|refine v_ ?_|intro
     refine iO abt2 ?_;rintro e H' ⟨k,rfl,hk2,rfl⟩;repeat first|refine v_ ?_|intro
     exact jQ ⟨_,rfl,hk2,rfl⟩
  ·rw[show vL b ⟨rr,rs⟩=none from Pq b o_];generalize fA b ⟨rr,rs⟩=p at *;refine t_ func136 ntmps136 ?_;rcases h5 with h5|h5
   ·repeat first|refine v_ ?_|intro
    refine eV fnd ?_;repeat first|refine v_ ?_|intro
    exact aR rfl aF aA (⟨_,rfl,⟨(λq=>absurd q sD),(λq=>by cases q)⟩,rfl⟩)
   ·by_cases h6:kd=4
    ·subst h6;repeat first|refine v_ ?_|intro
     refine eV fnd ?_;repeat first|refine v_ ?_|intro
     exact aR rfl aF aA (⟨_,rfl,⟨(λq=>absurd q sD),(λq=>by cases q)⟩,rfl⟩)
    ·repeat first|refine v_ ?_|intro
     refine eV fnd ?_;repeat first|refine v_ ?_|intro
     exact aR rfl aF aA (⟨_,rfl,⟨(λq=>absurd q sD),(λq=>by cases q)⟩,rfl⟩)
 ·rw[if_neg k4];refine t_ func136 ntmps136 ?_;by_cases h4:kd=4
  ·subst h4;have h5:¬(1<=nn/\nn<=1000):=λq=>k4 ⟨by omega,λ_=>q⟩;rcases(show nn<1\/(1<=nn/\1000<nn) by omega) with h6|h6
   ·repeat first|refine v_ ?_|intro
    exact aR rfl aF aA (⟨_,rfl,⟨(λq=>absurd q sD),(λq=>by cases q)⟩,rfl⟩)
   ·repeat first|refine v_ ?_|intro
    exact aR rfl aF aA (⟨_,rfl,⟨(λq=>absurd q sD),(λq=>by cases q)⟩,rfl⟩)
  ·rcases(show kd<4\/(4<=kd/\8<kd) by omega) with h6|h6
   ·repeat first|refine v_ ?_|intro
    exact aR rfl aF aA (⟨_,rfl,⟨(λq=>absurd q sD),(λq=>by cases q)⟩,rfl⟩)
   ·repeat first|refine v_ ?_|intro
    exact aR rfl aF aA (⟨_,rfl,⟨(λq=>absurd q sD),(λq=>by cases q)⟩,rfl⟩)
end
end
section
def Com(r:Wr):Option Bk->Prop
 |some b'=>∃out ref,r=.ok ⟨b',out,ref⟩
 |none=>∃k,r=.error k
theorem Com.no{r:Wr}{k:Int}(h:r=.error k):Com r none:=⟨k,h⟩
theorem Com.yes{r:Wr}{b':Bk}{out:List cQ}{ref:bJ}(h:r=.ok ⟨b',out,ref⟩):Com r (some b'):=⟨out,ref,h⟩
theorem aKt{b:Bk}{i n:Int}(hi:0<=i/\i<=7)(hn:0<=n/\n<=1099511627776)(h:n<=b.fP.get i):jB b i n=(⟨b.fP.set i (b.fP.get i - n),b.mO,b.eO,b.aH⟩,0):=by
 unfold jB;rw[if_pos ⟨hi,hn⟩,if_neg o_]
theorem aKp{b:Bk}{i n:Int}(h:(0<=i/\i<=7)->0<=n/\n<=1099511627776->b.fP.get i<n):(jB b i n).2≠0:=by
 unfold jB;split
 ·rename_i h1;rw[if_pos (h h1.1 h1.2)];exact(by decide:(11:Int)≠0)
 ·exact(by decide:(4:Int)≠0)
theorem aLj{b:Bk}{i n:Int}(hi:0<=i/\i<=7)(hn:0<=n/\n<=1099511627776)(h:b.fP.get i+n<=1099511627776):nF b i n=(⟨b.fP.set i (b.fP.get i+n),b.mO,b.eO,b.aH⟩,0):=by
 unfold nF;rw[if_pos ⟨hi,hn⟩,if_pos h]
theorem aLf{b:Bk}{i n:Int}(h:(0<=i/\i<=7)->0<=n/\n<=1099511627776->1099511627776<b.fP.get i+n):(nF b i n).2≠0:=by
 unfold nF;split
 ·rename_i h1;rw[if_neg (by have:=h h1.1 h1.2;omega)];exact(by decide:(7:Int)≠0)
 ·exact(by decide:(4:Int)≠0)
theorem aKu{b:Bk}{i n:Int}(hi:0<=i/\i<=7)(hn:0<=n/\n<=1099511627776)(h:b.eO.get i+n<=1099511627776):jT b i n=(⟨b.fP,b.mO,b.eO.set i (b.eO.get i+n),b.aH⟩,0):=by
 unfold jT;rw[if_pos ⟨hi,hn⟩,if_pos h]
theorem aKq{b:Bk}{i n:Int}(h:(0<=i/\i<=7)->0<=n/\n<=1099511627776->1099511627776<b.eO.get i+n):(jT b i n).2≠0:=by
 unfold jT;split
 ·rename_i h1;rw[if_neg (by have:=h h1.1 h1.2;omega)];exact(by decide:(7:Int)≠0)
 ·exact(by decide:(4:Int)≠0)
theorem aKg{w:Wk}{r:Bk×Int}(h:r.2≠0):w.iQ r=.error r.2:=if_neg h
theorem aKe{w:Wk}{r:Bk×Int}{b':Bk}(h:r=(b',0)):w.iQ r=.ok ⟨b',w.out,w.ref⟩:=by subst h;exact if_pos rfl
theorem aKo{X Y:Type}{x:X}(f:X->Except Int Y):((Except.ok x:Except Int X) >>= f)=f x:=rfl
theorem aMc(b:Bk)(s:O8)(o:dD):(⟨s,(lK b o).mO,(lK b o).eO,(lK b o).aH⟩:Bk)=lK ⟨s,b.mO,b.eO,b.aH⟩ o/\(lK b o).fP=b.fP:=by
 unfold lK;have e:fA ⟨s,b.mO,b.eO,b.aH⟩ o.id=fA b o.id:=rfl;rw[e];split<;>exact⟨rfl,rfl⟩
theorem aOm{b:Bk}{r a:bJ}{st:List Int}{o:dD}(hf:vL b a=some o):Wk.order ⟨b,[],r⟩ a st=if st.contains o.state then .ok (⟨b,[],a⟩,o) else .error 9:=by
 have e:FT b a st=if st.contains o.state=true then(o,0) else(UR,9):=by unfold FT;rw[hf]
 unfold Wk.order;dsimp only;rw[e];by_cases hc:st.contains o.state=true
 ·rw[if_pos hc,if_pos hc];rfl
 ·rw[if_neg hc,if_neg hc];rfl
theorem aOf{b:Bk}{r a:bJ}{st:List Int}(hf:vL b a=none):Wk.order ⟨b,[],r⟩ a st=.error 14:=by
 unfold Wk.order FT;rw[hf];rfl
theorem aNr{b:Bk}{i n:Int}(hn:1<=n/\n<=1000):Aj b i n=true↔(0<=i/\i<=7)/\n<=b.fP.get i:=by
 unfold Aj;rw[decide_eq_true_iff];by_cases hi:0<=i/\i<=7
 ·by_cases h:n<=b.fP.get i
  ·rw[aKt hi o_ h];exact⟨λ_=>⟨hi,h⟩,λ_=>rfl⟩
  ·exact⟨λq=>absurd q (aKp (b:=b) λ_ _=>by omega),λq=>absurd q.2 h⟩
 ·exact⟨λq=>absurd q (aKp λq=>absurd q hi),λq=>absurd q.1 hi⟩
theorem aOs{b:Bk}(hb:b.fit){x:aX}{o:dD}(hf:vL b x.ref=some o)(ho:o.fit)(hk:4<=x.kind/\x.kind<=8):Com (Wk.do ⟨b,[],⟨0,0⟩⟩ x) (if x.kind=4->1<=x.n/\x.n<=1000 then aKa b x o else none):=by
 have b1:=O8.B6 hb.ok.1 o.item;have b2:=O8.B6 hb.ok.2.1 o.item;have b3:=O8.B6 hb.ok.2.2 o.cC;obtain⟨_,o1,o2,o3,o4⟩:=ho;have ord:=λst=>aOm (r:=⟨0,0⟩) (st:=st) hf;unfold Wk.do aKa;rcases(show x.kind=4\/x.kind=5\/x.kind=6\/x.kind=7\/x.kind=8 by omega) with k|k|k|k|k
 all_goals rw[k]
 ·rw[if_neg sD,if_neg sD,if_neg sD,if_pos rfl,if_pos rfl];unfold Wk.J6 C9;by_cases hn:1<=x.n/\x.n<=1000
  ·rw[if_pos (decide_eq_true hn),if_pos (λ_=>hn),ord];by_cases s1:o.state=1
   ·rw[if_pos (by rw[s1];rfl),aKo];dsimp only;by_cases hq:0<=x.n - o.iN
    ·rw[if_pos hq];by_cases c1:x.n - o.iN<=b.fP.get o.item
     ·rw[if_pos ⟨s1,c1,by omega⟩,aKe (aKt o2 o_ c1),show b.fP.get o.item - (x.n - o.iN)=b.fP.get o.item+o.iN - x.n by omega];exact Com.yes rfl
     ·rw[if_neg (λq=>c1 q.2.1),aKg (aKp (b:=b) λ_ _=>by omega)];exact Com.no rfl
    ·rw[if_neg hq];by_cases c1:b.fP.get o.item+o.iN - x.n<=1099511627776
     ·rw[if_pos ⟨s1,by omega,c1⟩,aKe (aLj o2 o_ o_),show b.fP.get o.item+(o.iN - x.n)=b.fP.get o.item+o.iN - x.n by omega];exact Com.yes rfl
     ·rw[if_neg (λq=>c1 q.2.2),aKg (aLf (b:=b) λ_ _=>by omega)];exact Com.no rfl
   ·rw[if_neg (by simpa using s1),if_neg (λq=>s1 q.1)];exact Com.no rfl
  ·rw[if_neg (by simpa using hn),if_neg (λq=>hn (q rfl))];exact Com.no rfl
 ·rw[if_neg sD,if_neg sD,if_neg sD,if_neg sD,if_pos rfl,if_pos (λq=>absurd q sD),if_neg sD,if_pos rfl];unfold Wk.cancel;rw[ord];by_cases s1:o.state=1\/o.state=2
  ·rw[if_pos (by rcases s1 with s|s<;>rw[s]<;>rfl),aKo];dsimp only;by_cases c1:b.fP.get o.item+o.iN<=1099511627776
   ·rw[aKe (aLj o2 o_ c1),aKo];dsimp only;by_cases s2:o.state=2
    ·rw[if_pos s2,if_pos s2];dsimp only[Wk.tell];by_cases c2:b.eO.get o.cC+o.cost<=1099511627776
     ·rw[if_pos ⟨s1,c1,λ_=>c2⟩,aKe (aKu (b:=⟨b.fP.set o.item (b.fP.get o.item+o.iN),b.mO,b.eO,b.aH⟩) o1 o4 c2)];exact Com.yes rfl
     ·rw[if_neg (λq=>c2 (q.2.2 s2)),aKg (aKq (b:=⟨b.fP.set o.item (b.fP.get o.item+o.iN),b.mO,b.eO,b.aH⟩) λ_ _=>by show _<b.eO.get o.cC+o.cost;omega)];exact Com.no rfl
    ·rw[if_neg s2,if_neg s2,if_pos ⟨s1,c1,λq=>absurd q s2⟩];exact Com.yes rfl
   ·rw[if_neg (λq=>c1 q.2.1),aKg (aLf (b:=b) λ_ _=>by omega)];exact Com.no rfl
  ·rw[if_neg (by simpa using s1),if_neg (λq=>s1 q.1)];exact Com.no rfl
 ·rw[if_neg sD,if_neg sD,if_neg sD,if_neg sD,if_neg sD,if_pos rfl,if_pos (λq=>absurd q sD),if_neg sD,if_neg sD,if_pos rfl];unfold Wk.Y2;rw[ord];by_cases s1:o.state=1
  ·rw[if_pos (by rw[s1];rfl),aKo];dsimp only;by_cases c1:o.iN*b.mO.get o.item<=1099511627776
   ·have e:mY b o.item o.iN=(o.iN*b.mO.get o.item,0):=by unfold mY;rw[if_pos ⟨o2,by omega⟩,if_pos c1]
    rw[e,if_neg (λq=>q rfl)];dsimp only;have h0:0<=o.iN*b.mO.get o.item:=Int.mul_nonneg o3.1 b2.1;by_cases c2:o.iN*b.mO.get o.item<=b.eO.get o.cC
    ·have e2:sN b o.cC (o.iN*b.mO.get o.item)=(⟨b.fP,b.mO,b.eO.set o.cC (b.eO.get o.cC - o.iN*b.mO.get o.item),b.aH⟩,0):=by unfold sN;rw[if_pos ⟨o1,h0,c1⟩,if_neg o_]
     rw[if_pos ⟨s1,c1,c2⟩,aKe e2];exact Com.yes rfl
    ·have e2:(sN b o.cC (o.iN*b.mO.get o.item)).2≠0:=by unfold sN;rw[if_pos ⟨o1,h0,c1⟩,if_pos o_];exact(by decide:(11:Int)≠0)
     rw[if_neg (λq=>c2 q.2.2),aKg e2];exact Com.no rfl
   ·have e:mY b o.item o.iN=(0,7):=by unfold mY;rw[if_pos ⟨o2,by omega⟩,if_neg c1]
    rw[e,if_pos sD,if_neg (λq=>c1 q.2.1)];exact Com.no rfl
  ·rw[if_neg (by simpa using s1),if_neg (λq=>s1 q.1)];exact Com.no rfl
 ·rw[if_neg sD,if_neg sD,if_neg sD,if_neg sD,if_neg sD,if_neg sD,if_pos rfl,if_pos (λq=>absurd q sD),if_neg sD,if_neg sD,if_neg sD,if_pos rfl];unfold Wk.Qn;rw[ord];by_cases s1:o.state=2
  ·rw[if_pos (by rw[s1];rfl),if_pos s1];exact Com.yes rfl
  ·rw[if_neg (by simpa using s1),if_neg s1];exact Com.no rfl
 ·rw[if_neg sD,if_neg sD,if_neg sD,if_neg sD,if_neg sD,if_neg sD,if_neg sD,if_pos rfl,if_pos (λq=>absurd q sD),if_neg sD,if_neg sD,if_neg sD,if_neg sD,if_pos rfl];unfold Wk.Er;rw[ord];by_cases s1:o.state=3
  ·rw[if_pos (by rw[s1];rfl),aKo];dsimp only;by_cases c1:b.eO.get o.cC+o.cost<=1099511627776
   ·rw[if_pos ⟨s1,c1⟩,aKe (aKu o1 o4 c1)];exact Com.yes rfl
   ·rw[if_neg (λq=>c1 q.2),aKg (aKq (b:=b) λ_ _=>by omega)];exact Com.no rfl
  ·rw[if_neg (by simpa using s1),if_neg (λq=>s1 q.1)];exact Com.no rfl
theorem aPc{b:Bk}(hb:b.fit)(x:aX):Com (Wk.do ⟨b,[],⟨0,0⟩⟩ x) (d16 b x):=by
 have e0:∀u:Bk,(if (4:Int)=0 then some u else none)=none:=λu=>if_neg sD;have e7:∀u:Bk,(if (7:Int)=0 then some u else none)=none:=λu=>if_neg sD;unfold d16;by_cases k1:x.kind=1
 ·rw[if_pos k1];unfold Wk.do;rw[if_pos k1];unfold aKh C9;by_cases h:(0<=x.a/\x.a<=7)/\1<=x.n/\x.n<=1099511627776
  ·rw[if_pos h,if_pos (decide_eq_true h.2.1)];by_cases c:b.fP.get x.a+x.n<=1099511627776
   ·rw[if_pos c,if_pos rfl,aKe (aLj h.1 o_ c)];exact Com.yes rfl
   ·rw[if_neg c,e7,aKg (aLf (b:=b) λ_ _=>by omega)];exact Com.no rfl
  ·rw[if_neg h,e0];by_cases h1:1<=x.n
   ·rw[if_pos (decide_eq_true h1),aKg (aLf λq r=>absurd ⟨q,h1,r.2⟩ h)];exact Com.no rfl
   ·rw[if_neg (by simpa using h1)];exact Com.no rfl
 rw[if_neg k1];by_cases k2:x.kind=2
 ·rw[if_pos k2];unfold Wk.do;rw[if_neg k1,if_pos k2];unfold aKh C9;by_cases h:(0<=x.a/\x.a<=7)/\1<=x.n/\x.n<=1099511627776
  ·rw[if_pos h,if_pos (decide_eq_true h.2.1)];by_cases c:b.eO.get x.a+x.n<=1099511627776
   ·rw[if_pos c,if_pos rfl,aKe (aKu h.1 o_ c)];exact Com.yes rfl
   ·rw[if_neg c,e7,aKg (aKq (b:=b) λ_ _=>by omega)];exact Com.no rfl
  ·rw[if_neg h,e0];by_cases h1:1<=x.n
   ·rw[if_pos (decide_eq_true h1),aKg (aKq λq r=>absurd ⟨q,h1,r.2⟩ h)];exact Com.no rfl
   ·rw[if_neg (by simpa using h1)];exact Com.no rfl
 rw[if_neg k2];by_cases k3:x.kind=3
 ·rw[if_pos k3];unfold Wk.do;rw[if_neg k1,if_neg k2,if_pos k3];unfold Wk.place C9;by_cases h:(0<=x.a/\x.a<=7)/\(0<=x.b/\x.b<=7)/\1<=x.n/\x.n<=1000
  ·rw[if_pos (by unfold eight;rw[decide_eq_true h.1,decide_eq_true h.2.1,decide_eq_true h.2.2];rfl)];have it:(0<=aJv b x/\oI b x=aJv b x/\(0<=aJv b x/\aJv b x<=7)/\x.n<=b.fP.get (aJv b x))\/(¬0<=aJv b x/\¬x.n<=b.fP.get (oI b x)):=by
    have h1:=aNr (b:=b) (i:=x.b) h.2.2;have h2:=aNr (b:=b) (i:=x.ref.rep) h.2.2;unfold aJv oI;by_cases c1:x.n<=b.fP.get x.b
    ·rw[if_pos c1,h1.2 ⟨h.2.1,c1⟩];exact .inl ⟨h.2.1.1,rfl,h.2.1,c1⟩
    ·have e1:Aj b x.b x.n=false:=by
      cases hx:Aj b x.b x.n with
      |false=>rfl
      |true=>exact absurd (h1.1 hx).2 c1
     rw[if_neg c1,e1];by_cases c2:(x.ref.seq=1/\0<=x.ref.rep/\x.ref.rep<=7)/\x.n<=b.fP.get x.ref.rep
     ·rw[if_pos c2,h2.2 ⟨c2.1.2,c2.2⟩,decide_eq_true c2.1.1];exact .inl ⟨c2.1.2.1,rfl,c2.1.2,c2.2⟩
     ·rw[if_neg c2];refine .inr ⟨by decide,?_⟩;rw[if_neg]
      ·exact c1
      ·intro hh;simp only[aRa,aCt,aAv,decide_eq_true_eq] at hh;exact c2 ⟨⟨hh.1,(h2.1 hh.2).1⟩,(h2.1 hh.2).2⟩
   by_cases p1:fA b x.id<0
   ·by_cases p2:b.aH.length<32
    ·have e:wH b ⟨x.id,x.a,oI b x,x.n,0,1⟩=(lK b ⟨x.id,x.a,oI b x,x.n,0,1⟩,0):=by unfold wH;rw[if_neg (show ¬0<=fA b x.id by omega),if_neg o_]
     rw[aKe e,aKo];dsimp only;rcases it with⟨i1,i2,i3,i4⟩|⟨i1,i2⟩
     ·rw[if_pos ⟨h,p1,p2,i1⟩,i2];obtain⟨q1,q2⟩:=aMc b (b.fP.set (aJv b x) (b.fP.get (aJv b x) - x.n)) ⟨x.id,x.a,aJv b x,x.n,0,1⟩;rw[aKe (aKt (b:=lK b _) i3 o_ (by rw[q2];exact i4)),q2,q1];exact Com.yes rfl
     ·rw[if_neg (λq=>i1 q.2.2.2),aKg (aKp λ_ _=>by rw[(aMc b b.fP _).2];omega)];exact Com.no rfl
    ·have e:(wH b ⟨x.id,x.a,oI b x,x.n,0,1⟩).2≠0:=by unfold wH;rw[if_neg (show ¬0<=fA b x.id by omega),if_pos o_];exact(by decide:(3:Int)≠0)
     rw[if_neg (λq=>p2 q.2.2.1),aKg e];exact Com.no rfl
   ·have e:(wH b ⟨x.id,x.a,oI b x,x.n,0,1⟩).2≠0:=by unfold wH;rw[if_pos (show 0<=fA b x.id by omega)];exact(by decide:(9:Int)≠0)
    rw[if_neg (λq=>p1 q.2.1),aKg e];exact Com.no rfl
  ·have e:¬(eight x.a&&eight x.b&&decide (1<=x.n/\x.n<=1000))=true:=λhh=>by
    unfold eight at hh;simp only[aAv,decide_eq_true_eq] at hh;exact h ⟨hh.1.1,hh.1.2,hh.2⟩
   rw[if_neg e,if_neg (λq=>h q.1)];exact Com.no rfl
 rw[if_neg k3];by_cases k9:x.kind=9
 ·rw[if_pos k9];unfold Wk.do;rw[if_neg k1,if_neg k2,if_neg k3,if_neg o_,if_neg o_,if_neg o_,if_neg o_,if_neg o_,if_pos k9];by_cases h:(0<=x.a/\x.a<=7)/\0<=x.n/\x.n<=1073741824
  ·have e:mF b x.a x.n=(⟨b.fP,b.mO.set x.a x.n,b.eO,b.aH⟩,0):=by unfold mF;rw[if_pos h]
   rw[if_pos h,aKe e];exact Com.yes rfl
  ·have e:(mF b x.a x.n).2≠0:=by unfold mF;rw[if_neg h];exact(by decide:(4:Int)≠0)
   rw[if_neg h,aKg e];exact Com.no rfl
 rw[if_neg k9];by_cases k4:4<=x.kind/\x.kind<=8
 ·cases hf:vL b x.ref with
  |some o =>
   have hm:o∈b.aH:=by
    unfold vL at hf;split at hf
    ·exact aAi hf
    ·cases hf
   have:=aOs hb hf (hb.C7 o hm) k4;rw[Option.bind_some];by_cases hn:x.kind=4->1<=x.n/\x.n<=1000
   ·rw[if_pos hn] at this;rw[if_pos ⟨k4,hn⟩];exact this
   ·rw[if_neg hn] at this;rw[if_neg (λq=>hn q.2)];exact this
  |none =>
   rw[Option.bind_none,ite_self];have ord:=λst=>aOf (r:=⟨0,0⟩) (st:=st) hf;unfold Wk.do;rw[if_neg k1,if_neg k2,if_neg k3];rcases(show x.kind=4\/x.kind=5\/x.kind=6\/x.kind=7\/x.kind=8 by omega) with k|k|k|k|k
   all_goals rw[k]
   ·rw[if_pos rfl];unfold Wk.J6 C9;rw[ord];split<;>exact Com.no rfl
   ·rw[if_neg sD,if_pos rfl];unfold Wk.cancel;rw[ord];exact Com.no rfl
   ·rw[if_neg sD,if_neg sD,if_pos rfl];unfold Wk.Y2;rw[ord];exact Com.no rfl
   ·rw[if_neg sD,if_neg sD,if_neg sD,if_pos rfl];unfold Wk.Qn;rw[ord];exact Com.no rfl
   ·rw[if_neg sD,if_neg sD,if_neg sD,if_neg sD,if_pos rfl];unfold Wk.Er;rw[ord];exact Com.no rfl
 ·rw[if_neg (λq=>k4 q.1)];unfold Wk.do;rw[if_neg k1,if_neg k2,if_neg k3,if_neg o_,if_neg o_,if_neg o_,if_neg o_,if_neg o_,if_neg k9];exact Com.no rfl
theorem aPj{b:Bk}(hb:b.fit)(x:aX):(C0 b x).1=(d16 b x).getD b:=by
 have h:=aPc hb x;unfold C0;cases hd:d16 b x with
 |some b'=>rw[hd] at h;obtain⟨o,r,h⟩:=h;rw[h];rfl
 |none=>rw[hd] at h;obtain⟨k,h⟩:=h;rw[h];rfl
end
section
open Go.RowKit Reg
open Mem hiding Rd
section
variable (E:Env) (A:Option Addr) (n c:Nat)
theorem aOc(k a m:Int)(r:bJ):G E 199 [.int .i64 k,.int .i64 a,.int .i64 m,.agg #[.int .i64 r.rep,.int .i64 r.seq]] [] (cM (.agg (cQ.cs ⟨k,a,m,r⟩).toArray) []):=by
 refine t_ func199 ntmps199 ?_;repeat first|refine v_ ?_|intro
 exact Kz
instance aQk{k a m r s:Int}:vZ 199 [.int .i64 k,.int .i64 a,.int .i64 m,.agg #[.int .i64 r,.int .i64 s]] (.agg (cQ.cs ⟨k,a,m,⟨r,s⟩⟩).toArray):=⟨λE=>aOc E k a m ⟨r,s⟩⟩
def aQa(b b':Bk):Ending->List aL->Prop:=λe H'=>∃(y:Bh) (X:Option Addr) (m q:Nat),y.b=b'/\e=.returned (.tuple #[.agg y.cs.toArray,.slice X m q])/\((y.A=A/\y.m=n/\y.c=c/\b'.aH=b.aH/\H'=[])\/H'=[iR y])
theorem aKc{p:Prop}[Decidable p]{u v:Bk}(h:(if p then some u else none)=some v):p/\u=v:=by
 by_cases hp:p
 ·rw[if_pos hp] at h;exact⟨hp,aDk h⟩
 ·rw[if_neg hp] at h;cases h
theorem aNh{l:O8}{i k:Int}(h:aKh l i k=0):(0<=i/\i<=7)/\(1<=k/\k<=1099511627776)/\l.get i+k<=1099511627776:=by
 unfold aKh at h;by_cases h1:(0<=i/\i<=7)/\1<=k/\k<=1099511627776
 ·rw[if_pos h1] at h;by_cases h2:l.get i+k<=1099511627776
  ·exact⟨h1.1,h1.2,h2⟩
  ·rw[if_neg h2] at h;exact absurd h sD
 ·rw[if_neg h1] at h;exact absurd h sD
theorem aOa(b:Bk)(hb:b.fit)(x:aX)(hx:¬(4<=x.kind/\x.kind<=8))(b':Bk)(h:d16 b x=some b')(hr:Rd E eB A n c b.aH):G E 138 [.agg (b.cs A n c).toArray,.agg x.cs.toArray] [] (aQa A n c b b'):=by
 have hn:=hr.len;have hcap:=hr.cap;have hmax:=fX;have hlen:=hb.len;have itm:=λM hB=>aNt M A n c b x hB;have put:=λM A n c (b:Bk) hr o hm=>aOi M b A n c hr o hm;unfold d16 at h;obtain⟨⟨ir,is⟩,tm,kd,a,bb,nn,⟨rr,rs⟩⟩:=x;dsimp only at h hx;by_cases k1:kd=1
 ·subst k1;rw[if_pos rfl] at h;obtain⟨h1,rfl⟩:=aKc h;obtain⟨h2,h3,h4⟩:=aNh h1;obtain⟨m,rfl⟩:=aCf h2.1;have c1:=(Bk.cell (b:=b) (A:=A) (n:=n) (c:=c) (m:=m) o_).1;have c2:=(Bk.aMs (b:=b) (A:=A) (n:=n) (c:=c) (m:=m) o_ (b.fP.get m+nn)).1;have c3:=O8.B6 hb.ok.1 (m:Int);dsimp only[aX.cs,bJ.cs,Bk.cs] at c1 c2⊢;generalize b.fP.get (m:Int)=y at *;refine t_ func138 ntmps138 ?_;repeat first|refine v_ ?_|refine Dr.two ?_ ?_|intro
  refine C.bL 12 (l_ [0,1,2,3,4,5,6,7,8,9,10,11] (g_ 12 .nil)) _ q_ q_ aB.refl ?_;repeat first|refine v_ ?_|refine Dr.two ?_ ?_|intro
  rw[c2];repeat first|refine v_ ?_|refine Dr.two ?_ ?_|intro
  exact gS rfl aF rfl rfl rfl aS rfl aF aA (⟨⟨_,A,n,c⟩,none,0,0,rfl,rfl,.inl ⟨rfl,rfl,rfl,rfl,rfl⟩⟩)
 rw[if_neg k1] at h;by_cases k2:kd=2
 ·subst k2;rw[if_pos rfl] at h;obtain⟨h1,rfl⟩:=aKc h;obtain⟨h2,h3,h4⟩:=aNh h1;obtain⟨m,rfl⟩:=aCf h2.1;have c1:=(Bk.cell (b:=b) (A:=A) (n:=n) (c:=c) (m:=m) o_).2.2;have c2:=(Bk.aMs (b:=b) (A:=A) (n:=n) (c:=c) (m:=m) o_ (b.eO.get m+nn)).2.2;have c3:=O8.B6 hb.ok.2.2 (m:Int);dsimp only[aX.cs,bJ.cs,Bk.cs] at c1 c2⊢;generalize b.eO.get (m:Int)=y at *;refine t_ func138 ntmps138 ?_;repeat first|refine v_ ?_|refine Dr.two ?_ ?_|intro
  refine C.bL 12 (l_ [0,1,2,3,4,5,6,7,8,9,10,11] (g_ 12 .nil)) _ q_ q_ aB.refl ?_;repeat first|refine v_ ?_|refine Dr.two ?_ ?_|intro
  rw[c2];repeat first|refine v_ ?_|refine Dr.two ?_ ?_|intro
  rename_i g2 g3 g4;refine rB (l_ [0,1,2,3,4,5] (g_ 6 (.two 7 (g_ 8 (n_ 9 .nil)) 8 (g_ 7 (n_ 9 .nil))))) ([aJ g3 34 _,aJ g2 45 _]) ?_;repeat first|refine v_ ?_|refine Dr.two ?_ ?_|intro
  all_goals
   repeat first|refine v_ ?_|refine Dr.two ?_ ?_|intro
   exact gS rfl aF rfl rfl rfl aS rfl aF aA (⟨⟨_,A,n,c⟩,_,_,_,rfl,rfl,.inl ⟨rfl,rfl,rfl,rfl,rfl⟩⟩)
 rw[if_neg k2] at h;by_cases k3:kd=3
 ·subst k3;rw[if_pos rfl] at h;obtain⟨⟨h1,h2,h3,h4⟩,rfl⟩:=aKc h;have tA:aJv b ⟨⟨ir,is⟩,tm,3,a,bb,nn,⟨rr,rs⟩⟩<=7/\nn<=b.fP.get (aJv b ⟨⟨ir,is⟩,tm,3,a,bb,nn,⟨rr,rs⟩⟩):=by
   unfold aJv at h4⊢;dsimp only at h4⊢;split
   ·exact⟨h1.2.1.2,‹_›⟩
   ·split
    ·rename_i q;exact⟨q.1.2.2,q.2⟩
    ·rename_i q1 q2;rw[if_neg q1,if_neg q2] at h4;exact absurd h4 sD
  have itm2:=λM=>itm M h1.2.1;generalize aJv b ⟨⟨ir,is⟩,tm,3,a,bb,nn,⟨rr,rs⟩⟩=q at *;obtain⟨m,rfl⟩:=aCf h4;have c1:=(Bk.cell (b:=b) (A:=A) (n:=n) (c:=c) (m:=m) o_).1;have c2:=(Bk.aMs (b:=b) (A:=A) (n:=n) (c:=c) (m:=m) o_ (b.fP.get m - nn)).1;have c3:=O8.B6 hb.ok.1 (m:Int);have SM:=λM hr=>put M A n c ⟨b.fP.set m (b.fP.get m - nn),b.mO,b.eO,b.aH⟩ hr ⟨⟨ir,is⟩,a,m,nn,0,1⟩ o_;obtain⟨b2,hb2⟩:∃b2,lK ⟨b.fP.set m (b.fP.get m - nn),b.mO,b.eO,b.aH⟩ ⟨⟨ir,is⟩,a,m,nn,0,1⟩=b2:=⟨_,rfl⟩
  rw[hb2] at SM⊢;dsimp only[aX.cs,bJ.cs,Bk.cs] at c1 c2 itm2 SM⊢;generalize b.fP.get (m:Int)=y at *;refine t_ func138 ntmps138 ?_;repeat first|refine v_ ?_|refine Dr.two ?_ ?_|intro
  refine bK itm2 ?_;repeat first|refine v_ ?_|refine Dr.two ?_ ?_|intro
  refine C.bL 10 (l_ [0,1,2,3,4,5,6,7,8,9] (g_ 10 .nil)) _ q_ q_ aB.refl ?_;repeat first|refine v_ ?_|refine Dr.two ?_ ?_|intro
  rw[c2];repeat first|refine v_ ?_|refine Dr.two ?_ ?_|intro
  rename_i g2 g3 g4;refine dX SM ?_;rintro e H' ⟨B,d,hd,rfl,rfl⟩;repeat first|refine v_ ?_|refine Dr.two ?_ ?_|intro
  refine rB (l_ [0,1,2,3,4,5,7,8,9,10] (g_ 6 (g_ 11 (.two 12 (g_ 13 (n_ 14 .nil)) 13 (g_ 12 (n_ 14 .nil)))))) ([aJ g3 34 _,aJ g2 45 _]) ?_;repeat first|refine v_ ?_|refine Dr.two ?_ ?_|intro
  all_goals
   repeat first|refine v_ ?_|refine Dr.two ?_ ?_|intro
   exact gS rfl aF rfl rfl rfl aS rfl aF aA (⟨⟨b2,B,b2.aH.length,d⟩,_,_,_,rfl,rfl,.inr rfl⟩)
 rw[if_neg k3] at h;by_cases k9:kd=9
 ·subst k9;rw[if_pos rfl] at h;obtain⟨⟨h2,h3⟩,rfl⟩:=aKc h;obtain⟨m,rfl⟩:=aCf h2.1;have c2:=(Bk.aMs (b:=b) (A:=A) (n:=n) (c:=c) (m:=m) o_ nn).2.1;dsimp only[aX.cs,bJ.cs,Bk.cs] at c2⊢;refine t_ func138 ntmps138 ?_;repeat first|refine v_ ?_|refine Dr.two ?_ ?_|intro
  rw[c2];repeat first|refine v_ ?_|refine Dr.two ?_ ?_|intro
  exact gS rfl aF rfl rfl rfl aS rfl aF aA (⟨⟨_,A,n,c⟩,none,0,0,rfl,rfl,.inl ⟨rfl,rfl,rfl,rfl,rfl⟩⟩)
 rw[if_neg k9,if_neg (λq=>hx q.1)] at h;cases h
end
end
end Go.Proofs.YtmilalkjbojciaaGreat.Sep
