/- Part AW: what it needs. No condition. -/
import Derived.Test.YtmilalkjbojciaaGreatLAN
set_option maxRecDepth 100000
set_option maxHeartbeats 8000000
open Go.Proofs.Tryz
namespace Go.Proofs.YtmilalkjbojciaaGreat.Sep
open Go.RowKit Reg
open Mem hiding Rd
theorem aPy(E:Env)(a b:bJ):G E 263 [.agg a.cs.toArray,.agg b.cs.toArray] [] (cM (.bool (zS a b)) []):=by
 unfold zS;refine t_ func263 ntmps263 ?_;repeat' (first|refine w_ ?_|refine k_ ?_|refine f_ ?_ ?_|intro _)
 all_goals exact aR rfl aF aA ⟨rJ,rfl⟩
instance aQl{r s r2 s2:Int}:vZ 263 [.agg #[.int .i64 r,.int .i64 s],.agg #[.int .i64 r2,.int .i64 s2]] (.bool (zS ⟨r,s⟩ ⟨r2,s2⟩)):=⟨λE=>aPy E ⟨r,s⟩ ⟨r2,s2⟩⟩
section
variable (E:Env) (b:Bk) (A:Option Addr) (n c:Nat)
theorem aKw(hr:Rd E eB A n c b.aH)(a:bJ):G E 196 [.agg (b.cs A n c).toArray,.agg a.cs.toArray] [] (cM (.int .i64 (fA b a)) []):=by
 have hn:=hr.len;have hcap:=hr.cap;have hmax:=fX;refine t_ func196 ntmps196 ?_;repeat first|refine v_ ?_|intro
 rename_i g2 g3;refine C.scan (Y:=Unit) hn (λi _=>[(2,pt g2),(3,pt g3),(5,.int .i64 i)]) (λ_ _=>[aJ g2 45 (b.cs A n c),aJ g3 32 a.cs]) (λi _=>∀j y,j<i->b.aH[j]?=some y->decide (y.id=a)=false) () aD aA (λj y hj=>by omega) ?_ ?_
 ·intro i _ x Gf hi hx hall;by_cases h:x.id=a
  ·have hd:decide (x.id=a)=true:=decide_eq_true h;repeat first|refine v_ ?_|intro
   refine rA (l_ [0,1,2,3,4,5,6,7] .nil) ?_;repeat first|refine v_ ?_|intro
   exact aR rfl aF aA (⟨NQ (xM (p:=λo:dD=>decide (o.id=a)) hx hd hall).symm,rfl⟩)
  ·have hd:decide (x.id=a)=false:=decide_eq_false h;repeat first|refine v_ ?_|intro
   refine rA (l_ [0,1,2,3,4,5,6,7] .nil) ?_;repeat first|refine v_ ?_|intro
   refine⟨(),aD,aA,λj y hj hy=>?_⟩;by_cases hji:j=i
   ·subst hji;rw[hx] at hy;injection hy with hy;subst hy;exact hd
   ·exact hall j y o_ hy
 ·intro _ Gf hall;repeat first|refine v_ ?_|intro
  exact aR rfl aF aA (⟨NQ (rR (BU λj y hj hy=>hall j y o_ hy)).symm,rfl⟩)
theorem aOi(hr:Rd E eB A n c b.aH)(o:dD)(hm:n<=1000):G E 201 [.agg (b.cs A n c).toArray,.agg o.cs.toArray] [] λe H'=>∃B d,((lK b o).aH.length<=d/\d<=maxLen)/\e=.returned (.agg ((lK b o).cs B (lK b o).aH.length d).toArray)/\H'=[own eB B (lK b o).aH.length d (lK b o).aH]:=by
 have hn:=hr.len;have hcap:=hr.cap;have hmax:=fX;unfold lK;refine t_ func201 ntmps201 ?_;by_cases h:0<=fA b o.id
 ·rw[if_pos h];obtain⟨h1,x,h2,h3⟩:=gZ h;obtain⟨k,hk⟩:=aCf h;change b.aH[(fA b o.id).toNat]?=some x at h2;rw[hk,aAu] at h2⊢;have hl:(b.aH.set k o).length=n:=by rw[aAt,hn]
  dsimp only;rw[hl];have hk':fA b ⟨o.id.rep,o.id.seq⟩=(k:Int):=hk;have hlt:=(aAd.1 h2).1;repeat first|refine v_ ?_|intro
  refine dX (λM h1=>aKw M b A n c h1 ⟨o.id.rep,o.id.seq⟩) ?_;rw[hk'];rintro e H' ⟨rfl,rfl⟩;repeat first|refine v_ ?_|intro
  exact cI rfl aF rfl rfl rfl aS rfl aA (⟨_,_,⟨‹_›,‹_›⟩,rfl,rfl⟩)
 ·rw[if_neg h];have hk':¬0<=fA b ⟨o.id.rep,o.id.seq⟩:=h;obtain⟨p,hp⟩:∃p:dD->Bool,p=λx=>zS x.id o.id:=⟨_,rfl⟩
  rw[show(λx:dD=>zS x.id o.id)=p from hp.symm];repeat first|refine v_ ?_|intro
  rename_i g2 g3 g4;refine eV (λM h1=>aKw M b A n c h1 ⟨o.id.rep,o.id.seq⟩) ?_;repeat ((fail_if_success (refine C.seq (x:=Code.region 9 _ _) ?_));first|refine Cx ?_|refine k_ ?_|intro _|refine Dr.two ?_ ?_)
  refine C.BI (X:=Unit) (λ_=>[(2,pt g2),(3,pt g3),(4,pt g4),(5,.slice none 0 0),(7,.int .i64 (behind p b.aH))]) (λ_=>[aJ g4 45 (sY.cs none 0 0),aJ g3 155 o.cs,aJ g2 45 (b.cs A n c)]) (λ_=>True) ?_ ?_
  ·repeat first|refine v_ ?_|intro
   refine C.scan (Y:=Unit) hn (λi _=>[(2,pt g2),(3,pt g3),(4,pt g4),(5,.slice none 0 0),(7,.int .i64 (behind p (b.aH.take i))),(8,.int .i64 i)]) (λ_ _=>[aJ g4 45 (sY.cs none 0 0),aJ g3 155 o.cs,aJ g2 45 (b.cs A n c)]) (λ_ _=>True) () aD aA trivial ?_ ?_
   ·intro i _ x Gf hi hx _;have hb2:behind p (b.aH.take (i+1))=if p x then i+1 else behind p (b.aH.take i):=by
     rw[take_succ hx,Gc,aAg,aBr o_]
    have hpx:zS ⟨x.id.rep,x.id.seq⟩ ⟨o.id.rep,o.id.seq⟩=p x:=by rw[hp]
    cases hc:p x with
    |true =>
     rw[hc] at hb2 hpx;rw[if_pos rfl] at hb2;repeat first|refine v_ ?_|intro
     refine rA (l_ [0,1,2,3,4,5,6,7] (g_ 8 .nil)) ?_;repeat first|refine v_ ?_|intro
     refine⟨(),?_,aA,trivial⟩;rw[hb2];exact aD
    |false =>
     rw[hc] at hb2 hpx;rw[if_neg sD] at hb2;repeat first|refine v_ ?_|intro
     refine rA (l_ [0,1,2,3,4,5,6,7] (g_ 8 .nil)) ?_;repeat first|refine v_ ?_|intro
     refine⟨(),?_,aA,trivial⟩;rw[hb2];exact aD
   ·intro _ Gf _;rw[hn,aAo,<-hn];repeat first|refine v_ ?_|intro
    exact⟨(),aD,aA,trivial⟩
  intro _ Gf _;have hkn:behind p b.aH<=n:=by rw[hn];exact AJ p b.aH
  have hlen:(b.aH.take (behind p b.aH)++[o]++b.aH.drop (behind p b.aH)).length=behind p b.aH+1+(n - behind p b.aH):=by
   simp only[aAe,aAg,aBd,aAs,aDh];omega
  dsimp only;rw[hlen];generalize behind p b.aH=m at hkn hlen⊢;have h1:Rd E eB A m c (b.aH.take m):=hr.upto hkn o_ (aAf _);have h2:=hr.from_ (k:=m) hkn;repeat first|refine v_ ?_|intro
  exact cI rfl aF rfl rfl rfl aS rfl aA (⟨_,_,⟨‹_›,‹_›⟩,rfl,rfl⟩)
end
def i6T:Ty Int where
 val x:=.int .i64 x
 size:=1
 bytes:=8
 tid:=2
 zero:=.int .i64 0
 hlen _:=rfl
 lJ a u h:=by simp only[Value.cells,aAp] at h;subst h;rfl
 gL:=sD
 hzero:=rfl
 fW:=q_
 nR:=.inr ⟨q_,λ_=>rfl⟩
instance aQp:Bj 355 [.int .i64 0,.int .i64 0,.int .i64 0,.int .i64 0,.int .i64 0,.int .i64 0,.int .i64 0,.int .i64 0,.int .i64 0] [(0,1),(1,1),(2,1),(3,1),(4,1),(5,1),(6,1),(7,1),(8,1)] 1:=⟨⟨q_,q_,q_⟩⟩
instance aQo:Bg 355 [.int .i64 0,.int .i64 0,.int .i64 0,.int .i64 0,.int .i64 0,.int .i64 0,.int .i64 0,.int .i64 0,.int .i64 0]:=⟨q_⟩
abbrev O8.li(x:O8):List Int:=[x.a0,x.a1,x.a2,x.a3,x.a4,x.a5,x.a6,x.a7]
theorem O8.at_(x:O8){m:Nat}(h:m<8):x.li[m]?=some (x.get m):=by
 rcases oV (i:=(m:Int)) o_ with e|e|e|e|e|e|e|e<;>(have:m=_:=Int.ofNat.inj e;subst this;rfl)
theorem Bk.cell{b:Bk}{A:Option Addr}{n c m:Nat}(h:m<8):(b.cs A n c)[m]?=some (.int .i64 (b.fP.get m))/\(b.cs A n c)[8+m]?=some (.int .i64 (b.mO.get m))/\(b.cs A n c)[16+m]?=some (.int .i64 (b.eO.get m)):=by
 rcases oV (i:=(m:Int)) o_ with e|e|e|e|e|e|e|e<;>(have:m=_:=Int.ofNat.inj e;subst this;exact⟨rfl,rfl,rfl⟩)
theorem Bk.aMs{b:Bk}{A:Option Addr}{n c m:Nat}(h:m<8)(v:Int):(b.cs A n c).set m (.int .i64 v)=Bk.cs ⟨b.fP.set m v,b.mO,b.eO,b.aH⟩ A n c/\(b.cs A n c).set (8+m) (.int .i64 v)=Bk.cs ⟨b.fP,b.mO.set m v,b.eO,b.aH⟩ A n c/\(b.cs A n c).set (16+m) (.int .i64 v)=Bk.cs ⟨b.fP,b.mO,b.eO.set m v,b.aH⟩ A n c:=by
 rcases oV (i:=(m:Int)) o_ with e|e|e|e|e|e|e|e<;>(have:m=_:=Int.ofNat.inj e;subst this;exact⟨rfl,rfl,rfl⟩)
theorem rd8{E:Env}{g off:Nat}{cs:List Value}{l:O8}(h:gE E g cs)(hs:∀m:Nat,m<8->cs[off+m]?=some (.int .i64 (l.get m))):Rd E i6T (some ⟨g,off,none⟩) 8 8 l.li:=by
 refine⟨rfl,aAf _,by decide,.inr ⟨_,rfl,(h _ _ (hs 0 sD)).1,λj u hu=>?_⟩⟩;have hj:j<8:=(aAd.1 hu).1;have h1:=(h _ _ (hs j hj)).2;have:(i6T.bT l.li)[j]?=some (.int .i64 (l.get j)):=by
  rcases oV (i:=(j:Int)) o_ with e|e|e|e|e|e|e|e<;>(have:j=_:=Int.ofNat.inj e;subst this;rfl)
 rw[this] at hu;obtain rfl:=aDk hu;rw[fB];exact h1
def aKh(l:O8)(i n:Int):Int:=if (0<=i/\i<=7)/\1<=n/\n<=1099511627776 then(if l.get i+n<=1099511627776 then 0 else 7) else 4
def aJv(b:Bk)(c:aX):Int:=if c.n<=b.fP.get c.b then c.b else if (c.ref.seq=1/\0<=c.ref.rep/\c.ref.rep<=7)/\c.n<=b.fP.get c.ref.rep then c.ref.rep else -1
section
variable (E:Env) (A:Option Addr) (n c:Nat)
theorem aOl(l:O8)(hl:l.BH 1099511627776)(hr:Rd E i6T A 8 8 l.li)(i k:Int):G E 194 [.slice A 8 8,.int .i64 i,.int .i64 k] [] (cM (.int .i64 (aKh l i k)) []):=by
 have hg:=O8.B6 hl i;unfold aKh;refine t_ func194 ntmps194 ?_;by_cases h:(0<=i/\i<=7)/\1<=k/\k<=1099511627776
 ·rw[if_pos h];obtain⟨m,rfl⟩:=aCf h.1.1;have hx:=l.at_ (m:=m) o_;generalize l.get (m:Int)=y at *;by_cases hk:y+k<=1099511627776
  ·rw[if_pos hk];repeat first|refine v_ ?_|intro
   exact B7
  ·rw[if_neg hk];repeat first|refine v_ ?_|intro
   exact B7
 ·rw[if_neg h];repeat' (first|refine w_ ?_|refine k_ ?_|refine f_ ?_ ?_|intro _)
  all_goals (try (exfalso;omega))
  all_goals exact aR rfl aF aA ⟨rfl,rfl⟩
theorem aNt(b:Bk)(x:aX)(hB:0<=x.b/\x.b<=7):G E 200 [.agg (b.cs A n c).toArray,.agg x.cs.toArray] [] (cM (.int .i64 (aJv b x)) []):=by
 obtain⟨id,tm,kd,a,bb,nn,⟨rr,rs⟩⟩:=x;dsimp only at hB;obtain⟨m,rfl⟩:=aCf hB.1;have h1:=(Bk.cell (b:=b) (A:=A) (n:=n) (c:=c) (m:=m) o_).1;unfold aJv;dsimp only[aX.cs,Bk.cs,G] at h1⊢;refine t_ func200 ntmps200 ?_;generalize b.fP.get (m:Int)=y at *;by_cases h:nn<=y
 ·rw[if_pos h];repeat first|refine v_ ?_|intro
  refine rA (l_ [0,1,2,3,4,5,6,7] .nil) ?_;repeat first|refine v_ ?_|intro
  exact B7
 ·rw[if_neg h];by_cases hr:0<=rr/\rr<=7
  ·obtain⟨m2,rfl⟩:=aCf hr.1;have h2:=(Bk.cell (b:=b) (A:=A) (n:=n) (c:=c) (m:=m2) o_).1;dsimp only[Bk.cs] at h2;generalize b.fP.get (m2:Int)=y2 at *;by_cases hs:rs=1
   ·by_cases hn:nn<=y2
    ·rw[if_pos ⟨⟨hs,hr⟩,hn⟩];repeat first|refine v_ ?_|intro
     refine rA (l_ [0,1,2,3,4,5,6,7] .nil) ?_;repeat first|refine v_ ?_|intro
     refine rA (l_ [0,1,2,3,4,5,6,7,8,9,10,11,12,13,14,15,16,17,18,19,20] .nil) ?_;repeat first|refine v_ ?_|intro
     exact B7
    ·rw[if_neg (λq=>hn q.2)];repeat first|refine v_ ?_|intro
     refine rA (l_ [0,1,2,3,4,5,6,7] .nil) ?_;repeat first|refine v_ ?_|intro
     refine rA (l_ [0,1,2,3,4,5,6,7,8,9,10,11,12,13,14,15,16,17,18,19,20] .nil) ?_;repeat first|refine v_ ?_|intro
     exact B7
   ·rw[if_neg (λq=>hs q.1.1)];repeat first|refine v_ ?_|intro
    refine rA (l_ [0,1,2,3,4,5,6,7] .nil) ?_;repeat first|refine v_ ?_|intro
    refine rA (l_ [0,1,2,3,4,5,6,7,8,9,10,11,12,13,14,15,16,17,18,19,20] .nil) ?_;repeat first|refine v_ ?_|intro
    exact B7
  ·rw[if_neg (λq=>hr q.1.2)];by_cases hs:rs=1
   ·rcases(show rr<0\/(0<=rr/\7<rr) by omega) with h3|h3
    ·repeat first|refine v_ ?_|intro
     refine rA (l_ [0,1,2,3,4,5,6,7] .nil) ?_;repeat first|refine v_ ?_|intro
     refine rA (l_ [0,1,2,3,4,5,6,7,8,9,10,11,12,13,14,15,16,17,18,19,20] .nil) ?_;repeat first|refine v_ ?_|intro
     exact B7
    ·repeat first|refine v_ ?_|intro
     refine rA (l_ [0,1,2,3,4,5,6,7] .nil) ?_;repeat first|refine v_ ?_|intro
     refine rA (l_ [0,1,2,3,4,5,6,7,8,9,10,11,12,13,14,15,16,17,18,19,20] .nil) ?_;repeat first|refine v_ ?_|intro
     exact B7
   ·repeat first|refine v_ ?_|intro
    refine rA (l_ [0,1,2,3,4,5,6,7] .nil) ?_;repeat first|refine v_ ?_|intro
    refine rA (l_ [0,1,2,3,4,5,6,7,8,9,10,11,12,13,14,15,16,17,18,19,20] .nil) ?_;repeat first|refine v_ ?_|intro
    exact B7
def Yes(p:Prop):Ending->List aL->Prop:=λe H'=>∃k:Int,e=.returned (.int .i64 k)/\(k=0↔p)/\H'=[]
theorem aOr(b:Bk)(x:aX)(hr:Rd E eB A n c b.aH):G E 195 [.agg (b.cs A n c).toArray,.agg x.cs.toArray] [] (Yes (((0<=x.a/\x.a<=7)/\(0<=x.b/\x.b<=7)/\1<=x.n/\x.n<=1000)/\fA b x.id<0/\b.aH.length<32/\0<=aJv b x)):=by
 have hn:=hr.len;have hcap:=hr.cap;have hmax:=fX;obtain⟨⟨ir,is⟩,tm,kd,a,bb,nn,rf⟩:=x;have fnd:=λM hr=>aKw M b A n c hr ⟨ir,is⟩;have itm:=λM hB=>aNt M A n c b ⟨⟨ir,is⟩,tm,kd,a,bb,nn,rf⟩ hB;dsimp only[aX.cs,bJ.cs] at fnd itm⊢;generalize fA b ⟨ir,is⟩=p at *;generalize aJv b ⟨⟨ir,is⟩,tm,kd,a,bb,nn,rf⟩=q at *;refine t_ func195 ntmps195 ?_;by_cases h:(0<=a/\a<=7)/\(0<=bb/\bb<=7)/\1<=nn/\nn<=1000
 case neg =>
  repeat' (first|refine w_ ?_|refine k_ ?_|refine f_ ?_ ?_|intro _)
  all_goals (try (exfalso;omega))
  all_goals exact aR rfl aF aA ⟨_,rfl,by omega,rfl⟩
 repeat first|refine v_ ?_|intro
 refine eV fnd ?_;by_cases hp:p<0
 ·by_cases hl:n<32
  ·repeat first|refine v_ ?_|intro
   refine bK (λM=>itm M h.2.1) ?_;by_cases hq:q<0
   ·repeat first|refine v_ ?_|intro
    exact aR rfl aF aA (⟨_,rfl,by omega,rfl⟩)
   ·repeat first|refine v_ ?_|intro
    exact aR rfl aF aA (⟨_,rfl,by omega,rfl⟩)
  ·repeat first|refine v_ ?_|intro
   exact aR rfl aF aA (⟨_,rfl,by omega,rfl⟩)
 ·repeat first|refine v_ ?_|intro
  exact aR rfl aF aA (⟨_,rfl,by omega,rfl⟩)
end
def aKa(b:Bk)(x:aX)(o:dD):Option Bk :=
 if x.kind=4 then(if o.state=1/\x.n - o.iN<=b.fP.get o.item/\b.fP.get o.item+o.iN - x.n<=1099511627776 then some (lK ⟨b.fP.set o.item (b.fP.get o.item+o.iN - x.n),b.mO,b.eO,b.aH⟩ ⟨o.id,o.cC,o.item,x.n,o.cost,1⟩) else none)
 else if x.kind=5 then(if (o.state=1\/o.state=2)/\b.fP.get o.item+o.iN<=1099511627776/\(o.state=2->b.eO.get o.cC+o.cost<=1099511627776) then some (lK ⟨b.fP.set o.item (b.fP.get o.item+o.iN),b.mO,if o.state=2 then b.eO.set o.cC (b.eO.get o.cC+o.cost) else b.eO,b.aH⟩ ⟨o.id,o.cC,o.item,o.iN,o.cost,4⟩) else none)
 else if x.kind=6 then(if o.state=1/\o.iN*b.mO.get o.item<=1099511627776/\o.iN*b.mO.get o.item<=b.eO.get o.cC then some (lK ⟨b.fP,b.mO,b.eO.set o.cC (b.eO.get o.cC - o.iN*b.mO.get o.item),b.aH⟩ ⟨o.id,o.cC,o.item,o.iN,o.iN*b.mO.get o.item,2⟩) else none)
 else if x.kind=7 then(if o.state=2 then some (lK b ⟨o.id,o.cC,o.item,o.iN,o.cost,3⟩) else none)
 else if x.kind=8 then(if o.state=3/\b.eO.get o.cC+o.cost<=1099511627776 then some (lK ⟨b.fP,b.mO,b.eO.set o.cC (b.eO.get o.cC+o.cost),b.aH⟩ ⟨o.id,o.cC,o.item,o.iN,o.cost,5⟩) else none)
 else none
section
variable (E:Env) (A:Option Addr) (n c:Nat)
theorem aOk(b:Bk)(hb:b.ok)(x:aX)(hk:4<=x.kind/\x.kind<=8)(hx:x.kind=4->1<=x.n/\x.n<=1000)(o:dD)(ho:o.fit):G E 197 [.agg (b.cs A n c).toArray,.agg x.cs.toArray,.agg o.cs.toArray] [] (Yes ((aKa b x o).isSome=true)):=by
 obtain⟨⟨ir,is⟩,tm,kd,a,bb,nn,⟨rr,rs⟩⟩:=x;obtain⟨⟨jr,js⟩,bu,it,qt,co,st⟩:=o;obtain⟨_,o1,o2,o3,o4⟩:=ho;dsimp only at hk hx o1 o2 o3 o4;obtain⟨m,rfl⟩:=aCf o2.1;obtain⟨m2,rfl⟩:=aCf o1.1;have h1:=(Bk.cell (b:=b) (A:=A) (n:=n) (c:=c) (m:=m) o_).1;have h2:=(Bk.cell (b:=b) (A:=A) (n:=n) (c:=c) (m:=m) o_).2.1;have h3:=(Bk.cell (b:=b) (A:=A) (n:=n) (c:=c) (m:=m2) o_).2.2;have b1:=O8.B6 hb.1 (m:Int);have b2:=O8.B6 hb.2.1 (m:Int);have b3:=O8.B6 hb.2.2 (m2:Int);have hpr:0<=qt*b.mO.get m/\qt*b.mO.get m<=1000*1073741824:=⟨Int.mul_nonneg o3.1 b2.1,Int.mul_le_mul o3.2 b2.2 b2.1 sD⟩
 have hwr:IntKind.i64.wrap (qt*b.mO.get m)=qt*b.mO.get m:=aAq _ o_;have hnx:kd=4->1<=nn/\nn<=1000:=hx;unfold aKa;dsimp only[aX.cs,dD.cs,bJ.cs,Bk.cs,G] at h1 h2 h3⊢;generalize b.fP.get (m:Int)=y at *;generalize b.mO.get (m:Int)=w at *;generalize b.eO.get (m2:Int)=z at *;generalize hp:qt*w=p at *;refine t_ func197 ntmps197 ?_;rcases(show kd=4\/kd=5\/kd=6\/kd=7\/kd=8 by omega) with rfl|rfl|rfl|rfl|rfl
 have hn1:=hnx rfl;rw[if_pos rfl];by_cases s1:st=1;subst s1;by_cases c1:nn - qt<=y;by_cases c2:y+qt - nn<=1099511627776;rw[if_pos ⟨rfl,c1,c2⟩];rotate_left;rw[if_neg (λq=>c2 q.2.2)];rotate_left;rw[if_neg (λq=>c1 q.2.1)];rotate_left;rw[if_neg (λq=>s1 q.1)];rotate_left;rw[if_neg sD,if_pos rfl];by_cases s1:st=1;subst s1;by_cases c1:y+qt<=1099511627776;rw[if_pos ⟨.inl rfl,c1,λq=>absurd q sD⟩];rotate_left;rw[if_neg (λq=>c1 q.2.1)];rotate_left;by_cases s2:st=2;subst s2;by_cases c1:y+qt<=1099511627776;by_cases c2:z+co<=1099511627776;rw[if_pos ⟨.inr rfl,c1,λ_=>c2⟩];rotate_left;rw[if_neg (λq=>c2 (q.2.2 rfl))];rotate_left;rw[if_neg (λq=>c1 q.2.1)];rotate_left;rw[if_neg (λq=>q.1.elim s1 s2)];rotate_left;rw[if_neg sD,if_neg sD,if_pos rfl];by_cases s1:st=1;subst s1;by_cases c1:p<=1099511627776;by_cases c2:p<=z;rw[if_pos ⟨rfl,c1,c2⟩];rotate_left;rw[if_neg (λq=>c2 q.2.2)];rotate_left;rw[if_neg (λq=>c1 q.2.1)];rotate_left;rw[if_neg (λq=>s1 q.1)];rotate_left;rw[if_neg sD,if_neg sD,if_neg sD,if_pos rfl];by_cases s1:st=2;subst s1;rw[if_pos rfl];rotate_left;rw[if_neg s1];rotate_left;rw[if_neg sD,if_neg sD,if_neg sD,if_neg sD,if_pos rfl];by_cases s1:st=3;subst s1;by_cases c1:z+co<=1099511627776;rw[if_pos ⟨rfl,c1⟩];rotate_left;rw[if_neg (λq=>c1 q.2)];rotate_left;rw[if_neg (λq=>s1 q.1)];rotate_left;all_goals
  repeat first|refine v_ ?_|intro
  refine rA (l_ [0,1,2,3,4,5,6,7,8,9,10,11,12,13,14,15,16,17] .nil) ?_;repeat first|refine v_ ?_|intro
  try
   refine rA (l_ [0,1,2,3,4,5,6,7,8,9,10,11,12,13,14,15] .nil) ?_;repeat first|refine v_ ?_|intro
  try
   refine rA (l_ [0,1,2,3,4,5,6,7,8,9,10,11,12,13,14,15,16] .nil) ?_;repeat first|refine v_ ?_|intro
  try
   refine rA (l_ [0,1,2,3,4,5,6,7,8,9,10,11,12,13,14,15,16,17,18,19,20,21,22,23,24,25,26,27,28,29] .nil) ?_;repeat first|refine v_ ?_|intro
  try
   refine rA (l_ [0,1,2,3,4,5,6,7,8,9,10,11,12,13] .nil) ?_;repeat first|refine v_ ?_|intro
  try
   refine rA (l_ [0,1,2,3,4,5,6,7,8,9,10,11,12,13,14,15,16,17,18] .nil) ?_;repeat first|refine v_ ?_|intro
  try
   refine rA (l_ [0,1,2,3,4,5,6,7,8,9,10,11,12,13] .nil) ?_;repeat first|refine v_ ?_|intro
  first
   |exact aR rfl aF aA ⟨_,rfl,⟨λ_=>rfl,λ_=>rfl⟩,rfl⟩
   |exact aR rfl aF aA ⟨_,rfl,⟨(λq=>absurd q sD),(λq=>by cases q)⟩,rfl⟩
end
end Go.Proofs.YtmilalkjbojciaaGreat.Sep
