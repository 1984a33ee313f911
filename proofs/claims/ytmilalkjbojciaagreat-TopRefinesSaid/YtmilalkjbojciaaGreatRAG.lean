/- Part AG: what it needs. No condition. -/
import Derived.Test.YtmilalkjbojciaaGreatRAA
import Derived.Test.YtmilalkjbojciaaGreatRAF
import Derived.Test.YtmilalkjbojciaaGreatRAE
set_option maxRecDepth 100000
set_option maxHeartbeats 8000000
open Go.Proofs.Tryz
namespace Go.Proofs.YtmilalkjbojciaaGreat.Sep
open Go.RowKit Reg
open Mem hiding Rd
theorem Da(E:Env)(n:Int)(h:0≤n∧n≤1099511627776):G E 390 [.int .i64 n] [] (cM (.int .u64 n) []):=by
 have h0:¬n<0:=o_;have h1:IntKind.u64.wrap n=n:=aFp _ o_;refine t_ func390 ntmps390 ?_;repeat first|refine v_ ?_|intro
 exact B7
theorem Mx(E:Env)(a b:Nat)(ha:a≤1000)(hb:b≤1073741824):G E 389 [.int .u64 a,.int .u64 b] [] (cM (.tuple #[.int .u64 0,.int .u64 ((a*b:Nat):Int)]) []):=by
 have hp:a*b≤1000*1073741824:=Nat.mul_le_mul ha hb;obtain⟨p,hpp⟩:∃p,p=a*b:=⟨_,rfl⟩
 rw[←hpp] at hp⊢;have m1:Go.bits .and .u64 (a:Int) 4294967295=(a:Int):=by
  rw[show(4294967295:Int)=((4294967295:Nat):Int) from rfl,bits_and_u64_nat _ _ o_ o_,show 4294967295=2 ^ 32 - 1 from rfl,aEx,aEc o_]
 have m2:Go.bits .and .u64 (b:Int) 4294967295=(b:Int):=by
  rw[show(4294967295:Int)=((4294967295:Nat):Int) from rfl,bits_and_u64_nat _ _ o_ o_,show 4294967295=2 ^ 32 - 1 from rfl,aEx,aEc o_]
 have q1:(a:Int) / 2 ^ min (32:Int).toNat IntKind.u64.bits=0:=by
  show(a:Int) / 4294967296=0;omega
 have q2:(b:Int) / 2 ^ min (32:Int).toNat IntKind.u64.bits=0:=by
  show(b:Int) / 4294967296=0;omega
 have w0:IntKind.u64.wrap ((a:Int)*(b:Int))=(p:Int):=by rw[show(a:Int)*(b:Int)=(p:Int) by rw[hpp];simp];exact aFp _ o_
 have q3:∃t:Nat,(p:Int) / 2 ^ min (32:Int).toNat IntKind.u64.bits=(t:Int)∧t≤1000:=⟨p / 4294967296,by show(p:Int) / 4294967296=_;omega,by omega⟩
 obtain⟨t,q3,ht⟩:=q3;have w1:IntKind.u64.wrap (0*(b:Int))=0:=by rw[Int.zero_mul];rfl
 have w2:IntKind.u64.wrap (0+(t:Int))=(t:Int):=by rw[Int.zero_add];exact aFp _ o_
 have m3:Go.bits .and .u64 (t:Int) 4294967295=(t:Int):=by
  rw[show(4294967295:Int)=((4294967295:Nat):Int) from rfl,bits_and_u64_nat _ _ o_ o_,show 4294967295=2 ^ 32 - 1 from rfl,aEx,aEc o_]
 have q4:(t:Int) / 2 ^ min (32:Int).toNat IntKind.u64.bits=0:=by
  show(t:Int) / 4294967296=0;omega
 have w3:IntKind.u64.wrap ((a:Int)*0)=0:=by rw[Int.mul_zero];rfl
 have w4:IntKind.u64.wrap ((t:Int)+0)=(t:Int):=by rw[Int.add_zero];exact aFp _ o_
 refine t_ func389 ntmps389 ?_;repeat first|refine v_ ?_|intro
 exact Xs
theorem HG(E:Env)(a b:Int)(ha:0≤a∧a≤1000)(hb:0≤b∧b≤1073741824):G E 378 [.int .i64 a,.int .i64 b] [] (cM (.tuple #[.int .i64 (a*b),.bool true]) []):=by
 obtain⟨x,rfl⟩:=aCf ha.1;obtain⟨y,rfl⟩:=aCf hb.1;have h0:¬(x:Int)<0:=o_;have h1:¬(y:Int)<0:=o_;have hp:x*y≤1000*1073741824:=Nat.mul_le_mul o_ o_;rw[show(x:Int)*(y:Int)=((x*y:Nat):Int) by simp];have mul:=λM=>Mx M x y o_ o_;generalize x*y=p at mul hp;have h3:(!(decide ((x:Int)<0) == decide ((y:Int)<0)))=false:=by simp[h0,h1]
 have h4:IntKind.i64.wrap (p:Int)=(p:Int):=aAq _ o_;refine t_ func378 ntmps378 ?_;repeat first|refine v_ ?_|intro
 refine bK (λM=>Da M x (by omega)) ?_;repeat first|refine v_ ?_|intro
 refine bK (λM=>Da M y (by omega)) ?_;repeat first|refine v_ ?_|intro
 refine bK mul ?_;repeat first|refine v_ ?_|intro
 exact Xs
theorem Jh(E:Env)(b:Bk)(A:Option Addr)(m c:Nat)(i n:Int)(hb:b.ok)(hn:0≤n∧n≤1000):G E 361 [.agg (b.cs A m c).toArray,.int .i64 i,.int .i64 n] [] (cM (.tuple #[.int .i64 (mY b i n).1,.int .i64 (mY b i n).2]) []):=by
 obtain⟨hb1,hb2,hb3⟩:=hb;unfold O8.BH at hb1 hb2 hb3;unfold mY;by_cases h:0≤i∧i≤7
 ·rw[if_pos ⟨h,by omega⟩];by_cases hk:n*b.mO.get i≤1099511627776
  ·rw[if_pos hk];refine t_ func361 ntmps361 ?_;rcases oV h with rfl|rfl|rfl|rfl|rfl|rfl|rfl|rfl
   all_goals
    simp only[O8.gs b.mO] at hk⊢;repeat first|refine v_ ?_|intro
    refine cl sD sK aC (λM hE=>HG M n _ o_ o_) ?_;rintro e H' ⟨rfl,rfl⟩;repeat first|refine v_ ?_|intro
    exact Xs
  ·rw[if_neg hk];refine t_ func361 ntmps361 ?_;rcases oV h with rfl|rfl|rfl|rfl|rfl|rfl|rfl|rfl
   all_goals
    simp only[O8.gs b.mO] at hk⊢;repeat first|refine v_ ?_|intro
    refine cl sD sK aC (λM hE=>HG M n _ o_ o_) ?_;rintro e H' ⟨rfl,rfl⟩;repeat first|refine v_ ?_|intro
    exact Xs
 ·rw[if_neg λq=>h q.1];refine t_ func361 ntmps361 ?_;repeat first|refine v_ ?_|intro
  exact Xs
theorem D2(E:Env)(b:Bk)(A:Option Addr)(m c:Nat)(i n:Int)(hb:b.ok):G E 356 [.agg (b.cs A m c).toArray,.int .i64 i,.int .i64 n] [] (cM (.bool (Aj b i n)) []):=by
 unfold Aj;obtain⟨r,hr⟩:∃r,r=jB b i n:=⟨_,rfl⟩
 have take:=λM=>wX M b A m c i n hb;rw[←hr] at take⊢;obtain⟨b',k⟩:=r;dsimp only[Bk.cs,List.cons_append,List.nil_append] at take⊢;by_cases h:k=0
 ·subst h;rw[AF.ok] at take;refine t_ func356 ntmps356 ?_;repeat first|refine v_ ?_|intro
  refine bK take ?_;repeat first|refine v_ ?_|intro
  exact B7
 ·rw[AF.no _ _ _ _ h] at take;refine t_ func356 ntmps356 ?_;repeat first|refine v_ ?_|intro
  refine bK take ?_;repeat first|refine v_ ?_|intro
  exact B7
def Dk(r:Bk×Int):Ending→List aL→Prop :=
 if r.2=0 then λe H'=>∃B d,(r.1.aH.length≤d∧d≤maxLen)∧e=.returned (.tuple #[.agg (r.1.cs B r.1.aH.length d).toArray,.int .i64 0])∧H'=[own eB B r.1.aH.length d r.1.aH]
 else cM (.tuple #[.agg (sY.cs none 0 0).toArray,.int .i64 r.2]) []
theorem Pn(E:Env)(b:Bk)(A:Option Addr)(m c:Nat)(hr:Rd E eB A m c b.aH)(o:dD)(hm:m≤1000):G E 357 [.agg (b.cs A m c).toArray,.agg o.cs.toArray] []
  (Dk (wH b o)):=by
 have hlen:=hr.len;obtain⟨o0,o1,o2,o3,o4,o5⟩:=o;obtain⟨r,s⟩:=o0;dsimp only[Bk.cs,dD.cs,List.cons_append,List.nil_append,G];by_cases h:0≤fA b ⟨r,s⟩
 ·have e:wH b ⟨⟨r,s⟩,o1,o2,o3,o4,o5⟩=(sY,9):=by unfold wH;rw[if_pos h]
  rw[e];unfold Dk;rw[if_neg (show ¬(9:Int)=0 by decide)];refine t_ func357 ntmps357 ?_;repeat first|refine v_ ?_|intro
  refine eV (λM h1=>lV M b A m c h1 r s) ?_;repeat first|refine v_ ?_|intro
  exact Sa
 ·by_cases h2:32≤b.aH.length
  ·have e:wH b ⟨⟨r,s⟩,o1,o2,o3,o4,o5⟩=(sY,3):=by unfold wH;rw[if_neg h,if_pos h2]
   rw[e];unfold Dk;rw[if_neg (show ¬(3:Int)=0 by decide)];refine t_ func357 ntmps357 ?_;repeat first|refine v_ ?_|intro
   refine eV (λM h1=>lV M b A m c h1 r s) ?_;repeat first|refine v_ ?_|intro
   exact Sa
  ·have e:wH b ⟨⟨r,s⟩,o1,o2,o3,o4,o5⟩=(lK b ⟨⟨r,s⟩,o1,o2,o3,o4,o5⟩,0):=by unfold wH;rw[if_neg h,if_neg h2]
   rw[e];unfold Dk;rw[if_pos rfl];have put:=λM hr=>HA M b A m c hr ⟨⟨r,s⟩,o1,o2,o3,o4,o5⟩ hm;dsimp only[Bk.cs,dD.cs,List.cons_append,List.nil_append] at put⊢;generalize lK b ⟨⟨r,s⟩,o1,o2,o3,o4,o5⟩=b' at put⊢;refine t_ func357 ntmps357 ?_;repeat first|refine v_ ?_|intro
   refine eV (λM h1=>lV M b A m c h1 r s) ?_;repeat first|refine v_ ?_|intro
   refine dX put ?_;rintro e H' ⟨B,d,hd,rfl,rfl⟩;repeat first|refine v_ ?_|intro
   exact gS rfl aF rfl rfl rfl aS rfl aF aA (⟨_,_,hd,rfl,rfl⟩)
theorem jZ(b:Bk)(i n:Int):(jB b i n).2=0→(jB b i n).1.aH=b.aH:=by
 unfold jB;split
 ·split
  ·intro h;first|rfl|cases h
  ·intro h;first|rfl|cases h
 ·intro h;cases h
theorem hP(b:Bk)(i n:Int):(nF b i n).2=0→(nF b i n).1.aH=b.aH:=by
 unfold nF;split
 ·split
  ·intro h;first|rfl|cases h
  ·intro h;first|rfl|cases h
 ·intro h;cases h
theorem nU(b:Bk)(i n:Int):(sN b i n).2=0→(sN b i n).1.aH=b.aH:=by
 unfold sN;split
 ·split
  ·intro h;first|rfl|cases h
  ·intro h;first|rfl|cases h
 ·intro h;cases h
theorem BF{b:Bk}{a:bJ}{st:List Int}{o:dD}{k:Int}(h:(o,k)=FT b a st)(hk:k=0):o∈b.aH:=by
 subst hk;unfold FT at h;cases hf:vL b a with
 |none=>rw[hf] at h;cases h
 |some x =>
  rw[hf] at h;dsimp only at h;split at h
  ·injection h with h1 h2
   subst h1;unfold vL at hf;split at hf
   ·exact aAi hf
   ·cases hf
  ·cases h
section
variable (E:Env) (w:Wk) (ch:aX) (g:Nat) (A:Option Addr) (m c:Nat) (X:Option Addr) (n x:Nat)
theorem Mv(hm:m≤1000)(hn:n≤900)(hb:w.b.ok)(hoq:∀o∈w.b.aH,0≤o.iN∧o.iN≤1000):G E 319 [.pointer (some ⟨g,0,none⟩),.agg ch.cs.toArray] (xC g w A m c X n x) (oN (w.J6 ch) (VF g)):=by
 unfold Wk.J6 C9;obtain⟨q,hq⟩:∃q,q=FT w.b ch.ref [1]:=⟨_,rfl⟩
 obtain⟨o,k⟩:=q;rw[show w.order ch.ref [1]=_ from iF hq];dsimp only[aX.cs,xC,List.cons_append,List.nil_append,G];refine t_ func319 ntmps319 ?_;repeat first|refine v_ ?_|intro
 refine Av sD sK aC (λM hE=>kC M _ _) ?_;rintro e H' ⟨he,rfl⟩;by_cases ha:1≤ch.n∧ch.n≤1000
 ·rw[if_pos (decide_eq_true ha)] at he;subst he;rw[if_pos (decide_eq_true ha)];refine .inl ⟨_,rfl,_,bG,?_⟩;repeat first|refine v_ ?_|intro
  refine Av sD sK aC (λM hE=>rH M w g A m c X n x dB ch.ref.rep ch.ref.seq _ 1 1 [1] dB) ?_;rw[iF hq];by_cases h:k=0
  ·rw[if_pos h];try rw[if_pos h]
   dsimp only[oN,bind,Except.bind];rintro e H' ⟨rfl,rfl⟩;refine .inl ⟨_,rfl,_,bG,?_⟩;dsimp only[dD.cs];have hq1:=hoq o (BF hq h);repeat ((fail_if_success (refine C.seq (x:=Code.region 5 _ _) ?_));first|refine Cx ?_|refine k_ ?_|intro _|refine Dr.two ?_ ?_)
   by_cases hs:0≤ch.n - o.iN
   ·rw[if_pos hs];obtain⟨r,hr⟩:∃r,r=jB w.b o.item (ch.n - o.iN):=⟨_,rfl⟩
    rw[←hr];have lmr:=λM=>hZ M ⟨w.b,w.out,ch.ref⟩ r g A A m c m c X n x;have lfr:=λM=>wX M w.b A m c o.item (ch.n - o.iN) hb;rw[←hr] at lfr;dsimp only[dD.cs,Wk.cs,Bk.cs,List.cons_append,List.nil_append] at lmr lfr⊢;repeat first|refine v_ ?_|intro
    refine C.bL 11 (l_ [0,1,2,3,4,5,6,7] (g_ 8 (l_ [9,10] (g_ 11 .nil)))) _ q_ q_ aB.refl ?_;repeat first|refine v_ ?_|intro
    refine eJ lfr ?_;repeat first|refine v_ ?_|intro
    refine As rfl sD bA sK aC (λM hE=>lmr M) ?_;unfold Wk.iQ;by_cases kr:r.2=0
    ·rw[if_pos kr];try rw[if_pos kr]
     have hor:r.1.aH=w.b.aH:=by rw[hr] at kr⊢;exact jZ _ _ _ kr
     dsimp only[oN,bind,Except.bind];rintro e H' ⟨rfl,rfl⟩;refine .inl ⟨_,rfl,_,bG,?_⟩;repeat first|refine v_ ?_|intro
     obtain⟨b1,hb1⟩:∃b',b'=lK r.1 ⟨o.id,o.cC,o.item,ch.n,o.cost,1⟩:=⟨_,rfl⟩
     have pu1:=λM=>oJ M ⟨r.1,w.out,ch.ref⟩ ⟨o.id,o.cC,o.item,ch.n,o.cost,o.state⟩ 1 g A m c X n x;dsimp only[Wk.put] at pu1;rw[←hb1] at pu1;dsimp only[Wk.tell,dD.cs,Wk.cs,Bk.cs,List.cons_append,List.nil_append] at pu1;rw[hor] at pu1;refine dX (λM h1=>pu1 M h1 hm) ?_;rintro e H' ⟨B1,d1,hd1,rfl,rfl⟩;repeat first|refine v_ ?_|intro
     have tl2:=λM=>eP M ⟨b1,w.out,ch.ref⟩ 2 o.item ch.n g B1 b1.aH.length d1 X n x o_;dsimp only[Wk.tell,Wk.cs,Bk.cs,List.cons_append,List.nil_append] at tl2;refine bW tl2 ?_;rintro e H' ⟨X2,x2,hx2,rfl,rfl⟩;repeat first|refine v_ ?_|intro
     unfold Wk.put Wk.tell;dsimp only;rw[←hb1];refine gO rfl (H':=[aJ g 369 _,own eB B1 b1.aH.length d1 b1.aH,own eG X2 (n+1) x2 (w.out++[⟨2,o.item,ch.n,ch.ref⟩])]) ?_ ⟨B1,b1.aH.length,d1,X2,(n+1),x2,rfl,rfl⟩;exact aB.aV (.cons .aN (.cons (.aM .aN) (.cons .aN .nil)))
    ·rw[if_neg kr];try rw[if_neg kr]
     dsimp only[oN,bind,Except.bind];rintro e H' ⟨rfl,rfl⟩;exact .inr ⟨_,rfl,[],aA,rfl,rfl⟩
   ·rw[if_neg hs,show o.iN - ch.n = -(ch.n - o.iN) by omega];obtain⟨r,hr⟩:∃r,r=nF w.b o.item (-(ch.n - o.iN)):=⟨_,rfl⟩
    rw[←hr];have lmr:=λM=>hZ M ⟨w.b,w.out,ch.ref⟩ r g A A m c m c X n x;have lfr:=λM=>zO M w.b A m c o.item (-(ch.n - o.iN)) hb;rw[←hr] at lfr;dsimp only[dD.cs,Wk.cs,Bk.cs,List.cons_append,List.nil_append] at lmr lfr⊢;repeat first|refine v_ ?_|intro
    refine C.bL 12 (l_ [0,1,2,3,4,5,6,7,8] (g_ 9 (l_ [10,11] (g_ 12 .nil)))) _ q_ q_ aB.refl ?_;repeat first|refine v_ ?_|intro
    refine eJ lfr ?_;repeat first|refine v_ ?_|intro
    refine As rfl sD bA sK aC (λM hE=>lmr M) ?_;unfold Wk.iQ;by_cases kr:r.2=0
    ·rw[if_pos kr];try rw[if_pos kr]
     have hor:r.1.aH=w.b.aH:=by rw[hr] at kr⊢;exact hP _ _ _ kr
     dsimp only[oN,bind,Except.bind];rintro e H' ⟨rfl,rfl⟩;refine .inl ⟨_,rfl,_,bG,?_⟩;repeat first|refine v_ ?_|intro
     obtain⟨b1,hb1⟩:∃b',b'=lK r.1 ⟨o.id,o.cC,o.item,ch.n,o.cost,1⟩:=⟨_,rfl⟩
     have pu1:=λM=>oJ M ⟨r.1,w.out,ch.ref⟩ ⟨o.id,o.cC,o.item,ch.n,o.cost,o.state⟩ 1 g A m c X n x;dsimp only[Wk.put] at pu1;rw[←hb1] at pu1;dsimp only[Wk.tell,dD.cs,Wk.cs,Bk.cs,List.cons_append,List.nil_append] at pu1;rw[hor] at pu1;refine dX (λM h1=>pu1 M h1 hm) ?_;rintro e H' ⟨B1,d1,hd1,rfl,rfl⟩;repeat first|refine v_ ?_|intro
     have tl2:=λM=>eP M ⟨b1,w.out,ch.ref⟩ 2 o.item ch.n g B1 b1.aH.length d1 X n x o_;dsimp only[Wk.tell,Wk.cs,Bk.cs,List.cons_append,List.nil_append] at tl2;refine bW tl2 ?_;rintro e H' ⟨X2,x2,hx2,rfl,rfl⟩;repeat first|refine v_ ?_|intro
     unfold Wk.put Wk.tell;dsimp only;rw[←hb1];refine gO rfl (H':=[aJ g 369 _,own eB B1 b1.aH.length d1 b1.aH,own eG X2 (n+1) x2 (w.out++[⟨2,o.item,ch.n,ch.ref⟩])]) ?_ ⟨B1,b1.aH.length,d1,X2,(n+1),x2,rfl,rfl⟩;exact aB.aV (.cons .aN (.cons (.aM .aN) (.cons .aN .nil)))
    ·rw[if_neg kr];try rw[if_neg kr]
     dsimp only[oN,bind,Except.bind];rintro e H' ⟨rfl,rfl⟩;exact .inr ⟨_,rfl,[],aA,rfl,rfl⟩
  ·rw[if_neg h];dsimp only[oN,bind,Except.bind];rintro e H' ⟨rfl,rfl⟩;exact .inr ⟨_,rfl,[],aA,rfl,rfl⟩
 ·rw[if_neg (by simpa using ha)] at he;subst he;rw[if_neg (by simpa using ha)];exact .inr ⟨_,rfl,[],aA,rfl,rfl⟩
end
theorem O8.iW{x:O8}{hi:Int}(h:x.BH hi)(i v:Int)(h0:0≤v)(h1:v≤hi):(x.set i v).BH hi:=by
 unfold O8.BH O8.set at *;repeat' split
 all_goals (dsimp only;omega)
theorem O8.B6{x:O8}{hi:Int}(h:x.BH hi)(i:Int):0≤x.get i∧x.get i≤hi:=by
 unfold O8.BH O8.get at *;repeat' split
 all_goals omega
theorem gB{w:Wk}{r:Bk×Int}(h:r.2=0):w.iQ r=.ok ⟨r.1,w.out,w.ref⟩:=by unfold Wk.iQ;rw[if_pos h]
theorem gC{w:Wk}{r:Bk×Int}(h:r.2≠0):w.iQ r=.error r.2:=by unfold Wk.iQ;rw[if_neg h]
theorem L7{b:Bk}(hb:b.ok)(i n:Int):(jB b i n).2=0→(jB b i n).1.ok:=by
 obtain⟨h1,h2,h3⟩:=hb;have h4:=O8.B6 (x:=b.fP) (hi:=1099511627776) (by assumption) i;unfold jB;split
 ·split
  ·intro h;first|exact⟨O8.iW h1 _ _ o_ o_,h2,h3⟩|exact⟨h1,h2,O8.iW h3 _ _ o_ o_⟩|cases h
  ·intro h;first|exact⟨O8.iW h1 _ _ o_ o_,h2,h3⟩|exact⟨h1,h2,O8.iW h3 _ _ o_ o_⟩|cases h
 ·intro h;cases h
theorem HK{b:Bk}(hb:b.ok)(i n:Int):(nF b i n).2=0→(nF b i n).1.ok:=by
 obtain⟨h1,h2,h3⟩:=hb;have h4:=O8.B6 (x:=b.fP) (hi:=1099511627776) (by assumption) i;unfold nF;split
 ·split
  ·intro h;first|exact⟨O8.iW h1 _ _ o_ o_,h2,h3⟩|exact⟨h1,h2,O8.iW h3 _ _ o_ o_⟩|cases h
  ·intro h;first|exact⟨O8.iW h1 _ _ o_ o_,h2,h3⟩|exact⟨h1,h2,O8.iW h3 _ _ o_ o_⟩|cases h
 ·intro h;cases h
theorem Kx{b:Bk}(hb:b.ok)(i n:Int):(jT b i n).2=0→(jT b i n).1.ok:=by
 obtain⟨h1,h2,h3⟩:=hb;have h4:=O8.B6 (x:=b.eO) (hi:=1099511627776) (by assumption) i;unfold jT;split
 ·split
  ·intro h;first|exact⟨O8.iW h1 _ _ o_ o_,h2,h3⟩|exact⟨h1,h2,O8.iW h3 _ _ o_ o_⟩|cases h
  ·intro h;first|exact⟨O8.iW h1 _ _ o_ o_,h2,h3⟩|exact⟨h1,h2,O8.iW h3 _ _ o_ o_⟩|cases h
 ·intro h;cases h
theorem NU{b:Bk}(hb:b.ok)(i n:Int):(sN b i n).2=0→(sN b i n).1.ok:=by
 obtain⟨h1,h2,h3⟩:=hb;have h4:=O8.B6 (x:=b.eO) (hi:=1099511627776) (by assumption) i;unfold sN;split
 ·split
  ·intro h;first|exact⟨O8.iW h1 _ _ o_ o_,h2,h3⟩|exact⟨h1,h2,O8.iW h3 _ _ o_ o_⟩|cases h
  ·intro h;first|exact⟨O8.iW h1 _ _ o_ o_,h2,h3⟩|exact⟨h1,h2,O8.iW h3 _ _ o_ o_⟩|cases h
 ·intro h;cases h
section
variable (E:Env) (w:Wk) (ch:aX) (g:Nat) (A:Option Addr) (m c:Nat) (X:Option Addr) (n x:Nat)
theorem II(hm:m≤1000)(hn:n≤900)(hb:w.b.ok):G E 320 [.pointer (some ⟨g,0,none⟩),.agg ch.cs.toArray] (xC g w A m c X n x) (oN (w.cancel ch) (VF g)):=by
 unfold Wk.cancel;obtain⟨q,hq⟩:∃q,q=FT w.b ch.ref [1,2]:=⟨_,rfl⟩
 obtain⟨o,k⟩:=q;rw[show w.order ch.ref [1,2]=_ from iF hq];dsimp only[aX.cs,xC,List.cons_append,List.nil_append,G];refine t_ func320 ntmps320 ?_;repeat first|refine v_ ?_|intro
 refine Av sD sK aC (λM hE=>rH M w g A m c X n x dB ch.ref.rep ch.ref.seq _ 2 2 [1,2] dB) ?_;rw[iF hq];by_cases h:k=0
 ·rw[if_pos h];try rw[if_pos h]
  dsimp only[oN,bind,Except.bind];rintro e H' ⟨rfl,rfl⟩;refine .inl ⟨_,rfl,_,bG,?_⟩;dsimp only[dD.cs];obtain⟨r,hr⟩:∃z,z=nF w.b o.item o.iN:=⟨_,rfl⟩
  rw[←hr];have lmr:=λM=>hZ M ⟨w.b,w.out,ch.ref⟩ r g A A m c m c X n x;have lfr:=λM=>zO M w.b A m c o.item o.iN hb;rw[←hr] at lfr;dsimp only[dD.cs,Wk.cs,Bk.cs,List.cons_append,List.nil_append] at lmr lfr⊢;repeat first|refine v_ ?_|intro
  refine C.bL 12 (l_ [0,1,2,3,4,5,6,7,8] (g_ 9 (l_ [10,11] (g_ 12 .nil)))) _ q_ q_ aB.refl ?_;repeat first|refine v_ ?_|intro
  refine eJ lfr ?_;repeat first|refine v_ ?_|intro
  refine As rfl sD bA sK aC (λM hE=>lmr M) ?_;by_cases kr:r.2=0
  ·rw[gB kr];try rw[gB kr]
   have hor:r.1.aH=w.b.aH:=by rw[hr] at kr⊢;exact hP _ _ _ kr
   dsimp only[oN,bind,Except.bind];rintro e H' ⟨rfl,rfl⟩;refine .inl ⟨_,rfl,_,bG,?_⟩;have hrok:r.1.ok:=by rw[hr] at kr⊢;exact HK hb _ _ kr
   repeat first|refine v_ ?_|intro
   have tl2:=λM=>eP M ⟨r.1,w.out,ch.ref⟩ 3 o.item o.iN g A m c X n x o_;dsimp only[Wk.tell,Wk.cs,Bk.cs,List.cons_append,List.nil_append] at tl2;refine bW tl2 ?_;rintro e H' ⟨X2,x2,hx2,rfl,rfl⟩;repeat first|refine v_ ?_|intro
   by_cases hs:o.state=2
   ·rw[if_pos hs];dsimp only[Wk.tell,pure,Except.pure,bind,Except.bind];obtain⟨s,hs⟩:∃z,z=jT r.1 o.cC o.cost:=⟨_,rfl⟩
    rw[←hs];have lms:=λM=>hZ M ⟨r.1,(w.out++[⟨3,o.item,o.iN,ch.ref⟩]),ch.ref⟩ s g A A m c m c X2 (n+1) x2;have lfs:=λM=>wE M r.1 A m c o.cC o.cost hrok;rw[←hs] at lfs;dsimp only[dD.cs,Wk.cs,Bk.cs,List.cons_append,List.nil_append] at lms lfs⊢;repeat first|refine v_ ?_|intro
    refine C.bL 12 (l_ [0,1,2,3,4,5,6,7,8] (g_ 9 (l_ [10,11] (g_ 12 .nil)))) _ q_ q_ aB.refl ?_;repeat first|refine v_ ?_|intro
    refine eJ lfs ?_;repeat first|refine v_ ?_|intro
    refine As rfl sD bA sK aC (λM hE=>lms M) ?_;by_cases ks:s.2=0
    ·rw[gB ks];try rw[gB ks]
     have hos:s.1.aH=r.1.aH:=by rw[hs] at ks⊢;exact fS _ _ _ ks
     dsimp only[oN,bind,Except.bind];rintro e H' ⟨rfl,rfl⟩;refine .inl ⟨_,rfl,_,bG,?_⟩;repeat first|refine v_ ?_|intro
     have tl3:=λM=>eP M ⟨s.1,(w.out++[⟨3,o.item,o.iN,ch.ref⟩]),ch.ref⟩ 10 o.cC o.cost g A m c X2 (n+1) x2 o_;dsimp only[Wk.tell,Wk.cs,Bk.cs,List.cons_append,List.nil_append] at tl3;refine bW tl3 ?_;rintro e H' ⟨X3,x3,hx3,rfl,rfl⟩;repeat first|refine v_ ?_|intro
     repeat first|refine v_ ?_|intro
     obtain⟨b5,hb5⟩:∃b',b'=lK s.1 ⟨o.id,o.cC,o.item,o.iN,o.cost,4⟩:=⟨_,rfl⟩
     have pu5:=λM=>oJ M ⟨s.1,((w.out++[⟨3,o.item,o.iN,ch.ref⟩])++[⟨10,o.cC,o.cost,ch.ref⟩]),ch.ref⟩ o 4 g A m c X3 ((n+1)+1) x3;dsimp only[Wk.put] at pu5;rw[←hb5] at pu5;dsimp only[Wk.tell,dD.cs,Wk.cs,Bk.cs,List.cons_append,List.nil_append] at pu5;rw[hos,hor] at pu5;refine dX (λM h1=>pu5 M h1 hm) ?_;rintro e H' ⟨B5,d5,hd5,rfl,rfl⟩;repeat first|refine v_ ?_|intro
     have tl6:=λM=>eP M ⟨b5,((w.out++[⟨3,o.item,o.iN,ch.ref⟩])++[⟨10,o.cC,o.cost,ch.ref⟩]),ch.ref⟩ 7 o.cC 2 g B5 b5.aH.length d5 X3 ((n+1)+1) x3 o_;dsimp only[Wk.tell,Wk.cs,Bk.cs,List.cons_append,List.nil_append] at tl6;refine bW tl6 ?_;rintro e H' ⟨X6,x6,hx6,rfl,rfl⟩;repeat first|refine v_ ?_|intro
     try unfold Wk.put
     try unfold Wk.tell
     try dsimp only
     rw[←hb5];refine gO rfl (H':=[aJ g 369 _,own eB B5 b5.aH.length d5 b5.aH,own eG X6 (((n+1)+1)+1) x6 (((w.out++[⟨3,o.item,o.iN,ch.ref⟩])++[⟨10,o.cC,o.cost,ch.ref⟩])++[⟨7,o.cC,2,ch.ref⟩])]) ?_ ⟨B5,b5.aH.length,d5,X6,(((n+1)+1)+1),x6,rfl,rfl⟩;exact aB.aV (.cons .aN (.cons (.aM .aN) (.cons .aN .nil)))
    ·rw[gC ks];try rw[gC ks]
     dsimp only[oN,bind,Except.bind];rintro e H' ⟨rfl,rfl⟩;exact .inr ⟨_,rfl,[],aA,rfl,rfl⟩
   ·rw[if_neg hs];dsimp only[Wk.tell,bind,Except.bind,pure,Except.pure];repeat first|refine v_ ?_|intro
    obtain⟨b5,hb5⟩:∃b',b'=lK r.1 ⟨o.id,o.cC,o.item,o.iN,o.cost,4⟩:=⟨_,rfl⟩
    have pu5:=λM=>oJ M ⟨r.1,(w.out++[⟨3,o.item,o.iN,ch.ref⟩]),ch.ref⟩ o 4 g A m c X2 (n+1) x2;dsimp only[Wk.put] at pu5;rw[←hb5] at pu5;dsimp only[Wk.tell,dD.cs,Wk.cs,Bk.cs,List.cons_append,List.nil_append] at pu5;rw[hor] at pu5;refine dX (λM h1=>pu5 M h1 hm) ?_;rintro e H' ⟨B5,d5,hd5,rfl,rfl⟩;repeat first|refine v_ ?_|intro
    have tl6:=λM=>eP M ⟨b5,(w.out++[⟨3,o.item,o.iN,ch.ref⟩]),ch.ref⟩ 7 o.cC 2 g B5 b5.aH.length d5 X2 (n+1) x2 o_;dsimp only[Wk.tell,Wk.cs,Bk.cs,List.cons_append,List.nil_append] at tl6;refine bW tl6 ?_;rintro e H' ⟨X6,x6,hx6,rfl,rfl⟩;repeat first|refine v_ ?_|intro
    try unfold Wk.put
    try unfold Wk.tell
    try dsimp only
    rw[←hb5];refine gO rfl (H':=[aJ g 369 _,own eB B5 b5.aH.length d5 b5.aH,own eG X6 ((n+1)+1) x6 ((w.out++[⟨3,o.item,o.iN,ch.ref⟩])++[⟨7,o.cC,2,ch.ref⟩])]) ?_ ⟨B5,b5.aH.length,d5,X6,((n+1)+1),x6,rfl,rfl⟩;exact aB.aV (.cons .aN (.cons (.aM .aN) (.cons .aN .nil)))
  ·rw[gC kr];try rw[gC kr]
   dsimp only[oN,bind,Except.bind];rintro e H' ⟨rfl,rfl⟩;exact .inr ⟨_,rfl,[],aA,rfl,rfl⟩
 ·rw[if_neg h];dsimp only[oN,bind,Except.bind];rintro e H' ⟨rfl,rfl⟩;exact .inr ⟨_,rfl,[],aA,rfl,rfl⟩
theorem SF(hm:m≤1000)(hn:n≤900)(hb:w.b.ok)(hoq:∀o∈w.b.aH,0≤o.iN∧o.iN≤1000):G E 321 [.pointer (some ⟨g,0,none⟩),.agg ch.cs.toArray] (xC g w A m c X n x) (oN (w.Y2 ch) (VF g)):=by
 unfold Wk.Y2;obtain⟨q,hq⟩:∃q,q=FT w.b ch.ref [1]:=⟨_,rfl⟩
 obtain⟨o,k⟩:=q;rw[show w.order ch.ref [1]=_ from iF hq];dsimp only[aX.cs,xC,List.cons_append,List.nil_append,G];refine t_ func321 ntmps321 ?_;repeat first|refine v_ ?_|intro
 refine Av sD sK aC (λM hE=>rH M w g A m c X n x dB ch.ref.rep ch.ref.seq _ 1 1 [1] dB) ?_;rw[iF hq];by_cases h:k=0
 ·rw[if_pos h];try rw[if_pos h]
  dsimp only[oN,bind,Except.bind];rintro e H' ⟨rfl,rfl⟩;refine .inl ⟨_,rfl,_,bG,?_⟩;dsimp only[dD.cs];have hq1:=hoq o (BF hq h);obtain⟨p,hp⟩:∃p,p=mY w.b o.item o.iN:=⟨_,rfl⟩
  have lp:=λM=>Jh M w.b A m c o.item o.iN hb hq1;rw[←hp] at lp⊢;obtain⟨cost,ec⟩:=p;dsimp only at lp⊢;repeat first|refine v_ ?_|intro
  refine rA (l_ [0,1,2,3,4,5,6,7] (g_ 8 (l_ [9,10,11,12,13] .nil))) ?_;repeat first|refine v_ ?_|intro
  refine eJ lp ?_;repeat first|refine v_ ?_|intro
  refine Av sD sK aC (λM hE=>kC M _ _) ?_;rintro e H' ⟨he,rfl⟩;by_cases ha:ec=0
  ·rw[if_pos (decide_eq_true ha)] at he;subst he;rw[if_neg (show ¬ec≠0 from λq=>q ha)];refine .inl ⟨_,rfl,_,bG,?_⟩;obtain⟨r,hr⟩:∃z,z=sN w.b o.cC cost:=⟨_,rfl⟩
   rw[←hr];have lmr:=λM=>hZ M ⟨w.b,w.out,ch.ref⟩ r g A A m c m c X n x;have lfr:=λM=>Mq M w.b A m c o.cC cost hb;rw[←hr] at lfr;dsimp only[dD.cs,Wk.cs,Bk.cs,List.cons_append,List.nil_append] at lmr lfr⊢;repeat first|refine v_ ?_|intro
   refine C.bL 11 (l_ [0,1,2,3,4,5,6,7] (g_ 8 (l_ [9,10] (g_ 11 .nil)))) _ q_ q_ aB.refl ?_;repeat first|refine v_ ?_|intro
   refine eJ lfr ?_;repeat first|refine v_ ?_|intro
   refine As rfl sD bA sK aC (λM hE=>lmr M) ?_;by_cases kr:r.2=0
   ·rw[gB kr];try rw[gB kr]
    have hor:r.1.aH=w.b.aH:=by rw[hr] at kr⊢;exact nU _ _ _ kr
    dsimp only[oN,bind,Except.bind];rintro e H' ⟨rfl,rfl⟩;refine .inl ⟨_,rfl,_,bG,?_⟩;repeat first|refine v_ ?_|intro
    obtain⟨b1,hb1⟩:∃b',b'=lK r.1 ⟨o.id,o.cC,o.item,o.iN,cost,2⟩:=⟨_,rfl⟩
    have pu1:=λM=>oJ M ⟨r.1,w.out,ch.ref⟩ ⟨o.id,o.cC,o.item,o.iN,cost,o.state⟩ 2 g A m c X n x;dsimp only[Wk.put] at pu1;rw[←hb1] at pu1;dsimp only[Wk.tell,dD.cs,Wk.cs,Bk.cs,List.cons_append,List.nil_append] at pu1;rw[hor] at pu1;refine dX (λM h1=>pu1 M h1 hm) ?_;rintro e H' ⟨B1,d1,hd1,rfl,rfl⟩;repeat first|refine v_ ?_|intro
    have tl2:=λM=>eP M ⟨b1,w.out,ch.ref⟩ 4 o.cC cost g B1 b1.aH.length d1 X n x o_;dsimp only[Wk.tell,Wk.cs,Bk.cs,List.cons_append,List.nil_append] at tl2;refine bW tl2 ?_;rintro e H' ⟨X2,x2,hx2,rfl,rfl⟩;repeat first|refine v_ ?_|intro
    have tl3:=λM=>eP M ⟨b1,(w.out++[⟨4,o.cC,cost,ch.ref⟩]),ch.ref⟩ 9 o.cC cost g B1 b1.aH.length d1 X2 (n+1) x2 o_;dsimp only[Wk.tell,Wk.cs,Bk.cs,List.cons_append,List.nil_append] at tl3;refine bW tl3 ?_;rintro e H' ⟨X3,x3,hx3,rfl,rfl⟩;repeat first|refine v_ ?_|intro
    try unfold Wk.put
    try unfold Wk.tell
    try dsimp only
    rw[←hb1];refine gO rfl (H':=[aJ g 369 _,own eB B1 b1.aH.length d1 b1.aH,own eG X3 ((n+1)+1) x3 ((w.out++[⟨4,o.cC,cost,ch.ref⟩])++[⟨9,o.cC,cost,ch.ref⟩])]) ?_ ⟨B1,b1.aH.length,d1,X3,((n+1)+1),x3,rfl,rfl⟩;exact aB.aV (.cons .aN (.cons (.aM .aN) (.cons .aN .nil)))
   ·rw[gC kr];try rw[gC kr]
    dsimp only[oN,bind,Except.bind];rintro e H' ⟨rfl,rfl⟩;exact .inr ⟨_,rfl,[],aA,rfl,rfl⟩
  ·rw[if_neg (by simpa using ha)] at he;subst he;rw[if_pos ha];exact .inr ⟨_,rfl,[],aA,rfl,rfl⟩
 ·rw[if_neg h];dsimp only[oN,bind,Except.bind];rintro e H' ⟨rfl,rfl⟩;exact .inr ⟨_,rfl,[],aA,rfl,rfl⟩
end
theorem RR{b:Bk}(hb:b.ok)(o:dD):(wH b o).2=0→(wH b o).1.ok:=by
 unfold wH;split
 ·intro h;cases h
 ·split
  ·intro h;cases h
  ·intro _;unfold lK;split<;>exact hb
section
variable (E:Env) (w:Wk) (ch:aX) (g:Nat) (A:Option Addr) (m c:Nat) (X:Option Addr) (n x:Nat)
theorem H6(hm:m≤1000)(hn:n≤900)(hb:w.b.ok):G E 318 [.pointer (some ⟨g,0,none⟩),.agg ch.cs.toArray] (xC g w A m c X n x) (oN (w.place ch) (VF g)):=by
 unfold Wk.place C9;obtain⟨it,tA⟩:∃z,z=oI w.b ch:=⟨_,rfl⟩
 rw[←tA];obtain⟨r,hr⟩:∃z,z=wH w.b ⟨ch.id,ch.a,it,ch.n,0,1⟩:=⟨_,rfl⟩
 rw[←hr];have ln:=λM h=>Pn M w.b A m c h ⟨ch.id,ch.a,it,ch.n,0,1⟩ hm;rw[←hr] at ln;dsimp only[aX.cs,xC,dD.cs,Wk.cs,Bk.cs,List.cons_append,List.nil_append,G] at ln⊢;by_cases h1:0≤ch.a∧ch.a≤7
 ·by_cases h2:0≤ch.b∧ch.b≤7
  ·by_cases h3:1≤ch.n∧ch.n≤1000
   ·rw[show(eight ch.a&&eight ch.b&&decide (1≤ch.n∧ch.n≤1000))=true by simp[eight];omega];rw[if_pos rfl];refine t_ func318 ntmps318 ?_;repeat first|refine v_ ?_|intro
    refine Av sD sK aC (λM hE=>kC M _ _) ?_;rintro e H' ⟨he,rfl⟩;rw[if_pos (by simp[*])] at he;subst he;refine .inl ⟨_,rfl,_,bG,?_⟩;repeat ((fail_if_success (refine C.seq (x:=Code.region 3 _ _) ?_));first|refine Cx ?_|refine k_ ?_|intro _|refine Dr.two ?_ ?_)
    rename_i g3;refine C.BI (X:=Unit) (λ_=>[(0,.pointer (some ⟨g,0,none⟩)),(3,.pointer (some ⟨g3,0,none⟩)),(4,.int .i64 it)]) (λ_=>[aJ g3 34 ch.cs,aJ g 369 (w.cs A m c X n x),own eB A m c w.b.aH,own eG X n x w.out]) (λ_=>True) ?_ ?_
    ·have la:=λM=>D2 M w.b A m c ch.b ch.n hb;have lb:=λM=>D2 M w.b A m c ch.ref.rep ch.n hb;dsimp only[Bk.cs,List.cons_append,List.nil_append] at la lb;unfold oI at tA;cases hA:Aj w.b ch.b ch.n with
     |true =>
      rw[hA] at la tA;simp only[Bool.not_true,aCx,aCb,if_false] at tA;subst tA;repeat first|refine v_ ?_|intro
      refine rA (l_ [0,1,2,3,4,5,6] (g_ 7 (l_ [8,9,10,11,12,13,14,15,16,17,18,19,20,21,22] (g_ 23 (n_ 24 .nil))))) ?_;repeat first|refine v_ ?_|intro
      refine eJ la ?_;repeat first|refine v_ ?_|intro
      exact⟨(),aD,aA,trivial⟩
     |false =>
      rw[hA] at la tA;by_cases hB:ch.ref.seq=1
      ·cases hC:Aj w.b ch.ref.rep ch.n with
       |true =>
        rw[hC] at lb tA;simp only[Bool.not_false,hB,decide_true,Bool.and_true,if_true] at tA;subst tA;repeat first|refine v_ ?_|intro
        refine rA (l_ [0,1,2,3,4,5,6] (g_ 7 (l_ [8,9,10,11,12,13,14,15,16,17,18,19,20,21,22] (g_ 23 (n_ 24 .nil))))) ?_;repeat first|refine v_ ?_|intro
        refine eJ la ?_;repeat first|refine v_ ?_|intro
        refine eJ lb ?_;repeat first|refine v_ ?_|intro
        exact⟨(),aD,aA,trivial⟩
       |false =>
        rw[hC] at lb tA;simp only[Bool.not_false,aCt,hB,decide_true,Bool.and_false,aCb,if_false] at tA;subst tA;repeat first|refine v_ ?_|intro
        refine rA (l_ [0,1,2,3,4,5,6] (g_ 7 (l_ [8,9,10,11,12,13,14,15,16,17,18,19,20,21,22] (g_ 23 (n_ 24 .nil))))) ?_;repeat first|refine v_ ?_|intro
        refine eJ la ?_;repeat first|refine v_ ?_|intro
        refine eJ lb ?_;repeat first|refine v_ ?_|intro
        exact⟨(),aD,aA,trivial⟩
      ·rw[decide_eq_false hB] at tA;simp only[Bool.and_false,aCx,aCb,if_false] at tA;subst tA;repeat first|refine v_ ?_|intro
       refine rA (l_ [0,1,2,3,4,5,6] (g_ 7 (l_ [8,9,10,11,12,13,14,15,16,17,18,19,20,21,22] (g_ 23 (n_ 24 .nil))))) ?_;repeat first|refine v_ ?_|intro
       refine eJ la ?_;repeat first|refine v_ ?_|intro
       exact⟨(),aD,aA,trivial⟩
    ·intro _ Gf _;dsimp only[aX.cs,xC,dD.cs,Wk.cs,Bk.cs,List.cons_append,List.nil_append];repeat first|refine v_ ?_|intro
     by_cases kr:r.2=0
     ·rw[gB kr];have hrok:r.1.ok:=by rw[hr] at kr⊢;exact RR hb _ kr
      have lmr:=λM B d=>hZ M ⟨w.b,w.out,w.ref⟩ r g A B m c r.1.aH.length d X n x;unfold Dk at ln;rw[if_pos kr] at ln;simp only[if_pos kr] at lmr;rw[gB kr] at lmr;dsimp only[oN,dD.cs,Wk.cs,Bk.cs,List.cons_append,List.nil_append] at lmr ln;rw[kr] at lmr;dsimp only[bind,Except.bind,pure,Except.pure];refine C.bL 16 (l_ [0,1,2,3,4,5,6,7,8,9,10,11,12] (g_ 13 (l_ [14,15] (g_ 16 .nil)))) _ q_ q_ aB.refl ?_;repeat first|refine v_ ?_|intro
      refine C2 ln ?_;rintro e H' ⟨B,d,hd,rfl,rfl⟩;repeat first|refine v_ ?_|intro
      refine As rfl sD bA sK aC (λM hE=>lmr M B d) ?_;rintro e H' ⟨rfl,rfl⟩;refine .inl ⟨_,rfl,_,bG,?_⟩;obtain⟨s,hs⟩:∃z,z=jB r.1 it ch.n:=⟨_,rfl⟩
      rw[←hs];have lms:=λM=>hZ M ⟨r.1,w.out,w.ref⟩ s g B B r.1.aH.length d r.1.aH.length d X n x;have lfs:=λM=>wX M r.1 B r.1.aH.length d it ch.n hrok;rw[←hs] at lfs;dsimp only[dD.cs,Wk.cs,Bk.cs,List.cons_append,List.nil_append] at lms lfs⊢;repeat first|refine v_ ?_|intro
      refine C.bL 11 (l_ [0,1,2,3,4,5,6,7] (g_ 8 (l_ [9,10] (g_ 11 .nil)))) _ q_ q_ aB.refl ?_;repeat first|refine v_ ?_|intro
      refine eJ lfs ?_;repeat first|refine v_ ?_|intro
      refine As rfl sD bA sK aC (λM hE=>lms M) ?_;by_cases ks:s.2=0
      ·rw[gB ks];try rw[gB ks]
       have hos:s.1.aH=r.1.aH:=by rw[hs] at ks⊢;exact jZ _ _ _ ks
       dsimp only[oN,bind,Except.bind];rintro e H' ⟨rfl,rfl⟩;refine .inl ⟨_,rfl,_,bG,?_⟩;repeat first|refine v_ ?_|intro
       have tl2:=λM=>eP M ⟨s.1,w.out,ch.id⟩ 1 it ch.n g B r.1.aH.length d X n x o_;dsimp only[Wk.tell,Wk.cs,Bk.cs,List.cons_append,List.nil_append] at tl2;refine bW tl2 ?_;rintro e H' ⟨X2,x2,hx2,rfl,rfl⟩;repeat first|refine v_ ?_|intro
       have tl3:=λM=>eP M ⟨s.1,(w.out++[⟨1,it,ch.n,ch.id⟩]),ch.id⟩ 7 ch.a 1 g B r.1.aH.length d X2 (n+1) x2 o_;dsimp only[Wk.tell,Wk.cs,Bk.cs,List.cons_append,List.nil_append] at tl3;refine bW tl3 ?_;rintro e H' ⟨X3,x3,hx3,rfl,rfl⟩;repeat first|refine v_ ?_|intro
       try unfold Wk.tell
       try dsimp only
       refine gO rfl (H':=[aJ g 369 _,own eB B r.1.aH.length d s.1.aH,own eG X3 ((n+1)+1) x3 ((w.out++[⟨1,it,ch.n,ch.id⟩])++[⟨7,ch.a,1,ch.id⟩])]) ?_ ⟨B,r.1.aH.length,d,X3,((n+1)+1),x3,rfl,rfl⟩;rw[hos];exact aB.aV (.cons .aN (.cons (.aM .aN) (.cons .aN .nil)))
      ·rw[gC ks];try rw[gC ks]
       dsimp only[oN,bind,Except.bind];rintro e H' ⟨rfl,rfl⟩;exact .inr ⟨_,rfl,[],aA,rfl,rfl⟩
     ·rw[gC kr];have lmr:=λM=>hZ M ⟨w.b,w.out,w.ref⟩ r g A none m c 0 0 X n x;unfold Dk at ln;rw[if_neg kr] at ln;simp only[if_neg kr] at lmr;rw[gC kr] at lmr;dsimp only[oN,dD.cs,Wk.cs,Bk.cs,List.cons_append,List.nil_append] at lmr ln;dsimp only[bind,Except.bind,pure,Except.pure];refine C.bL 16 (l_ [0,1,2,3,4,5,6,7,8,9,10,11,12] (g_ 13 (l_ [14,15] (g_ 16 .nil)))) _ q_ q_ aB.refl ?_;repeat first|refine v_ ?_|intro
      refine Ib ln ?_;repeat first|refine v_ ?_|intro
      refine As rfl sD bA sK aC (λM hE=>lmr M) ?_;rintro e H' ⟨rfl,rfl⟩;exact .inr ⟨_,rfl,[],aA,rfl,rfl⟩
   ·rw[show(eight ch.a&&eight ch.b&&decide (1≤ch.n∧ch.n≤1000))=false by simp[eight];omega];rw[if_neg (by simp)];refine t_ func318 ntmps318 ?_;repeat first|refine v_ ?_|intro
    refine Av sD sK aC (λM hE=>kC M _ _) ?_;rintro e H' ⟨he,rfl⟩;rw[if_neg (by simp[*])] at he;subst he;exact .inr ⟨_,rfl,[],aA,rfl,rfl⟩
  ·rw[show(eight ch.a&&eight ch.b&&decide (1≤ch.n∧ch.n≤1000))=false by simp[eight];omega];rw[if_neg (by simp)];refine t_ func318 ntmps318 ?_;repeat first|refine v_ ?_|intro
   refine Av sD sK aC (λM hE=>kC M _ _) ?_;rintro e H' ⟨he,rfl⟩;rw[if_neg (by simp[*])] at he;subst he;exact .inr ⟨_,rfl,[],aA,rfl,rfl⟩
 ·rw[show(eight ch.a&&eight ch.b&&decide (1≤ch.n∧ch.n≤1000))=false by simp[eight];omega];rw[if_neg (by simp)];refine t_ func318 ntmps318 ?_;repeat first|refine v_ ?_|intro
  refine Av sD sK aC (λM hE=>kC M _ _) ?_;rintro e H' ⟨he,rfl⟩;rw[if_neg (by simp[*])] at he;subst he;exact .inr ⟨_,rfl,[],aA,rfl,rfl⟩
end
theorem oP(b:Bk)(i n:Int):(mF b i n).2=0→(mF b i n).1.aH=b.aH:=by
 unfold mF;split
 ·intro _;rfl
 ·intro h;cases h
section
variable (E:Env) (w:Wk) (ch:aX) (g:Nat) (A:Option Addr) (m c:Nat) (X:Option Addr) (n x:Nat)
theorem U1(hm:m≤1000)(hn:n≤900)(hb:w.b.ok)(hoq:∀o∈w.b.aH,0≤o.iN∧o.iN≤1000):G E 276 [.pointer (some ⟨g,0,none⟩),.agg ch.cs.toArray] (xC g w A m c X n x) (oN (w.do ch) (VF g)):=by
 unfold Wk.do;dsimp only[aX.cs,xC,List.cons_append,List.nil_append,G];by_cases k1:ch.kind=1
 ·rw[if_pos k1];unfold C9;refine t_ func276 ntmps276 ?_;repeat first|refine v_ ?_|intro
  refine Av sD sK aC (λM hE=>kC M _ _) ?_;rintro e H' ⟨he,rfl⟩;by_cases ha:1≤ch.n
  ·rw[if_pos (decide_eq_true ha)] at he;subst he;rw[if_pos (decide_eq_true ha)];refine .inl ⟨_,rfl,_,bG,?_⟩;obtain⟨r,hr⟩:∃z,z=nF w.b ch.a ch.n:=⟨_,rfl⟩
   rw[←hr];have lmr:=λM=>hZ M ⟨w.b,w.out,w.ref⟩ r g A A m c m c X n x;have lfr:=λM=>zO M w.b A m c ch.a ch.n hb;rw[←hr] at lfr;dsimp only[dD.cs,Wk.cs,Bk.cs,List.cons_append,List.nil_append] at lmr lfr⊢;repeat first|refine v_ ?_|intro
   refine C.bL 12 (l_ [0,1,2,3,4,5,6,7,8] (g_ 9 (l_ [10,11] (g_ 12 .nil)))) _ q_ q_ aB.refl ?_;repeat first|refine v_ ?_|intro
   refine eJ lfr ?_;repeat first|refine v_ ?_|intro
   refine As rfl sD bA sK aC (λM hE=>lmr M) ?_;by_cases kr:r.2=0
   ·rw[gB kr];try rw[gB kr]
    have hor:r.1.aH=w.b.aH:=by rw[hr] at kr⊢;exact hP _ _ _ kr
    dsimp only[oN,bind,Except.bind];rintro e H' ⟨rfl,rfl⟩;refine .inl ⟨_,rfl,_,bG,?_⟩;repeat first|refine v_ ?_|intro
    try unfold Wk.tell
    try dsimp only
    refine gO rfl (H':=[aJ g 369 _,own eB A m c r.1.aH,own eG X n x w.out]) ?_ ⟨A,m,c,X,n,x,rfl,rfl⟩;rw[hor];exact aB.aV (.cons .aN (.cons aS (.cons aS .nil)))
   ·rw[gC kr];try rw[gC kr]
    dsimp only[oN,bind,Except.bind];rintro e H' ⟨rfl,rfl⟩;exact .inr ⟨_,rfl,[],aA,rfl,rfl⟩
  ·rw[if_neg (by simpa using ha)] at he;subst he;rw[if_neg (by simpa using ha)];exact .inr ⟨_,rfl,[],aA,rfl,rfl⟩
 rw[if_neg k1];by_cases k2:ch.kind=2
 ·rw[if_pos k2];unfold C9;refine t_ func276 ntmps276 ?_;repeat first|refine v_ ?_|intro
  refine Av sD sK aC (λM hE=>kC M _ _) ?_;rintro e H' ⟨he,rfl⟩;by_cases ha:1≤ch.n
  ·rw[if_pos (decide_eq_true ha)] at he;subst he;rw[if_pos (decide_eq_true ha)];refine .inl ⟨_,rfl,_,bG,?_⟩;obtain⟨r,hr⟩:∃z,z=jT w.b ch.a ch.n:=⟨_,rfl⟩
   rw[←hr];have lmr:=λM=>hZ M ⟨w.b,w.out,w.ref⟩ r g A A m c m c X n x;have lfr:=λM=>wE M w.b A m c ch.a ch.n hb;rw[←hr] at lfr;dsimp only[dD.cs,Wk.cs,Bk.cs,List.cons_append,List.nil_append] at lmr lfr⊢;repeat first|refine v_ ?_|intro
   refine C.bL 12 (l_ [0,1,2,3,4,5,6,7,8] (g_ 9 (l_ [10,11] (g_ 12 .nil)))) _ q_ q_ aB.refl ?_;repeat first|refine v_ ?_|intro
   refine eJ lfr ?_;repeat first|refine v_ ?_|intro
   refine As rfl sD bA sK aC (λM hE=>lmr M) ?_;by_cases kr:r.2=0
   ·rw[gB kr];try rw[gB kr]
    have hor:r.1.aH=w.b.aH:=by rw[hr] at kr⊢;exact fS _ _ _ kr
    dsimp only[oN,bind,Except.bind];rintro e H' ⟨rfl,rfl⟩;refine .inl ⟨_,rfl,_,bG,?_⟩;repeat first|refine v_ ?_|intro
    have tl2:=λM=>eP M ⟨r.1,w.out,w.ref⟩ 8 ch.a ch.n g A m c X n x o_;dsimp only[Wk.tell,Wk.cs,Bk.cs,List.cons_append,List.nil_append] at tl2;refine bW tl2 ?_;rintro e H' ⟨X2,x2,hx2,rfl,rfl⟩;repeat first|refine v_ ?_|intro
    repeat first|refine v_ ?_|intro
    try unfold Wk.tell
    try dsimp only
    refine gO rfl (H':=[aJ g 369 _,own eB A m c r.1.aH,own eG X2 (n+1) x2 (w.out++[⟨8,ch.a,ch.n,w.ref⟩])]) ?_ ⟨A,m,c,X2,(n+1),x2,rfl,rfl⟩;rw[hor];exact aB.aV (.cons .aN (.cons aS (.cons .aN .nil)))
   ·rw[gC kr];try rw[gC kr]
    dsimp only[oN,bind,Except.bind];rintro e H' ⟨rfl,rfl⟩;exact .inr ⟨_,rfl,[],aA,rfl,rfl⟩
  ·rw[if_neg (by simpa using ha)] at he;subst he;rw[if_neg (by simpa using ha)];exact .inr ⟨_,rfl,[],aA,rfl,rfl⟩
 rw[if_neg k2];by_cases k3:ch.kind=3
 ·rw[if_pos k3];refine t_ func276 ntmps276 ?_;repeat first|refine v_ ?_|intro
  refine Av sD sK aC (λM hE=>H6 M w ch g A m c X n x hm hn hb) ?_;cases w.place ch with
  |ok w' =>
   rintro e H' ⟨A',m',c',X',n',x',rfl,rfl⟩;refine .inl ⟨_,rfl,_,bG,?_⟩;repeat first|refine v_ ?_|intro
   refine gO rfl (H':=xC g w' A' m' c' X' n' x') ?_ ⟨A',m',c',X',n',x',rfl,rfl⟩;unfold xC;exact aB.aV (.cons .aN (.cons .aN (.cons .aN .nil)))
  |error k =>
   rintro e H' ⟨rfl,rfl⟩;exact .inr ⟨_,rfl,[],aA,rfl,rfl⟩
 rw[if_neg k3];by_cases k4:ch.kind=4
 ·rw[if_pos k4];refine t_ func276 ntmps276 ?_;repeat first|refine v_ ?_|intro
  refine Av sD sK aC (λM hE=>Mv M w ch g A m c X n x hm hn hb hoq) ?_;cases w.J6 ch with
  |ok w' =>
   rintro e H' ⟨A',m',c',X',n',x',rfl,rfl⟩;refine .inl ⟨_,rfl,_,bG,?_⟩;repeat first|refine v_ ?_|intro
   refine gO rfl (H':=xC g w' A' m' c' X' n' x') ?_ ⟨A',m',c',X',n',x',rfl,rfl⟩;unfold xC;exact aB.aV (.cons .aN (.cons .aN (.cons .aN .nil)))
  |error k =>
   rintro e H' ⟨rfl,rfl⟩;exact .inr ⟨_,rfl,[],aA,rfl,rfl⟩
 rw[if_neg k4];by_cases k5:ch.kind=5
 ·rw[if_pos k5];refine t_ func276 ntmps276 ?_;repeat first|refine v_ ?_|intro
  refine Av sD sK aC (λM hE=>II M w ch g A m c X n x hm hn hb) ?_;cases w.cancel ch with
  |ok w' =>
   rintro e H' ⟨A',m',c',X',n',x',rfl,rfl⟩;refine .inl ⟨_,rfl,_,bG,?_⟩;repeat first|refine v_ ?_|intro
   refine gO rfl (H':=xC g w' A' m' c' X' n' x') ?_ ⟨A',m',c',X',n',x',rfl,rfl⟩;unfold xC;exact aB.aV (.cons .aN (.cons .aN (.cons .aN .nil)))
  |error k =>
   rintro e H' ⟨rfl,rfl⟩;exact .inr ⟨_,rfl,[],aA,rfl,rfl⟩
 rw[if_neg k5];by_cases k6:ch.kind=6
 ·rw[if_pos k6];refine t_ func276 ntmps276 ?_;repeat first|refine v_ ?_|intro
  refine Av sD sK aC (λM hE=>SF M w ch g A m c X n x hm hn hb hoq) ?_;cases w.Y2 ch with
  |ok w' =>
   rintro e H' ⟨A',m',c',X',n',x',rfl,rfl⟩;refine .inl ⟨_,rfl,_,bG,?_⟩;repeat first|refine v_ ?_|intro
   refine gO rfl (H':=xC g w' A' m' c' X' n' x') ?_ ⟨A',m',c',X',n',x',rfl,rfl⟩;unfold xC;exact aB.aV (.cons .aN (.cons .aN (.cons .aN .nil)))
  |error k =>
   rintro e H' ⟨rfl,rfl⟩;exact .inr ⟨_,rfl,[],aA,rfl,rfl⟩
 rw[if_neg k6];by_cases k7:ch.kind=7
 ·rw[if_pos k7];refine t_ func276 ntmps276 ?_;repeat first|refine v_ ?_|intro
  refine Av sD sK aC (λM hE=>Ng M w ch g A m c X n x hm hn) ?_;cases w.Qn ch with
  |ok w' =>
   rintro e H' ⟨A',m',c',X',n',x',rfl,rfl⟩;refine .inl ⟨_,rfl,_,bG,?_⟩;repeat first|refine v_ ?_|intro
   refine gO rfl (H':=xC g w' A' m' c' X' n' x') ?_ ⟨A',m',c',X',n',x',rfl,rfl⟩;unfold xC;exact aB.aV (.cons .aN (.cons .aN (.cons .aN .nil)))
  |error k =>
   rintro e H' ⟨rfl,rfl⟩;exact .inr ⟨_,rfl,[],aA,rfl,rfl⟩
 rw[if_neg k7];by_cases k8:ch.kind=8
 ·rw[if_pos k8];refine t_ func276 ntmps276 ?_;repeat first|refine v_ ?_|intro
  refine Av sD sK aC (λM hE=>IE M w ch g A m c X n x hm hn hb) ?_;cases w.Er ch with
  |ok w' =>
   rintro e H' ⟨A',m',c',X',n',x',rfl,rfl⟩;refine .inl ⟨_,rfl,_,bG,?_⟩;repeat first|refine v_ ?_|intro
   refine gO rfl (H':=xC g w' A' m' c' X' n' x') ?_ ⟨A',m',c',X',n',x',rfl,rfl⟩;unfold xC;exact aB.aV (.cons .aN (.cons .aN (.cons .aN .nil)))
  |error k =>
   rintro e H' ⟨rfl,rfl⟩;exact .inr ⟨_,rfl,[],aA,rfl,rfl⟩
 rw[if_neg k8];by_cases k9:ch.kind=9
 ·rw[if_pos k9];refine t_ func276 ntmps276 ?_;obtain⟨r,hr⟩:∃z,z=mF w.b ch.a ch.n:=⟨_,rfl⟩
  rw[←hr];have lmr:=λM=>hZ M ⟨w.b,w.out,w.ref⟩ r g A A m c m c X n x;have lfr:=λM=>FY M w.b A m c ch.a ch.n;rw[←hr] at lfr;dsimp only[dD.cs,Wk.cs,Bk.cs,List.cons_append,List.nil_append] at lmr lfr⊢;repeat first|refine v_ ?_|intro
  refine C.bL 12 (l_ [0,1,2,3,4,5,6,7,8] (g_ 9 (l_ [10,11] (g_ 12 .nil)))) _ q_ q_ aB.refl ?_;repeat first|refine v_ ?_|intro
  refine eJ lfr ?_;repeat first|refine v_ ?_|intro
  refine As rfl sD bA sK aC (λM hE=>lmr M) ?_;by_cases kr:r.2=0
  ·rw[gB kr];try rw[gB kr]
   have hor:r.1.aH=w.b.aH:=by rw[hr] at kr⊢;exact oP _ _ _ kr
   dsimp only[oN,bind,Except.bind];rintro e H' ⟨rfl,rfl⟩;refine .inl ⟨_,rfl,_,bG,?_⟩;repeat first|refine v_ ?_|intro
   try unfold Wk.tell
   try dsimp only
   refine gO rfl (H':=[aJ g 369 _,own eB A m c r.1.aH,own eG X n x w.out]) ?_ ⟨A,m,c,X,n,x,rfl,rfl⟩;rw[hor];exact aB.aV (.cons .aN (.cons aS (.cons aS .nil)))
  ·rw[gC kr];try rw[gC kr]
   dsimp only[oN,bind,Except.bind];rintro e H' ⟨rfl,rfl⟩;exact .inr ⟨_,rfl,[],aA,rfl,rfl⟩
 rw[if_neg k9];refine t_ func276 ntmps276 ?_;repeat first|refine v_ ?_|intro
 refine L.val sD (λ_ _=>V.e9 rfl rfl q_) ?_;refine L.conv (H':=[]) aA ?_;refine L.panic rfl ?_;exact⟨rfl,rfl⟩
end
instance:cL 141 [.int .i64 0,.slice none 0 0] [(0,1),(1,1)]:=⟨⟨q_,q_⟩⟩
section
variable {P:Program} {N:Nat} {E:Env} {F:Nat→Value} {H H' R R2 Hp:List aL} {d:Nat} {f:FuncId} {ops:List Operand} {tys:Array TypeId} {ty:TypeId} {pos:String} {af:Array Edge} {Qw:Exit→Act→World→Prop} {Q1:Ending→List aL→Prop}
theorem xD.Av{os rest:List Oper}(hd:d<N)(hk:xA f=true)(hp:cS Hp H R)(law:∀M,Sub E R M→aK prog M f (AO F ops).toArray Hp Q1)
  (hQ:∀e H',Q1 e H'→(∃v,e=.returned v∧∃H2,wK H' R H2∧xD prog N E os Qw rest (pT F d v) H2)∨∃c,e=.panicked c∧∀a w,qX E N F a→St E (H'++R) w→Qw (.panic c) a w) :
  xD prog N E os Qw (⟨some d,.call { callee:=.value (.func f),args:=ops.toArray,argTypes:=tys },ty,pos,af,none⟩::rest) F H:=by
 obtain⟨fn,h1,h2,h3⟩:=iY hk;refine xD.Wx hd h1 h2 h3 hp law (λH' hq=>?_) (λc H' hq=>?_) (λv H' hq=>?_)
 ·rcases hQ _ _ hq with⟨v',he,_⟩|⟨c',he,_⟩<;>cases he
 ·rcases hQ _ _ hq with⟨v',he,_⟩|⟨c',he,h⟩
  ·cases he
  ·injection he with he;subst he;exact h
 ·rcases hQ _ _ hq with⟨v',he,H2,hc,h⟩|⟨c',he,_⟩
  ·injection he with he;subst he;rw[←hc.eq];exact h
  ·cases he
theorem TU{fn:Func}{Q:Ending→List aL→Prop}{t g u g2:Nat}{ty bt ty2 bt2:TypeId}{cs cs2:List Value}{d d2:TypeDesc}{ti ti2:TypeInfo}(hr:fn.results=#[.cell t ty,.cell u ty2])(hv:F t=.pointer (some ⟨g,0,none⟩))(hv2:F u=.pointer (some ⟨g2,0,none⟩))(ht:P.underlying ty=some d)(hd:lT d=true)(hi:P.info? ty=some ti)(hb:Has (aJ g bt cs) H R)(hm:ti.size=cs.length)
  (ht2:P.underlying ty2=some d2) (hd2:lT d2=true) (hi2:P.info? ty2=some ti2) (hb2:Has (aJ g2 bt2 cs2) H R2) (hm2:ti2.size=cs2.length)
  (hc:aB E H H') (h:Q (.returned (.tuple #[.agg cs.toArray,.agg cs2.toArray])) H'):gF P E fn Q .ret F H:=by
 refine⟨.tuple #[.agg cs.toArray,.agg cs2.toArray],H',λw hw=>?_,hc,h⟩;obtain⟨h1,h2⟩:=mL hv ht hd hi hb hm hw;obtain⟨h3,h4⟩:=mL hv2 ht2 hd2 hi2 hb2 hm2 hw;simp[yC,hr,h1,h2,h3,h4]
end
section
variable (E:Env) (b:Bk) (A:Option Addr) (m c:Nat) (g2 g4 g5:Nat)
theorem SW:N4 prog E 275 #[.pointer (some ⟨g2,0,none⟩),.pointer (some ⟨g4,0,none⟩),.pointer (some ⟨g5,0,none⟩)] .returning [] (λe u' H'=>u'=.returning∧e=.returned (.tuple #[])∧H'=[]):=by
 refine Ur func275 rfl ntmps275 (by simp) sD sD ?_;repeat first|refine v_ ?_|intro
 refine L.val (v:=.bool false) sD (λ_ _=>q_) ?_;repeat first|refine v_ ?_|intro
 exact e3_
theorem PF(k:Int)(hr:Rd E eB A m c b.aH)(hm:m≤1000):N4 prog E 275 #[.pointer (some ⟨g2,0,none⟩),.pointer (some ⟨g4,0,none⟩),.pointer (some ⟨g5,0,none⟩)] (.panicking (Yt k))
  [aJ g2 45 (b.cs A m c),aJ g4 45 (sY.cs none 0 0),aJ g5 141 [.int .i64 0,.slice none 0 0]]
  (λe u' H'=>u'=.panicking [{ v:=.iface 371 (.agg #[.int .i64 k]),recovered:=true }]∧∃B d,e=.returned (.tuple #[])∧H'=[aJ g2 45 (b.cs A m c),aJ g4 45 (b.cs B m d),aJ g5 141 [.int .i64 k,.slice none 0 0],own eB B m d b.aH]):=by
 dsimp only[Bk.cs,List.cons_append,List.nil_append];refine Ur func275 rfl ntmps275 (by simp) sD sD ?_;change C _ _ _ _ _ (pT (pT _ _ (.iface 371 (.agg #[.int .i64 k]))) _ (.iface 371 (.agg #[.int .i64 k]))) _;repeat first|refine v_ ?_|intro
 refine L.val (v:=.bool true) sD (λ_ _=>q_) ?_;repeat first|refine v_ ?_|intro
 refine L.val (v:=.tuple #[.agg #[.int .i64 k],.bool true]) sD (λ_ _=>q_) ?_;repeat first|refine v_ ?_|intro
 rename_i gt;refine rB (l_ [0,2,3,4] (g_ 1 (g_ 5 (g_ 6 .nil)))) ([aJ g2 45 _,aJ gt 371 _]) ?_;repeat first|refine v_ ?_|intro
 refine cg rfl sD bA sK aC (λM hE=>Kh M b A m c (hr.sub hE) hm) ?_;rintro e H' ⟨B,d,hd,rfl,rfl⟩;repeat first|refine v_ ?_|intro
 exact gO rfl aA ⟨B,d,rfl,rfl⟩
def r6(r:Bk×Out):Ending→List aL→Prop :=
 λe H'=>∃B m' d X n x,e=.returned (.tuple #[.agg (r.1.cs B m' d).toArray,.agg #[.int .i64 r.2.code,.slice X n x]])∧H'=[own eB B m' d r.1.aH,own eG X n x r.2.zM]
theorem VR(hr:Rd E eB A m c b.aH)(hb:b.ok)(hoq:∀o∈b.aH,0≤o.iN∧o.iN≤1000)(hm:m≤1000)(ch:aX):G E 219 [.agg (b.cs A m c).toArray,.agg ch.cs.toArray] [] (r6 (C0 b ch)):=by
 have hr2:∀ds,Rd (E.jU ds) eB A m c b.aH:=λ_=>hr;dsimp only[aX.cs,Bk.cs,List.cons_append,List.nil_append,G];refine Xb func219 rfl ntmps219 (by simp) λhds=>?_;refine WJ.yR ?_;repeat first|refine v_ ?_|intro
 refine WJ.yR ?_;repeat first|refine v_ ?_|intro
 refine cl sD sK aC (λM hE=>Kh M b A m c (hr.sub hE) hm) ?_;rintro e H' ⟨B,d,hd,rfl,rfl⟩;refine gk bG ?_;refine L.conv (aB.nil eG) ?_;repeat first|refine v_ ?_|intro
 rename_i g2 g3 g4 g5 gw;refine WJ.Zd ?_;refine xD.YV sD I7 ?_;refine xD.defer rfl ?_;rw[hds];refine xD.nil ?_;refine WJ.Zd ?_;refine xD.Yd sD (λ_=>by simp) Cw ?_;refine xD.Yd sD (λ_=>by simp) Cw ?_;have law:=λM=>U1 M ⟨b,[],⟨0,0⟩⟩ ch gw B m d none 0 0 hm o_ hb hoq;dsimp only[xC,Wk.cs,Bk.cs,aX.cs,List.cons_append,List.nil_append] at law;refine xD.Av sD sK aC (λM hE=>law M) ?_;cases hw:Wk.do ⟨b,[],⟨0,0⟩⟩ ch with
 |ok w' =>
  have e:C0 b ch=(w'.b,⟨0,w'.out⟩):=by unfold C0;rw[hw]
  rintro e H' ⟨A',m',c',X',n',x',rfl,rfl⟩;dsimp only[xC,Wk.cs,Bk.cs,List.cons_append,List.nil_append];refine .inl ⟨_,rfl,_,bG,?_⟩;refine xD.nil ?_;refine WJ.l7 ?_;repeat first|refine v_ ?_|intro
  refine rB (l_ [0,1,2,3,4,5,6,7,8] (g_ 9 (g_ 10 .nil))) ([aJ gw 369 _]) ?_;repeat first|refine v_ ?_|intro
  refine Lv.one (by simp) ⟨_,func275,q_,rfl⟩ (Hp:=[]) .nil (λM hE=>SW M _ _ _) ?_;rintro e u' H' ⟨rfl,rfl,rfl⟩;refine⟨⟨_,rfl⟩,rfl,?_⟩;rw[e];simp only[aBq];exact TU (H':=[own eB A' m' c' w'.b.aH,own eG X' n' x' w'.out]) rfl aF aF rfl rfl rfl aS rfl rfl rfl rfl aS rfl aA ⟨A',m',c',X',n',x',rfl,rfl⟩
 |error k =>
  have e:C0 b ch=(b,⟨k,[]⟩):=by unfold C0;rw[hw]
  rintro e H' ⟨rfl,rfl⟩;refine .inr ⟨_,rfl,λa u ha hu=>Lv.get ?_ a u ha hu⟩;have dof:=λM hr=>PF M b A m c g2 g4 g5 k hr hm;dsimp only[Bk.cs,List.cons_append,List.nil_append] at dof;refine Lv.one (by simp[Yt,Z3]) ⟨_,func275,q_,rfl⟩ aC (λM hE=>dof M ((hr2 _).sub hE)) ?_;rintro e u' H' ⟨rfl,B,d,rfl,rfl⟩;refine⟨⟨_,rfl⟩,rfl,?_⟩;rw[e];simp only[aCj,aBq];exact TU (H':=[own eB B m d b.aH,own eG none 0 0 []]) rfl aF aF rfl rfl rfl aS rfl rfl rfl rfl aS rfl (aB.trans (aB.nil eG) aA) ⟨B,m,d,none,0,0,rfl,rfl⟩
end
end Go.Proofs.YtmilalkjbojciaaGreat.Sep
