/- Part AG: what it needs. No condition. -/
import Derived.Test.YtmilalkjbojciaaGreatLAA
import Derived.Test.YtmilalkjbojciaaGreatLAF
set_option maxRecDepth 100000
set_option maxHeartbeats 8000000
open Go.Proofs.Tryz
namespace Go.Proofs.YtmilalkjbojciaaGreat.Sep
open Go.RowKit Reg
open Mem hiding Rd
theorem Da(E:Env)(n:Int)(h:0≤n∧n≤1099511627776):G E 390 [.int .i64 n] [] (cM (.int .u64 n) []):=by
 have h0:¬n<0:=o_;have h1:IntKind.u64.wrap n=n:=aFp _ o_;refine t_ func390 ntmps390 ?_;repeat first|refine v_ ?_|intro
 exact B7
theorem Mx(E:Env)(a b:Nat)(ha:a≤1000)(hb:b≤1073741824):G E 389 [.int .u64 a,.int .u64 b] [] (cM (.tuple #[.int .u64 0,.int .u64 ((a*b:Nat):Int)]) []):=by
 have hp:a*b≤1000*1073741824:=Nat.mul_le_mul ha hb;obtain⟨p,hpp⟩:∃p,p=a*b:=⟨_,rfl⟩
 rw[←hpp] at hp⊢;have m1:Go.bits .and .u64 (a:Int) 4294967295=(a:Int):=by
  rw[show(4294967295:Int)=((4294967295:Nat):Int) from rfl,bits_and_u64_nat _ _ o_ o_,show 4294967295=2 ^ 32 - 1 from rfl,aEx,aEc o_]
 have m2:Go.bits .and .u64 (b:Int) 4294967295=(b:Int):=by
  rw[show(4294967295:Int)=((4294967295:Nat):Int) from rfl,bits_and_u64_nat _ _ o_ o_,show 4294967295=2 ^ 32 - 1 from rfl,aEx,aEc o_]
 have q1:(a:Int) / 2 ^ min (32:Int).toNat IntKind.u64.bits=0:=by
  show(a:Int) / 4294967296=0;omega
 have q2:(b:Int) / 2 ^ min (32:Int).toNat IntKind.u64.bits=0:=by
  show(b:Int) / 4294967296=0;omega
 have w0:IntKind.u64.wrap ((a:Int)*(b:Int))=(p:Int):=by rw[show(a:Int)*(b:Int)=(p:Int) by rw[hpp];simp];exact aFp _ o_
 have q3:∃t:Nat,(p:Int) / 2 ^ min (32:Int).toNat IntKind.u64.bits=(t:Int)∧t≤1000:=⟨p / 4294967296,by show(p:Int) / 4294967296=_;omega,by omega⟩
 obtain⟨t,q3,ht⟩:=q3;have w1:IntKind.u64.wrap (0*(b:Int))=0:=by rw[Int.zero_mul];rfl
 have w2:IntKind.u64.wrap (0+(t:Int))=(t:Int):=by rw[Int.zero_add];exact aFp _ o_
 have m3:Go.bits .and .u64 (t:Int) 4294967295=(t:Int):=by
  rw[show(4294967295:Int)=((4294967295:Nat):Int) from rfl,bits_and_u64_nat _ _ o_ o_,show 4294967295=2 ^ 32 - 1 from rfl,aEx,aEc o_]
 have q4:(t:Int) / 2 ^ min (32:Int).toNat IntKind.u64.bits=0:=by
  show(t:Int) / 4294967296=0;omega
 have w3:IntKind.u64.wrap ((a:Int)*0)=0:=by rw[Int.mul_zero];rfl
 have w4:IntKind.u64.wrap ((t:Int)+0)=(t:Int):=by rw[Int.add_zero];exact aFp _ o_
 refine t_ func389 ntmps389 ?_;repeat first|refine v_ ?_|intro
 exact Xs
theorem HG(E:Env)(a b:Int)(ha:0≤a∧a≤1000)(hb:0≤b∧b≤1073741824):G E 378 [.int .i64 a,.int .i64 b] [] (cM (.tuple #[.int .i64 (a*b),.bool true]) []):=by
 obtain⟨x,rfl⟩:=aCf ha.1;obtain⟨y,rfl⟩:=aCf hb.1;have h0:¬(x:Int)<0:=o_;have h1:¬(y:Int)<0:=o_;have hp:x*y≤1000*1073741824:=Nat.mul_le_mul o_ o_;rw[show(x:Int)*(y:Int)=((x*y:Nat):Int) by simp];have mul:=λM=>Mx M x y o_ o_;generalize x*y=p at mul hp;have h3:(!(decide ((x:Int)<0) == decide ((y:Int)<0)))=false:=by simp[h0,h1]
 have h4:IntKind.i64.wrap (p:Int)=(p:Int):=aAq _ o_;refine t_ func378 ntmps378 ?_;repeat first|refine v_ ?_|intro
 refine bK (λM=>Da M x (by omega)) ?_;repeat first|refine v_ ?_|intro
 refine bK (λM=>Da M y (by omega)) ?_;repeat first|refine v_ ?_|intro
 refine bK mul ?_;repeat first|refine v_ ?_|intro
 exact Xs
theorem Jh(E:Env)(b:Bk)(A:Option Addr)(m c:Nat)(i n:Int)(hb:b.ok)(hn:0≤n∧n≤1000):G E 361 [.agg (b.cs A m c).toArray,.int .i64 i,.int .i64 n] [] (cM (.tuple #[.int .i64 (mY b i n).1,.int .i64 (mY b i n).2]) []):=by
 obtain⟨hb1,hb2,hb3⟩:=hb;unfold O8.BH at hb1 hb2 hb3;unfold mY;by_cases h:0≤i∧i≤7
 ·rw[if_pos ⟨h,by omega⟩];by_cases hk:n*b.mO.get i≤1099511627776
  ·rw[if_pos hk];refine t_ func361 ntmps361 ?_;rcases oV h with rfl|rfl|rfl|rfl|rfl|rfl|rfl|rfl
   all_goals
    simp only[O8.gs b.mO] at hk⊢;repeat first|refine v_ ?_|intro
    refine cl sD sK aC (λM hE=>HG M n _ o_ o_) ?_;rintro e H' ⟨rfl,rfl⟩;repeat first|refine v_ ?_|intro
    exact Xs
  ·rw[if_neg hk];refine t_ func361 ntmps361 ?_;rcases oV h with rfl|rfl|rfl|rfl|rfl|rfl|rfl|rfl
   all_goals
    simp only[O8.gs b.mO] at hk⊢;repeat first|refine v_ ?_|intro
    refine cl sD sK aC (λM hE=>HG M n _ o_ o_) ?_;rintro e H' ⟨rfl,rfl⟩;repeat first|refine v_ ?_|intro
    exact Xs
 ·rw[if_neg λq=>h q.1];refine t_ func361 ntmps361 ?_;repeat first|refine v_ ?_|intro
  exact Xs
theorem D2(E:Env)(b:Bk)(A:Option Addr)(m c:Nat)(i n:Int)(hb:b.ok):G E 356 [.agg (b.cs A m c).toArray,.int .i64 i,.int .i64 n] [] (cM (.bool (Aj b i n)) []):=by
 unfold Aj;obtain⟨r,hr⟩:∃r,r=jB b i n:=⟨_,rfl⟩
 have take:=λM=>wX M b A m c i n hb;rw[←hr] at take⊢;obtain⟨b',k⟩:=r;dsimp only[Bk.cs,List.cons_append,List.nil_append] at take⊢;by_cases h:k=0
 ·subst h;rw[AF.ok] at take;refine t_ func356 ntmps356 ?_;repeat first|refine v_ ?_|intro
  refine bK take ?_;repeat first|refine v_ ?_|intro
  exact B7
 ·rw[AF.no _ _ _ _ h] at take;refine t_ func356 ntmps356 ?_;repeat first|refine v_ ?_|intro
  refine bK take ?_;repeat first|refine v_ ?_|intro
  exact B7
def Dk(r:Bk×Int):Ending→List aL→Prop :=
 if r.2=0 then λe H'=>∃B d,(r.1.aH.length≤d∧d≤maxLen)∧e=.returned (.tuple #[.agg (r.1.cs B r.1.aH.length d).toArray,.int .i64 0])∧H'=[own eB B r.1.aH.length d r.1.aH]
 else cM (.tuple #[.agg (sY.cs none 0 0).toArray,.int .i64 r.2]) []
theorem Pn(E:Env)(b:Bk)(A:Option Addr)(m c:Nat)(hr:Rd E eB A m c b.aH)(o:dD)(hm:m≤1000):G E 357 [.agg (b.cs A m c).toArray,.agg o.cs.toArray] []
  (Dk (wH b o)):=by
 have hlen:=hr.len;obtain⟨o0,o1,o2,o3,o4,o5⟩:=o;obtain⟨r,s⟩:=o0;dsimp only[Bk.cs,dD.cs,List.cons_append,List.nil_append,G];by_cases h:0≤fA b ⟨r,s⟩
 ·have e:wH b ⟨⟨r,s⟩,o1,o2,o3,o4,o5⟩=(sY,9):=by unfold wH;rw[if_pos h]
  rw[e];unfold Dk;rw[if_neg (show ¬(9:Int)=0 by decide)];refine t_ func357 ntmps357 ?_;repeat first|refine v_ ?_|intro
  refine eV (λM h1=>lV M b A m c h1 r s) ?_;repeat first|refine v_ ?_|intro
  exact Sa
 ·by_cases h2:32≤b.aH.length
  ·have e:wH b ⟨⟨r,s⟩,o1,o2,o3,o4,o5⟩=(sY,3):=by unfold wH;rw[if_neg h,if_pos h2]
   rw[e];unfold Dk;rw[if_neg (show ¬(3:Int)=0 by decide)];refine t_ func357 ntmps357 ?_;repeat first|refine v_ ?_|intro
   refine eV (λM h1=>lV M b A m c h1 r s) ?_;repeat first|refine v_ ?_|intro
   exact Sa
  ·have e:wH b ⟨⟨r,s⟩,o1,o2,o3,o4,o5⟩=(lK b ⟨⟨r,s⟩,o1,o2,o3,o4,o5⟩,0):=by unfold wH;rw[if_neg h,if_neg h2]
   rw[e];unfold Dk;rw[if_pos rfl];have put:=λM hr=>HA M b A m c hr ⟨⟨r,s⟩,o1,o2,o3,o4,o5⟩ hm;dsimp only[Bk.cs,dD.cs,List.cons_append,List.nil_append] at put⊢;generalize lK b ⟨⟨r,s⟩,o1,o2,o3,o4,o5⟩=b' at put⊢;refine t_ func357 ntmps357 ?_;repeat first|refine v_ ?_|intro
   refine eV (λM h1=>lV M b A m c h1 r s) ?_;repeat first|refine v_ ?_|intro
   refine dX put ?_;rintro e H' ⟨B,d,hd,rfl,rfl⟩;repeat first|refine v_ ?_|intro
   exact gS rfl aF rfl rfl rfl aS rfl aF aA (⟨_,_,hd,rfl,rfl⟩)
end Go.Proofs.YtmilalkjbojciaaGreat.Sep
