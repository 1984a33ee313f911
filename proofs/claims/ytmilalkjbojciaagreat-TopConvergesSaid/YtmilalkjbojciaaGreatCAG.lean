/- Part AG: what it needs. No condition. -/
import Derived.Test.YtmilalkjbojciaaGreatCAE
set_option linter.all false
set_option maxRecDepth 100000
set_option maxHeartbeats 8000000
open Go.Proofs.Tryz
namespace Go.Proofs.YtmilalkjbojciaaGreat.Sep
open Go.RowKit Reg
open Mem hiding Rd
def TJ(E:Env)(n:Int)(h:0<=n/\n<=1099511627776):G E 390 [a! n] [] (bL (.int .u64 n) []):=by
 have a:¬n<0:=o_;have b:IntKind.u64.wrap n=n:=Ii _ o_;refine p_ func390 ntmps390 ?_
 exact aS
def aOs(E:Env)(a b:Nat)(e:a<=1000)(hb:b<=1073741824):G E 389 [.int .u64 a,.int .u64 b] [] (bL (.tuple #[.int .u64 0,.int .u64 ((a*b:Nat):Int)]) []):=by
 have f:a*b<=1000*1073741824:=Nat.mul_le_mul e hb;have⟨p,c⟩:∃p,p=a*b:=⟨_,rfl⟩
 rw[<-c] at f⊢;have h:Go.bits .and .u64 (a:Int) 4294967295=(a:Int):=by
  rw[show(4294967295:Int)=((4294967295:Nat):Int) from rfl,bits_and_u64_nat _ _ o_ o_,show 4294967295=2 ^ 32 - 1 from rfl,PY,FA o_]
 have i:Go.bits .and .u64 (b:Int) 4294967295=(b:Int):=by
  rw[show(4294967295:Int)=((4294967295:Nat):Int) from rfl,bits_and_u64_nat _ _ o_ o_,show 4294967295=2 ^ 32 - 1 from rfl,PY,FA o_]
 have k:(a:Int) / 2 ^ min (32:Int).toNat IntKind.u64.bits=0:=by
  show(a:Int) / 4294967296=0;omega
 have l:(b:Int) / 2 ^ min (32:Int).toNat IntKind.u64.bits=0:=by
  show(b:Int) / 4294967296=0;omega
 have n:IntKind.u64.wrap ((a:Int)*(b:Int))=(p:Int):=by rw[show(a:Int)*(b:Int)=(p:Int) by rw[c];simp];exact Ii _ o_
 have d:∃t:Nat,(p:Int) / 2 ^ min (32:Int).toNat IntKind.u64.bits=(t:Int)/\t<=1000:=⟨p / 4294967296,by show(p:Int) / 4294967296=_;omega,o_⟩
 have⟨t,d,g⟩:=d;have o:IntKind.u64.wrap (0*(b:Int))=0:=by rw[Int.zero_mul];rfl
 have q:IntKind.u64.wrap (0+(t:Int))=(t:Int):=by rw[Int.zero_add];exact Ii _ o_
 have j:Go.bits .and .u64 (t:Int) 4294967295=(t:Int):=by
  rw[show(4294967295:Int)=((4294967295:Nat):Int) from rfl,bits_and_u64_nat _ _ o_ o_,show 4294967295=2 ^ 32 - 1 from rfl,PY,FA o_]
 have m:(t:Int) / 2 ^ min (32:Int).toNat IntKind.u64.bits=0:=by
  show(t:Int) / 4294967296=0;omega
 have r:IntKind.u64.wrap ((a:Int)*0)=0:=by rw[Int.mul_zero];rfl
 have s:IntKind.u64.wrap ((t:Int)+0)=(t:Int):=by rw[BW];exact Ii _ o_
 refine p_ func389 ntmps389 ?_
 exact mZ
def TG(E:Env)(a b:Int)(e:0<=a/\a<=1000)(hb:0<=b/\b<=1073741824):G E 378 [a! a,a! b] [] (bL (.tuple #[a! (a*b),.bool true]) []):=by
 obtain⟨x,rfl⟩:=zI e.1;obtain⟨y,rfl⟩:=zI hb.1;have c:¬(x:Int)<0:=o_;have d:¬(y:Int)<0:=o_;have f:x*y<=1000*1073741824:=Nat.mul_le_mul o_ o_;rw[show(x:Int)*(y:Int)=((x*y:Nat):Int) by simp];have mul:=λM=>aOs M x y o_ o_;generalize x*y=p at mul f;have g:(!(decide ((x:Int)<0) == decide ((y:Int)<0)))=false:=by simp[c,d]
 have h:IntKind.i64.wrap (p:Int)=(p:Int):=dY _ o_;refine p_ func378 ntmps378 ?_
 refine r_ (λM=>TJ M x o_) ?_
 refine r_ (λM=>TJ M y o_) ?_
 refine r_ mul ?_
 exact mZ
def aCc(E:Env)(b:Bk)(A:n!)(m c:Nat)(i n:Int)(hb:b.ok)(j:0<=n/\n<=1000):G E 361 [.agg (b.cs A m c).toArray,a! i,a! n] [] (bL (.tuple #[a! (yY b i n).1,a! (yY b i n).2]) []):=by
 obtain⟨a,d,e⟩:=hb;unfold O8.nC at a d e;unfold yY;by_cases h:0<=i/\i<=7
 ·rw[c! ⟨h,o_⟩];by_cases f:n*b.qG.get i<=1099511627776;rw[c! f];rotate_left;rw[b! f];all_goals
   refine t_ func361 ntmps361 ?_;rcases zW h with rfl|rfl|rfl|rfl|rfl|rfl|rfl|rfl;all_goals
    simp only[O8.gs b.qG] at f⊢;refine a_ ?_;intros;refine cl sD sK aH (λM g=>TG M n _ o_ o_) (b_ ?_);exact mZ
 ·rw[b! λq=>h q.1];refine p_ func361 ntmps361 ?_;intros;exact mZ
def Ux(E:Env)(b:Bk)(A:n!)(m c:Nat)(i n:Int)(hb:b.ok):G E 356 [.agg (b.cs A m c).toArray,a! i,a! n] [] (bL (.bool (DP b i n)) []):=by
 unfold DP;have⟨r,a⟩:∃r,r=sU b i n:=⟨_,rfl⟩;have take:=λM=>OS M b A m c i n hb;rw[<-a] at take⊢;have⟨d,k⟩:=r;dsimp only[Bk.cs,k!,l!] at take⊢;by_cases h:k=0
 subst h;rw[lW.ok] at take;rotate_left;rw[lW.no _ _ _ _ h] at take;all_goals
  refine p_ func356 ntmps356 ?_;intros;refine r_ take ?_;intros;exact aS
def Fv(r:Bk×Int):Ending->List aG->Prop :=
 if r.2=0 then λe a=>∃B d,(r.1.bG.length<=d/\d<=maxLen)/\e=.returned (.tuple #[.agg (r.1.cs B r.1.bG.length d).toArray,a! 0])/\a=[own eS B r.1.bG.length d r.1.bG]
 else bL (.tuple #[.agg (fY.cs none 0 0).toArray,a! r.2]) []
def aNt(E:Env)(b:Bk)(A:n!)(m c:Nat)(l:Rd E eS A m c b.bG)(o:dM)(t:m<=1000):G E 357 [.agg (b.cs A m c).toArray,.agg o.cs.toArray] []
  (Fv (uU b o)):=by
 have p:=l.len;have⟨u,a,f,g,i,j⟩:=o;have⟨r,s⟩:=u;dsimp only[Bk.cs,dM.cs,k!,l!,G];by_cases h:0<=nX b ⟨r,s⟩
 ·have e:uU b ⟨⟨r,s⟩,a,f,g,i,j⟩=(fY,9):=by unfold uU;rw[c! h]
  rw[e];unfold Fv;rw[b! (show ¬(9:Int)=0 by decide)];refine p_ func357 ntmps357 ?_;intros;refine z_ (λM k=>Fw M b A m c k r s) ?_;exact lO
 ·by_cases n:32<=b.bG.length
  ·have e:uU b ⟨⟨r,s⟩,a,f,g,i,j⟩=(fY,3):=by unfold uU;rw[b! h,c! n]
   rw[e];unfold Fv;rw[b! (show ¬(3:Int)=0 by decide)];refine p_ func357 ntmps357 ?_;intros;refine z_ (λM k=>Fw M b A m c k r s) ?_;exact lO
  ·have e:uU b ⟨⟨r,s⟩,a,f,g,i,j⟩=(lT b ⟨⟨r,s⟩,a,f,g,i,j⟩,0):=by unfold uU;rw[b! h,b! n]
   rw[e];unfold Fv;rw[c! rfl];have put:=λM l=>Ta M b A m c l ⟨⟨r,s⟩,a,f,g,i,j⟩ t;dsimp only[Bk.cs,dM.cs,k!,l!] at put⊢;generalize lT b ⟨⟨r,s⟩,a,f,g,i,j⟩=v at put⊢;refine p_ func357 ntmps357 ?_;intros
   refine z_ (λM k=>Fw M b A m c k r s) ?_;refine C_ put ?_;intro B d q;exact mL rfl aJ rfl rfl rfl aV rfl aJ aC (⟨_,_,q,rfl,rfl⟩)
end Go.Proofs.YtmilalkjbojciaaGreat.Sep
