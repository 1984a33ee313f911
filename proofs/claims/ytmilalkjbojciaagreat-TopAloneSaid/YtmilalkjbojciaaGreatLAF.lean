/- Part AF: what it needs. No condition. -/
import Derived.Test.YtmilalkjbojciaaGreatLAA
import Derived.Test.YtmilalkjbojciaaGreatLAE
import Derived.Test.YtmilalkjbojciaaGreatLAD
set_option maxRecDepth 100000
set_option maxHeartbeats 8000000
open Go.Proofs.Tryz
namespace Go.Proofs.YtmilalkjbojciaaGreat.Sep
open Go.RowKit Reg
open Mem hiding Rd
instance:cL 45 [.int .i64 0,.int .i64 0,.int .i64 0,.int .i64 0,.int .i64 0,.int .i64 0,.int .i64 0,.int .i64 0,.int .i64 0,.int .i64 0,.int .i64 0,.int .i64 0,.int .i64 0,.int .i64 0,.int .i64 0,.int .i64 0,.int .i64 0,.int .i64 0,.int .i64 0,.int .i64 0,.int .i64 0,.int .i64 0,.int .i64 0,.int .i64 0,.slice none 0 0] [(0,8),(8,8),(16,8),(24,1)]:=⟨⟨q_,q_⟩⟩
theorem zF(E:Env)(a b:Int)(ha:0≤a∧a≤1099511627776)(hb:0≤b∧b≤1099511627776):G E 352 [.int .i64 a,.int .i64 b] [] (cM (.tuple #[.int .i64 (a+b),.bool true]) []):=by
 have h0:¬a<0:=o_;have h1:¬b<0:=o_;have h2:¬a+b<0:=o_;have h3:(decide (a<0) == decide (b<0))=true:=by simp[h0,h1]
 have h4:(!(decide (a+b<0) == decide (a<0)))=false:=by simp[h0,h2]
 refine t_ func352 ntmps352 ?_;repeat first|refine v_ ?_|intro
 exact Xs
theorem OC.Pa(E:Env)(i:Int):G E 355 [.int .i64 i] [] (cM (.bool (decide (0≤i∧i≤7))) []):=by
 refine t_ func355 ntmps355 ?_;repeat first|refine v_ ?_|intro
 exact B7
instance {i:Int}:vZ 355 [.int .i64 i] (.bool (decide (0≤i∧i≤7))):=⟨λE=>OC.Pa E i⟩
theorem eO.K5(E:Env)(i:Int):G E 354 [.int .i64 i] [] (cM (.bool (decide (0≤i∧i≤7))) []):=by
 refine t_ func354 ntmps354 ?_;repeat first|refine v_ ?_|intro
 exact B7
instance {i:Int}:vZ 354 [.int .i64 i] (.bool (decide (0≤i∧i≤7))):=⟨λE=>eO.K5 E i⟩
theorem OC.mH(E:Env)(i n:Int):G E 351 [.int .i64 i,.int .i64 n] [] (cM (.bool (decide ((0≤i∧i≤7)∧0≤n∧n≤1099511627776))) []):=by
 refine t_ func351 ntmps351 ?_;repeat' (first|refine w_ ?_|refine k_ ?_|refine f_ ?_ ?_|intro _)
 all_goals exact aR rfl aF aA ⟨rJ,rfl⟩
instance {i n:Int}:vZ 351 [.int .i64 i,.int .i64 n] (.bool (decide ((0≤i∧i≤7)∧0≤n∧n≤1099511627776))):=⟨λE=>OC.mH E i n⟩
theorem eO.mH(E:Env)(i n:Int):G E 353 [.int .i64 i,.int .i64 n] [] (cM (.bool (decide ((0≤i∧i≤7)∧0≤n∧n≤1099511627776))) []):=by
 refine t_ func353 ntmps353 ?_;repeat' (first|refine w_ ?_|refine k_ ?_|refine f_ ?_ ?_|intro _)
 all_goals exact aR rfl aF aA ⟨rJ,rfl⟩
instance {i n:Int}:vZ 353 [.int .i64 i,.int .i64 n] (.bool (decide ((0≤i∧i≤7)∧0≤n∧n≤1099511627776))):=⟨λE=>eO.mH E i n⟩
section
variable (E:Env) (b:Bk) (A:Option Addr) (m c:Nat) (i n:Int)
def AF(A:Option Addr)(m c:Nat)(r:Bk×Int):Ending→List aL→Prop:=cM (.tuple #[.agg (if r.2=0 then r.1.cs A m c else sY.cs none 0 0).toArray,.int .i64 r.2]) []
theorem AF.ok:AF A m c (b,0)=cM (.tuple #[.agg (b.cs A m c).toArray,.int .i64 0]) []:=rfl
theorem AF.no{k:Int}(h:k≠0):AF A m c (b,k)=cM (.tuple #[.agg (sY.cs none 0 0).toArray,.int .i64 k]) []:=by unfold AF;rw[if_neg h]
theorem zO(hb:b.ok):G E 315 [.agg (b.cs A m c).toArray,.int .i64 i,.int .i64 n] [] (AF A m c (nF b i n)):=by
 obtain⟨hb1,hb2,hb3⟩:=hb;unfold O8.BH at hb1 hb2 hb3;unfold nF;by_cases h:(0≤i∧i≤7)∧0≤n∧n≤1099511627776
 ·rw[if_pos h];by_cases hk:b.fP.get i+n≤1099511627776
  ·rw[if_pos hk,AF.ok];refine t_ func315 ntmps315 ?_;rcases oV h.1 with rfl|rfl|rfl|rfl|rfl|rfl|rfl|rfl
   all_goals
    simp only[O8.gs b.fP,O8.ss b.fP] at hk⊢;repeat first|refine v_ ?_|intro
    refine cl sD sK aC (λM hE=>zF M _ n o_ o_) ?_;rintro e H' ⟨rfl,rfl⟩;repeat first|refine v_ ?_|intro
    exact Sa
  ·rw[if_neg hk,AF.no _ _ _ _ sD];refine t_ func315 ntmps315 ?_;rcases oV h.1 with rfl|rfl|rfl|rfl|rfl|rfl|rfl|rfl
   all_goals
    simp only[O8.gs b.fP] at hk⊢;repeat first|refine v_ ?_|intro
    refine cl sD sK aC (λM hE=>zF M _ n o_ o_) ?_;rintro e H' ⟨rfl,rfl⟩;repeat first|refine v_ ?_|intro
    exact Sa
 ·rw[if_neg h,AF.no _ _ _ _ sD];refine t_ func315 ntmps315 ?_;repeat first|refine v_ ?_|intro
  exact Sa
theorem wE(hb:b.ok):G E 316 [.agg (b.cs A m c).toArray,.int .i64 i,.int .i64 n] [] (AF A m c (jT b i n)):=by
 obtain⟨hb1,hb2,hb3⟩:=hb;unfold O8.BH at hb1 hb2 hb3;unfold jT;by_cases h:(0≤i∧i≤7)∧0≤n∧n≤1099511627776
 ·rw[if_pos h];by_cases hk:b.eO.get i+n≤1099511627776
  ·rw[if_pos hk,AF.ok];refine t_ func316 ntmps316 ?_;rcases oV h.1 with rfl|rfl|rfl|rfl|rfl|rfl|rfl|rfl
   all_goals
    simp only[O8.gs b.eO,O8.ss b.eO] at hk⊢;repeat first|refine v_ ?_|intro
    refine cl sD sK aC (λM hE=>zF M _ n o_ o_) ?_;rintro e H' ⟨rfl,rfl⟩;repeat first|refine v_ ?_|intro
    exact Sa
  ·rw[if_neg hk,AF.no _ _ _ _ sD];refine t_ func316 ntmps316 ?_;rcases oV h.1 with rfl|rfl|rfl|rfl|rfl|rfl|rfl|rfl
   all_goals
    simp only[O8.gs b.eO] at hk⊢;repeat first|refine v_ ?_|intro
    refine cl sD sK aC (λM hE=>zF M _ n o_ o_) ?_;rintro e H' ⟨rfl,rfl⟩;repeat first|refine v_ ?_|intro
    exact Sa
 ·rw[if_neg h,AF.no _ _ _ _ sD];refine t_ func316 ntmps316 ?_;repeat first|refine v_ ?_|intro
  exact Sa
theorem wX(hb:b.ok):G E 358 [.agg (b.cs A m c).toArray,.int .i64 i,.int .i64 n] [] (AF A m c (jB b i n)):=by
 obtain⟨hb1,hb2,hb3⟩:=hb;unfold O8.BH at hb1 hb2 hb3;unfold jB;by_cases h:(0≤i∧i≤7)∧0≤n∧n≤1099511627776
 ·rw[if_pos h];by_cases hk:b.fP.get i<n
  ·rw[if_pos hk,AF.no _ _ _ _ sD];refine t_ func358 ntmps358 ?_;rcases oV h.1 with rfl|rfl|rfl|rfl|rfl|rfl|rfl|rfl
   all_goals
    simp only[O8.gs b.fP] at hk⊢;repeat first|refine v_ ?_|intro
    exact Sa
  ·rw[if_neg hk,AF.ok];refine t_ func358 ntmps358 ?_;rcases oV h.1 with rfl|rfl|rfl|rfl|rfl|rfl|rfl|rfl
   all_goals
    simp only[O8.gs b.fP,O8.ss b.fP] at hk⊢;repeat first|refine v_ ?_|intro
    exact Sa
 ·rw[if_neg h,AF.no _ _ _ _ sD];refine t_ func358 ntmps358 ?_;repeat first|refine v_ ?_|intro
  exact Sa
theorem Mq(hb:b.ok):G E 362 [.agg (b.cs A m c).toArray,.int .i64 i,.int .i64 n] [] (AF A m c (sN b i n)):=by
 obtain⟨hb1,hb2,hb3⟩:=hb;unfold O8.BH at hb1 hb2 hb3;unfold sN;by_cases h:(0≤i∧i≤7)∧0≤n∧n≤1099511627776
 ·rw[if_pos h];by_cases hk:b.eO.get i<n
  ·rw[if_pos hk,AF.no _ _ _ _ sD];refine t_ func362 ntmps362 ?_;rcases oV h.1 with rfl|rfl|rfl|rfl|rfl|rfl|rfl|rfl
   all_goals
    simp only[O8.gs b.eO] at hk⊢;repeat first|refine v_ ?_|intro
    exact Sa
  ·rw[if_neg hk,AF.ok];refine t_ func362 ntmps362 ?_;rcases oV h.1 with rfl|rfl|rfl|rfl|rfl|rfl|rfl|rfl
   all_goals
    simp only[O8.gs b.eO,O8.ss b.eO] at hk⊢;repeat first|refine v_ ?_|intro
    exact Sa
 ·rw[if_neg h,AF.no _ _ _ _ sD];refine t_ func362 ntmps362 ?_;repeat first|refine v_ ?_|intro
  exact Sa
theorem FY:G E 324 [.agg (b.cs A m c).toArray,.int .i64 i,.int .i64 n] [] (AF A m c (mF b i n)):=by
 unfold mF;by_cases h:0≤i∧i≤7
 ·by_cases h2:0≤n∧n≤1073741824
  ·rw[if_pos ⟨h,h2⟩,AF.ok];refine t_ func324 ntmps324 ?_;rcases oV h with rfl|rfl|rfl|rfl|rfl|rfl|rfl|rfl
   all_goals
    simp only[O8.ss b.mO];repeat first|refine v_ ?_|intro
    exact Sa
  ·rw[if_neg λq=>h2 q.2,AF.no _ _ _ _ sD];refine t_ func324 ntmps324 ?_;repeat first|refine v_ ?_|intro
   exact Sa
 ·rw[if_neg λq=>h q.1,AF.no _ _ _ _ sD];refine t_ func324 ntmps324 ?_;repeat first|refine v_ ?_|intro
  exact Sa
end
theorem Gc{α:Type}(p:α→Bool)(l:List α)(x:α):behind p (l++[x])=if p x then l.length+1 else behind p l:=by
 induction l with
 |nil=>simp[behind]
 |cons a l ih =>
  rw[aCj,behind,ih];cases hx:p x with
  |true=>simp
  |false=>simp[behind]
theorem Ms(a b:bJ):decide (sQ a b<0)=zS a b:=by
 unfold zS sQ sX;rw[aBz];simp only[decide_eq_true_eq];by_cases h1:a.seq<b.seq
 ·simp[DC,h1]
 ·by_cases h2:b.seq<a.seq
  ·simp[DC,h1,h2];omega
  ·by_cases h3:a.rep<b.rep
   ·simp[DC,h1,h2,h3];omega
   ·by_cases h4:b.rep<a.rep
    ·simp[DC,h1,h2,h3,h4]
    ·simp[DC,h1,h2,h3,h4]
section
variable (E:Env) (b:Bk) (A:Option Addr) (n c:Nat)
theorem Qu(g:Nat)(a:bJ)(h:gE E g a.cs)(x:dD):G E 384 [.agg x.cs.toArray,pt g] [] (cM (.bool (decide (x.id=a))) []):=by
 refine t_ func384 ntmps384 ?_;repeat first|refine v_ ?_|intro
 exact B7
theorem lV(hr:Rd E eB A n c b.aH)(r s:Int):G E 375 [.agg (b.cs A n c).toArray,.agg #[.int .i64 r,.int .i64 s]] [] (cM (.int .i64 (fA b ⟨r,s⟩)) []):=by
 refine t_ func375 ntmps375 ?_;repeat first|refine v_ ?_|intro
 rename_i g2 g3;refine cl sD sK aC (λM hE=>RY M A n c b.aH dB 384 [_] _ sK λE2 R2 hE2 x=>Qu E2 g3 ⟨r,s⟩ ((gE.of hE aS).sub hE2) x) ?_;rintro e H' ⟨rfl,rfl⟩;repeat first|refine v_ ?_|intro
 exact B7
theorem Pq{a:bJ}(h:fA b a<0):vL b a=none:=by unfold vL;rw[if_neg o_]
theorem OB{a:bJ}(h:0≤fA b a):∃x,vL b a=some x∧b.aH[(fA b a).toNat]?=some x∧x.id=a:=by
 obtain⟨h1,x,h2,h3⟩:=gZ h;unfold vL;rw[if_pos h];exact⟨x,h2,h2,of_decide_eq_true h3⟩
theorem M8(hr:Rd E eB A n c b.aH)(r s:Int):G E 387 [.agg (b.cs A n c).toArray,.agg #[.int .i64 r,.int .i64 s]] [] (cM (.tuple #[.agg ((vL b ⟨r,s⟩).getD UR).cs.toArray,.bool (vL b ⟨r,s⟩).isSome]) []):=by
 have hn:=hr.len;refine t_ func387 ntmps387 ?_;repeat first|refine v_ ?_|intro
 refine eV (λM h1=>lV M b A n c h1 r s) ?_;by_cases h:fA b ⟨r,s⟩<0
 ·rw[Pq b h];simp only[Option.isSome_none,Option.getD_none];repeat first|refine v_ ?_|intro
  exact Sa
 ·obtain⟨x,h1,h2,h3⟩:=OB b (show 0≤fA b ⟨r,s⟩ by omega);rw[h1];simp only[aEf,aBe];repeat first|refine v_ ?_|intro
  exact Sa
theorem yW(B:Option Addr)(m d:Nat)(l:List Int)(hr:Rd E Au B m d l)(x:Int):G E 388 [.slice B m d,.int .i64 x] [] (cM (.bool (l.contains x)) []):=by
 have hidx:∀M,Rd M Au B m d l→G M 392 [.slice B m d,.int .i64 x] [] (cM (.int .i64 (place (λy=>decide (x=y)) l)) []):=by
  intro M hr;have hn:=hr.len;have hcap:=hr.cap;have hmax:=fX;refine t_ func392 ntmps392 ?_;repeat first|refine v_ ?_|intro
  refine C.scan (Y:=Unit) hn (λi _=>[(0,.slice B m d),(1,.int .i64 x),(7,.int .i64 m),(8,.int .i64 i)]) (λ_ _=>[]) (λi _=>∀j y,j<i→l[j]?=some y→decide (x=y)=false) () aD aB.refl (λj y hj=>by omega) ?_ ?_
  ·intro i _ y Gf hi hy hall;by_cases hxy:x=y
   ·repeat first|refine v_ ?_|intro
    exact aR rfl aF aA (⟨NQ (xM (p:=λy=>decide (x=y)) hy (decide_eq_true hxy) hall).symm,rfl⟩)
   ·repeat first|refine v_ ?_|intro
    refine⟨(),aD,aB.refl,λj z hj hz=>?_⟩;by_cases hji:j=i
    ·subst hji;rw[hy] at hz;injection hz with hz;subst hz;exact decide_eq_false hxy
    ·exact hall j z o_ hz
  ·intro _ Gf hall;repeat first|refine v_ ?_|intro
   exact aR rfl aF aA (⟨NQ (rR (BU λj y hj hy=>hall j y o_ hy)).symm,rfl⟩)
 refine t_ func388 ntmps388 ?_;repeat first|refine v_ ?_|intro
 refine eV hidx ?_;repeat first|refine v_ ?_|intro
 exact aR rfl aF aA (⟨by rw[rC,List.contains_eq_any_beq];congr 2,rfl⟩)
theorem KO(hr:Rd E eB A n c b.aH)(r s:Int)(B:Option Addr)(m d:Nat)(st:List Int)(hs:Rd E Au B m d st):G E 377 [.agg (b.cs A n c).toArray,.agg #[.int .i64 r,.int .i64 s],.slice B m d] [] (cM (.tuple #[.agg (FT b ⟨r,s⟩ st).1.cs.toArray,.int .i64 (FT b ⟨r,s⟩ st).2]) []):=by
 unfold FT;refine t_ func377 ntmps377 ?_;repeat first|refine v_ ?_|intro
 refine eV (λM h1=>M8 M b A n c h1 r s) ?_;cases h:vL b ⟨r,s⟩ with
 |none =>
  simp only[Option.isSome_none,Option.getD_none];repeat first|refine v_ ?_|intro
  exact Sa
 |some x =>
  simp only[aEf,aBe];cases hc:st.contains x.state with
  |true =>
   simp only[if_true];repeat first|refine v_ ?_|intro
   refine dX (λM h1=>yW M B m d st h1 x.state) ?_;rw[hc];rintro e H' ⟨rfl,rfl⟩;repeat first|refine v_ ?_|intro
   exact Sa
  |false =>
   simp only[aCb,if_false];repeat first|refine v_ ?_|intro
   refine dX (λM h1=>yW M B m d st h1 x.state) ?_;rw[hc];rintro e H' ⟨rfl,rfl⟩;repeat first|refine v_ ?_|intro
   exact Sa
theorem HA(hr:Rd E eB A n c b.aH)(o:dD)(hm:n≤1000):G E 376 [.agg (b.cs A n c).toArray,.agg o.cs.toArray] [] λe H'=>∃B d,((lK b o).aH.length≤d∧d≤maxLen)∧e=.returned (.agg ((lK b o).cs B (lK b o).aH.length d).toArray)∧H'=[own eB B (lK b o).aH.length d (lK b o).aH]:=by
 have hn:=hr.len;have hcap:=hr.cap;have hmax:=fX;unfold lK;refine t_ func376 ntmps376 ?_;by_cases h:0≤fA b o.id
 ·rw[if_pos h];obtain⟨h1,x,h2,h3⟩:=gZ h;obtain⟨k,hk⟩:=aCf h;change b.aH[(fA b o.id).toNat]?=some x at h2;rw[hk,aAu] at h2⊢;have hl:(b.aH.set k o).length=n:=by rw[aAt,hn]
  dsimp only;rw[hl];have hk':fA b ⟨o.id.rep,o.id.seq⟩=(k:Int):=hk;repeat first|refine v_ ?_|intro
  refine dX (λM h1=>lV M b A n c h1 o.id.rep o.id.seq) ?_;rw[hk'];rintro e H' ⟨rfl,rfl⟩;repeat first|refine v_ ?_|intro
  refine dX (λM h1=>FN M A n c b.aH h1 (by omega)) ?_;rintro e H' ⟨B,d,hd,rfl,rfl⟩;repeat first|refine v_ ?_|intro
  exact cI rfl aF rfl rfl rfl aS rfl aA (⟨_,_,hd,rfl,rfl⟩)
 ·rw[if_neg h];have hk':¬0≤fA b ⟨o.id.rep,o.id.seq⟩:=h;obtain⟨p,hp⟩:∃p:dD→Bool,p=λx=>zS x.id o.id:=⟨_,rfl⟩
  rw[show(λx:dD=>zS x.id o.id)=p from hp.symm];repeat first|refine v_ ?_|intro
  rename_i g2 g3 g4;refine eV (λM h1=>lV M b A n c h1 o.id.rep o.id.seq) ?_;repeat ((fail_if_success (refine C.seq (x:=Code.region 7 _ _) ?_));first|refine Cx ?_|refine k_ ?_|intro _|refine Dr.two ?_ ?_)
  refine C.BI (X:=Unit) (λ_=>[(2,.pointer (some ⟨g2,0,none⟩)),(3,.pointer (some ⟨g3,0,none⟩)),(4,.pointer (some ⟨g4,0,none⟩)),(6,.int .i64 (behind p b.aH))]) (λ_=>[aJ g4 45 (sY.cs none 0 0),aJ g3 155 o.cs,aJ g2 45 (b.cs A n c)]) (λ_=>True) ?_ ?_
  ·repeat first|refine v_ ?_|intro
   refine C.scan (Y:=Unit) hn (λi _=>[(2,.pointer (some ⟨g2,0,none⟩)),(3,.pointer (some ⟨g3,0,none⟩)),(4,.pointer (some ⟨g4,0,none⟩)),(6,.int .i64 (behind p (b.aH.take i))),(26,.slice A n c),(27,.int .i64 n),(28,.int .i64 i)]) (λ_ _=>[aJ g4 45 (sY.cs none 0 0),aJ g3 155 o.cs,aJ g2 45 (b.cs A n c)]) (λ_ _=>True) () aD aA trivial ?_ ?_
   ·intro i _ x Gf hi hx _;have hb2:behind p (b.aH.take (i+1))=if p x then i+1 else behind p (b.aH.take i):=by
     rw[take_succ hx,Gc,aAg,aBr o_]
    have hpx:decide (sQ ⟨x.id.rep,x.id.seq⟩ ⟨o.id.rep,o.id.seq⟩<0)=p x:=by rw[hp];exact Ms x.id o.id
    cases hc:p x with
    |true =>
     rw[hc] at hb2 hpx;rw[if_pos rfl] at hb2;repeat first|refine v_ ?_|intro
     refine⟨(),?_,aA,trivial⟩;rw[hb2];exact aD
    |false =>
     rw[hc] at hb2 hpx;rw[if_neg sD] at hb2;repeat first|refine v_ ?_|intro
     refine⟨(),?_,aA,trivial⟩;rw[hb2];exact aD
   ·intro _ Gf _;rw[hn,aAo,←hn];repeat first|refine v_ ?_|intro
    exact⟨(),aD,aA,trivial⟩
  intro _ Gf _;have hkn:behind p b.aH≤n:=by rw[hn];exact AJ p b.aH
  have hlen:(b.aH.take (behind p b.aH)++[o]++b.aH.drop (behind p b.aH)).length=n+1:=by
   simp only[aAe,aAg,aBd,aAs,aDh];omega
  dsimp only;generalize behind p b.aH=m at hkn hlen⊢;have h1:Rd E eB A m c (b.aH.take m):=hr.upto hkn o_ (aAf _);have h2:=hr.from_ (k:=m) hkn;repeat first|refine v_ ?_|intro
  refine C.bL 13 (l_ [0,1,2,3,4,6,7,8,9] (g_ 5 (g_ 10 (g_ 11 (n_ 12 (g_ 13 .nil)))))) _ q_ q_ aB.refl ?_;repeat first|refine v_ ?_|intro
  refine cg rfl sD bA sK aC (λM hE=>PK M _ _ _ _ dB (by intro s hs;simp at hs;rcases hs with rfl|rfl|rfl;exact h1.sub hE;exact dB;exact h2.sub hE) (by simp;omega)) ?_;simp only[aDy,aEu,aAc,←aAb,hlen];rintro e H' ⟨B,d,hd,rfl,rfl⟩;repeat first|refine v_ ?_|intro
  exact cI rfl aF rfl rfl rfl aS rfl aA (⟨_,_,hd,rfl,rfl⟩)
end
instance:cL 371 [.int .i64 0] [(0,1)]:=⟨⟨q_,q_⟩⟩
def Yt(k:Int):List PanicEntry:=Z3 (.iface 371 (.agg #[.int .i64 k]))
theorem kC(E:Env)(p:Bool)(k:Int):G E 313 [.bool p,.int .i64 k] [] (λe H'=>(if p then e=.returned (.tuple #[]) else e=.panicked (Yt k))∧H'=[]):=by
 refine t_ func313 ntmps313 ?_;cases p with
 |true =>
  repeat first|refine v_ ?_|intro
  exact gO rfl aA ⟨rfl,rfl⟩
 |false =>
  repeat first|refine v_ ?_|intro
  refine L.val sD (λ_ _=>V.e9 rfl rfl q_) ?_;refine L.panic rfl ?_;exact⟨rfl,rfl⟩
def oN{X:Type}(r:Except Int X)(ok:X→Ending→List aL→Prop):Ending→List aL→Prop:=match r with
 | .ok x=>ok x
 | .error k=>λe H'=>e=.panicked (Yt k)∧H'=[]
instance:cL 369 [.int .i64 0,.int .i64 0,.int .i64 0,.int .i64 0,.int .i64 0,.int .i64 0,.int .i64 0,.int .i64 0,.int .i64 0,.int .i64 0,.int .i64 0,.int .i64 0,.int .i64 0,.int .i64 0,.int .i64 0,.int .i64 0,.int .i64 0,.int .i64 0,.int .i64 0,.int .i64 0,.int .i64 0,.int .i64 0,.int .i64 0,.int .i64 0,.slice none 0 0,.slice none 0 0,.int .i64 0,.int .i64 0] [(0,25),(25,1),(26,2)]:=⟨⟨q_,q_⟩⟩
def Wk.cs(w:Wk)(A:Option Addr)(m c:Nat)(X:Option Addr)(n x:Nat):List Value:=w.b.cs A m c++[.slice X n x,.int .i64 w.ref.rep,.int .i64 w.ref.seq]
theorem aJy(E:Env)(w:Wk)(r:Bk×Int)(g:Nat)(A B:Option Addr)(m c m' c':Nat)(X:Option Addr)(n x:Nat) :
  G E 314 [.pointer (some ⟨g,0,none⟩),.agg (if r.2=0 then r.1.cs B m' c' else sY.cs none 0 0).toArray,.int .i64 r.2] [aJ g 369 (w.cs A m c X n x)]
   (oN (w.iQ r) λw'=>cM (.tuple #[]) [aJ g 369 (w'.cs B m' c' X n x)]):=by
 obtain⟨b',k⟩:=r;unfold Wk.iQ;by_cases h:k=0
 ·subst h;simp only[if_true];dsimp only[oN,Wk.cs,Bk.cs,List.cons_append,List.nil_append,G];refine t_ func314 ntmps314 ?_;repeat first|refine v_ ?_|intro
  exact gO rfl aA ⟨rfl,rfl⟩
 ·simp only[if_neg h];dsimp only[oN];refine t_ func314 ntmps314 ?_;repeat first|refine v_ ?_|intro
  refine L.val sD (λ_ _=>V.e9 rfl rfl q_) ?_;refine L.conv (H':=[]) aA ?_;refine L.panic rfl ?_;exact⟨rfl,rfl⟩
theorem eP(E:Env)(w:Wk)(kind a k:Int)(g:Nat)(A:Option Addr)(m c:Nat)(X:Option Addr)(n x:Nat)(hn:n≤1000) :
  G E 317 [.pointer (some ⟨g,0,none⟩),.int .i64 kind,.int .i64 a,.int .i64 k] [aJ g 369 (w.cs A m c X n x),own eG X n x w.out]
   λe H'=>∃Y y,(n+1≤y∧y≤maxLen)∧e=.returned (.tuple #[])∧H'=[aJ g 369 ((w.tell kind a k).cs A m c Y (n+1) y),own eG Y (n+1) y (w.tell kind a k).out]:=by
 dsimp only[Wk.tell,Wk.cs,Bk.cs,List.cons_append,List.nil_append,G];refine t_ func317 ntmps317 ?_;refine C.bL 17 (l_ [0,1,2,3,4,5,6,7,8,9,10,11,12] (g_ 13 (g_ 14 (l_ [15,16] (g_ 17 .nil))))) ([aJ g 369 _]) q_ q_ aA ?_;repeat first|refine v_ ?_|intro
 refine Dr.Aw rfl (by rintro k ⟨⟩<;>decide) bA (S.cB (T:=eG) (e:=⟨kind,a,k,w.ref⟩) rfl rfl rfl rfl sD) ?_;rintro _ _ ⟨_,rfl,rfl⟩;refine⟨aA,?_⟩;repeat first|refine v_ ?_|intro
 exact gO rfl aA ⟨_,_,⟨‹_›,‹_›⟩,rfl,rfl⟩
section
variable {N:Nat} {E:Env} {F:Nat→Value} {H R Hp:List aL} {d:Nat} {f:FuncId} {ops:List Operand} {tys:Array TypeId} {ty:TypeId} {pos:String} {af:Array Edge} {Q:QF} {Q1:Ending→List aL→Prop}
theorem Av{os rest:List Oper}(hd:d<N)(hk:xA f=true)(hp:cS Hp H R)(law:∀M,Sub E R M→aK prog M f (AO F ops).toArray Hp Q1)
  (hQ:∀e H',Q1 e H'→(∃v,e=.returned v∧∃H2,wK H' R H2∧L prog N E os Q rest (pT F d v) H2)∨∃c,e=.panicked c∧∃H2,aB E (H'++R) H2∧Q (.panic c) (λ_=>undef) H2) :
  L prog N E os Q (⟨some d,.call { callee:=.value (.func f),args:=ops.toArray,argTypes:=tys },ty,pos,af,none⟩::rest) F H:=by
 obtain⟨fn,h1,h2,h3⟩:=iY hk;refine⟨λa w ha hw=>wpList_plain rfl λ_ hK=>CV rfl rfl h1 h2 h3 hp law ha hw (λv H' u' hq hu'=>?_) (λc H' u' hq hu'=>?_) λH' hq=>?_⟩
 ·rcases hQ _ _ hq with⟨v',he,H2,hc,hl⟩|⟨c,he,_⟩
  ·injection he with he;subst he
   exact hK _ _ (hl.get _ u' (ha.put hd v) (by rw[hc.eq];exact hu'))
  ·cases he
 ·rcases hQ _ _ hq with⟨v',he,_⟩|⟨c',he,H2,hc,hl⟩
  ·cases he
  ·injection he with he;subst he
   exact⟨ha.defers,H2,hc _ hu',hl⟩
 ·rcases hQ _ _ hq with⟨v',he,_⟩|⟨c',he,_⟩<;>cases he
end
theorem rH(E:Env)(w:Wk)(g:Nat)(A:Option Addr)(m c:Nat)(X:Option Addr)(n x:Nat)(hr:Rd E eB A m c w.b.aH)(r s:Int)(B:Option Addr)(nm d:Nat)(st:List Int)(hs:Rd E Au B nm d st) :
  G E 359 [.pointer (some ⟨g,0,none⟩),.agg #[.int .i64 r,.int .i64 s],.slice B nm d] [aJ g 369 (w.cs A m c X n x)]
   (oN (w.order ⟨r,s⟩ st) λp=>cM (.agg p.2.cs.toArray) [aJ g 369 (p.1.cs A m c X n x)]):=by
 unfold Wk.order;obtain⟨o,ho⟩:∃o,o=FT w.b ⟨r,s⟩ st:=⟨_,rfl⟩
 rw[←ho];obtain⟨o,k⟩:=o;dsimp only[Wk.cs,Bk.cs,dD.cs,List.cons_append,List.nil_append,G];refine t_ func359 ntmps359 ?_;repeat first|refine v_ ?_|refine Dr.two ?_ ?_|intro
 refine rA (l_ [0,1,2,3,4,5] (.two 6 (l_ [7,8,9] (g_ 10 (g_ 11 (n_ 12 .nil)))) 10 (g_ 6 (l_ [7,8,9] (g_ 11 (n_ 12 .nil)))))) ?_;repeat first|refine v_ ?_|intro
 refine Dr.two ?_ ?_
 ·refine yB rfl sD bA sK aC (λM hE=>KO M w.b A m c (hr.sub hE) r s B nm d st (hs.sub hE)) ?_;rw[←ho];rintro e H' ⟨rfl,rfl⟩;repeat first|refine v_ ?_|refine Dr.two ?_ ?_|intro
  by_cases h:k=0
  ·subst h;rw[if_pos rfl];dsimp only[oN];refine Av sD sK aC (λM hE=>kC M _ _) ?_;rintro e H' ⟨he,rfl⟩;rw[if_pos (by simp)] at he;subst he;refine .inl ⟨_,rfl,_,bG,?_⟩;repeat first|refine v_ ?_|refine Dr.two ?_ ?_|intro
   exact Kz
  ·rw[if_neg h];dsimp only[oN];refine Av sD sK aC (λM hE=>kC M _ _) ?_;rintro e H' ⟨he,rfl⟩;rw[if_neg (by simpa using h)] at he;subst he;exact .inr ⟨_,rfl,[],aA,rfl,rfl⟩
 ·repeat first|refine v_ ?_|intro
  refine OW (λM h1=>KO M w.b A m c h1 r s B nm d st) ?_;rw[←ho];rintro e H' ⟨rfl,rfl⟩;repeat first|refine v_ ?_|refine Dr.two ?_ ?_|intro
  by_cases h:k=0
  ·subst h;rw[if_pos rfl];dsimp only[oN];refine Av sD sK aC (λM hE=>kC M _ _) ?_;rintro e H' ⟨he,rfl⟩;rw[if_pos (by simp)] at he;subst he;refine .inl ⟨_,rfl,_,bG,?_⟩;repeat first|refine v_ ?_|refine Dr.two ?_ ?_|intro
   exact Kz
  ·rw[if_neg h];dsimp only[oN];refine Av sD sK aC (λM hE=>kC M _ _) ?_;rintro e H' ⟨he,rfl⟩;rw[if_neg (by simpa using h)] at he;subst he;exact .inr ⟨_,rfl,[],aA,rfl,rfl⟩
theorem Kh(E:Env)(b:Bk)(A:Option Addr)(n c:Nat)(hr:Rd E eB A n c b.aH)(hm:n≤1000):G E 274 [.agg (b.cs A n c).toArray] [] λe H'=>∃B d,(n≤d∧d≤maxLen)∧e=.returned (.agg (b.cs B n d).toArray)∧H'=[own eB B n d b.aH]:=by
 dsimp only[Bk.cs,List.cons_append,List.nil_append,G];refine t_ func274 ntmps274 ?_;repeat first|refine v_ ?_|intro
 refine dX (λM h1=>FN M A n c b.aH h1 (by omega)) ?_;rintro e H' ⟨B,d,hd,rfl,rfl⟩;repeat first|refine v_ ?_|intro
 exact cI rfl aF rfl rfl rfl aS rfl aA (⟨_,_,hd,rfl,rfl⟩)
theorem oJ(E:Env)(w:Wk)(o:dD)(st:Int)(g:Nat)(A:Option Addr)(m c:Nat)(X:Option Addr)(n x:Nat)(hr:Rd E eB A m c w.b.aH)(hm:m≤1000) :
  G E 360 [.pointer (some ⟨g,0,none⟩),.agg o.cs.toArray,.int .i64 st] [aJ g 369 (w.cs A m c X n x)]
   λe H'=>∃B d,((w.put o st).b.aH.length≤d∧d≤maxLen)∧e=.returned (.tuple #[])∧H'=[aJ g 369 ((w.put o st).cs B (w.put o st).b.aH.length d X n x),own eB B (w.put o st).b.aH.length d (w.put o st).b.aH]:=by
 unfold Wk.put;obtain⟨b',hb⟩:∃b',b'=lK w.b { o with state:=st }:=⟨_,rfl⟩
 rw[←hb];obtain⟨o0,o1,o2,o3,o4,o5⟩:=o;obtain⟨r,s⟩:=o0;dsimp only[Wk.cs,Bk.cs,dD.cs,List.cons_append,List.nil_append,G];refine t_ func360 ntmps360 ?_;repeat first|refine v_ ?_|intro
 refine C.bL 9 (l_ [0,1,2,3,4,5] (g_ 6 (l_ [7,8] (g_ 9 .nil)))) _ q_ q_ aB.refl ?_;repeat first|refine v_ ?_|intro
 refine C2 (λM h1=>HA M w.b A m c h1 ⟨⟨r,s⟩,o1,o2,o3,o4,st⟩ hm) ?_;dsimp only at hb⊢;rw[←hb];rintro e H' ⟨B,d,hd,rfl,rfl⟩;repeat first|refine v_ ?_|intro
 exact gO rfl aA ⟨_,_,hd,rfl,rfl⟩
def xC(g:Nat)(w:Wk)(A:Option Addr)(m c:Nat)(X:Option Addr)(n x:Nat):List aL:=[aJ g 369 (w.cs A m c X n x),own eB A m c w.b.aH,own eG X n x w.out]
def VF(g:Nat)(w:Wk):Ending→List aL→Prop:=λe H'=>∃A m c X n x,e=.returned (.tuple #[])∧H'=xC g w A m c X n x
theorem iF{w:Wk}{a:bJ}{st:List Int}{o:dD}{k:Int}(h:(o,k)=FT w.b a st):w.order ⟨a.rep,a.seq⟩ st=if k=0 then .ok (⟨w.b,w.out,a⟩,o) else .error k:=by
 unfold Wk.order;rw[show FT w.b ⟨a.rep,a.seq⟩ st=(o,k) from h.symm]
section
variable (E:Env) (w:Wk) (ch:aX) (g:Nat) (A:Option Addr) (m c:Nat) (X:Option Addr) (n x:Nat)
theorem Ng(hm:m≤1000)(hn:n≤900):G E 322 [.pointer (some ⟨g,0,none⟩),.agg ch.cs.toArray] (xC g w A m c X n x) (oN (w.Qn ch) (VF g)):=by
 unfold Wk.Qn;obtain⟨q,hq⟩:∃q,q=FT w.b ch.ref [2]:=⟨_,rfl⟩
 obtain⟨o,k⟩:=q;rw[show w.order ch.ref [2]=_ from iF hq];dsimp only[aX.cs,xC,List.cons_append,List.nil_append,G];refine t_ func322 ntmps322 ?_;repeat first|refine v_ ?_|intro
 refine Av sD sK aC (λM hE=>rH M w g A m c X n x dB ch.ref.rep ch.ref.seq _ 1 1 [2] dB) ?_;rw[iF hq];by_cases h:k=0
 ·rw[if_pos h];try rw[if_pos h]
  dsimp only[oN,bind,Except.bind];rintro e H' ⟨rfl,rfl⟩;refine .inl ⟨_,rfl,_,bG,?_⟩;dsimp only[dD.cs];repeat first|refine v_ ?_|intro
  refine dX (λM h1=>oJ M ⟨w.b,w.out,ch.ref⟩ o 3 g A m c X n x h1 hm) ?_;dsimp only[Wk.put];obtain⟨b',hb⟩:∃b',b'=lK w.b ⟨o.id,o.cC,o.item,o.iN,o.cost,3⟩:=⟨_,rfl⟩
  rw[←hb];rintro e H' ⟨B,d,hd,rfl,rfl⟩;repeat first|refine v_ ?_|intro
  refine bW (λM=>eP M ⟨b',w.out,ch.ref⟩ 5 o.item o.iN g B b'.aH.length d X n x (by omega)) ?_;rintro e H' ⟨X1,x1,hx1,rfl,rfl⟩;repeat first|refine v_ ?_|intro
  refine bW (λM=>eP M (Wk.tell ⟨b',w.out,ch.ref⟩ 5 o.item o.iN) 6 o.item o.iN g B b'.aH.length d X1 (n+1) x1 (by omega)) ?_;rintro e H' ⟨X2,x2,hx2,rfl,rfl⟩;repeat first|refine v_ ?_|intro
  refine bW (λM=>eP M (Wk.tell (Wk.tell ⟨b',w.out,ch.ref⟩ 5 o.item o.iN) 6 o.item o.iN) 11 o.item o.iN g B b'.aH.length d X2 (n+1+1) x2 (by omega)) ?_;rintro e H' ⟨X3,x3,hx3,rfl,rfl⟩;repeat first|refine v_ ?_|intro
  refine bW (λM=>eP M (Wk.tell (Wk.tell (Wk.tell ⟨b',w.out,ch.ref⟩ 5 o.item o.iN) 6 o.item o.iN) 11 o.item o.iN) 7 o.cC 3 g B b'.aH.length d X3 (n+1+1+1) x3 (by omega)) ?_;rintro e H' ⟨X4,x4,hx4,rfl,rfl⟩;repeat first|refine v_ ?_|intro
  exact gO rfl (H':=[aJ g 369 _,own eB B b'.aH.length d b'.aH,own eG X4 _ x4 _]) aA ⟨B,b'.aH.length,d,X4,n+1+1+1+1,x4,rfl,rfl⟩
 ·rw[if_neg h];dsimp only[oN,bind,Except.bind];rintro e H' ⟨rfl,rfl⟩;exact .inr ⟨_,rfl,[],aA,rfl,rfl⟩
end
end Go.Proofs.YtmilalkjbojciaaGreat.Sep
