/- Part AF: what it needs. No condition. -/
import Derived.Test.YtmilalkjbojciaaGreatRAA
import Derived.Test.YtmilalkjbojciaaGreatRAC
import Derived.Test.YtmilalkjbojciaaGreatRAD
import Derived.Test.YtmilalkjbojciaaGreatRAE
set_option maxRecDepth 100000
set_option maxHeartbeats 8000000
open Go.Proofs.Tryz
namespace Go.Proofs.YtmilalkjbojciaaGreat.Sep
structure O8 where
 a0:Int
 a1:Int
 a2:Int
 a3:Int
 a4:Int
 a5:Int
 a6:Int
 a7:Int
def O8.get(x:O8)(i:Int):Int:=if i=0 then x.a0 else if i=1 then x.a1 else if i=2 then x.a2 else if i=3 then x.a3 else if i=4 then x.a4 else if i=5 then x.a5 else if i=6 then x.a6 else x.a7
def O8.set(x:O8)(i v:Int):O8:=if i=0 then { x with a0:=v } else if i=1 then { x with a1:=v } else if i=2 then { x with a2:=v } else if i=3 then { x with a3:=v } else if i=4 then { x with a4:=v } else if i=5 then { x with a5:=v } else if i=6 then { x with a6:=v } else { x with a7:=v }
theorem O8.gs(x:O8):x.get 0=x.a0∧x.get 1=x.a1∧x.get 2=x.a2∧x.get 3=x.a3∧x.get 4=x.a4∧x.get 5=x.a5∧x.get 6=x.a6∧x.get 7=x.a7:=⟨rfl,rfl,rfl,rfl,rfl,rfl,rfl,rfl⟩
theorem O8.ss(x:O8)(v:Int):x.set 0 v=⟨v,x.a1,x.a2,x.a3,x.a4,x.a5,x.a6,x.a7⟩∧x.set 1 v=⟨x.a0,v,x.a2,x.a3,x.a4,x.a5,x.a6,x.a7⟩∧x.set 2 v=⟨x.a0,x.a1,v,x.a3,x.a4,x.a5,x.a6,x.a7⟩∧x.set 3 v=⟨x.a0,x.a1,x.a2,v,x.a4,x.a5,x.a6,x.a7⟩∧x.set 4 v=⟨x.a0,x.a1,x.a2,x.a3,v,x.a5,x.a6,x.a7⟩∧x.set 5 v=⟨x.a0,x.a1,x.a2,x.a3,x.a4,v,x.a6,x.a7⟩∧x.set 6 v=⟨x.a0,x.a1,x.a2,x.a3,x.a4,x.a5,v,x.a7⟩∧x.set 7 v=⟨x.a0,x.a1,x.a2,x.a3,x.a4,x.a5,x.a6,v⟩:=⟨rfl,rfl,rfl,rfl,rfl,rfl,rfl,rfl⟩
def O8.BH(x:O8)(hi:Int):Prop:=(0≤x.a0∧x.a0≤hi)∧(0≤x.a1∧x.a1≤hi)∧(0≤x.a2∧x.a2≤hi)∧(0≤x.a3∧x.a3≤hi)∧(0≤x.a4∧x.a4≤hi)∧(0≤x.a5∧x.a5≤hi)∧(0≤x.a6∧x.a6≤hi)∧(0≤x.a7∧x.a7≤hi)
theorem oV{i:Int}(h:0≤i∧i≤7):i=0∨i=1∨i=2∨i=3∨i=4∨i=5∨i=6∨i=7:=o_
abbrev Y7:O8:=⟨0,0,0,0,0,0,0,0⟩
structure Bk where
 fP:O8
 mO:O8
 eO:O8
 aH:List dD
abbrev sY:Bk:=⟨Y7,Y7,Y7,[]⟩
def Bk.ok(b:Bk):Prop:=b.fP.BH 1099511627776∧b.mO.BH 1073741824∧b.eO.BH 1099511627776
abbrev Bk.cs(b:Bk)(A:Option Addr)(n c:Nat):List Value:=[.int .i64 b.fP.a0,.int .i64 b.fP.a1,.int .i64 b.fP.a2,.int .i64 b.fP.a3,.int .i64 b.fP.a4,.int .i64 b.fP.a5,.int .i64 b.fP.a6,.int .i64 b.fP.a7,.int .i64 b.mO.a0,.int .i64 b.mO.a1,.int .i64 b.mO.a2,.int .i64 b.mO.a3,.int .i64 b.mO.a4,.int .i64 b.mO.a5,.int .i64 b.mO.a6,.int .i64 b.mO.a7,.int .i64 b.eO.a0,.int .i64 b.eO.a1,.int .i64 b.eO.a2,.int .i64 b.eO.a3,.int .i64 b.eO.a4,.int .i64 b.eO.a5,.int .i64 b.eO.a6,.int .i64 b.eO.a7,.slice A n c]
def eight(i:Int):Bool:=decide (0≤i∧i≤7)
def nF(b:Bk)(i n:Int):Bk×Int:=if (0≤i∧i≤7)∧0≤n∧n≤1099511627776 then(if b.fP.get i+n≤1099511627776 then({ b with fP:=b.fP.set i (b.fP.get i+n) },0) else(sY,7)) else(sY,4)
def jB(b:Bk)(i n:Int):Bk×Int:=if (0≤i∧i≤7)∧0≤n∧n≤1099511627776 then(if b.fP.get i<n then(sY,11) else({ b with fP:=b.fP.set i (b.fP.get i - n) },0)) else(sY,4)
def Aj(b:Bk)(i n:Int):Bool:=decide ((jB b i n).2=0)
def mF(b:Bk)(i n:Int):Bk×Int:=if (0≤i∧i≤7)∧0≤n∧n≤1073741824 then({ b with mO:=b.mO.set i n },0) else(sY,4)
def mY(b:Bk)(i n:Int):Int×Int:=if (0≤i∧i≤7)∧0≤n∧n≤1099511627776 then(if n*b.mO.get i≤1099511627776 then(n*b.mO.get i,0) else(0,7)) else(0,4)
def jT(b:Bk)(i n:Int):Bk×Int:=if (0≤i∧i≤7)∧0≤n∧n≤1099511627776 then(if b.eO.get i+n≤1099511627776 then({ b with eO:=b.eO.set i (b.eO.get i+n) },0) else(sY,7)) else(sY,4)
def sN(b:Bk)(i n:Int):Bk×Int:=if (0≤i∧i≤7)∧0≤n∧n≤1099511627776 then(if b.eO.get i<n then(sY,11) else({ b with eO:=b.eO.set i (b.eO.get i - n) },0)) else(sY,4)
def zS(a b:bJ):Bool:=decide (a.seq<b.seq∨a.seq=b.seq∧a.rep<b.rep)
def fA(b:Bk)(a:bJ):Int:=place (λo=>decide (o.id=a)) b.aH
def lK(b:Bk)(o:dD):Bk:=if 0≤fA b o.id then { b with aH:=b.aH.set (fA b o.id).toNat o }
 else { b with aH:=b.aH.take (behind (λx=>zS x.id o.id) b.aH)++[o]++b.aH.drop (behind (λx=>zS x.id o.id) b.aH) }
def wH(b:Bk)(o:dD):Bk×Int:=if 0≤fA b o.id then(sY,9) else if 32≤b.aH.length then(sY,3) else(lK b o,0)
def vL(b:Bk)(a:bJ):Option dD:=if 0≤fA b a then b.aH[(fA b a).toNat]? else none
abbrev UR:dD:=⟨⟨0,0⟩,0,0,0,0,0⟩
def FT(b:Bk)(a:bJ)(st:List Int):dD×Int:=match vL b a with
 |none=>(UR,14)
 |some o=>if st.contains o.state then(o,0) else(UR,9)
structure Wk where
 b:Bk
 out:List cQ
 ref:bJ
abbrev Wr:=Except Int Wk
def Wk.iQ(w:Wk)(r:Bk×Int):Wr:=if r.2=0 then .ok { w with b:=r.1 } else .error r.2
def Wk.tell(w:Wk)(kind a n:Int):Wk:={ w with out:=w.out++[⟨kind,a,n,w.ref⟩] }
def Wk.put(w:Wk)(o:dD)(st:Int):Wk:={ w with b:=lK w.b { o with state:=st } }
def Wk.order(w:Wk)(a:bJ)(st:List Int):Except Int (Wk×dD):=if (FT w.b a st).2=0 then .ok ({ w with ref:=a },(FT w.b a st).1) else .error (FT w.b a st).2
def C9(p:Bool)(k:Int)(r:Wr):Wr:=if p then r else .error k
def oI(b:Bk)(c:aX):Int:=if !Aj b c.b c.n&&decide (c.ref.seq=1)&&Aj b c.ref.rep c.n then c.ref.rep else c.b
def Wk.place(w:Wk)(c:aX):Wr:=C9 (eight c.a&&eight c.b&&decide (1≤c.n∧c.n≤1000)) 4 do
 let w1 ←w.iQ (wH w.b ⟨c.id,c.a,oI w.b c,c.n,0,1⟩)
 let w2 ←w1.iQ (jB w1.b (oI w.b c) c.n)
 return ({ w2 with ref:=c.id }.tell 1 (oI w.b c) c.n).tell 7 c.a 1
def Wk.J6(w:Wk)(c:aX):Wr:=C9 (decide (1≤c.n∧c.n≤1000)) 4 do
 let (w1,o) ←w.order c.ref [1]
 let w2 ←if 0≤c.n - o.iN then w1.iQ (jB w1.b o.item (c.n - o.iN)) else w1.iQ (nF w1.b o.item (o.iN - c.n))
 return (w2.put { o with iN:=c.n } 1).tell 2 o.item c.n
def Wk.cancel(w:Wk)(c:aX):Wr:=do
 let (w1,o) ←w.order c.ref [1,2]
 let w2 ←w1.iQ (nF w1.b o.item o.iN)
 let w3:=w2.tell 3 o.item o.iN
 let w4 ←if o.state=2 then(do let x ←w3.iQ (jT w3.b o.cC o.cost);return x.tell 10 o.cC o.cost) else .ok w3
 return (w4.put o 4).tell 7 o.cC 2
def Wk.Y2(w:Wk)(c:aX):Wr:=do
 let (w1,o) ←w.order c.ref [1]
 if (mY w1.b o.item o.iN).2≠0 then .error (mY w1.b o.item o.iN).2 else
 let k:=(mY w1.b o.item o.iN).1
 let w2 ←w1.iQ (sN w1.b o.cC k)
 return ((w2.put { o with cost:=k } 2).tell 4 o.cC k).tell 9 o.cC k
def Wk.Qn(w:Wk)(c:aX):Wr:=do
 let (w1,o) ←w.order c.ref [2]
 return ((((w1.put o 3).tell 5 o.item o.iN).tell 6 o.item o.iN).tell 11 o.item o.iN).tell 7 o.cC 3
def Wk.Er(w:Wk)(c:aX):Wr:=do
 let (w1,o) ←w.order c.ref [3]
 let w2 ←w1.iQ (jT w1.b o.cC o.cost)
 return (w2.put o 5).tell 10 o.cC o.cost
def Wk.do(w:Wk)(c:aX):Wr :=
 if c.kind=1 then C9 (decide (1≤c.n)) 4 (w.iQ (nF w.b c.a c.n))
 else if c.kind=2 then C9 (decide (1≤c.n)) 4 (do let x ←w.iQ (jT w.b c.a c.n);return x.tell 8 c.a c.n)
 else if c.kind=3 then w.place c
 else if c.kind=4 then w.J6 c
 else if c.kind=5 then w.cancel c
 else if c.kind=6 then w.Y2 c
 else if c.kind=7 then w.Qn c
 else if c.kind=8 then w.Er c
 else if c.kind=9 then w.iQ (mF w.b c.a c.n)
 else .error 12
structure Out where
 code:Int
 zM:List cQ
def C0(b:Bk)(c:aX):Bk×Out:=match Wk.do ⟨b,[],⟨0,0⟩⟩ c with
 | .ok w=>(w.b,⟨0,w.out⟩)
 | .error k=>(b,⟨k,[]⟩)
def gH(b:Bk):List aX→Bk×List Out
 | []=>(b,[])
 |c::l=>((gH (C0 b c).1 l).1,(C0 b c).2::(gH (C0 b c).1 l).2)
end Go.Proofs.YtmilalkjbojciaaGreat.Sep
namespace Go.Proofs.YtmilalkjbojciaaGreat.Sep
open Go.RowKit Reg
open Mem hiding Rd
instance:cL 45 [.int .i64 0,.int .i64 0,.int .i64 0,.int .i64 0,.int .i64 0,.int .i64 0,.int .i64 0,.int .i64 0,.int .i64 0,.int .i64 0,.int .i64 0,.int .i64 0,.int .i64 0,.int .i64 0,.int .i64 0,.int .i64 0,.int .i64 0,.int .i64 0,.int .i64 0,.int .i64 0,.int .i64 0,.int .i64 0,.int .i64 0,.int .i64 0,.slice none 0 0] [(0,8),(8,8),(16,8),(24,1)]:=⟨⟨q_,q_⟩⟩
theorem zF(E:Env)(a b:Int)(ha:0≤a∧a≤1099511627776)(hb:0≤b∧b≤1099511627776):G E 352 [.int .i64 a,.int .i64 b] [] (cM (.tuple #[.int .i64 (a+b),.bool true]) []):=by
 have h0:¬a<0:=o_;have h1:¬b<0:=o_;have h2:¬a+b<0:=o_;have h3:(decide (a<0) == decide (b<0))=true:=by simp[h0,h1]
 have h4:(!(decide (a+b<0) == decide (a<0)))=false:=by simp[h0,h2]
 refine t_ func352 ntmps352 ?_;repeat first|refine v_ ?_|intro
 exact Xs
theorem OC.Pa(E:Env)(i:Int):G E 355 [.int .i64 i] [] (cM (.bool (decide (0≤i∧i≤7))) []):=by
 refine t_ func355 ntmps355 ?_;repeat first|refine v_ ?_|intro
 exact B7
instance {i:Int}:vZ 355 [.int .i64 i] (.bool (decide (0≤i∧i≤7))):=⟨λE=>OC.Pa E i⟩
theorem eO.K5(E:Env)(i:Int):G E 354 [.int .i64 i] [] (cM (.bool (decide (0≤i∧i≤7))) []):=by
 refine t_ func354 ntmps354 ?_;repeat first|refine v_ ?_|intro
 exact B7
instance {i:Int}:vZ 354 [.int .i64 i] (.bool (decide (0≤i∧i≤7))):=⟨λE=>eO.K5 E i⟩
theorem OC.mH(E:Env)(i n:Int):G E 351 [.int .i64 i,.int .i64 n] [] (cM (.bool (decide ((0≤i∧i≤7)∧0≤n∧n≤1099511627776))) []):=by
 refine t_ func351 ntmps351 ?_;repeat' (first|refine w_ ?_|refine k_ ?_|refine f_ ?_ ?_|intro _)
 all_goals exact aR rfl aF aA ⟨rJ,rfl⟩
instance {i n:Int}:vZ 351 [.int .i64 i,.int .i64 n] (.bool (decide ((0≤i∧i≤7)∧0≤n∧n≤1099511627776))):=⟨λE=>OC.mH E i n⟩
theorem eO.mH(E:Env)(i n:Int):G E 353 [.int .i64 i,.int .i64 n] [] (cM (.bool (decide ((0≤i∧i≤7)∧0≤n∧n≤1099511627776))) []):=by
 refine t_ func353 ntmps353 ?_;repeat' (first|refine w_ ?_|refine k_ ?_|refine f_ ?_ ?_|intro _)
 all_goals exact aR rfl aF aA ⟨rJ,rfl⟩
instance {i n:Int}:vZ 353 [.int .i64 i,.int .i64 n] (.bool (decide ((0≤i∧i≤7)∧0≤n∧n≤1099511627776))):=⟨λE=>eO.mH E i n⟩
section
variable (E:Env) (b:Bk) (A:Option Addr) (m c:Nat) (i n:Int)
def AF(A:Option Addr)(m c:Nat)(r:Bk×Int):Ending→List aL→Prop:=cM (.tuple #[.agg (if r.2=0 then r.1.cs A m c else sY.cs none 0 0).toArray,.int .i64 r.2]) []
theorem AF.ok:AF A m c (b,0)=cM (.tuple #[.agg (b.cs A m c).toArray,.int .i64 0]) []:=rfl
theorem AF.no{k:Int}(h:k≠0):AF A m c (b,k)=cM (.tuple #[.agg (sY.cs none 0 0).toArray,.int .i64 k]) []:=by unfold AF;rw[if_neg h]
theorem zO(hb:b.ok):G E 315 [.agg (b.cs A m c).toArray,.int .i64 i,.int .i64 n] [] (AF A m c (nF b i n)):=by
 obtain⟨hb1,hb2,hb3⟩:=hb;unfold O8.BH at hb1 hb2 hb3;unfold nF;by_cases h:(0≤i∧i≤7)∧0≤n∧n≤1099511627776
 ·rw[if_pos h];by_cases hk:b.fP.get i+n≤1099511627776
  ·rw[if_pos hk,AF.ok];refine t_ func315 ntmps315 ?_;rcases oV h.1 with rfl|rfl|rfl|rfl|rfl|rfl|rfl|rfl
   all_goals
    simp only[O8.gs b.fP,O8.ss b.fP] at hk⊢;repeat first|refine v_ ?_|intro
    refine cl sD sK aC (λM hE=>zF M _ n o_ o_) ?_;rintro e H' ⟨rfl,rfl⟩;repeat first|refine v_ ?_|intro
    exact Sa
  ·rw[if_neg hk,AF.no _ _ _ _ sD];refine t_ func315 ntmps315 ?_;rcases oV h.1 with rfl|rfl|rfl|rfl|rfl|rfl|rfl|rfl
   all_goals
    simp only[O8.gs b.fP] at hk⊢;repeat first|refine v_ ?_|intro
    refine cl sD sK aC (λM hE=>zF M _ n o_ o_) ?_;rintro e H' ⟨rfl,rfl⟩;repeat first|refine v_ ?_|intro
    exact Sa
 ·rw[if_neg h,AF.no _ _ _ _ sD];refine t_ func315 ntmps315 ?_;repeat first|refine v_ ?_|intro
  exact Sa
theorem wE(hb:b.ok):G E 316 [.agg (b.cs A m c).toArray,.int .i64 i,.int .i64 n] [] (AF A m c (jT b i n)):=by
 obtain⟨hb1,hb2,hb3⟩:=hb;unfold O8.BH at hb1 hb2 hb3;unfold jT;by_cases h:(0≤i∧i≤7)∧0≤n∧n≤1099511627776
 ·rw[if_pos h];by_cases hk:b.eO.get i+n≤1099511627776
  ·rw[if_pos hk,AF.ok];refine t_ func316 ntmps316 ?_;rcases oV h.1 with rfl|rfl|rfl|rfl|rfl|rfl|rfl|rfl
   all_goals
    simp only[O8.gs b.eO,O8.ss b.eO] at hk⊢;repeat first|refine v_ ?_|intro
    refine cl sD sK aC (λM hE=>zF M _ n o_ o_) ?_;rintro e H' ⟨rfl,rfl⟩;repeat first|refine v_ ?_|intro
    exact Sa
  ·rw[if_neg hk,AF.no _ _ _ _ sD];refine t_ func316 ntmps316 ?_;rcases oV h.1 with rfl|rfl|rfl|rfl|rfl|rfl|rfl|rfl
   all_goals
    simp only[O8.gs b.eO] at hk⊢;repeat first|refine v_ ?_|intro
    refine cl sD sK aC (λM hE=>zF M _ n o_ o_) ?_;rintro e H' ⟨rfl,rfl⟩;repeat first|refine v_ ?_|intro
    exact Sa
 ·rw[if_neg h,AF.no _ _ _ _ sD];refine t_ func316 ntmps316 ?_;repeat first|refine v_ ?_|intro
  exact Sa
theorem wX(hb:b.ok):G E 358 [.agg (b.cs A m c).toArray,.int .i64 i,.int .i64 n] [] (AF A m c (jB b i n)):=by
 obtain⟨hb1,hb2,hb3⟩:=hb;unfold O8.BH at hb1 hb2 hb3;unfold jB;by_cases h:(0≤i∧i≤7)∧0≤n∧n≤1099511627776
 ·rw[if_pos h];by_cases hk:b.fP.get i<n
  ·rw[if_pos hk,AF.no _ _ _ _ sD];refine t_ func358 ntmps358 ?_;rcases oV h.1 with rfl|rfl|rfl|rfl|rfl|rfl|rfl|rfl
   all_goals
    simp only[O8.gs b.fP] at hk⊢;repeat first|refine v_ ?_|intro
    exact Sa
  ·rw[if_neg hk,AF.ok];refine t_ func358 ntmps358 ?_;rcases oV h.1 with rfl|rfl|rfl|rfl|rfl|rfl|rfl|rfl
   all_goals
    simp only[O8.gs b.fP,O8.ss b.fP] at hk⊢;repeat first|refine v_ ?_|intro
    exact Sa
 ·rw[if_neg h,AF.no _ _ _ _ sD];refine t_ func358 ntmps358 ?_;repeat first|refine v_ ?_|intro
  exact Sa
theorem Mq(hb:b.ok):G E 362 [.agg (b.cs A m c).toArray,.int .i64 i,.int .i64 n] [] (AF A m c (sN b i n)):=by
 obtain⟨hb1,hb2,hb3⟩:=hb;unfold O8.BH at hb1 hb2 hb3;unfold sN;by_cases h:(0≤i∧i≤7)∧0≤n∧n≤1099511627776
 ·rw[if_pos h];by_cases hk:b.eO.get i<n
  ·rw[if_pos hk,AF.no _ _ _ _ sD];refine t_ func362 ntmps362 ?_;rcases oV h.1 with rfl|rfl|rfl|rfl|rfl|rfl|rfl|rfl
   all_goals
    simp only[O8.gs b.eO] at hk⊢;repeat first|refine v_ ?_|intro
    exact Sa
  ·rw[if_neg hk,AF.ok];refine t_ func362 ntmps362 ?_;rcases oV h.1 with rfl|rfl|rfl|rfl|rfl|rfl|rfl|rfl
   all_goals
    simp only[O8.gs b.eO,O8.ss b.eO] at hk⊢;repeat first|refine v_ ?_|intro
    exact Sa
 ·rw[if_neg h,AF.no _ _ _ _ sD];refine t_ func362 ntmps362 ?_;repeat first|refine v_ ?_|intro
  exact Sa
theorem FY:G E 324 [.agg (b.cs A m c).toArray,.int .i64 i,.int .i64 n] [] (AF A m c (mF b i n)):=by
 unfold mF;by_cases h:0≤i∧i≤7
 ·by_cases h2:0≤n∧n≤1073741824
  ·rw[if_pos ⟨h,h2⟩,AF.ok];refine t_ func324 ntmps324 ?_;rcases oV h with rfl|rfl|rfl|rfl|rfl|rfl|rfl|rfl
   all_goals
    simp only[O8.ss b.mO];repeat first|refine v_ ?_|intro
    exact Sa
  ·rw[if_neg λq=>h2 q.2,AF.no _ _ _ _ sD];refine t_ func324 ntmps324 ?_;repeat first|refine v_ ?_|intro
   exact Sa
 ·rw[if_neg λq=>h q.1,AF.no _ _ _ _ sD];refine t_ func324 ntmps324 ?_;repeat first|refine v_ ?_|intro
  exact Sa
end
theorem Gc{α:Type}(p:α→Bool)(l:List α)(x:α):behind p (l++[x])=if p x then l.length+1 else behind p l:=by
 induction l with
 |nil=>simp[behind]
 |cons a l ih =>
  rw[aCj,behind,ih];cases hx:p x with
  |true=>simp
  |false=>simp[behind]
theorem Ms(a b:bJ):decide (sQ a b<0)=zS a b:=by
 unfold zS sQ sX;rw[aBz];simp only[decide_eq_true_eq];by_cases h1:a.seq<b.seq
 ·simp[DC,h1]
 ·by_cases h2:b.seq<a.seq
  ·simp[DC,h1,h2];omega
  ·by_cases h3:a.rep<b.rep
   ·simp[DC,h1,h2,h3];omega
   ·by_cases h4:b.rep<a.rep
    ·simp[DC,h1,h2,h3,h4]
    ·simp[DC,h1,h2,h3,h4]
section
variable (E:Env) (b:Bk) (A:Option Addr) (n c:Nat)
theorem Qu(g:Nat)(a:bJ)(h:gE E g a.cs)(x:dD):G E 384 [.agg x.cs.toArray,pt g] [] (cM (.bool (decide (x.id=a))) []):=by
 refine t_ func384 ntmps384 ?_;repeat first|refine v_ ?_|intro
 exact B7
theorem lV(hr:Rd E eB A n c b.aH)(r s:Int):G E 375 [.agg (b.cs A n c).toArray,.agg #[.int .i64 r,.int .i64 s]] [] (cM (.int .i64 (fA b ⟨r,s⟩)) []):=by
 refine t_ func375 ntmps375 ?_;repeat first|refine v_ ?_|intro
 rename_i g2 g3;refine cl sD sK aC (λM hE=>RY M A n c b.aH dB 384 [_] _ sK λE2 R2 hE2 x=>Qu E2 g3 ⟨r,s⟩ ((gE.of hE aS).sub hE2) x) ?_;rintro e H' ⟨rfl,rfl⟩;repeat first|refine v_ ?_|intro
 exact B7
theorem Pq{a:bJ}(h:fA b a<0):vL b a=none:=by unfold vL;rw[if_neg o_]
theorem OB{a:bJ}(h:0≤fA b a):∃x,vL b a=some x∧b.aH[(fA b a).toNat]?=some x∧x.id=a:=by
 obtain⟨h1,x,h2,h3⟩:=gZ h;unfold vL;rw[if_pos h];exact⟨x,h2,h2,of_decide_eq_true h3⟩
theorem M8(hr:Rd E eB A n c b.aH)(r s:Int):G E 387 [.agg (b.cs A n c).toArray,.agg #[.int .i64 r,.int .i64 s]] [] (cM (.tuple #[.agg ((vL b ⟨r,s⟩).getD UR).cs.toArray,.bool (vL b ⟨r,s⟩).isSome]) []):=by
 have hn:=hr.len;refine t_ func387 ntmps387 ?_;repeat first|refine v_ ?_|intro
 refine eV (λM h1=>lV M b A n c h1 r s) ?_;by_cases h:fA b ⟨r,s⟩<0
 ·rw[Pq b h];simp only[Option.isSome_none,Option.getD_none];repeat first|refine v_ ?_|intro
  exact Sa
 ·obtain⟨x,h1,h2,h3⟩:=OB b (show 0≤fA b ⟨r,s⟩ by omega);rw[h1];simp only[aEf,aBe];repeat first|refine v_ ?_|intro
  exact Sa
theorem yW(B:Option Addr)(m d:Nat)(l:List Int)(hr:Rd E Au B m d l)(x:Int):G E 388 [.slice B m d,.int .i64 x] [] (cM (.bool (l.contains x)) []):=by
 have hidx:∀M,Rd M Au B m d l→G M 392 [.slice B m d,.int .i64 x] [] (cM (.int .i64 (place (λy=>decide (x=y)) l)) []):=by
  intro M hr;have hn:=hr.len;have hcap:=hr.cap;have hmax:=fX;refine t_ func392 ntmps392 ?_;repeat first|refine v_ ?_|intro
  refine C.scan (Y:=Unit) hn (λi _=>[(0,.slice B m d),(1,.int .i64 x),(7,.int .i64 m),(8,.int .i64 i)]) (λ_ _=>[]) (λi _=>∀j y,j<i→l[j]?=some y→decide (x=y)=false) () aD aB.refl (λj y hj=>by omega) ?_ ?_
  ·intro i _ y Gf hi hy hall;by_cases hxy:x=y
   ·repeat first|refine v_ ?_|intro
    exact aR rfl aF aA (⟨NQ (xM (p:=λy=>decide (x=y)) hy (decide_eq_true hxy) hall).symm,rfl⟩)
   ·repeat first|refine v_ ?_|intro
    refine⟨(),aD,aB.refl,λj z hj hz=>?_⟩;by_cases hji:j=i
    ·subst hji;rw[hy] at hz;injection hz with hz;subst hz;exact decide_eq_false hxy
    ·exact hall j z o_ hz
  ·intro _ Gf hall;repeat first|refine v_ ?_|intro
   exact aR rfl aF aA (⟨NQ (rR (BU λj y hj hy=>hall j y o_ hy)).symm,rfl⟩)
 refine t_ func388 ntmps388 ?_;repeat first|refine v_ ?_|intro
 refine eV hidx ?_;repeat first|refine v_ ?_|intro
 exact aR rfl aF aA (⟨by rw[rC,List.contains_eq_any_beq];congr 2,rfl⟩)
theorem KO(hr:Rd E eB A n c b.aH)(r s:Int)(B:Option Addr)(m d:Nat)(st:List Int)(hs:Rd E Au B m d st):G E 377 [.agg (b.cs A n c).toArray,.agg #[.int .i64 r,.int .i64 s],.slice B m d] [] (cM (.tuple #[.agg (FT b ⟨r,s⟩ st).1.cs.toArray,.int .i64 (FT b ⟨r,s⟩ st).2]) []):=by
 unfold FT;refine t_ func377 ntmps377 ?_;repeat first|refine v_ ?_|intro
 refine eV (λM h1=>M8 M b A n c h1 r s) ?_;cases h:vL b ⟨r,s⟩ with
 |none =>
  simp only[Option.isSome_none,Option.getD_none];repeat first|refine v_ ?_|intro
  exact Sa
 |some x =>
  simp only[aEf,aBe];cases hc:st.contains x.state with
  |true =>
   simp only[if_true];repeat first|refine v_ ?_|intro
   refine dX (λM h1=>yW M B m d st h1 x.state) ?_;rw[hc];rintro e H' ⟨rfl,rfl⟩;repeat first|refine v_ ?_|intro
   exact Sa
  |false =>
   simp only[aCb,if_false];repeat first|refine v_ ?_|intro
   refine dX (λM h1=>yW M B m d st h1 x.state) ?_;rw[hc];rintro e H' ⟨rfl,rfl⟩;repeat first|refine v_ ?_|intro
   exact Sa
theorem HA(hr:Rd E eB A n c b.aH)(o:dD)(hm:n≤1000):G E 376 [.agg (b.cs A n c).toArray,.agg o.cs.toArray] [] λe H'=>∃B d,((lK b o).aH.length≤d∧d≤maxLen)∧e=.returned (.agg ((lK b o).cs B (lK b o).aH.length d).toArray)∧H'=[own eB B (lK b o).aH.length d (lK b o).aH]:=by
 have hn:=hr.len;have hcap:=hr.cap;have hmax:=fX;unfold lK;refine t_ func376 ntmps376 ?_;by_cases h:0≤fA b o.id
 ·rw[if_pos h];obtain⟨h1,x,h2,h3⟩:=gZ h;obtain⟨k,hk⟩:=aCf h;change b.aH[(fA b o.id).toNat]?=some x at h2;rw[hk,aAu] at h2⊢;have hl:(b.aH.set k o).length=n:=by rw[aAt,hn]
  dsimp only;rw[hl];have hk':fA b ⟨o.id.rep,o.id.seq⟩=(k:Int):=hk;repeat first|refine v_ ?_|intro
  refine dX (λM h1=>lV M b A n c h1 o.id.rep o.id.seq) ?_;rw[hk'];rintro e H' ⟨rfl,rfl⟩;repeat first|refine v_ ?_|intro
  refine dX (λM h1=>FN M A n c b.aH h1 (by omega)) ?_;rintro e H' ⟨B,d,hd,rfl,rfl⟩;repeat first|refine v_ ?_|intro
  exact cI rfl aF rfl rfl rfl aS rfl aA (⟨_,_,hd,rfl,rfl⟩)
 ·rw[if_neg h];have hk':¬0≤fA b ⟨o.id.rep,o.id.seq⟩:=h;obtain⟨p,hp⟩:∃p:dD→Bool,p=λx=>zS x.id o.id:=⟨_,rfl⟩
  rw[show(λx:dD=>zS x.id o.id)=p from hp.symm];repeat first|refine v_ ?_|intro
  rename_i g2 g3 g4;refine eV (λM h1=>lV M b A n c h1 o.id.rep o.id.seq) ?_;repeat ((fail_if_success (refine C.seq (x:=Code.region 7 _ _) ?_));first|refine Cx ?_|refine k_ ?_|intro _|refine Dr.two ?_ ?_)
  refine C.BI (X:=Unit) (λ_=>[(2,.pointer (some ⟨g2,0,none⟩)),(3,.pointer (some ⟨g3,0,none⟩)),(4,.pointer (some ⟨g4,0,none⟩)),(6,.int .i64 (behind p b.aH))]) (λ_=>[aJ g4 45 (sY.cs none 0 0),aJ g3 155 o.cs,aJ g2 45 (b.cs A n c)]) (λ_=>True) ?_ ?_
  ·repeat first|refine v_ ?_|intro
   refine C.scan (Y:=Unit) hn (λi _=>[(2,.pointer (some ⟨g2,0,none⟩)),(3,.pointer (some ⟨g3,0,none⟩)),(4,.pointer (some ⟨g4,0,none⟩)),(6,.int .i64 (behind p (b.aH.take i))),(26,.slice A n c),(27,.int .i64 n),(28,.int .i64 i)]) (λ_ _=>[aJ g4 45 (sY.cs none 0 0),aJ g3 155 o.cs,aJ g2 45 (b.cs A n c)]) (λ_ _=>True) () aD aA trivial ?_ ?_
   ·intro i _ x Gf hi hx _;have hb2:behind p (b.aH.take (i+1))=if p x then i+1 else behind p (b.aH.take i):=by
     rw[take_succ hx,Gc,aAg,aBr o_]
    have hpx:decide (sQ ⟨x.id.rep,x.id.seq⟩ ⟨o.id.rep,o.id.seq⟩<0)=p x:=by rw[hp];exact Ms x.id o.id
    cases hc:p x with
    |true =>
     rw[hc] at hb2 hpx;rw[if_pos rfl] at hb2;repeat first|refine v_ ?_|intro
     refine⟨(),?_,aA,trivial⟩;rw[hb2];exact aD
    |false =>
     rw[hc] at hb2 hpx;rw[if_neg sD] at hb2;repeat first|refine v_ ?_|intro
     refine⟨(),?_,aA,trivial⟩;rw[hb2];exact aD
   ·intro _ Gf _;rw[hn,aAo,←hn];repeat first|refine v_ ?_|intro
    exact⟨(),aD,aA,trivial⟩
  intro _ Gf _;have hkn:behind p b.aH≤n:=by rw[hn];exact AJ p b.aH
  have hlen:(b.aH.take (behind p b.aH)++[o]++b.aH.drop (behind p b.aH)).length=n+1:=by
   simp only[aAe,aAg,aBd,aAs,aDh];omega
  dsimp only;generalize behind p b.aH=m at hkn hlen⊢;have h1:Rd E eB A m c (b.aH.take m):=hr.upto hkn o_ (aAf _);have h2:=hr.from_ (k:=m) hkn;repeat first|refine v_ ?_|intro
  refine C.bL 13 (l_ [0,1,2,3,4,6,7,8,9] (g_ 5 (g_ 10 (g_ 11 (n_ 12 (g_ 13 .nil)))))) _ q_ q_ aB.refl ?_;repeat first|refine v_ ?_|intro
  refine cg rfl sD bA sK aC (λM hE=>PK M _ _ _ _ dB (by intro s hs;simp at hs;rcases hs with rfl|rfl|rfl;exact h1.sub hE;exact dB;exact h2.sub hE) (by simp;omega)) ?_;simp only[aDy,aEu,aAc,←aAb,hlen];rintro e H' ⟨B,d,hd,rfl,rfl⟩;repeat first|refine v_ ?_|intro
  exact cI rfl aF rfl rfl rfl aS rfl aA (⟨_,_,hd,rfl,rfl⟩)
end
instance:cL 371 [.int .i64 0] [(0,1)]:=⟨⟨q_,q_⟩⟩
def Yt(k:Int):List PanicEntry:=Z3 (.iface 371 (.agg #[.int .i64 k]))
theorem kC(E:Env)(p:Bool)(k:Int):G E 313 [.bool p,.int .i64 k] [] (λe H'=>(if p then e=.returned (.tuple #[]) else e=.panicked (Yt k))∧H'=[]):=by
 refine t_ func313 ntmps313 ?_;cases p with
 |true =>
  repeat first|refine v_ ?_|intro
  exact gO rfl aA ⟨rfl,rfl⟩
 |false =>
  repeat first|refine v_ ?_|intro
  refine L.val sD (λ_ _=>V.e9 rfl rfl q_) ?_;refine L.panic rfl ?_;exact⟨rfl,rfl⟩
def oN{X:Type}(r:Except Int X)(ok:X→Ending→List aL→Prop):Ending→List aL→Prop:=match r with
 | .ok x=>ok x
 | .error k=>λe H'=>e=.panicked (Yt k)∧H'=[]
instance:cL 369 [.int .i64 0,.int .i64 0,.int .i64 0,.int .i64 0,.int .i64 0,.int .i64 0,.int .i64 0,.int .i64 0,.int .i64 0,.int .i64 0,.int .i64 0,.int .i64 0,.int .i64 0,.int .i64 0,.int .i64 0,.int .i64 0,.int .i64 0,.int .i64 0,.int .i64 0,.int .i64 0,.int .i64 0,.int .i64 0,.int .i64 0,.int .i64 0,.slice none 0 0,.slice none 0 0,.int .i64 0,.int .i64 0] [(0,25),(25,1),(26,2)]:=⟨⟨q_,q_⟩⟩
def Wk.cs(w:Wk)(A:Option Addr)(m c:Nat)(X:Option Addr)(n x:Nat):List Value:=w.b.cs A m c++[.slice X n x,.int .i64 w.ref.rep,.int .i64 w.ref.seq]
theorem hZ(E:Env)(w:Wk)(r:Bk×Int)(g:Nat)(A B:Option Addr)(m c m' c':Nat)(X:Option Addr)(n x:Nat) :
  G E 314 [.pointer (some ⟨g,0,none⟩),.agg (if r.2=0 then r.1.cs B m' c' else sY.cs none 0 0).toArray,.int .i64 r.2] [aJ g 369 (w.cs A m c X n x)]
   (oN (w.iQ r) λw'=>cM (.tuple #[]) [aJ g 369 (w'.cs B m' c' X n x)]):=by
 obtain⟨b',k⟩:=r;unfold Wk.iQ;by_cases h:k=0
 ·subst h;simp only[if_true];dsimp only[oN,Wk.cs,Bk.cs,List.cons_append,List.nil_append,G];refine t_ func314 ntmps314 ?_;repeat first|refine v_ ?_|intro
  exact gO rfl aA ⟨rfl,rfl⟩
 ·simp only[if_neg h];dsimp only[oN];refine t_ func314 ntmps314 ?_;repeat first|refine v_ ?_|intro
  refine L.val sD (λ_ _=>V.e9 rfl rfl q_) ?_;refine L.conv (H':=[]) aA ?_;refine L.panic rfl ?_;exact⟨rfl,rfl⟩
theorem eP(E:Env)(w:Wk)(kind a k:Int)(g:Nat)(A:Option Addr)(m c:Nat)(X:Option Addr)(n x:Nat)(hn:n≤1000) :
  G E 317 [.pointer (some ⟨g,0,none⟩),.int .i64 kind,.int .i64 a,.int .i64 k] [aJ g 369 (w.cs A m c X n x),own eG X n x w.out]
   λe H'=>∃Y y,(n+1≤y∧y≤maxLen)∧e=.returned (.tuple #[])∧H'=[aJ g 369 ((w.tell kind a k).cs A m c Y (n+1) y),own eG Y (n+1) y (w.tell kind a k).out]:=by
 dsimp only[Wk.tell,Wk.cs,Bk.cs,List.cons_append,List.nil_append,G];refine t_ func317 ntmps317 ?_;refine C.bL 17 (l_ [0,1,2,3,4,5,6,7,8,9,10,11,12] (g_ 13 (g_ 14 (l_ [15,16] (g_ 17 .nil))))) ([aJ g 369 _]) q_ q_ aA ?_;repeat first|refine v_ ?_|intro
 refine Dr.Aw rfl (by rintro k ⟨⟩<;>decide) bA (S.cB (T:=eG) (e:=⟨kind,a,k,w.ref⟩) rfl rfl rfl rfl sD) ?_;rintro _ _ ⟨_,rfl,rfl⟩;refine⟨aA,?_⟩;repeat first|refine v_ ?_|intro
 exact gO rfl aA ⟨_,_,⟨‹_›,‹_›⟩,rfl,rfl⟩
section
variable {N:Nat} {E:Env} {F:Nat→Value} {H R Hp:List aL} {d:Nat} {f:FuncId} {ops:List Operand} {tys:Array TypeId} {ty:TypeId} {pos:String} {af:Array Edge} {Q:QF} {Q1:Ending→List aL→Prop}
theorem Av{os rest:List Oper}(hd:d<N)(hk:xA f=true)(hp:cS Hp H R)(law:∀M,Sub E R M→aK prog M f (AO F ops).toArray Hp Q1)
  (hQ:∀e H',Q1 e H'→(∃v,e=.returned v∧∃H2,wK H' R H2∧L prog N E os Q rest (pT F d v) H2)∨∃c,e=.panicked c∧∃H2,aB E (H'++R) H2∧Q (.panic c) (λ_=>undef) H2) :
  L prog N E os Q (⟨some d,.call { callee:=.value (.func f),args:=ops.toArray,argTypes:=tys },ty,pos,af,none⟩::rest) F H:=by
 obtain⟨fn,h1,h2,h3⟩:=iY hk;refine⟨λa w ha hw=>wpList_plain rfl λ_ hK=>CV rfl rfl h1 h2 h3 hp law ha hw (λv H' u' hq hu'=>?_) (λc H' u' hq hu'=>?_) λH' hq=>?_⟩
 ·rcases hQ _ _ hq with⟨v',he,H2,hc,hl⟩|⟨c,he,_⟩
  ·injection he with he;subst he
   exact hK _ _ (hl.get _ u' (ha.put hd v) (by rw[hc.eq];exact hu'))
  ·cases he
 ·rcases hQ _ _ hq with⟨v',he,_⟩|⟨c',he,H2,hc,hl⟩
  ·cases he
  ·injection he with he;subst he
   exact⟨ha.defers,H2,hc _ hu',hl⟩
 ·rcases hQ _ _ hq with⟨v',he,_⟩|⟨c',he,_⟩<;>cases he
end
theorem rH(E:Env)(w:Wk)(g:Nat)(A:Option Addr)(m c:Nat)(X:Option Addr)(n x:Nat)(hr:Rd E eB A m c w.b.aH)(r s:Int)(B:Option Addr)(nm d:Nat)(st:List Int)(hs:Rd E Au B nm d st) :
  G E 359 [.pointer (some ⟨g,0,none⟩),.agg #[.int .i64 r,.int .i64 s],.slice B nm d] [aJ g 369 (w.cs A m c X n x)]
   (oN (w.order ⟨r,s⟩ st) λp=>cM (.agg p.2.cs.toArray) [aJ g 369 (p.1.cs A m c X n x)]):=by
 unfold Wk.order;obtain⟨o,ho⟩:∃o,o=FT w.b ⟨r,s⟩ st:=⟨_,rfl⟩
 rw[←ho];obtain⟨o,k⟩:=o;dsimp only[Wk.cs,Bk.cs,dD.cs,List.cons_append,List.nil_append,G];refine t_ func359 ntmps359 ?_;repeat first|refine v_ ?_|refine Dr.two ?_ ?_|intro
 refine rA (l_ [0,1,2,3,4,5] (.two 6 (l_ [7,8,9] (g_ 10 (g_ 11 (n_ 12 .nil)))) 10 (g_ 6 (l_ [7,8,9] (g_ 11 (n_ 12 .nil)))))) ?_;repeat first|refine v_ ?_|intro
 refine Dr.two ?_ ?_
 ·refine yB rfl sD bA sK aC (λM hE=>KO M w.b A m c (hr.sub hE) r s B nm d st (hs.sub hE)) ?_;rw[←ho];rintro e H' ⟨rfl,rfl⟩;repeat first|refine v_ ?_|refine Dr.two ?_ ?_|intro
  by_cases h:k=0
  ·subst h;rw[if_pos rfl];dsimp only[oN];refine Av sD sK aC (λM hE=>kC M _ _) ?_;rintro e H' ⟨he,rfl⟩;rw[if_pos (by simp)] at he;subst he;refine .inl ⟨_,rfl,_,bG,?_⟩;repeat first|refine v_ ?_|refine Dr.two ?_ ?_|intro
   exact Kz
  ·rw[if_neg h];dsimp only[oN];refine Av sD sK aC (λM hE=>kC M _ _) ?_;rintro e H' ⟨he,rfl⟩;rw[if_neg (by simpa using h)] at he;subst he;exact .inr ⟨_,rfl,[],aA,rfl,rfl⟩
 ·repeat first|refine v_ ?_|intro
  refine OW (λM h1=>KO M w.b A m c h1 r s B nm d st) ?_;rw[←ho];rintro e H' ⟨rfl,rfl⟩;repeat first|refine v_ ?_|refine Dr.two ?_ ?_|intro
  by_cases h:k=0
  ·subst h;rw[if_pos rfl];dsimp only[oN];refine Av sD sK aC (λM hE=>kC M _ _) ?_;rintro e H' ⟨he,rfl⟩;rw[if_pos (by simp)] at he;subst he;refine .inl ⟨_,rfl,_,bG,?_⟩;repeat first|refine v_ ?_|refine Dr.two ?_ ?_|intro
   exact Kz
  ·rw[if_neg h];dsimp only[oN];refine Av sD sK aC (λM hE=>kC M _ _) ?_;rintro e H' ⟨he,rfl⟩;rw[if_neg (by simpa using h)] at he;subst he;exact .inr ⟨_,rfl,[],aA,rfl,rfl⟩
theorem Kh(E:Env)(b:Bk)(A:Option Addr)(n c:Nat)(hr:Rd E eB A n c b.aH)(hm:n≤1000):G E 274 [.agg (b.cs A n c).toArray] [] λe H'=>∃B d,(n≤d∧d≤maxLen)∧e=.returned (.agg (b.cs B n d).toArray)∧H'=[own eB B n d b.aH]:=by
 dsimp only[Bk.cs,List.cons_append,List.nil_append,G];refine t_ func274 ntmps274 ?_;repeat first|refine v_ ?_|intro
 refine dX (λM h1=>FN M A n c b.aH h1 (by omega)) ?_;rintro e H' ⟨B,d,hd,rfl,rfl⟩;repeat first|refine v_ ?_|intro
 exact cI rfl aF rfl rfl rfl aS rfl aA (⟨_,_,hd,rfl,rfl⟩)
theorem oJ(E:Env)(w:Wk)(o:dD)(st:Int)(g:Nat)(A:Option Addr)(m c:Nat)(X:Option Addr)(n x:Nat)(hr:Rd E eB A m c w.b.aH)(hm:m≤1000) :
  G E 360 [.pointer (some ⟨g,0,none⟩),.agg o.cs.toArray,.int .i64 st] [aJ g 369 (w.cs A m c X n x)]
   λe H'=>∃B d,((w.put o st).b.aH.length≤d∧d≤maxLen)∧e=.returned (.tuple #[])∧H'=[aJ g 369 ((w.put o st).cs B (w.put o st).b.aH.length d X n x),own eB B (w.put o st).b.aH.length d (w.put o st).b.aH]:=by
 unfold Wk.put;obtain⟨b',hb⟩:∃b',b'=lK w.b { o with state:=st }:=⟨_,rfl⟩
 rw[←hb];obtain⟨o0,o1,o2,o3,o4,o5⟩:=o;obtain⟨r,s⟩:=o0;dsimp only[Wk.cs,Bk.cs,dD.cs,List.cons_append,List.nil_append,G];refine t_ func360 ntmps360 ?_;repeat first|refine v_ ?_|intro
 refine C.bL 9 (l_ [0,1,2,3,4,5] (g_ 6 (l_ [7,8] (g_ 9 .nil)))) _ q_ q_ aB.refl ?_;repeat first|refine v_ ?_|intro
 refine C2 (λM h1=>HA M w.b A m c h1 ⟨⟨r,s⟩,o1,o2,o3,o4,st⟩ hm) ?_;dsimp only at hb⊢;rw[←hb];rintro e H' ⟨B,d,hd,rfl,rfl⟩;repeat first|refine v_ ?_|intro
 exact gO rfl aA ⟨_,_,hd,rfl,rfl⟩
def xC(g:Nat)(w:Wk)(A:Option Addr)(m c:Nat)(X:Option Addr)(n x:Nat):List aL:=[aJ g 369 (w.cs A m c X n x),own eB A m c w.b.aH,own eG X n x w.out]
def VF(g:Nat)(w:Wk):Ending→List aL→Prop:=λe H'=>∃A m c X n x,e=.returned (.tuple #[])∧H'=xC g w A m c X n x
theorem iF{w:Wk}{a:bJ}{st:List Int}{o:dD}{k:Int}(h:(o,k)=FT w.b a st):w.order ⟨a.rep,a.seq⟩ st=if k=0 then .ok (⟨w.b,w.out,a⟩,o) else .error k:=by
 unfold Wk.order;rw[show FT w.b ⟨a.rep,a.seq⟩ st=(o,k) from h.symm]
section
variable (E:Env) (w:Wk) (ch:aX) (g:Nat) (A:Option Addr) (m c:Nat) (X:Option Addr) (n x:Nat)
theorem Ng(hm:m≤1000)(hn:n≤900):G E 322 [.pointer (some ⟨g,0,none⟩),.agg ch.cs.toArray] (xC g w A m c X n x) (oN (w.Qn ch) (VF g)):=by
 unfold Wk.Qn;obtain⟨q,hq⟩:∃q,q=FT w.b ch.ref [2]:=⟨_,rfl⟩
 obtain⟨o,k⟩:=q;rw[show w.order ch.ref [2]=_ from iF hq];dsimp only[aX.cs,xC,List.cons_append,List.nil_append,G];refine t_ func322 ntmps322 ?_;repeat first|refine v_ ?_|intro
 refine Av sD sK aC (λM hE=>rH M w g A m c X n x dB ch.ref.rep ch.ref.seq _ 1 1 [2] dB) ?_;rw[iF hq];by_cases h:k=0
 ·rw[if_pos h];try rw[if_pos h]
  dsimp only[oN,bind,Except.bind];rintro e H' ⟨rfl,rfl⟩;refine .inl ⟨_,rfl,_,bG,?_⟩;dsimp only[dD.cs];repeat first|refine v_ ?_|intro
  refine dX (λM h1=>oJ M ⟨w.b,w.out,ch.ref⟩ o 3 g A m c X n x h1 hm) ?_;dsimp only[Wk.put];obtain⟨b',hb⟩:∃b',b'=lK w.b ⟨o.id,o.cC,o.item,o.iN,o.cost,3⟩:=⟨_,rfl⟩
  rw[←hb];rintro e H' ⟨B,d,hd,rfl,rfl⟩;repeat first|refine v_ ?_|intro
  refine bW (λM=>eP M ⟨b',w.out,ch.ref⟩ 5 o.item o.iN g B b'.aH.length d X n x (by omega)) ?_;rintro e H' ⟨X1,x1,hx1,rfl,rfl⟩;repeat first|refine v_ ?_|intro
  refine bW (λM=>eP M (Wk.tell ⟨b',w.out,ch.ref⟩ 5 o.item o.iN) 6 o.item o.iN g B b'.aH.length d X1 (n+1) x1 (by omega)) ?_;rintro e H' ⟨X2,x2,hx2,rfl,rfl⟩;repeat first|refine v_ ?_|intro
  refine bW (λM=>eP M (Wk.tell (Wk.tell ⟨b',w.out,ch.ref⟩ 5 o.item o.iN) 6 o.item o.iN) 11 o.item o.iN g B b'.aH.length d X2 (n+1+1) x2 (by omega)) ?_;rintro e H' ⟨X3,x3,hx3,rfl,rfl⟩;repeat first|refine v_ ?_|intro
  refine bW (λM=>eP M (Wk.tell (Wk.tell (Wk.tell ⟨b',w.out,ch.ref⟩ 5 o.item o.iN) 6 o.item o.iN) 11 o.item o.iN) 7 o.cC 3 g B b'.aH.length d X3 (n+1+1+1) x3 (by omega)) ?_;rintro e H' ⟨X4,x4,hx4,rfl,rfl⟩;repeat first|refine v_ ?_|intro
  exact gO rfl (H':=[aJ g 369 _,own eB B b'.aH.length d b'.aH,own eG X4 _ x4 _]) aA ⟨B,b'.aH.length,d,X4,n+1+1+1+1,x4,rfl,rfl⟩
 ·rw[if_neg h];dsimp only[oN,bind,Except.bind];rintro e H' ⟨rfl,rfl⟩;exact .inr ⟨_,rfl,[],aA,rfl,rfl⟩
end
theorem fS(b:Bk)(i n:Int)(h:(jT b i n).2=0):(jT b i n).1.aH=b.aH:=by
 unfold jT at h⊢;split at h
 ·split at h
  ·rename_i h1 h2;rw[if_pos h1,if_pos h2]
  ·cases h
 ·cases h
section
variable {N:Nat} {E:Env} {F:Nat→Value} {H R Hp:List aL} {d:Nat} {f:FuncId} {ops:List Operand} {tys:Array TypeId} {ty:TypeId} {pos:String} {af:Array Edge} {Q:QF} {Q1:Ending→List aL→Prop}
theorem As{z:Nat}{os:List Oper}{Hk:List aL}{gd:Option (Nat×Bool)}(hi:nth os z=some ⟨some d,.call { callee:=.value (.func f),args:=ops.toArray,argTypes:=tys },ty,pos,af,gd⟩)(hd:d<N)(hg:rE os N F true gd)(hk:xA f=true)(hp:cS Hp H R)
  (law:∀M,Sub E R M→aK prog M f (AO F ops).toArray Hp Q1)
  (hQ:∀e H',Q1 e H'→(∃v,e=.returned v∧∃H2,wK H' R H2∧Q .normal (pT F d v) H2)∨∃c,e=.panicked c∧∃H2,aB E (H'++R) H2∧Q (.panic c) (λ_=>undef) H2):Dr prog N E z os Q Hk (.one z true .nil) F H:=by
 obtain⟨fn,h1,h2,h3⟩:=iY hk;refine Dr.all ⟨λlisted a u hcl hs hc ha hu hk2=>?_⟩;have hi':os.toArray[z]?=some _:=(eX os z).symm.trans hi;unfold wpOp;simp only[hi',hg.wanted (o:=⟨some d,.call { callee:=.value (.func f),args:=ops.toArray,argTypes:=tys },ty,pos,af,gd⟩) ha,if_true];refine .inl (CV rfl rfl h1 h2 h3 hp law ha hu (λv H' u' hq hu'=>?_) (λc H' u' hq hu'=>?_) λH' hq=>?_)
 ·rcases hQ _ _ hq with⟨v',he,H2,hc2,hl⟩|⟨c,he,_⟩
  ·injection he with he;subst he
   exact⟨λhz=>absurd rfl hz,λ_=>⟨by simpa [hU] using hc,_,H2,ha.put hd v,by rw[hc2.eq];exact hu',hl⟩⟩
  ·cases he
 ·rcases hQ _ _ hq with⟨v',he,_⟩|⟨c',he,H2,hc2,hl⟩
  ·cases he
  ·injection he with he;subst he
   exact⟨ha.defers,H2,hc2 _ hu',hl⟩
 ·rcases hQ _ _ hq with⟨v',he,_⟩|⟨c',he,_⟩<;>cases he
end
section
variable (E:Env) (w:Wk) (ch:aX) (g:Nat) (A:Option Addr) (m c:Nat) (X:Option Addr) (n x:Nat)
theorem IE(hm:m≤1000)(hn:n≤900)(hb:w.b.ok):G E 323 [.pointer (some ⟨g,0,none⟩),.agg ch.cs.toArray] (xC g w A m c X n x) (oN (w.Er ch) (VF g)):=by
 unfold Wk.Er;obtain⟨q,hq⟩:∃q,q=FT w.b ch.ref [3]:=⟨_,rfl⟩
 obtain⟨o,k⟩:=q;rw[show w.order ch.ref [3]=_ from iF hq];dsimp only[aX.cs,xC,List.cons_append,List.nil_append,G];refine t_ func323 ntmps323 ?_;repeat first|refine v_ ?_|intro
 refine Av sD sK aC (λM hE=>rH M w g A m c X n x dB ch.ref.rep ch.ref.seq _ 1 1 [3] dB) ?_;rw[iF hq];by_cases h:k=0
 ·rw[if_pos h];try rw[if_pos h]
  dsimp only[oN,bind,Except.bind,pure,Except.pure];rintro e H' ⟨rfl,rfl⟩;refine .inl ⟨_,rfl,_,bG,?_⟩;obtain⟨r,hr⟩:∃r,r=jT w.b o.cC o.cost:=⟨_,rfl⟩
  rw[←hr];have law:=λM=>hZ M ⟨w.b,w.out,ch.ref⟩ r g A A m c m c X n x;have give:=λM=>wE M w.b A m c o.cC o.cost hb;rw[←hr] at give;dsimp only[dD.cs,Wk.cs,Bk.cs,List.cons_append,List.nil_append] at law give⊢;repeat first|refine v_ ?_|intro
  refine C.bL 12 (l_ [0,1,2,3,4,5,6,7,8] (g_ 9 (l_ [10,11] (g_ 12 .nil)))) _ q_ q_ aB.refl ?_;repeat first|refine v_ ?_|intro
  refine eJ give ?_;repeat first|refine v_ ?_|intro
  refine As rfl sD bA sK aC (λM hE=>law M) ?_;unfold Wk.iQ;by_cases h2:r.2=0
  ·rw[if_pos h2];try rw[if_pos h2]
   have hor:r.1.aH=w.b.aH:=by rw[hr] at h2⊢;exact fS _ _ _ h2
   obtain⟨b',hb'⟩:∃b',b'=lK r.1 ⟨o.id,o.cC,o.item,o.iN,o.cost,5⟩:=⟨_,rfl⟩
   have put:=λM=>oJ M ⟨r.1,w.out,ch.ref⟩ o 5 g A m c X n x;have tell:=λM B d=>eP M ⟨b',w.out,ch.ref⟩ 10 o.cC o.cost g B b'.aH.length d X n x o_;dsimp only[Wk.put] at put;rw[←hb'] at put;dsimp only[Wk.tell,dD.cs,Wk.cs,Bk.cs,List.cons_append,List.nil_append] at put tell;rw[hor] at put;dsimp only[oN,bind,Except.bind,pure,Except.pure];rintro e H' ⟨rfl,rfl⟩;refine .inl ⟨_,rfl,_,bG,?_⟩;repeat first|refine v_ ?_|intro
   refine dX (λM h1=>put M h1 hm) ?_;rintro e H' ⟨B,d,hd,rfl,rfl⟩;repeat first|refine v_ ?_|intro
   refine bW (λM=>tell M B d) ?_;rintro e H' ⟨X1,x1,hx1,rfl,rfl⟩;repeat first|refine v_ ?_|intro
   unfold Wk.put;dsimp only;rw[←hb'];refine gO rfl (H':=[aJ g 369 _,own eB B b'.aH.length d b'.aH,own eG X1 (n+1) x1 (w.out++[⟨10,o.cC,o.cost,ch.ref⟩])]) ?_ ⟨B,b'.aH.length,d,X1,n+1,x1,rfl,rfl⟩;exact aB.aV (.cons .aN (.cons (.aM .aN) (.cons .aN .nil)))
  ·rw[if_neg h2];try rw[if_neg h2]
   dsimp only[oN,bind,Except.bind,pure,Except.pure];rintro e H' ⟨rfl,rfl⟩;exact .inr ⟨_,rfl,[],aA,rfl,rfl⟩
 ·rw[if_neg h];dsimp only[oN,bind,Except.bind,pure,Except.pure];rintro e H' ⟨rfl,rfl⟩;exact .inr ⟨_,rfl,[],aA,rfl,rfl⟩
end
end Go.Proofs.YtmilalkjbojciaaGreat.Sep
namespace Go.Proofs.YtmilalkjbojciaaGreat.Sep
open Go.RowKit Mem Reg
def X0(E:Env)(J:List aL):QF
 | .normal,_,H=>Cv E H J
 |_,_,_=>False
section
variable {P:Program} {N:Nat} {E:Env} {Qw:Exit→Act→World→Prop} {F:Nat→Value} {H R:List aL}
theorem WJ.rg{α σ Y:Type}{g:Operand}{ps:List Nat}{assign body tail:Code}{id gf:Nat}{lb:List Value}(enc:α→List Value)(GP:α→List aL)(step:σ→α→σ)(JP:σ→List aL)(s0:σ)(S:σ→α→Y→List (Nat×Value))(JA:σ→α→Y→List aL){Hit:List aL}(Fin:σ→List aL→Prop)(ok:σ→α→Prop)
  (hds:E.ds=[]) (hg:ev F g=.func (.func gf) #[] lb.toArray) (hk:∃fn,P.funcs[gf]?=some fn∧(fn.name == "runtime.NumGoroutine")=false∧fn.body.isNone=false) (hps:∀x,(enc x).length=ps.length) (hN:∀p∈ps,p<N) (hH:aB E H (JP s0++Hit))
  (iter:∀M R' l (J:σ→aL),Sub E R' M→(∀E2 R2 s x,Sub M R2 E2→ok s x→Ps P E2 l (enc x) (J s::GP x) (λe H'=>e=.returned (.bool true)∧H'=[J (step s x)])) →
   aK P M gf (.func (.yield l) #[] #[]::lb).toArray (J s0::Hit) (λe H'=>(∃v,e=.returned v)∧∃s Hd,Fin s Hd∧H'=J s::Hd))
  (hassign:∀E2 R3 l s x,Sub E R3 E2→E2.ds=[]→ok s x→CI (some l) P N E2 assign (oQ (λF' H'=>∃y,nH F' (S s x y)∧aB E2 H' (JA s x y)) (λ_ _ _=>False)) (QX F ps (enc x)) (JP s++GP x))
  (hbody:∀E2 R3 l s x y G,Sub E R3 E2→E2.ds=[]→ok s x→CI (some l) P N E2 body (X0 E2 (JP (step s x))) (OQ (S s x y) G) (JA s x y))
  (hdone:∀D s Hd,Fin s Hd→WJ P N (E.jU [{ target:=.collected D,args:=#[] }]) tail Qw F (vD D::(JP s++Hd))) :
  WJ P N E (.block id (.rangeFunc g ps.toArray assign body)) (Exit.then (λa w=>tail.wpIn (fz none) 0 P Qw a w) Qw) F H:=by
 refine⟨λa w ha hw=>wpIn_block (wpIn_rangeFunc ?_)⟩;intro fn _;have had:a.defers=[]:=ha.defers.trans hds;obtain⟨rec,hrec⟩:∃rec:LoopState→Option Code→Loop,rec=λst pe=>{ state:=st,pending:=pe,fn,tmps:=a.tmps,params:=ps.toArray,assign,body,defers:=w.heap.size }:=⟨_,rfl⟩
 obtain⟨W0,hW0⟩:∃W0,w.alloc (.deferred (some []))=W0:=⟨_,rfl⟩
 obtain⟨W1,hW1⟩:∃W1,W0.alloc (.loop (rec .ready none))=W1:=⟨_,rfl⟩
 have hz:W0.heap.size=w.heap.size+1:=by rw[←hW0];simp
 have hs0:St E (vD w.heap.size::(JP s0++Hit)) W0:=by
  rw[←hW0];exact(hH w hw).newObj λF' h1 h2=>⟨h1,h2⟩
 have hs1:St E (By (w.heap.size+1) (rec .ready none)::vD w.heap.size::(JP s0++Hit)) W1:=by
  rw[←hW1];exact hs0.newObj λF' h1 h2=>⟨λb=>by rw[h1 b,hz],by rw[hz] at h2;exact h2⟩
 let J:σ→aL:=λi=>I0 (By (w.heap.size+1) (rec .ready none)::JP i)
 have hs2:St E ((J s0::Hit)++[vD w.heap.size]) W1:=by
  have h1:St E (By (w.heap.size+1) (rec .ready none)::(JP s0++Hit)++[vD w.heap.size]) W1:=by
   have:=St.swap (l:=By (w.heap.size+1) (rec .ready none)::(JP s0++Hit)) (a:=vD w.heap.size) (R:=[]) (E:=E) (w:=W1) (by
    have h2:=St.qH (l:=[By (w.heap.size+1) (rec .ready none)]) (a:=vD w.heap.size) (R:=JP s0++Hit) (E:=E) (w:=W1) hs1;simpa using h2)
   simpa using this
  refine St.I0.2 ?_;simpa using h1
 obtain⟨M,hds',hE,hst,hback⟩:=hs2.enter;obtain⟨gn,hf1,hf2,hf3⟩:=hk;refine⟨w.heap.size+1,[{ target:=.collected w.heap.size,args:=#[] }],W1,{ target:=.fn (.func gf) lb.toArray,args:=#[.func (.yield (w.heap.size+1)) #[] #[]] },W1,gf,
  #[.func (.yield (w.heap.size+1)) #[] #[]]++lb.toArray,W1,?_,?_,λ_ _=>trivial,?_,λhh=>(by cases hh),?_⟩
 ·rw[←hW1,←hW0,hrec];exact run_enterLoop_outer _ _ _ _ _
 ·rw[ha.eval];simp only[resolve,hg];simp[go_sem,ev]
 ·have h1:¬gn.name = "runtime.NumGoroutine" := by simpa using hf2
  have h2:¬gn.body=none:=by intro h;rw[h] at hf3;cases hf3
  simp[invoke,callFunc,hf1,h1,h2]
 ·have hargs : #[.func (.yield (w.heap.size+1)) #[] #[]]++lb.toArray=(Value.func (.yield (w.heap.size+1)) #[] #[]::lb).toArray:=by simp
  rw[hargs];refine wS ((iter M [vD w.heap.size] (w.heap.size+1) J hE ?_ hds' W1 hst).mono ?_)
  ·intro E2 R2 i x hE2 hok hd2 W hW;have hW':St E2 (By (w.heap.size+1) (rec .ready none)::(JP i++GP x)++[]) W:=by simpa using St.I0.1 hW
   have hy:=run_yield (P:=P) (args:=(enc x).toArray) (St.lp hW') (by rw[hrec];simp[hps]);rw[hrec] at hy;refine⟨fn,_,assign,body,hy,roundIn_of_wpIn trivial ?_⟩;obtain⟨E4,hd4,hE4,hst4,hback4⟩:=(St.swap hW').enter;have hr4:qX E4 N (QX F ps (enc x)) { tmps:=(ps.toArray.zip (enc x).toArray).foldl (λtmps (t,a)=>tmps.setIfInBounds t a) a.tmps,defers:=[] }:=by
    have h1:=qX.QX (E:=E4) (vs:=enc x) (F:=F) (t:=a.tmps) hN ⟨rfl,ha.size,ha.get⟩;rw[hd4] at h1;simpa using h1
   refine wpIn_mono ((hassign E4 _ (w.heap.size+1) i x ((hE.trans hE2).trans hE4) hd4 hok).get _ W hr4 hst4) ?_;intro e a1 w1 hq;cases e with
   |normal =>
    obtain⟨F1,H1,h1,h2,y,h3,h4⟩:=hq;have h6:=St.qH (hback4 _ _ (h4 w1 h2));refine⟨_,run_beginRound h6.lp (by rw[hrec]),?_⟩;obtain⟨E5,hd5,hE5,hst5,hback5⟩:=(St.swap (h6.Ft (r':={ rec .ready none with state:=.busy }))).enter;have hB:=hbody E5 _ (w.heap.size+1) i x y F1 ((hE.trans hE2).trans hE5) hd5 hok;rw[oH h3] at hB;refine wpIn_mono (hB.get _ _ ⟨h1.defers.trans (hd4.trans hd5.symm),h1.size,h1.get⟩ hst5) ?_;intro e a2 w2 hq2;cases e with
    |normal =>
     obtain⟨F2,H2,_,k2,k3⟩:=hq2;have k4:=St.qH (hback5 _ _ (k3.c w2 k2));refine⟨_,_,run_endRound none k4.lp,[J (step i x)],St.I0.2 ?_,rfl,rfl⟩;have k5:=k4.Ft (r':=rec .ready none);rw[hrec] at k5⊢;exact k5
    |exit id'=>obtain⟨_,_,_,_,h⟩:=hq2;exact h.elim
    |ret=>obtain⟨_,_,_,_,h⟩:=hq2;exact h.elim
    |panic c=>obtain⟨_,_,_,h⟩:=hq2;exact h.elim
    |_=>exact hq2.elim
   |ret=>obtain⟨_,_,_,_,h⟩:=hq;exact h.elim
   |exit id=>obtain⟨_,_,_,_,h⟩:=hq;exact h.elim
   |panic c=>obtain⟨_,_,_,h⟩:=hq;exact h.elim
   |_=>exact hq.elim
  ·rintro e w3 ⟨H',h1,⟨v,rfl⟩,s,Hd,hfin,rfl⟩;have h3:=hback _ _ h1;have hpn:∀st pe,(rec st pe).pending=pe:=λ_ _=>by rw[hrec]
   have h4:St E (By (w.heap.size+1) (rec .ready none)::(JP s++Hd++[vD w.heap.size])) w3:=by simpa using St.I0.1 h3
   have h5:=run_endLoop (P:=P) h4.lp (by rw[hrec];simp);rw[hpn] at h5;refine⟨none,_,h5,?_⟩;have h6:∀o,St (E.jU [{ target:=.collected w.heap.size,args:=#[] }]) (vD w.heap.size::(JP s++Hd)) (w3.putObj (w.heap.size+1) o):=λo=>by simpa using(St.qH (R:=[]) (h4.Ho (o:=o))).jU
   exact(hdone w.heap.size s Hd hfin).get _ _ ⟨by simp[had,Env.jU],ha.size,ha.get⟩ (h6 _)
end
end Go.Proofs.YtmilalkjbojciaaGreat.Sep
namespace Go.Proofs.YtmilalkjbojciaaGreat.Sep
open Go.RowKit Reg Oct
open Mem hiding Rd
theorem Eu(E:Env)(g:Nat)(made bad:Bool)(A:Option Addr)(n c:Nat) :
  aK prog E 296 #[Bs g] [pC g made bad A n c] λe H'=>e=.returned (.bool (!(made && !bad)))∧H'=[pC g made bad A n c]:=by
 refine t_ func296 ntmps296 ?_;repeat first|refine aE ?_|intro
 refine bK (λM=>mH M g made bad A n c) ?_;repeat first|refine aE ?_|intro
 exact B7
end Go.Proofs.YtmilalkjbojciaaGreat.Sep
namespace Go.Proofs.YtmilalkjbojciaaGreat.Dly
open Go.Proofs.YtmilalkjbojciaaGreat.Sep (dF)
def To(m:Int):Nat→Int→Int
 |0,w=>w
 |k+1,w=>min (2*To m k w) m
def wait(base dC n:Int):Int :=
 if n<1 then 0 else To (dF dC 1 64) ((min n 64 - 1).toNat) (min (dF base 1 64) (dF dC 1 64))
def due(base dC n last:Int):Int:=dF last 0 1073741824+wait base dC n
theorem tN(n lo hi:Int)(h:lo≤hi):lo≤dF n lo hi:=by unfold dF;split;omega;split<;>omega
theorem zG(n lo hi:Int)(h:lo≤hi):dF n lo hi≤hi:=by unfold dF;split;omega;split<;>omega
theorem Ip(m w:Int)(h1:1≤w)(h2:w≤m):∀k,1≤To m k w∧To m k w≤m
 |0=>⟨h1,h2⟩
 |k+1=>by have:=Ip m w h1 h2 k;unfold To;omega
theorem Rn(base dC n:Int):0≤wait base dC n∧wait base dC n≤64:=by
 unfold wait;split
 ·omega
 ·have hm1:=tN dC 1 64 o_;have hm2:=zG dC 1 64 o_;have hb1:=tN base 1 64 o_;have:=Ip (dF dC 1 64) (min (dF base 1 64) (dF dC 1 64)) o_ o_ ((min n 64 - 1).toNat);omega
end Go.Proofs.YtmilalkjbojciaaGreat.Dly
namespace Go.Proofs.YtmilalkjbojciaaGreat.Sep
open Go.RowKit Reg Dly
open Mem hiding Rd
section
variable (E:Env)
theorem Hx(n lo hi:Int):aK prog E 65 #[.int .i64 n,.int .i64 lo,.int .i64 hi] [] λe H'=>e=.returned (.int .i64 (dF n lo hi))∧H'=[]:=by
 refine t_ func65 ntmps65 ?_;unfold dF;by_cases h1:n<lo
 ·rw[if_pos h1];repeat first|refine aE ?_|intro
  exact B7
 ·rw[if_neg h1];by_cases h2:hi<n
  ·rw[if_pos h2];repeat first|refine aE ?_|intro
   exact B7
  ·rw[if_neg h2];repeat first|refine aE ?_|intro
   exact B7
theorem YW(base dC n:Int):aK prog E 363 #[.int .i64 base,.int .i64 dC,.int .i64 n] [] λe H'=>e=.returned (.int .i64 (wait base dC n))∧H'=[]:=by
 have hm1:=tN dC 1 64 o_;have hm2:=zG dC 1 64 o_;have hb1:=tN base 1 64 o_;have hb2:=zG base 1 64 o_;have hbd:=Ip (dF dC 1 64) (min (dF base 1 64) (dF dC 1 64)) o_ o_;refine t_ func363 ntmps363 ?_;repeat first|refine aE ?_|intro
 refine bK (λM=>Hx M dC 1 64) ?_;repeat first|refine aE ?_|intro
 refine bK (λM=>Hx M base 1 64) ?_;unfold wait;by_cases h:n<1
 ·rw[if_pos h];repeat first|refine aE ?_|intro
  exact B7
 rw[if_neg h];obtain⟨K,hK⟩:∃K:Nat,K=(min n 64 - 1).toNat:=⟨_,rfl⟩
 have hK2:min n 64 - 1=(K:Int):=o_;have hK3:K≤63:=o_;have hsub:IntKind.i64.wrap (min n 64 - 1)=(K:Int):=by rw[aAq _ o_];exact hK2
 rw[←hK];generalize dF dC 1 64=M_ at *;generalize hw:min (dF base 1 64) M_=w at *;repeat first|refine aE ?_|intro
 try rw[hw]
 refine C.loop (X:=Nat) (λk=>[(1,.int .i64 M_),(7,.int .i64 (To M_ k w)),(18,.int .i64 K),(19,.int .i64 k)]) (λ_=>[]) (λk=>k≤K) (λk=>K - k) 0 aD aB.refl (aAh _) ?_;rintro k G hk;have hb:=hbd k;by_cases hlt:k<K
 ·have hs:min (2*To M_ k w) M_=To M_ (k+1) w:=rfl;repeat first|refine aE ?_|intro
  rw[hs];exact⟨k+1,aD,aB.refl,by omega,by omega⟩
 ·obtain rfl:k=K:=o_;repeat first|refine aE ?_|intro
  exact B7
theorem Ze(base dC n last:Int):aK prog E 326 #[.int .i64 base,.int .i64 dC,.int .i64 n,.int .i64 last] [] λe H'=>e=.returned (.int .i64 (Dly.due base dC n last))∧H'=[]:=by
 have h1:=Rn base dC n;have h2:=tN last 0 1073741824 o_;have h3:=zG last 0 1073741824 o_;refine t_ func326 ntmps326 ?_;unfold Dly.due;repeat first|refine aE ?_|intro
 refine bK (λM=>Hx M last 0 1073741824) ?_;repeat first|refine aE ?_|intro
 refine bK (λM=>YW M base dC n) ?_;repeat first|refine aE ?_|intro
 exact B7
def IP(base dC n last now:Int):Bool:=decide (n<1)||decide (Dly.due base dC n last≤now)
theorem Vg(base dC n last now:Int):aK prog E 370 #[.int .i64 base,.int .i64 dC,.int .i64 n,.int .i64 last,.int .i64 now] [] λe H'=>e=.returned (.bool (IP base dC n last now))∧H'=[]:=by
 refine t_ func370 ntmps370 ?_;unfold IP;by_cases h:n<1
 ·rw[decide_eq_true h];repeat first|refine aE ?_|intro
  exact B7
 ·rw[decide_eq_false h];repeat first|refine aE ?_|intro
  refine bK (λM=>Ze M base dC n last) ?_;repeat first|refine aE ?_|intro
  exact B7
end
end Go.Proofs.YtmilalkjbojciaaGreat.Sep
