/- Part AK: what it needs. No condition. -/
import Derived.Test.YtmilalkjbojciaaGreatCAH
import Derived.Test.YtmilalkjbojciaaGreatCAJ
set_option linter.all false
set_option maxRecDepth 100000
set_option maxHeartbeats 8000000
open Go.Proofs.Tryz
namespace Go.Proofs.YtmilalkjbojciaaGreat.Sep
variable{E:Env}{P:t!}{Q:Ending->List aG->Prop}{R:List aG}{a:aL}{c:aI}{f:FuncId}{g:Nat}{h:Lh}{l:List aI}{ps:List bC}{v:Lg}
section
open Go.RowKit Reg
open Mem hiding Rd
abbrev sI:Lg:=⟨[],[],kZ,kZ⟩
def aAh(E:Env):G E 279 [] [] λe a=>∃h:Lh,h.os=[]/\Lf h sI/\e=.returned (pt h.g)/\a=eU h sI:=by
 refine p_ func279 ntmps279 ?_;intros
 rename_i b c;refine aX (H':=eU ⟨c,none,0,none,0,[],⟨fY,none,0,0⟩,b,none,0⟩ sI) rfl aJ ?_ ⟨⟨c,none,0,none,0,[],⟨fY,none,0,0⟩,b,none,0⟩,rfl,⟨rfl,rfl,by decide,(λ_ h=>(cZ h).elim),(λ_ h=>(cZ h).elim),by unfold V4.ok;decide,by unfold V4.ok;decide⟩,rfl,rfl⟩;unfold eU;dsimp only[iT,Bh.cs,Bk.cs,V4.cs,gQ,List.length_nil,k!,l!];exact aB.trans (aB.nil bO) (aB.trans (aB.nil bO) (aB.trans (aB.nil qF) (aB.trans (aB.nil eS) aC)))
section
variable (E:Env) (h:Lh) (v:Lg)
def WH(h:Lh)(v:Lg)(c:aI):Ending->List aG->Prop:=λe b=>∃(a:Lh) (o:Ov),a.g=h.g/\a.gt=h.gt/\a.T=h.T/\a.q=h.q/\a.os=h.os++[o]/\o.d=(oG h.y.b c).2/\a.y.b=(oG h.y.b c).1/\e=.returned (.tuple #[])/\b=eU a { v with l:=v.l++[c] }++[dZ o]
theorem aLu(f:Lf h v)(c:aI)(J:c.ok):G E 304 [pt h.g,.agg c.cs.toArray] (eU h v) (WH h v c):=by
 have m:=f.fit;have N:=f.len;have P:=f.n;have u:=cS;have run:=λM Q B d K=>Iw M h.y Q m B 1 d [c] K (λx R=>by obtain rfl:=eM.1 R;exact J) o_;unfold eU;dsimp only[iT,Bh.cs,Bk.cs,V4.cs,aI.cs,gQ,List.cons_append,List.nil_append,G] at run⊢;refine p_ func304 ntmps304 ?_;intros
 rename_i q;refine C.cW (X:=Nat×Bh×Option Addr×Nat×Ov) (λx=>[(0,pt h.g),(3,pt q),(4,pt x.1),(5,.slice x.2.2.1 1 x.2.2.2.1)])
  (λx=>[aE x.1 45 x.2.1.cs,gQ x.2.1,own qF x.2.2.1 1 x.2.2.2.1 [x.2.2.2.2],aT dZ [x.2.2.2.2],aE q 34 c.cs,aE h.g 153 (iT h v),own bO h.A v.l.length h.c v.l,own qF h.O h.os.length h.k h.os,aE h.gt 221 [.slice h.T v.t.length h.q],own bO h.T v.t.length h.q v.t])
  (λx=>x.2.2.2.2.d=(oG h.y.b c).2/\x.2.1.b=(oG h.y.b c).1) ?_ ?_
 ·refine rA (l_ [0,1,2,3,4] (.two 5 (.two 6 (l_ [7,8,9] (g_ 10 (g_ 11 (n_ 12 .nil)))) 10 (g_ 6 (l_ [7,8,9] (g_ 11 (n_ 12 .nil))))) 10 (g_ 5 (g_ 6 (l_ [7,8,9] (g_ 11 (n_ 12 .nil))))))) (a_ ?_)
  refine Dr.two ?_ ?_
  ·refine lJ.mK rfl (by rintro k ⟨⟩<;>decide) bB (S.pY (T:=bO) (e:=c) rfl rfl rfl rfl sD) ?_;rintro _ _ ⟨_,rfl,rfl⟩;refine⟨aC,?_⟩;refine a_ ?_
   refine Dr.two ?_ ?_
   ·refine lC rfl sD bB sK aH (λM W=>run M bK _ 1 bK) ?_;rintro e r ⟨y,O,k,n,a,g,rfl,rfl⟩;refine a_ ?_;intros
    obtain⟨o,rfl⟩:∃o,n=[o]:=Im.1 (by have:=congrArg List.length a;rwa [fB,BD] at this);dsimp only[iT,Bh.cs,Bk.cs,V4.cs,aI.cs,gQ,List.length_singleton,List.cons_append,List.nil_append];exact⟨(_,y,O,k,o),aK,aC,by simpa [fM] using a,g⟩
   ·refine a_ ?_;intros
    refine Da (λM j=>run M j _ 1) ?_;rintro e r ⟨y,O,k,n,a,g,rfl,rfl⟩;refine a_ ?_
    obtain⟨o,rfl⟩:∃o,n=[o]:=Im.1 (by have:=congrArg List.length a;rwa [fB,BD] at this);dsimp only[iT,Bh.cs,Bk.cs,V4.cs,aI.cs,gQ,List.length_singleton,List.cons_append,List.nil_append];exact⟨(_,y,O,k,o),aK,aC,by simpa [fM] using a,g⟩
  ·repeat ((fail_if_success (refine Dr.all (i:=5) ?_));first|refine w_ ?_|refine k_ ?_|intro _)
   refine Dr.mK rfl (by rintro k ⟨⟩<;>decide) bB (S.pY (T:=bO) (e:=c) rfl rfl rfl rfl sD) ?_;rintro _ _ ⟨_,rfl,rfl⟩;refine⟨aC,?_⟩;refine a_ ?_
   refine Da (λM j=>run M j _ 1) ?_;rintro e r ⟨y,O,k,n,a,g,rfl,rfl⟩;refine a_ ?_
   obtain⟨o,rfl⟩:∃o,n=[o]:=Im.1 (by have:=congrArg List.length a;rwa [fB,BD] at this);dsimp only[iT,Bh.cs,Bk.cs,V4.cs,aI.cs,gQ,List.length_singleton,List.cons_append,List.nil_append];exact⟨(_,y,O,k,o),aK,aC,by simpa [fM] using a,g⟩
 ·rintro⟨s,y,O,k,o⟩ U ⟨j,t⟩;dsimp only[iT,Bh.cs,Bk.cs,V4.cs,aI.cs,gQ,List.cons_append,List.nil_append] at j t⊢;refine C.Hw 19 (l_ [0,1,2,3,4,5,6,7,10,11,12,13,14,16] (g_ 8 (g_ 9 (g_ 15 (l_ [17,18] (g_ 19 (l_ [20,21] (g_ 22 (l_ [23,24] (g_ 25 .nil))))))))))
   [aE h.g 153 _,aE q 34 _,aE s 45 _] [aE q 34 c.cs,aE s 45 y.cs] q_ q_ aC ?_
  repeat (first|refine Dt.take rfl sD rfl bB kP kP ?_|refine Dt.gS rfl sD rfl q_ bB kP ?_)
  refine Dt.mK rfl (by rintro k ⟨⟩<;>decide) rfl bB (S.pY (T:=bO) (e:=c) rfl rfl rfl rfl sD) ?_;rintro _ _ ⟨_,rfl,rfl⟩;refine⟨aC,?_⟩;refine Dt.mK rfl (by rintro k ⟨⟩<;>decide) rfl bB uY ?_;rintro _ _ ⟨w,A,⟨_,_⟩,rfl,rfl⟩;refine⟨aC,?_⟩;refine Dt.mK rfl (by rintro k ⟨⟩<;>decide) rfl bB uY ?_;rintro _ _ ⟨z,D,⟨_,_⟩,rfl,rfl⟩;refine⟨aC,?_⟩;repeat (first|refine Dt.take rfl sD rfl bB kP kP ?_|refine Dt.gS rfl sD rfl q_ bB kP ?_)
  refine Dt.IK rfl (by rintro k ⟨⟩<;>decide) bB uY ?_;rintro _ _ ⟨rfl,rfl⟩;refine⟨aC,?_⟩;refine a_ ?_
  obtain⟨p,b⟩:∃p,p=(⟨h.g,w,A,z,D,h.os++[o],y,h.gt,h.T,h.q⟩:Lh):=⟨_,rfl⟩
  have F:(h.os++[o]).length=h.os.length+1:=by simp
  have H:(v.l++[c]).length=v.l.length+1:=by simp
  refine gG (H':=eU p { v with l:=v.l++[c] }++[dZ o]) rfl ?_ ⟨p,o,by rw[b],by rw[b],by rw[b],by rw[b],by rw[b],j,by rw[b];exact t,rfl,rfl⟩;rw[b];unfold eU;dsimp only[iT,Bh.cs,Bk.cs,V4.cs,gQ,List.cons_append,List.nil_append];rw[F,H];refine aB.trans (aB.out (f:=dZ) (l:=[o]) (i:=0) (x:=o) (by exact aV) rfl) ?_;exact aC
end
def V4.ss(x:V4)(v:Int):x.set 0 v=⟨v,x.b,x.c,x.d⟩/\x.set 1 v=⟨x.a,v,x.c,x.d⟩/\x.set 2 v=⟨x.a,x.b,v,x.d⟩/\x.set 3 v=⟨x.a,x.b,x.c,v⟩:=⟨rfl,rfl,rfl,rfl⟩
def yZ(l:List aI)(x:aI):List aI:=if eH l x.id<0 then pD l x else l
def nD(v:Lg)(c:aI):Lg×Int :=
 if 48<=v.l.length+v.t.length then(v,3)
 else if Ea v.known v.times c=false then(v,9)
 else if c.may=false then(v,4)
 else(⟨v.l,yZ v.t c,v.known.set c.id.rep c.id.seq,v.times.set c.id.rep c.time⟩,0)
def V6(h:Lh)(r:Lg×Int):Ending->List aG->Prop:=λe b=>∃a:Lh,a.g=h.g/\a.os=h.os/\a.y=h.y/\e=.returned (a! r.2)/\b=eU a r.1
section
variable (E:Env) (h:Lh) (v:Lg)
theorem H?(f:Lf h v)(c:aI)(x:c.ok):G E 256 [pt h.g,.agg c.cs.toArray] (eU h v) (V6 h (nD v c)):=by
 have t:=f.len;have q:=cS;have n:=λM hb=>Ar M h v hb;have g:=λM hb u=>VP M h.gt h.T v.t.length h.q v.t hb u;have d:=λM=>aDn M v.known v.times c f.known;have put:∀M,G M 302 [pt h.gt,.agg c.cs.toArray] [aE h.gt 221 [.slice h.T v.t.length h.q],own bO h.T v.t.length h.q v.t]
   (λe j=>∃A k,e=.returned (.bool (decide (eH v.t c.id<0)))/\j=[aE h.gt 221 [.slice A (yZ v.t c).length k],own bO A (yZ v.t c).length k (yZ v.t c)]):=λM=>aJm M h.gt h.T v.t.length h.q v.t c o_
 have check:=λM=>Du M c;unfold eU nD;dsimp only[iT,Bh.cs,Bk.cs,V4.cs,aI.cs,gQ,List.cons_append,List.nil_append,G] at n d put check⊢;by_cases p:48<=v.l.length+v.t.length
 ·rw[if_pos p];refine t_ func256 ntmps256 ?_;refine a_ ?_;intros
  refine cV n ?_;refine a_ ?_
  refine rA (l_ [0,1,2,3,4,5,6,7,8,9] (g_ 10 (l_ [11,12,13] .nil))) ?_;refine a_ ?_
  refine vN g ?_;refine a_ ?_
  exact aX (H':=eU h v) rfl aJ (by unfold eU;dsimp only[iT,Bh.cs,Bk.cs,V4.cs,gQ,List.cons_append,List.nil_append];exact aC) ⟨h,rfl,rfl,rfl,rfl,rfl⟩
 ·rw[if_neg p];rcases tF (Ea v.known v.times c) with m|m
  ·rw[if_neg (show ¬Ea v.known v.times c=false by rw[m];decide)];rw[m] at d;rcases tF c.may with l|l
   ·rw[if_neg (show ¬c.may=false by rw[l];decide)];rw[l] at check;have i:=(aI.eY c).1 l;refine t_ func256 ntmps256 ?_;refine a_ ?_;intros
    refine cV n ?_;refine a_ ?_
    refine rA (l_ [0,1,2,3,4,5,6,7,8,9] (g_ 10 (l_ [11,12,13] .nil))) ?_;refine a_ ?_
    refine vN g ?_;refine a_ ?_
    refine rA (l_ [0,1,2,3,4,5,6,7,8] (g_ 9 (l_ [10,11] .nil))) ?_;refine a_ ?_
    refine cP d ?_;refine a_ ?_
    refine aP check ?_;refine a_ ?_
    rename_i o;refine rB (l_ [0,1,2,3,4] (g_ 5 .nil)) ([aE h.g 153 _,aE o 34 _]) ?_;refine a_ ?_
    refine eI put ?_;rintro e j ⟨A,k,rfl,rfl⟩;refine a_ ?_
    generalize yZ v.t c=w;refine rB (l_ [0,1,2,3,4,5,6,7,8,9,10,11,12,13,14,15,17,18] (g_ 16 (n_ 19 (g_ 20 .nil)))) ([aE o 34 _]) ?_;refine a_ ?_
    obtain⟨⟨r,s⟩,z,y,a,b,nn,rf⟩:=c;dsimp only at i⊢;rcases four ⟨i.1.1,i.1.2.1⟩ with rfl|rfl|rfl|rfl
    all_goals
     refine a_ ?_
     simp only[Int.reduceToNat,Nat.reduceAdd,List.set_cons_succ,List.set_cons_zero];refine a_ ?_
     refine aX (H':=eU ⟨h.g,h.A,h.c,h.O,h.k,h.os,h.y,h.gt,A,k⟩ ⟨v.l,w,_,_⟩) rfl aJ ?_ ⟨⟨h.g,h.A,h.c,h.O,h.k,h.os,h.y,h.gt,A,k⟩,rfl,rfl,rfl,rfl,rfl⟩;unfold eU;simp only[V4.ss v.known,V4.ss v.times];dsimp only[iT,Bh.cs,Bk.cs,V4.cs,gQ,List.cons_append,List.nil_append];exact aC
   ·rw[if_pos l];rw[l] at check;refine t_ func256 ntmps256 ?_;refine a_ ?_;intros
    refine cV n ?_;refine a_ ?_
    refine rA (l_ [0,1,2,3,4,5,6,7,8,9] (g_ 10 (l_ [11,12,13] .nil))) ?_;refine a_ ?_
    refine vN g ?_;refine a_ ?_
    refine rA (l_ [0,1,2,3,4,5,6,7,8] (g_ 9 (l_ [10,11] .nil))) ?_;refine a_ ?_
    refine cP d ?_;refine a_ ?_
    refine aP check ?_;refine a_ ?_
    exact aX (H':=eU h v) rfl aJ (by unfold eU;dsimp only[iT,Bh.cs,Bk.cs,V4.cs,gQ,List.cons_append,List.nil_append];exact aC) ⟨h,rfl,rfl,rfl,rfl,rfl⟩
  ·rw[if_pos m];rw[m] at d;refine t_ func256 ntmps256 ?_;refine a_ ?_;intros
   refine cV n ?_;refine a_ ?_
   refine rA (l_ [0,1,2,3,4,5,6,7,8,9] (g_ 10 (l_ [11,12,13] .nil))) ?_;refine a_ ?_
   refine vN g ?_;refine a_ ?_
   refine rA (l_ [0,1,2,3,4,5,6,7,8] (g_ 9 (l_ [10,11] .nil))) ?_;refine a_ ?_
   refine cP d ?_;refine a_ ?_
   exact aX (H':=eU h v) rfl aJ (by unfold eU;dsimp only[iT,Bh.cs,Bk.cs,V4.cs,gQ,List.cons_append,List.nil_append];exact aC) ⟨h,rfl,rfl,rfl,rfl,rfl⟩
end
def pM(v:Lg)(a:aL):Lg×Int :=
 if eH v.t a<0 then(v,14)
 else if qL v.t a=false then(v,9)
 else(⟨v.l++[(v.t[(eH v.t a).toNat]?).getD kU],xJ v.t a,v.known,v.times⟩,0)
def V9(h:Lh)(_v:Lg)(r:Lg×Int):Ending->List aG->Prop:=λe b=>∃(a:Lh) (new:List Ov),a.g=h.g/\a.os=h.os++new/\Lf a r.1/\e=.returned (a! r.2)/\b=eU a r.1++[aT dZ new]
section
variable (E:Env) (h:Lh) (v:Lg)
def aBq(b:c∈xJ l a):c∈l:=by
 unfold xJ at b;split at b
 ·unfold BT at b;split at b
  ·rcases eL.1 b with h|h
   ·exact mD h
   ·exact CZ h
  ·exact b
 ·exact b
def aNa(h:qL l a=true):0<=eH l a/\(eH l a).toNat<l.length/\(xJ l a).length+1=l.length:=by
 have b:0<=eH l a:=by unfold qL at h;simp only[fI,h!] at h;exact h.1
 have c:=(CD b).1;have d:(eH l a).toNat<l.length:=c;refine⟨b,d,?_⟩;unfold xJ;rw[c! h];unfold BT;rw[c! ⟨b,o_⟩];simp only[bR,dR,lB];omega
theorem aQd(f:Lf h v)(a:aL):G E 257 [pt h.g,.agg a.cs.toArray] (eU h v) (V9 h v (pM v a)):=by
 have a8:=f.len;have W:=cS;obtain⟨j,i⟩:=a;have N:=λM hb=>Ar M h v hb;have all:=λM hb hr=>GF M h.gt h.T v.t.length h.q v.t hb hr o_;have take:=λM=>aHd M h.gt h.T v.t.length h.q v.t j i o_;obtain⟨s,w⟩:∃c,c=(if qL v.t ⟨j,i⟩ then(v.t[(eH v.t ⟨j,i⟩).toNat]?).getD kU else kU):=⟨_,rfl⟩
 obtain⟨q,g⟩:∃t,t=xJ v.t ⟨j,i⟩:=⟨_,rfl⟩
 rw[<-w,<-g] at take;have r:∀H,aB E H (aT dZ []::H):=λH=>aB.pK dZ;unfold eU pM;dsimp only[iT,Bh.cs,Bk.cs,V4.cs,aL.cs,aI.cs,gQ,List.cons_append,List.nil_append,G] at N take⊢;by_cases U:eH v.t ⟨j,i⟩<0
 ·rw[if_pos U];refine t_ func257 ntmps257 ?_;refine a_ ?_;intros
  refine cV N ?_;refine a_ ?_
  refine rA (l_ [0,1,2,3,5] (g_ 4 (g_ 6 (n_ 7 .nil)))) ?_;refine a_ ?_
  refine Da all ?_;rintro e p ⟨B,d,hd,rfl,rfl⟩;refine a_ ?_
  refine aX (H':=eU h v++[aT dZ []]) rfl aJ (aB.trans (r _) ?_) ⟨h,[],rfl,by simp,f,rfl,rfl⟩;unfold eU;dsimp only[iT,Bh.cs,Bk.cs,V4.cs,gQ,List.cons_append,List.nil_append];exact aC
 ·rw[if_neg U];refine t_ func257 ntmps257 ?_;refine a_ ?_;intros
  refine cV N ?_;refine a_ ?_
  refine rA (l_ [0,1,2,3,5] (g_ 4 (g_ 6 (n_ 7 .nil)))) ?_;refine a_ ?_
  refine Da all ?_;rintro e p ⟨B,d,hd,rfl,rfl⟩;refine a_ ?_
  rename_i g3;obtain⟨fr,n⟩:∃b,b=qL v.t ⟨j,i⟩:=⟨_,rfl⟩
  rw[<-n] at take;refine C.cW (X:=Nat×Option Addr×Nat) (λx=>[(0,pt h.g),(5,pt x.1),(6,.bool fr)])
   (λx=>[aE x.1 34 s.cs,aE h.gt 221 [.slice x.2.1 q.length x.2.2],own bO x.2.1 q.length x.2.2 q,aE h.g 153 (iT h v),own bO h.A v.l.length h.c v.l,own qF h.O h.os.length h.k h.os,gQ h.y]) (λ_=>True) ?_ ?_
  ·refine rB (l_ [0,1,2,3,4] (.two 5 (l_ [6,7,8] (g_ 9 (g_ 10 (n_ 11 .nil)))) 9 (g_ 5 (l_ [6,7,8] (g_ 10 (n_ 11 .nil)))))) ([aE h.g 153 _,aE g3 32 _]) ?_;refine a_ ?_
   refine Dr.two ?_ ?_
   ·refine lC rfl sD bB sK aH (λM hE=>take M) ?_;rintro e p ⟨A,k,rfl,rfl⟩;refine a_ ?_;intros
    dsimp only[iT,Bh.cs,Bk.cs,V4.cs,aI.cs,gQ,List.cons_append,List.nil_append];exact⟨(_,A,k),aK,aC,trivial⟩
   ·refine a_ ?_;intros
    refine eI take ?_;rintro e p ⟨A,k,rfl,rfl⟩;refine a_ ?_
    dsimp only[iT,Bh.cs,Bk.cs,V4.cs,aI.cs,gQ,List.cons_append,List.nil_append];exact⟨(_,A,k),aK,aC,trivial⟩
  ·rintro⟨g5,A,k⟩ Gf _;dsimp only[iT,Bh.cs,Bk.cs,V4.cs,aI.cs,gQ,List.cons_append,List.nil_append];rw[<-n];rcases tF fr with u|u
   ·have m:qL v.t ⟨j,i⟩=true:=by rw[<-n,u]
    obtain⟨q1,Z,q3⟩:=aNa m;rw[<-g] at q3;have y:s=(v.t[(eH v.t ⟨j,i⟩).toNat]?).getD kU:=by rw[w,if_pos m]
    have z:s∈v.t:=by rw[y,bS Z];exact zL Z
    have R:Lf ⟨h.g,h.A,h.c,h.O,h.k,h.os,h.y,h.gt,A,k⟩ ⟨v.l,q,v.known,v.times⟩:=⟨f.outs,f.base,by dsimp only;omega,f.B4,λc hc=>f.tok c (aBq (g▸hc)),f.known,f.times⟩
    have more:=λM=>aLu M _ _ R s (f.tok _ z);subst u;rw[if_neg (show ¬true=false by decide),<-y,<-g];unfold eU at more;dsimp only[iT,Bh.cs,Bk.cs,V4.cs,aI.cs,gQ,List.cons_append,List.nil_append] at more;refine a_ ?_
    refine rB (l_ [0,1,2,3] (g_ 4 .nil)) ([aE g5 34 _]) ?_;refine a_ ?_
    refine eI more ?_;rintro e p ⟨J,o,O,e2,e3,e4,F,P,Q,rfl,rfl⟩;dsimp only at O e2 e3 e4 F P Q;unfold eU;dsimp only[iT,Bh.cs,Bk.cs,V4.cs,aI.cs,gQ,List.cons_append,List.nil_append];refine a_ ?_
    have f2:Lf J ⟨v.l++[s],q,v.known,v.times⟩:=by
     refine⟨?_,?_,?_,?_,R.tok,f.known,f.times⟩
     ·dsimp only;rw[F,gP,f.outs,H4];simp only[jL,tI,P,f.base,fM]
     ·dsimp only;rw[Q,H4,f.base];rfl
     ·dsimp only;simp only[bR,xU];omega
     ·intro x D;rcases eL.1 D with D|D
      ·exact f.B4 x D
      ·obtain rfl:=eM.1 D;exact f.tok _ z
    refine aX (H':=eU J ⟨v.l++[s],q,v.known,v.times⟩++[aT dZ [o]]) rfl aJ (aB.trans (r _) (aB.trans (aB.push (f:=dZ) (l:=[]) (x:=o) aH) ?_)) ⟨J,[o],O,F,f2,rfl,rfl⟩;unfold eU;dsimp only[iT,Bh.cs,Bk.cs,V4.cs,gQ,List.cons_append,List.nil_append];exact aC
   ·have m:qL v.t ⟨j,i⟩=false:=by rw[<-n,u]
    have K:q=v.t:=by rw[g];unfold xJ;rw[if_neg (by rw[m];decide)]
    subst u;rw[if_pos rfl];refine a_ ?_
    refine aX (H':=eU ⟨h.g,h.A,h.c,h.O,h.k,h.os,h.y,h.gt,A,k⟩ v++[aT dZ []]) rfl aJ (aB.trans (r _) ?_) ⟨⟨h.g,h.A,h.c,h.O,h.k,h.os,h.y,h.gt,A,k⟩,[],rfl,by simp,⟨f.outs,f.base,f.len,f.B4,f.tok,f.known,f.times⟩,rfl,rfl⟩;unfold eU;rw[K];dsimp only[iT,Bh.cs,Bk.cs,V4.cs,gQ,List.cons_append,List.nil_append];exact aC
end
def aF.read{args:Array p!}{Hr:List aG}{Q0:Ending->List aG->Prop}(h:∀M,Sub E Hr M->aF P M f args [] Q0):aF P E f args Hr (λe g=>∃b,Q0 e b/\g=b++Hr):=by
 intro l w m;have⟨M,c,k,d,a⟩:=St.enter (Hp:=[]) (R:=Hr) m;exact(h M k c w d).mono λe n ⟨b,i,j⟩=>⟨b++Hr,a _ _ i,b,j,rfl⟩
def eW(g:Nat)(v:Lg)(os:List Ov):aG:=pack λ(h:Lh)=>mS (h.g=g/\h.os=os/\Lf h v)::eU h v
theorem eW.mk(f:Lf h v):aB E (eU h v++R) (eW h.g v h.os::R):=λw e=>by
 have c:St E (mS (h.g=h.g/\h.os=h.os/\Lf h v)::eU h v++R) w:=aB.qH ⟨rfl,rfl,f⟩ w e;exact c.conv λF d=>by
  have⟨a,b,k1,k2,k3,k4⟩:=jU.1 d;exact⟨F,⟨a,b,k1,k2,⟨h,k3⟩,k4⟩,λ_ h=>h⟩
def eW.out{os:List Ov}{w:World}(f:St E (eW g v os::R) w):∃h:Lh,h.g=g/\h.os=os/\Lf h v/\St E (eU h v++R) w:=by
 have⟨h,d⟩:=f.unpack (l:=λ(h:Lh)=>mS (h.g=g/\h.os=os/\Lf h v)::eU h v) Has.aR;have a:=St.qH (H:=_) (R:=_) d Has.aR;refine⟨h,a.1,a.2.1,a.2.2,d.conv λF c=>?_⟩;have⟨i,e,k1,k2,k3,k4⟩:=c;exact⟨e,k4,λb hb=>(k1 b).2 (.inr hb)⟩
def xX.of{M:Env}(a:Sub E (eU h v) M):xX M h v:=by
 unfold eU at a;exact⟨gX.of a aV,bK,bK,bK,gX.of a aV,bK⟩
def DE{args:Array p!}{os:List Ov}{Q0:Ending->List aG->Prop}(p:∀M h,xX M h v->Lf h v->h.g=g->h.os=os->(∀A n c T l,Rd (α:=bE) E T A n c l->Rd M T A n c l)->aF prog M f args [] Q0) :
  aF prog E f args [eW g v os] (λe q=>∃d,Q0 e d/\q=d++[eW g v os]):=by
 intro o w B;obtain⟨h,rfl,rfl,s,a⟩:=eW.out B;have a:St E (eU h v) w:=by simpa using a
 have:=(aF.read (P:=prog) (E:=E) (f:=f) (args:=args) (Hr:=eU h v) (Q0:=Q0) λM r=>p M h (xX.of r) s rfl rfl λA n c T l z=>z.sub r) o w a;exact this.mono λe t ⟨q,i,d,j,u⟩=>⟨d++[eW h.g v h.os],by
  subst u;have x:St E (eU h v++d) t:=i.conv λF a=>by
   have⟨k,m,k1,k2,k3,k4⟩:=jU.1 a;exact⟨F,jU.2 ⟨m,k,λb=>by rw[k1 b];exact Or.comm,λb i j=>k2 b j i,k4,k3⟩,λ_ h=>h⟩
  have y:=eW.mk s t x;exact y.conv λF a=>by
   have⟨k,m,k1,k2,k3,k4⟩:=a;exact⟨F,jU.2 ⟨m,k,λb=>by rw[k1 b];exact Or.comm,λb i j=>k2 b j i,k4,⟨k,λ_=>False,λb=>by simp,λ_ _ h=>h,k3,λ_ h=>h⟩⟩,λ_ h=>h⟩,d,j,rfl⟩
theorem aF.post{args:Array p!}{H:List aG}{Q':Ending->List aG->Prop}(h:aF P E f args H Q)(hq:∀e H',Q e H'->∃H2,aB E H' H2/\Q' e H2):aF P E f args H Q' :=
 λhd w hw=>(h hd w hw).mono λe w' ⟨H',h1,h2⟩=>let ⟨H2,hc,hq2⟩:=hq e H' h2;⟨H2,hc w' h1,hq2⟩
def Sj{args:Array p!}{os:List Ov}(h:∀h:Lh,h.g=g->h.os=os->Lf h v->aF prog E f args (eU h v) Q):aF prog E f args [eW g v os] Q:=by
 intro a w j;have⟨b,d,e,c,i⟩:=eW.out j;exact h b d e c a w (by simpa using i)
def P7{x:aI}(h:x∈pD l c):x=c\/x∈l:=by
 unfold pD at h;simp only[eL,eM] at h;rcases h with(h|h)|h
 ·exact .inr (mD h)
 ·exact .inl h
 ·exact .inr (CZ h)
def V4.Us{v:V4}(h:v.ok){i x:Int}(a:0<=x)(b:x<=1073741824):(v.set i x).ok:=by
 unfold V4.ok V4.set at *;repeat' split
 all_goals (dsimp only;omega)
def z?{b:Lh}(f:Lf h v)(i:c.ok)(l:b.os=h.os)(m:b.y=h.y):Lf b (nD v c).1:=by
 have same:Lf b v:=⟨by rw[l];exact f.outs,by rw[m];exact f.base,f.len,f.B4,f.tok,f.known,f.times⟩;unfold nD;split
 ·exact same
 split
 ·exact same
 split
 ·exact same
 ·rename_i n d e;have j:c.may=true:=by simpa using e
  have k:=(aI.eY c).1 j;refine⟨same.outs,same.base,?_,f.B4,?_,V4.Us f.known o_ o_,V4.Us f.times o_ o_⟩
  ·dsimp only;unfold yZ;split
   ·rw[IC];omega
   ·exact f.len
  ·intro x a;dsimp only at a;unfold yZ at a;split at a
   ·rcases P7 a with rfl|a
    ·exact i
    ·exact f.tok x a
   ·exact f.tok x a
section
variable (E:Env) (g:Nat) (v:Lg) (os:List Ov)
def aQk:G E 279 [] [] λe a=>∃g,e=.returned (pt g)/\a=[eW g sI []] :=
 aF.post (aAh E) λe a ⟨h,f,d,c,b⟩=>⟨_,by subst b;have:=eW.mk (E:=E) (R:=[]) d;rw[aY,f] at this;exact this,h.g,c,rfl⟩
def NG:G E 16 [pt g] [eW g v os] λe a=>∃B k,(v.l.length<=k/\k<=maxLen)/\e=.returned (.slice B v.l.length k)/\a=[own bO B v.l.length k v.l,eW g v os]:=by
 refine aF.mono (DE (Q0:=λe a=>∃B k,(v.l.length<=k/\k<=maxLen)/\e=.returned (.slice B v.l.length k)/\a=[own bO B v.l.length k v.l]) λM h r f c _ _=>by subst c;exact aKp M h v r f) ?_;rintro e a ⟨d,⟨B,k,b,rfl,rfl⟩,rfl⟩;exact⟨B,k,b,rfl,rfl⟩
def J2:G E 40 [pt g] [eW g v os] λe a=>∃B k,(v.t.length<=k/\k<=maxLen)/\e=.returned (.slice B v.t.length k)/\a=[own bO B v.t.length k v.t,eW g v os]:=by
 refine aF.mono (DE (Q0:=λe a=>∃B k,(v.t.length<=k/\k<=maxLen)/\e=.returned (.slice B v.t.length k)/\a=[own bO B v.t.length k v.t]) λM h r f c _ _=>by subst c;exact aEf M h v r f) ?_;rintro e a ⟨d,⟨B,k,b,rfl,rfl⟩,rfl⟩;exact⟨B,k,b,rfl,rfl⟩
def aHh:G E 18 [pt g] [eW g v os] λe a=>∃y:Bh,y.b=(fM fY (v.l++v.t)).1/\e=.returned (.agg y.cs.toArray)/\a=[gQ y,eW g v os]:=by
 refine aF.mono (DE (Q0:=λe a=>∃y:Bh,y.b=(fM fY (v.l++v.t)).1/\e=.returned (.agg y.cs.toArray)/\a=[gQ y]) λM h r f c _ _=>by subst c;exact aFx M h v r f) ?_;rintro e a ⟨d,⟨y,b,rfl,rfl⟩,rfl⟩;exact⟨y,b,rfl,rfl⟩
def Sc:G E 96 [pt g] [eW g v os] λe a=>e=.returned (.agg (xK (v.l++v.t)).cs.toArray)/\a=[eW g v os]:=by
 refine aF.mono (DE (Q0:=λe a=>e=.returned (.agg (xK (v.l++v.t)).cs.toArray)/\a=[]) λM h r f b _ _=>by subst b;exact aIk M h v r f) ?_;rintro e a ⟨c,⟨rfl,rfl⟩,rfl⟩;exact⟨rfl,rfl⟩
def V?:G E 97 [pt g] [eW g v os] λe a=>e=.returned (a! (Bx v))/\a=[eW g v os]:=by
 refine aF.mono (DE (Q0:=λe a=>e=.returned (a! (Bx v))/\a=[]) λM h r f b _ _=>by subst b;exact U? M h v r f) ?_;rintro e a ⟨c,⟨rfl,rfl⟩,rfl⟩;exact⟨rfl,rfl⟩
def aRy:G E 115 [pt g] [eW g v os] λe a=>e=.returned (.tuple #[.agg ((v.t[0]?).getD kU).id.cs.toArray,.bool (!v.t.isEmpty)])/\a=[eW g v os]:=by
 refine aF.mono (DE (Q0:=λe a=>e=.returned (.tuple #[.agg ((v.t[0]?).getD kU).id.cs.toArray,.bool (!v.t.isEmpty)])/\a=[]) λM h r f b _ _=>by subst b;exact aSf M h v r f) ?_;rintro e a ⟨c,⟨rfl,rfl⟩,rfl⟩;exact⟨rfl,rfl⟩
def SY:G E 73 [pt g] [eW g v os] λe b=>∃c,e=.returned (pt c)/\b=[eW c v os,eW g v os]:=by
 refine aF.post (DE (Q0:=λe b=>∃a:Lh,a.os=os/\Lf a v/\e=.returned (pt a.g)/\b=eU a v) λM h r f d i _=>?_) ?_
 ·subst d;refine aF.mono (Y? M h v r f) ?_;rintro e b ⟨a,k1,k2⟩;exact⟨a,k1.trans i,k2⟩
 ·rintro e b ⟨j,⟨a,k1,k2,k3,rfl⟩,rfl⟩;have:=eW.mk (E:=E) (R:=[eW g v os]) k2;rw[k1] at this;exact⟨_,this,a.g,k3,rfl⟩
def Sm(i:nN E os)(a:aL):G E 110 [pt g,.agg a.cs.toArray] [eW g v os] λe b=>∃o:Ov,o.d=(iZ v a).1/\e=.returned (.tuple #[.agg o.cs.toArray,.bool (iZ v a).2.1,.bool (iZ v a).2.2])/\b=[dZ o,eW g v os]:=by
 refine aF.mono (DE (Q0:=λe b=>∃o:Ov,o.d=(iZ v a).1/\e=.returned (.tuple #[.agg o.cs.toArray,.bool (iZ v a).2.1,.bool (iZ v a).2.2])/\b=[dZ o]) λM h r f k c d=>?_) ?_
 ·subst k;exact aHj M h v r f (by rw[c];exact λo c=>d _ _ _ _ _ (i o c)) a
 ·rintro e b ⟨l,⟨o,j,rfl,rfl⟩,rfl⟩;exact⟨o,j,rfl,rfl⟩
def G?(c:aI)(a:c.ok):G E 256 [pt g,.agg c.cs.toArray] [eW g v os] (bL (a! (nD v c).2) [eW g (nD v c).1 os]):=by
 refine Sj λh d f b=>?_;subst d;refine aF.post (H? E h v b c a) ?_;rintro e i ⟨j,k1,k2,k3,k4,rfl⟩;have:=eW.mk (E:=E) (R:=[]) (z? b a k2 k3);rw[aY,k1,k2,f] at this;exact⟨_,this,k4,rfl⟩
def Z?(a:aL):G E 257 [pt g,.agg a.cs.toArray] [eW g v os] λe b=>∃new:List Ov,e=.returned (a! (pM v a).2)/\b=[eW g (pM v a).1 (os++new),aT dZ new]:=by
 refine Sj λh d f c=>?_;subst d;refine aF.post (aQd E h v c a) ?_;rintro e b ⟨i,new,k1,k2,k3,k4,rfl⟩;have:=eW.mk (E:=E) (R:=[aT dZ new]) k3;rw[k1,k2,f] at this;exact⟨_,this,new,k4,rfl⟩
end
def aF.lR{args:Array p!}{Hp:List aG}(h:∀M,Sub E R M->aF P M f args Hp Q):aF P E f args (Hp++R) (λe i=>∃b,Q e b/\i=b++R):=by
 intro m w n;have⟨M,c,l,d,a⟩:=n.enter;exact(h M l c w d).mono λe o ⟨b,j,k⟩=>⟨b++R,a _ _ j,b,k,rfl⟩
structure Df where
 B:Option Addr
 d:Nat
 ls:List cM
structure De(x:Df)(r:Int)(ps:List bC):Prop where
 ok:oU r x.ls
 ps:x.ls.map cM.s=ps
 cap:x.ls.length<=x.d/\x.d<=maxLen
def eF(g:Nat)(r:Int)(ps:List bC):aG:=pack λ(x:Df)=>mS (De x r ps)::jA g x.B x.ls.length x.d r x.ls
theorem eF.mk{r:Int}{x:Df}(f:De x r ps):aB E (jA g x.B x.ls.length x.d r x.ls++R) (eF g r ps::R):=λw e=>by
 have c:St E (mS (De x r ps)::jA g x.B x.ls.length x.d r x.ls++R) w:=aB.qH f w e;exact c.conv λF d=>by
  have⟨a,b,k1,k2,k3,k4⟩:=jU.1 d;exact⟨F,⟨a,b,k1,k2,⟨x,k3⟩,k4⟩,λ_ h=>h⟩
def eF.out{r:Int}{w:World}(f:St E (eF g r ps::R) w):∃x:Df,De x r ps/\St E (jA g x.B x.ls.length x.d r x.ls++R) w:=by
 have⟨x,c⟩:=f.unpack (l:=λ(x:Df)=>mS (De x r ps)::jA g x.B x.ls.length x.d r x.ls) Has.aR;have e:=St.qH (H:=_) (R:=_) c Has.aR;refine⟨x,e,c.conv λF a=>?_⟩;have⟨h,d,k1,k2,k3,k4⟩:=a;exact⟨d,k4,λb hb=>(k1 b).2 (.inr hb)⟩
def Bz{args:Array p!}{r:Int}(h:∀x:Df,De x r ps->aF prog E f args (jA g x.B x.ls.length x.d r x.ls) Q):aF prog E f args [eF g r ps] Q:=by
 intro a w d;have⟨x,b,c⟩:=eF.out d;exact h x b a w (by simpa using c)
def By(ps:List bC)(s:Int)(w:List bE):List bC:=if 1<=s/\s<=(ps.length:Int)+1 then sQ ps (s - 1).toNat w else ps
def AD(r:Int)(ps:List bC)(k:bV)(now:Int):List bC×Bool :=
 if k.id.rep=r/\1<=k.id.seq/\k.id.seq<=(ps.length:Int) then
  (ps.set (k.id.seq - 1).toNat (if (ps.getD (k.id.seq - 1).toNat s0).iI k.id k then(ps.getD (k.id.seq - 1).toNat s0).dK k.id now else ps.getD (k.id.seq - 1).toNat s0),
   (ps.getD (k.id.seq - 1).toNat s0).iI k.id k&&(rL k.id (ps.getD (k.id.seq - 1).toNat s0).made (ps.getD (k.id.seq - 1).toNat s0).l (ps.getD (k.id.seq - 1).toNat s0).w now).isSome)
 else(ps,false)
def Aq(r:Int)(ps:List bC)(k:bV):List bC×Bool :=
 if k.id.rep=r/\1<=k.id.seq/\k.id.seq<=(ps.length:Int) then
  (ps.set (k.id.seq - 1).toNat ((ps.getD (k.id.seq - 1).toNat s0).cR k.id k),(dN k.id (ps.getD (k.id.seq - 1).toNat s0).l k).isSome)
 else(ps,false)
section
variable (E:Env) (g:Nat) (r:Int) (ps:List bC)
def aIe:G E 264 [a! r] [] λe a=>∃g,e=.returned (pt g)/\a=[eF g r []]:=by
 refine aF.post (Sd E r) ?_;rintro e a ⟨g,rfl,rfl⟩;have h:=eF.mk (E:=E) (R:=[]) (g:=g) (x:=⟨none,0,[]⟩) (r:=r) (ps:=[]) ⟨(λi e h=>by cases h),rfl,by decide,by decide⟩;refine⟨_,aB.trans (aB.trans (aB.nil iF) (aB.trans (aB.pK fU) (aB.pK iA))) (aB.trans ?_ h),g,rfl,rfl⟩;exact aB.cC (.cons (.bJ (.bJ (.bJ .aR))) (.cons (.bJ (.bJ .aR)) (.cons (.bJ .aR) (.cons .aR .nil))))
def aPy(p:ps.length<=1000)(s:Int)(X:n!)(nx cx:Nat)(w:List bE)(q:Rd E eT X nx cx w)(t:nx<=8)(k:∀f∈w,f.ok) :
  G E 308 [pt g,a! s,.slice X nx cx] [eF g r ps] λe c=>(∃b,e=.returned (.bool b))/\c=[eF g r (By ps s w)]:=by
 refine Bz λx a=>?_;have y:x.ls.length=ps.length:=by rw[<-a.ps,fB]
 unfold By;by_cases h:1<=s/\s<=(ps.length:Int)+1;rw[c! h];have⟨i,o⟩:∃i:Nat,s=((i+1:Nat):Int):=⟨(s - 1).toNat,o_⟩;subst o;have j:(((i+1:Nat):Int) - 1).toNat=i:=o_;rw[j];refine aF.post (aFc E g x.B x.ls.length x.d r x.ls i o_ o_ rfl a.cap a.ok X nx cx w q t k) ?_;rintro e c ⟨m,z,n,l,rfl,k1,rfl,k3,k4,rfl⟩;rw[a.ps] at k4;have d:=eF.mk (E:=E) (R:=[]) (g:=g) (x:=⟨m,n,l⟩) (r:=r) ⟨k1,k4,k3⟩;rotate_left;rw[b! h];refine aF.post (aF.lR (Hp:=[lg g x.B x.ls.length x.d r]) λM v=>aMm M g x.B x.ls.length x.d r s (.slice X nx cx) o_ o_) ?_;rintro e c ⟨u,⟨rfl,rfl⟩,rfl⟩;have d:=eF.mk (E:=E) (R:=[]) (g:=g) a;rw[aY] at d;all_goals
  exact⟨_,d,⟨_,rfl⟩,rfl⟩
def NK{x:Df}(f:De x r ps){k:bV}(h:k.id.rep=r/\1<=k.id.seq/\k.id.seq<=(ps.length:Int)):∃e,x.ls[(k.id.seq - 1).toNat]?=some e/\(k.id.seq - 1).toNat<x.ls.length/\e.id=k.id/\k.id.seq=(((k.id.seq - 1).toNat+1:Nat):Int)/\ps.getD (k.id.seq - 1).toNat s0=e.s:=by
 have l:x.ls.length=ps.length:=by rw[<-f.ps,fB]
 have c:(k.id.seq - 1).toNat<x.ls.length:=o_;have d:x.ls[(k.id.seq - 1).toNat]?=some x.ls[(k.id.seq - 1).toNat]:=bS c;refine⟨_,d,c,?_,o_,?_⟩
 ·rw[(f.ok _ _ d).id];have⟨⟨a,b⟩,o,u⟩:=k;dsimp only at h⊢;obtain⟨rfl,i,j⟩:=h;congr 1;omega
 ·rw[<-f.ps,qS,mM,d];rfl
def aGz(p:ps.length<=1000)(k:bV)(now:Int)(d:bQ now):G E 259 [pt g,.agg k.cs.toArray,a! now] [eF g r ps] (bL (.bool (AD r ps k now).2) [eF g r (AD r ps k now).1]):=by
 refine Bz λx a=>?_;have o:x.ls.length=ps.length:=by rw[<-a.ps,fB]
 unfold AD;by_cases h:k.id.rep=r/\1<=k.id.seq/\k.id.seq<=(ps.length:Int);rw[c! h];have⟨e,n,i,c,j,s⟩:=NK r ps a h;rw[s];have f:=aQw E g x.B x.ls.length x.d r x.ls (k.id.seq - 1).toNat o_ i a.ok n k.ord k.cJ now d;rw[<-j,show(⟨e.id,k.ord,k.cJ⟩:bV)=k by rw[c],c] at f;have⟨q,_,_⟩:=h;subst q;refine aF.post f ?_;rintro u m ⟨l,rfl,k1,k2,k3,rfl⟩;rw[a.ps] at k3;have b:=eF.mk (E:=E) (R:=[]) (g:=g) (x:=⟨x.B,x.d,l⟩) (r:=k.id.rep) ⟨k1,k3,by dsimp only;rw[k2];exact a.cap⟩;dsimp only at b;rw[k2,aY] at b;rotate_left;rw[b! h];refine aF.post (aF.lR (Hp:=[lg g x.B x.ls.length x.d r]) λM v=>aCw M g x.B x.ls.length x.d r k now o_ (by rw[o];exact h)) ?_;rintro e m ⟨t,⟨rfl,rfl⟩,rfl⟩;have b:=eF.mk (E:=E) (R:=[]) (g:=g) a;rw[aY] at b;all_goals
  exact⟨_,b,rfl,rfl⟩
def E?(o:ps.length<=1000)(k:bV):G E 260 [pt g,.agg k.cs.toArray] [eF g r ps] (bL (.bool (Aq r ps k).2) [eF g r (Aq r ps k).1]):=by
 refine Bz λx a=>?_;have n:x.ls.length=ps.length:=by rw[<-a.ps,fB]
 unfold Aq;by_cases h:k.id.rep=r/\1<=k.id.seq/\k.id.seq<=(ps.length:Int);rw[c! h];have⟨e,m,f,c,i,q⟩:=NK r ps a h;rw[q];have d:=D? E g x.B x.ls.length x.d r x.ls (k.id.seq - 1).toNat o_ f a.ok m k.ord k.cJ;rw[<-i,show(⟨e.id,k.ord,k.cJ⟩:bV)=k by rw[c],c] at d;have⟨p,_,_⟩:=h;subst p;refine aF.post d ?_;rintro t l ⟨j,rfl,k1,k2,k3,rfl⟩;rw[a.ps] at k3;have b:=eF.mk (E:=E) (R:=[]) (g:=g) (x:=⟨x.B,x.d,j⟩) (r:=k.id.rep) ⟨k1,k3,by dsimp only;rw[k2];exact a.cap⟩;dsimp only at b;rw[k2,aY] at b;rotate_left;rw[b! h];refine aF.post (aF.lR (Hp:=[lg g x.B x.ls.length x.d r]) λM u=>F? M g x.B x.ls.length x.d r k o_ (by rw[n];exact h)) ?_;rintro e l ⟨s,⟨rfl,rfl⟩,rfl⟩;have b:=eF.mk (E:=E) (R:=[]) (g:=g) a;rw[aY] at b;all_goals
  exact⟨_,b,rfl,rfl⟩
end
end
section
open Oct
def nY(l:List aI):o!:=(l.map aI.put).flatten
theorem Fy(l:List aI):(nY l).length=22*l.length:=by
 induction l with
 |nil=>rfl
 |cons c l a =>
  have:nY (c::l)=c.put++nY l:=rfl;rw[this,bR,c.iP,a,gL];omega
theorem Ny(c:aI)(l:List aI):nY (c::l)=c.put++nY l:=rfl
def aHm(l:List aI)(c:aI):nY (l++[c])=nY l++c.put:=by simp[nY]
def jN(l:List aI):o!:=UInt8.ofNat l.length::nY l
def pieces:Nat->o!->Option (List aI)
 |0,_=>some []
 |k+1,t=>match rW (t.take 22),pieces k (t.drop 22) with
  |some c,some l=>some (c::l)
  |_,_=>none
def YL:o!->Option (List aI)
 | []=>none
 |h::t=>if h.toNat<=48/\t.length=22*h.toNat then pieces h.toNat t else none
theorem No{k:Nat}{t:o!}(h:pieces k t=some l)(o:t.length=22*k):l.length=k/\nY l=t/\l.all aI.may=true/\∀c∈l,c.ok:=by
 induction k generalizing t l with
 |zero =>
  injection h with h;subst h;exact⟨rfl,(wF o_).symm,rfl,λ_ a=>by cases a⟩
 |succ k e =>
  unfold pieces at h;split at h
  ·rename_i c p a b;injection h with h;subst h;have⟨f,g,i,j⟩:=e b (by simp;omega);have⟨_,m,n,d⟩:=QM a;grind [Ny,List.take_append_drop]
  ·cases h
theorem Tj(a:l.all aI.may=true)(b:∀c∈l,bQ c.n):pieces l.length (nY l)=some l:=by
 induction l with
 |nil=>rfl
 |cons c l e =>
  simp at a;rw[gL,pieces,Ny,qT c.iP,rQ c.iP,MM a.1 (b c s_),e (by grind) λx d=>b x (by simp[d])]
def QW(a:l.length<=48)(b:l.all aI.may=true)(d:∀c∈l,bQ c.n):YL (jN l)=some l:=by
 have e:(UInt8.ofNat l.length).toNat=l.length:=by simp;omega
 show(if (UInt8.ofNat l.length).toNat<=48/\(nY l).length=22*(UInt8.ofNat l.length).toNat then pieces (UInt8.ofNat l.length).toNat (nY l) else none)=some l
 grind [Fy,Tj]
theorem HB(l:List aI):(jN l).length=1+22*l.length:=by grind [jN,Fy]
end
section
def O4{o:Out}(h:o.fit)(b:Bool):(∀f∈qM o b,f.ok)/\(qM o b).length<=8:=by
 have c:∀l:List bE,(l.filter Ao).length+(l.filter AB).length<=l.length:=by
  intro l
  induction l with
  |nil=>exact bM _
  |cons x l g =>
   grind [Ao]
 have d:=c o.lP;have e:=h.len;unfold qM;split
 ·refine⟨λf a=>?_,?_⟩
  ·rcases eL.1 a with a|a
   ·exact h.lP f (uI.1 a).1
   ·split at a
    ·exact h.lP f (uI.1 a).1
    ·exact(cZ a).elim
  ·rw[bR];split
   ·omega
   ·simp only[tH];omega
 ·exact⟨λ_ h=>(cZ h).elim,bY _⟩
theorem aBd:(⟨0,[]⟩:Out).fit:=⟨λ_ h=>(cZ h).elim,bY _⟩
def SV(b:∀c∈v.l,c.ok)(d:∀c∈v.t,c.ok)(a:aL):(iZ v a).1.fit:=by
 grind [aBd,List.mem_of_getElem?,iZ,EP,Bf,List.mem_of_mem_take]
theorem SW(h:(iZ v a).2.2=true):∃c∈v.l++v.t,c.id=a:=by
 unfold iZ at h;split at h
 ·rename_i b;have⟨_,x,e,d⟩:=CD b;grind
 ·split at h
  ·rename_i b;have⟨_,x,e,d⟩:=CD b;grind
  ·cases h
def Np{r:Int}{n:Nat}(h:∀q:Nat,q<n->∃c∈l,c.id=⟨r,((q+1:Nat):Int)⟩):n<=l.length:=by
 induction n generalizing l with
 |zero=>exact bY _
 |succ n g =>
  have⟨c,b,e⟩:=h n (Nat.lt_succ_self n);have⟨i,m,o⟩:=oV b;have j:n<=(l.eraseIdx i).length:=g λq f=>by
   have⟨d,k,a⟩:=h q (Nat.lt_succ_of_lt f)
   grind [List.getElem_of_mem,List.mem_eraseIdx_iff_getElem]
  grind
def oR(v:Lg)(r:Int)(q:Nat):Option (List bE):=if (iZ v ⟨r,((q+1:Nat):Int)⟩).2.2 then some (qM (iZ v ⟨r,((q+1:Nat):Int)⟩).1 (iZ v ⟨r,((q+1:Nat):Int)⟩).2.1) else none
def wK(v:Lg)(r:Int):Nat->Nat->List bC->List bC
 |0,_,ps=>ps
 |k+1,q,ps=>match oR v r q with
  |none=>ps
  |some w=>wK v r k (q+1) (By ps ((q+1:Nat):Int) w)
def aTe{i:Nat}{w:List bE}:(sQ ps i w).length<=max ps.length (ps.length+1)/\(i<ps.length->(sQ ps i w).length=ps.length):=by
 grind [sQ]
def aHi{q:Nat}{w:List bE}{n:Nat}(h:ps.length<=n)(a:q+1<=n):(By ps ((q+1:Nat):Int) w).length<=n:=by
 grind [By,sQ]
def aL.small(a:aL):Prop:=(0<=a.rep/\a.rep<=255)/\0<=a.seq/\a.seq<=65535
structure Wk.dI(w:Wk):Prop where
 out:∀f∈w.out,f.check=0
 ref:w.ref.small
def jZ{f:bE}(c:1<=f.kind/\f.kind<=11)(b:0<=f.a/\f.a<=255)(a:f.ref.small):f.check=0:=by
 unfold bE.check;rw[c! c,c! ⟨b,a.1,a.2⟩]
def Wk.dI.tell{w:Wk}(h:w.dI)(b a k:Int)(d:1<=b/\b<=11)(e:0<=a/\a<=255):(w.tell b a k).dI :=
 ⟨λf c=>by
  rcases eL.1 c with c|c
  ·exact h.out f c
  ·obtain rfl:=eM.1 c;exact jZ d e h.ref,h.ref⟩
theorem cG.AG{w:Wk}{r:Bk×Int}(a:w.dI):cG Wk.dI (w.iU r):=by
 unfold Wk.iU;split
 ·exact cG.ok ⟨a.out,a.ref⟩
 ·exact cG.error
def cG.Hg{w:Wk}(d:w.dI)(hb:w.b.fit)(c:a.small)(st:List Int):cG (λp=>Wk.dI p.1/\p.2.fit) (w.order a st):=by
 have⟨q,b⟩:∃q,q=qZ w.b a st:=⟨_,rfl⟩;have⟨o,k⟩:=q;rw[show w.order a st=_ from yR b];split
 ·exact cG.ok ⟨⟨d.out,c⟩,hb.Ay o (KH b ‹_›)⟩
 ·exact cG.error
def i7{x:Int}(h:0<=x/\x<=7):0<=x/\x<=255:=o_
def Wk.Yl{w:Wk}(i:w.dI)(hb:w.b.fit)(t:c.may=true):cG Wk.dI (w.do c):=by
 have⟨k,v,u,r,s,n,q⟩:=(aI.eY c).1 t;have d:c.ref.small:=⟨n,q⟩;have l:c.id.small:=⟨⟨k.1,o_⟩,o_,k.2.2.2⟩;unfold Wk.do;split
 ·grind [cG.ask,cG.AG]
 split
 ·exact cG.ask λ_=>(cG.AG i).bind λx e=>cG.pure (e.tell _ _ _ sD r)
 split
 ·refine cG.ask λhp=>?_;have iI:0<=AL w.b c/\AL w.b c<=255:=by
   grind [AL]
  refine(cG.AG i).bind λx e=>(cG.AG e).bind λy g=>?_;exact cG.pure (Wk.dI.tell (Wk.dI.tell (w:={ y with ref:=c.id }) ⟨g.out,l⟩ _ _ _ sD iI) _ _ _ sD r)
 split
 ·refine cG.ask λhp=>?_;refine(cG.Hg i hb d _).bind λp b=>?_;have⟨j,o⟩:=p;have⟨f,a⟩:=b;dsimp only at f a⊢;have h:∀x:Wk,x.dI->cG Wk.dI (pure ((x.put { o with dL:=c.n } 1).tell 2 o.item c.n)):=λx e=>cG.pure (Wk.dI.tell (w:=x.put { o with dL:=c.n } 1) ⟨e.out,e.ref⟩ _ _ _ sD (i7 a.item));split
  all_goals
   exact(cG.AG f).bind λx e=>h x e
 split
 ·refine(cG.Hg i hb d _).bind λp b=>?_;have⟨j,o⟩:=p;have⟨f,a⟩:=b;dsimp only at f a⊢;refine(cG.AG f).bind λx e=>?_;have m:=e.tell 3 o.item o.dL sD (i7 a.item);have h:∀y:Wk,y.dI->cG Wk.dI (pure ((y.put o 4).tell 7 o.dX 2)):=λy g=>cG.pure (Wk.dI.tell (w:=y.put o 4) ⟨g.out,g.ref⟩ _ _ _ sD (i7 a.dX));split
  ·refine cG.bind (p:=Wk.dI) ?_ λy g=>h y g;exact(cG.AG m).bind λy g=>cG.pure (g.tell _ _ _ sD (i7 a.dX))
  ·exact cG.bind (p:=Wk.dI) (cG.ok m) λy g=>h y g
 split
 ·refine(cG.Hg i hb d _).bind λp b=>?_;have⟨j,o⟩:=p;have⟨f,a⟩:=b;dsimp only at f a⊢;split
  ·exact cG.error
  ·refine(cG.AG f).bind λx e=>?_;exact cG.pure (Wk.dI.tell (Wk.dI.tell (w:=x.put { o with cost:=(yY j.b o.item o.dL).1 } 2) ⟨e.out,e.ref⟩ _ _ _ sD (i7 a.dX)) _ _ _ sD (i7 a.dX))
 split
 ·refine(cG.Hg i hb d _).bind λp b=>?_;have⟨j,o⟩:=p;have⟨f,a⟩:=b;dsimp only at f a⊢;exact cG.pure ((((Wk.dI.tell (w:=j.put o 3) ⟨f.out,f.ref⟩ _ _ _ sD (i7 a.item)).tell _ _ _ sD (i7 a.item)).tell _ _ _ sD (i7 a.item)).tell _ _ _ sD (i7 a.dX))
 split
 ·refine(cG.Hg i hb d _).bind λp b=>?_;have⟨j,o⟩:=p;have⟨f,a⟩:=b;dsimp only at f a⊢;refine(cG.AG f).bind λx e=>?_;exact cG.pure (Wk.dI.tell (w:=x.put o 5) ⟨e.out,e.ref⟩ _ _ _ sD (i7 a.dX))
 grind [cG.AG,cG.error]
def Out.dI(o:Out):Prop:=∀f∈o.lP,f.check=0
theorem Yi{b:Bk}(h:b.fit)(a:c.may=true):(oG b c).2.dI:=by
 have e:Wk.dI ⟨b,[],⟨0,0⟩⟩:=⟨(λ_ h=>(cZ h).elim),(show aL.small ⟨0,0⟩ by unfold aL.small;decide)⟩
 unfold oG;cases d:Wk.do ⟨b,[],⟨0,0⟩⟩ c with
 |ok w=>exact(Wk.Yl e h a w d).out
 |error k=>exact λ_ h=>(cZ h).elim
theorem UJ{b:Bk}(h:b.fit)(d:∀c∈l,c.ok)(g:∀c∈l,c.may=true):∀o∈(fM b l).2,o.dI:=by
 induction l generalizing b with
 |nil=>exact λ_ h=>by cases h
 |cons c l i =>
  have f:=Qm h (d c jW);have j:=i f.1 (λx a=>d x (kF _ a)) λx a=>g x (kF _ a);intro o e;rcases tK.1 e with rfl|e
  all_goals grind [Yi,List.mem_cons_self]
def B?(g:∀c∈v.l,c.ok)(j:∀c∈v.t,c.ok)(d:∀c∈v.l,c.may=true)(e:∀c∈v.t,c.may=true)(a:aL):(iZ v a).1.dI:=by
 have f:∀ {l:List Out} {i:Nat},(∀o∈l,o.dI)->(l[i]?.getD ⟨0,[]⟩).dI:=by
  intro l i h;cases b:l[i]? with
  |none=>exact λ_ h=>(cZ h).elim
  |some o=>exact h o (dG b)
 unfold iZ;split
 ·grind [UJ,Bf]
 split
 ·grind [UJ,EP,Bf,List.mem_of_mem_take]
 ·exact λ_ h=>(cZ h).elim
def aCt{o:Out}(h:o.dI)(b:Bool):∀f∈qM o b,f.check=0:=by
 unfold qM;split
 ·intro f a;rcases eL.1 a with a|a
  ·exact h f (uI.1 a).1
  ·split at a
   ·exact h f (uI.1 a).1
   ·grind
 ·grind
end
end Go.Proofs.YtmilalkjbojciaaGreat.Sep
