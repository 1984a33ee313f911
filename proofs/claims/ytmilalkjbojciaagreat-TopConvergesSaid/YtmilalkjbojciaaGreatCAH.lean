/- Part AH: what it needs. No condition. -/
import Derived.Test.YtmilalkjbojciaaGreatCAF
import Derived.Test.YtmilalkjbojciaaGreatCAG
set_option linter.all false
set_option maxRecDepth 100000
set_option maxHeartbeats 8000000
open Go.Proofs.Tryz
namespace Go.Proofs.YtmilalkjbojciaaGreat.Sep
variable{E:Env}{F:Nat->p!}{P:t!}{R:List aG}{X:Type}{k:Int}{l:List aI}{o:dM}{x:Int}
section
open Go.RowKit Reg
open Mem hiding Rd
theorem IA(b:Bk)(i n:Int):(sU b i n).2=0->(sU b i n).1.bG=b.bG:=by
 unfold sU;split
 ·split;all_goals
   intro h;first|rfl|cases h
 ·intro h;cases h
theorem EW(b:Bk)(i n:Int):(tZ b i n).2=0->(tZ b i n).1.bG=b.bG:=by
 unfold tZ;split
 ·split;all_goals
   intro h;first|rfl|cases h
 ·intro h;cases h
theorem KU(b:Bk)(i n:Int):(yS b i n).2=0->(yS b i n).1.bG=b.bG:=by
 unfold yS;split
 ·split;all_goals
   intro h;first|rfl|cases h
 ·intro h;cases h
def KH{b:Bk}{a:aL}{st:List Int}(h:(o,k)=qZ b a st)(f:k=0):o∈b.bG:=by
 subst f;unfold qZ at h;cases d:Aw b a with
 |none=>rw[d] at h;cases h
 |some x =>
  rw[d] at h;dsimp only at h;split at h
  ·injection h with e i;subst e;unfold Aw at d;split at d
   ·exact dG d
   ·cases d
  ·cases h
section
variable (E:Env) (w:Wk) (ch:aI) (g:Nat) (A:n!) (m c:Nat) (X:n!) (n x:Nat)
theorem Wg(hm:m<=1000)(hn:n<=900)(hb:w.b.ok)(hoq:∀o∈w.b.bG,0<=o.dL/\o.dL<=1000):G E 319 [.pointer (some ⟨g,0,none⟩),.agg ch.cs.toArray] (kT g w A m c X n x) (fR (w.I7 ch) (Dn g)):=by
 unfold Wk.I7 Ae;have⟨q,hq⟩:∃q,q=qZ w.b ch.ref [1]:=⟨_,rfl⟩
 have⟨o,k⟩:=q;rw[show w.order ch.ref [1]=_ from yR hq];dsimp only[aI.cs,kT,k!,l!,G];refine p_ func319 ntmps319 ?_;intros
 refine mN sD sK aH (λM hE=>xZ M _ _) ?_;rintro e H' ⟨he,rfl⟩;by_cases ha:1<=ch.n/\ch.n<=1000
 ·rw[c! (d! ha)] at he;subst he;rw[c! (d! ha)];refine .inl ⟨_,rfl,_,bU,(a_ ?_)⟩;intros
  refine mN sD sK aH (λM hE=>Hh M w g A m c X n x bK ch.ref.rep ch.ref.seq _ 1 1 [1] bK) ?_;rw[yR hq];by_cases h:k=0
  ·rw[c! h];try rw[c! h]
   dsimp only[fR,bind,Except.bind];rintro e H' ⟨rfl,rfl⟩;refine .inl ⟨_,rfl,_,bU,?_⟩;dsimp only[dM.cs];have hq1:=hoq o (KH hq h);repeat ((fail_if_success (refine C.seq (x:=Code.region 5 _ _) ?_));first|refine mV ?_|refine k_ ?_|intro _|refine Dr.two ?_ ?_)
   by_cases hs:0<=ch.n - o.dL
   ·rw[c! hs];have⟨r,hr⟩:∃r,r=sU w.b o.item (ch.n - o.dL):=⟨_,rfl⟩
    rw[<-hr];have lmr:=λM=>yM M ⟨w.b,w.out,ch.ref⟩ r g A A m c m c X n x;have lfr:=λM=>OS M w.b A m c o.item (ch.n - o.dL) hb;rw[<-hr] at lfr;dsimp only[dM.cs,Wk.cs,Bk.cs,k!,l!] at lmr lfr⊢;refine a_ ?_
    refine C.fL 11 (l_ [0,1,2,3,4,5,6,7] (g_ 8 (l_ [9,10] (g_ 11 .nil)))) _ q_ q_ aB.refl (a_ ?_)
    refine y_ lfr ?_
    refine yA rfl sD bB sK aH (λM hE=>lmr M) ?_;unfold Wk.iU;by_cases kr:r.2=0
    ·rw[c! kr];try rw[c! kr]
     have hor:r.1.bG=w.b.bG:=by rw[hr] at kr⊢;exact IA _ _ _ kr
     dsimp only[fR,bind,Except.bind];rintro e H' ⟨rfl,rfl⟩;refine .inl ⟨_,rfl,_,bU,(a_ ?_)⟩
     have⟨b1,hb1⟩:∃b',b'=lT r.1 ⟨o.id,o.dX,o.item,ch.n,o.cost,1⟩:=⟨_,rfl⟩
     have pu1:=λM=>Ej M ⟨r.1,w.out,ch.ref⟩ ⟨o.id,o.dX,o.item,ch.n,o.cost,o.state⟩ 1 g A m c X n x;dsimp only[Wk.put] at pu1;rw[<-hb1] at pu1;dsimp only[Wk.tell,dM.cs,Wk.cs,Bk.cs,k!,l!] at pu1;rw[hor] at pu1;refine C_ (λM h1=>pu1 M h1 hm) ?_;intro B1 d1 hd1
     have tl2:=λM=>uA M ⟨b1,w.out,ch.ref⟩ 2 o.item ch.n g B1 b1.bG.length d1 X n x o_;dsimp only[Wk.tell,Wk.cs,Bk.cs,k!,l!] at tl2;refine u_ tl2 ?_;intro X2 x2 hx2
     unfold Wk.put Wk.tell;dsimp only;rw[<-hb1];refine gG rfl (H':=[aE g 369 _,own eS B1 b1.bG.length d1 b1.bG,own eT X2 (n+1) x2 (w.out++[⟨2,o.item,ch.n,ch.ref⟩])]) ?_ ⟨B1,b1.bG.length,d1,X2,(n+1),x2,rfl,rfl⟩;exact aB.cC (.cons .aR (.cons (.bJ .aR) (.cons .aR .nil)))
    ·rw[b! kr];try rw[b! kr]
     dsimp only[fR,bind,Except.bind];rintro e H' ⟨rfl,rfl⟩;exact .inr ⟨_,rfl,[],aC,rfl,rfl⟩
   ·rw[b! hs,show o.dL - ch.n = -(ch.n - o.dL) by omega];have⟨r,hr⟩:∃r,r=tZ w.b o.item (-(ch.n - o.dL)):=⟨_,rfl⟩
    rw[<-hr];have lmr:=λM=>yM M ⟨w.b,w.out,ch.ref⟩ r g A A m c m c X n x;have lfr:=λM=>OP M w.b A m c o.item (-(ch.n - o.dL)) hb;rw[<-hr] at lfr;dsimp only[dM.cs,Wk.cs,Bk.cs,k!,l!] at lmr lfr⊢;refine a_ ?_
    refine C.fL 12 (l_ [0,1,2,3,4,5,6,7,8] (g_ 9 (l_ [10,11] (g_ 12 .nil)))) _ q_ q_ aB.refl (a_ ?_)
    refine y_ lfr ?_
    refine yA rfl sD bB sK aH (λM hE=>lmr M) ?_;unfold Wk.iU;by_cases kr:r.2=0
    ·rw[c! kr];try rw[c! kr]
     have hor:r.1.bG=w.b.bG:=by rw[hr] at kr⊢;exact EW _ _ _ kr
     dsimp only[fR,bind,Except.bind];rintro e H' ⟨rfl,rfl⟩;refine .inl ⟨_,rfl,_,bU,(a_ ?_)⟩
     have⟨b1,hb1⟩:∃b',b'=lT r.1 ⟨o.id,o.dX,o.item,ch.n,o.cost,1⟩:=⟨_,rfl⟩
     have pu1:=λM=>Ej M ⟨r.1,w.out,ch.ref⟩ ⟨o.id,o.dX,o.item,ch.n,o.cost,o.state⟩ 1 g A m c X n x;dsimp only[Wk.put] at pu1;rw[<-hb1] at pu1;dsimp only[Wk.tell,dM.cs,Wk.cs,Bk.cs,k!,l!] at pu1;rw[hor] at pu1;refine C_ (λM h1=>pu1 M h1 hm) ?_;intro B1 d1 hd1
     have tl2:=λM=>uA M ⟨b1,w.out,ch.ref⟩ 2 o.item ch.n g B1 b1.bG.length d1 X n x o_;dsimp only[Wk.tell,Wk.cs,Bk.cs,k!,l!] at tl2;refine u_ tl2 ?_;intro X2 x2 hx2
     unfold Wk.put Wk.tell;dsimp only;rw[<-hb1];refine gG rfl (H':=[aE g 369 _,own eS B1 b1.bG.length d1 b1.bG,own eT X2 (n+1) x2 (w.out++[⟨2,o.item,ch.n,ch.ref⟩])]) ?_ ⟨B1,b1.bG.length,d1,X2,(n+1),x2,rfl,rfl⟩;exact aB.cC (.cons .aR (.cons (.bJ .aR) (.cons .aR .nil)))
    ·rw[b! kr];try rw[b! kr]
     dsimp only[fR,bind,Except.bind];rintro e H' ⟨rfl,rfl⟩;exact .inr ⟨_,rfl,[],aC,rfl,rfl⟩
  ·rw[b! h];dsimp only[fR,bind,Except.bind];rintro e H' ⟨rfl,rfl⟩;exact .inr ⟨_,rfl,[],aC,rfl,rfl⟩
 ·rw[b! (by simpa using ha)] at he;subst he;rw[b! (by simpa using ha)];exact .inr ⟨_,rfl,[],aC,rfl,rfl⟩
end
def O8.sF{x:O8}{hi:Int}(h:x.nC hi)(i v:Int)(a:0<=v)(b:v<=hi):(x.set i v).nC hi:=by
 unfold O8.nC O8.set at *;repeat' split
 all_goals (dsimp only;omega)
def O8.HL{x:O8}{hi:Int}(h:x.nC hi)(i:Int):0<=x.get i/\x.get i<=hi:=by
 unfold O8.nC O8.get at *;repeat' split
 all_goals omega
def tW{w:Wk}{r:Bk×Int}(h:r.2=0):w.iU r=.ok ⟨r.1,w.out,w.ref⟩:=by unfold Wk.iU;rw[c! h]
def tV{w:Wk}{r:Bk×Int}(h:r.2≠0):w.iU r=.error r.2:=by unfold Wk.iU;rw[b! h]
def aFd{b:Bk}(hb:b.ok)(i n:Int):(sU b i n).2=0->(sU b i n).1.ok:=by
 have⟨a,d,e⟩:=hb;have f:=O8.HL (x:=b.kQ) (hi:=1099511627776) (by assumption) i;unfold sU;split
 ·split;all_goals
   intro h;first|exact⟨O8.sF a _ _ o_ o_,d,e⟩|exact⟨a,d,O8.sF e _ _ o_ o_⟩|cases h
 ·intro h;cases h
def Uw{b:Bk}(hb:b.ok)(i n:Int):(tZ b i n).2=0->(tZ b i n).1.ok:=by
 have⟨a,d,e⟩:=hb;have f:=O8.HL (x:=b.kQ) (hi:=1099511627776) (by assumption) i;unfold tZ;split
 ·split;all_goals
   intro h;first|exact⟨O8.sF a _ _ o_ o_,d,e⟩|exact⟨a,d,O8.sF e _ _ o_ o_⟩|cases h
 ·intro h;cases h
def aOr{b:Bk}(hb:b.ok)(i n:Int):(tX b i n).2=0->(tX b i n).1.ok:=by
 have⟨a,d,e⟩:=hb;have f:=O8.HL (x:=b.jB) (hi:=1099511627776) (by assumption) i;unfold tX;split
 ·split;all_goals
   intro h;first|exact⟨O8.sF a _ _ o_ o_,d,e⟩|exact⟨a,d,O8.sF e _ _ o_ o_⟩|cases h
 ·intro h;cases h
def aMq{b:Bk}(hb:b.ok)(i n:Int):(yS b i n).2=0->(yS b i n).1.ok:=by
 have⟨a,d,e⟩:=hb;have f:=O8.HL (x:=b.jB) (hi:=1099511627776) (by assumption) i;unfold yS;split
 ·split;all_goals
   intro h;first|exact⟨O8.sF a _ _ o_ o_,d,e⟩|exact⟨a,d,O8.sF e _ _ o_ o_⟩|cases h
 ·intro h;cases h
section
variable (E:Env) (w:Wk) (ch:aI) (g:Nat) (A:n!) (m c:Nat) (X:n!) (n x:Nat)
def Xl(hm:m<=1000)(hn:n<=900)(hb:w.b.ok):G E 320 [.pointer (some ⟨g,0,none⟩),.agg ch.cs.toArray] (kT g w A m c X n x) (fR (w.cancel ch) (Dn g)):=by
 unfold Wk.cancel;have⟨q,hq⟩:∃q,q=qZ w.b ch.ref [1,2]:=⟨_,rfl⟩;have⟨o,k⟩:=q;rw[show w.order ch.ref [1,2]=_ from yR hq];dsimp only[aI.cs,kT,k!,l!,G];refine p_ func320 ntmps320 ?_;intros;refine mN sD sK aH (λM hE=>Hh M w g A m c X n x bK ch.ref.rep ch.ref.seq _ 2 2 [1,2] bK) ?_;rw[yR hq];by_cases h:k=0
 ·rw[c! h];try rw[c! h]
  dsimp only[fR,bind,Except.bind];rintro e l ⟨rfl,rfl⟩;refine .inl ⟨_,rfl,_,bU,?_⟩;dsimp only[dM.cs];have⟨r,P⟩:∃z,z=tZ w.b o.item o.dL:=⟨_,rfl⟩;rw[<-P];have F:=λM=>yM M ⟨w.b,w.out,ch.ref⟩ r g A A m c m c X n x;have t:=λM=>OP M w.b A m c o.item o.dL hb;rw[<-P] at t;dsimp only[dM.cs,Wk.cs,Bk.cs,k!,l!] at F t⊢;refine a_ ?_;intros
  refine C.fL 12 (l_ [0,1,2,3,4,5,6,7,8] (g_ 9 (l_ [10,11] (g_ 12 .nil)))) _ q_ q_ aB.refl (a_ ?_);refine y_ t ?_;refine yA rfl sD bB sK aH (λM hE=>F M) ?_;by_cases i:r.2=0
  ·rw[tW i];try rw[tW i]
   have B:r.1.bG=w.b.bG:=by rw[P] at i⊢;exact EW _ _ _ i
   dsimp only[fR,bind,Except.bind];rintro e l ⟨rfl,rfl⟩;refine .inl ⟨_,rfl,_,bU,?_⟩;have D:r.1.ok:=by rw[P] at i⊢;exact Uw hb _ _ i
   refine a_ ?_;have J:=λM=>uA M ⟨r.1,w.out,ch.ref⟩ 3 o.item o.dL g A m c X n x o_;dsimp only[Wk.tell,Wk.cs,Bk.cs,k!,l!] at J;refine u_ J ?_;intro O x2 a8
   by_cases v:o.state=2
   ·rw[c! v];dsimp only[Wk.tell,pure,Except.pure,bind,Except.bind];have⟨s,v⟩:∃z,z=tX r.1 o.dX o.cost:=⟨_,rfl⟩;rw[<-v];have H:=λM=>yM M ⟨r.1,(w.out++[⟨3,o.item,o.dL,ch.ref⟩]),ch.ref⟩ s g A A m c m c O (n+1) x2;have u:=λM=>Nu M r.1 A m c o.dX o.cost D;rw[<-v] at u;dsimp only[dM.cs,Wk.cs,Bk.cs,k!,l!] at H u⊢;refine a_ ?_
    refine C.fL 12 (l_ [0,1,2,3,4,5,6,7,8] (g_ 9 (l_ [10,11] (g_ 12 .nil)))) _ q_ q_ aB.refl (a_ ?_);refine y_ u ?_;refine yA rfl sD bB sK aH (λM hE=>H M) ?_;by_cases ks:s.2=0
    ·rw[tW ks];try rw[tW ks]
     have W:s.1.bG=r.1.bG:=by rw[v] at ks⊢;exact EM _ _ _ ks
     dsimp only[fR,bind,Except.bind];rintro e l ⟨rfl,rfl⟩;refine .inl ⟨_,rfl,_,bU,(a_ ?_)⟩;have K:=λM=>uA M ⟨s.1,(w.out++[⟨3,o.item,o.dL,ch.ref⟩]),ch.ref⟩ 10 o.dX o.cost g A m c O (n+1) x2 o_;dsimp only[Wk.tell,Wk.cs,Bk.cs,k!,l!] at K;refine u_ K ?_;intro X3 x3 a9
     refine a_ ?_;have⟨b,d⟩:∃Q,Q=lT s.1 ⟨o.id,o.dX,o.item,o.dL,o.cost,4⟩:=⟨_,rfl⟩;have a:=λM=>Ej M ⟨s.1,((w.out++[⟨3,o.item,o.dL,ch.ref⟩])++[⟨10,o.dX,o.cost,ch.ref⟩]),ch.ref⟩ o 4 g A m c X3 ((n+1)+1) x3;dsimp only[Wk.put] at a;rw[<-d] at a;dsimp only[Wk.tell,dM.cs,Wk.cs,Bk.cs,k!,l!] at a;rw[W,B] at a;refine C_ (λM R=>a M R hm) ?_;intro j p U
     have f:=λM=>uA M ⟨b,((w.out++[⟨3,o.item,o.dL,ch.ref⟩])++[⟨10,o.dX,o.cost,ch.ref⟩]),ch.ref⟩ 7 o.dX 2 g j b.bG.length p X3 ((n+1)+1) x3 o_;dsimp only[Wk.tell,Wk.cs,Bk.cs,k!,l!] at f;refine u_ f ?_;intro y N Z
     try unfold Wk.put
     try unfold Wk.tell
     try dsimp only
     rw[<-d];refine gG rfl (H':=[aE g 369 _,own eS j b.bG.length p b.bG,own eT y (((n+1)+1)+1) N (((w.out++[⟨3,o.item,o.dL,ch.ref⟩])++[⟨10,o.dX,o.cost,ch.ref⟩])++[⟨7,o.dX,2,ch.ref⟩])]) ?_ ⟨j,b.bG.length,p,y,(((n+1)+1)+1),N,rfl,rfl⟩;exact aB.cC (.cons .aR (.cons (.bJ .aR) (.cons .aR .nil)))
    ·rw[tV ks];try rw[tV ks]
     dsimp only[fR,bind,Except.bind];rintro e l ⟨rfl,rfl⟩;exact .inr ⟨_,rfl,[],aC,rfl,rfl⟩
   ·rw[b! v];dsimp only[Wk.tell,bind,Except.bind,pure,Except.pure];refine a_ ?_;have⟨b,d⟩:∃Q,Q=lT r.1 ⟨o.id,o.dX,o.item,o.dL,o.cost,4⟩:=⟨_,rfl⟩;have a:=λM=>Ej M ⟨r.1,(w.out++[⟨3,o.item,o.dL,ch.ref⟩]),ch.ref⟩ o 4 g A m c O (n+1) x2;dsimp only[Wk.put] at a;rw[<-d] at a;dsimp only[Wk.tell,dM.cs,Wk.cs,Bk.cs,k!,l!] at a;rw[B] at a;refine C_ (λM R=>a M R hm) ?_;intro j p U
    have f:=λM=>uA M ⟨b,(w.out++[⟨3,o.item,o.dL,ch.ref⟩]),ch.ref⟩ 7 o.dX 2 g j b.bG.length p O (n+1) x2 o_;dsimp only[Wk.tell,Wk.cs,Bk.cs,k!,l!] at f;refine u_ f ?_;intro y N Z
    try unfold Wk.put
    try unfold Wk.tell
    try dsimp only
    rw[<-d];refine gG rfl (H':=[aE g 369 _,own eS j b.bG.length p b.bG,own eT y ((n+1)+1) N ((w.out++[⟨3,o.item,o.dL,ch.ref⟩])++[⟨7,o.dX,2,ch.ref⟩])]) ?_ ⟨j,b.bG.length,p,y,((n+1)+1),N,rfl,rfl⟩;exact aB.cC (.cons .aR (.cons (.bJ .aR) (.cons .aR .nil)))
  ·rw[tV i];try rw[tV i]
   dsimp only[fR,bind,Except.bind];rintro e l ⟨rfl,rfl⟩;exact .inr ⟨_,rfl,[],aC,rfl,rfl⟩
 ·rw[b! h];dsimp only[fR,bind,Except.bind];rintro e l ⟨rfl,rfl⟩;exact .inr ⟨_,rfl,[],aC,rfl,rfl⟩
theorem aPu(hm:m<=1000)(hn:n<=900)(hb:w.b.ok)(F:∀o∈w.b.bG,0<=o.dL/\o.dL<=1000):G E 321 [.pointer (some ⟨g,0,none⟩),.agg ch.cs.toArray] (kT g w A m c X n x) (fR (w.KN ch) (Dn g)):=by
 unfold Wk.KN;have⟨q,J⟩:∃q,q=qZ w.b ch.ref [1]:=⟨_,rfl⟩
 have⟨o,k⟩:=q;rw[show w.order ch.ref [1]=_ from yR J];dsimp only[aI.cs,kT,k!,l!,G];refine p_ func321 ntmps321 ?_;intros
 refine mN sD sK aH (λM Q=>Hh M w g A m c X n x bK ch.ref.rep ch.ref.seq _ 1 1 [1] bK) ?_;rw[yR J];by_cases h:k=0
 ·rw[c! h];try rw[c! h]
  dsimp only[fR,bind,Except.bind];rintro e j ⟨rfl,rfl⟩;refine .inl ⟨_,rfl,_,bU,?_⟩;dsimp only[dM.cs];have K:=F o (KH J h);have⟨p,hp⟩:∃p,p=yY w.b o.item o.dL:=⟨_,rfl⟩
  have lp:=λM=>aCc M w.b A m c o.item o.dL hb K;rw[<-hp] at lp⊢;have⟨a,P⟩:=p;dsimp only at lp⊢;refine a_ ?_;intros
  refine rA (l_ [0,1,2,3,4,5,6,7] (g_ 8 (l_ [9,10,11,12,13] .nil))) (a_ ?_)
  refine y_ lp ?_
  refine mN sD sK aH (λM Q=>xZ M _ _) ?_;rintro e j ⟨D,rfl⟩;by_cases B:P=0
  ·rw[c! (d! B)] at D;subst D;rw[b! (show ¬P≠0 from λq=>q B)];refine .inl ⟨_,rfl,_,bU,?_⟩;have⟨r,N⟩:∃z,z=yS w.b o.dX a:=⟨_,rfl⟩
   rw[<-N];have s:=λM=>yM M ⟨w.b,w.out,ch.ref⟩ r g A A m c m c X n x;have f:=λM=>aLo M w.b A m c o.dX a hb;rw[<-N] at f;dsimp only[dM.cs,Wk.cs,Bk.cs,k!,l!] at s f⊢;refine a_ ?_
   refine C.fL 11 (l_ [0,1,2,3,4,5,6,7] (g_ 8 (l_ [9,10] (g_ 11 .nil)))) _ q_ q_ aB.refl (a_ ?_)
   refine y_ f ?_
   refine yA rfl sD bB sK aH (λM Q=>s M) ?_;by_cases i:r.2=0
   ·rw[tW i];try rw[tW i]
    have H:r.1.bG=w.b.bG:=by rw[N] at i⊢;exact KU _ _ _ i
    dsimp only[fR,bind,Except.bind];rintro e j ⟨rfl,rfl⟩;refine .inl ⟨_,rfl,_,bU,(a_ ?_)⟩
    have⟨d,l⟩:∃W,W=lT r.1 ⟨o.id,o.dX,o.item,o.dL,a,2⟩:=⟨_,rfl⟩
    have b:=λM=>Ej M ⟨r.1,w.out,ch.ref⟩ ⟨o.id,o.dX,o.item,o.dL,a,o.state⟩ 2 g A m c X n x;dsimp only[Wk.put] at b;rw[<-l] at b;dsimp only[Wk.tell,dM.cs,Wk.cs,Bk.cs,k!,l!] at b;rw[H] at b;refine C_ (λM Z=>b M Z hm) ?_;intro v y a8
    have t:=λM=>uA M ⟨d,w.out,ch.ref⟩ 4 o.dX a g v d.bG.length y X n x o_;dsimp only[Wk.tell,Wk.cs,Bk.cs,k!,l!] at t;refine u_ t ?_;intro U x2 a9
    have u:=λM=>uA M ⟨d,(w.out++[⟨4,o.dX,a,ch.ref⟩]),ch.ref⟩ 9 o.dX a g v d.bG.length y U (n+1) x2 o_;dsimp only[Wk.tell,Wk.cs,Bk.cs,k!,l!] at u;refine u_ u ?_;intro O R b0
    try unfold Wk.put
    try unfold Wk.tell
    try dsimp only
    rw[<-l];refine gG rfl (H':=[aE g 369 _,own eS v d.bG.length y d.bG,own eT O ((n+1)+1) R ((w.out++[⟨4,o.dX,a,ch.ref⟩])++[⟨9,o.dX,a,ch.ref⟩])]) ?_ ⟨v,d.bG.length,y,O,((n+1)+1),R,rfl,rfl⟩;exact aB.cC (.cons .aR (.cons (.bJ .aR) (.cons .aR .nil)))
   ·rw[tV i];try rw[tV i]
    dsimp only[fR,bind,Except.bind];rintro e j ⟨rfl,rfl⟩;exact .inr ⟨_,rfl,[],aC,rfl,rfl⟩
  ·rw[b! (by simpa using B)] at D;subst D;rw[c! B];exact .inr ⟨_,rfl,[],aC,rfl,rfl⟩
 ·rw[b! h];dsimp only[fR,bind,Except.bind];rintro e j ⟨rfl,rfl⟩;exact .inr ⟨_,rfl,[],aC,rfl,rfl⟩
end
def aFt{b:Bk}(hb:b.ok)(o:dM):(uU b o).2=0->(uU b o).1.ok:=by
 unfold uU;split
 ·intro h;cases h
 ·split
  ·intro h;cases h
  ·intro _;unfold lT;split<;>exact hb
section
variable (E:Env) (w:Wk) (ch:aI) (g:Nat) (A:n!) (m c:Nat) (X:n!) (n x:Nat)
theorem XY(hm:m<=1000)(hn:n<=900)(hb:w.b.ok):G E 318 [.pointer (some ⟨g,0,none⟩),.agg ch.cs.toArray] (kT g w A m c X n x) (fR (w.place ch) (Dn g)):=by
 unfold Wk.place Ae;have⟨it,iI⟩:∃z,z=AL w.b ch:=⟨_,rfl⟩
 rw[<-iI];have⟨r,hr⟩:∃z,z=uU w.b ⟨ch.id,ch.a,it,ch.n,0,1⟩:=⟨_,rfl⟩
 rw[<-hr];have ln:=λM h=>aNt M w.b A m c h ⟨ch.id,ch.a,it,ch.n,0,1⟩ hm;rw[<-hr] at ln;dsimp only[aI.cs,kT,dM.cs,Wk.cs,Bk.cs,k!,l!,G] at ln⊢;by_cases h1:0<=ch.a/\ch.a<=7
 ·by_cases h2:0<=ch.b/\ch.b<=7
  ·by_cases h3:1<=ch.n/\ch.n<=1000
   ·rw[show(eight ch.a&&eight ch.b&&decide (1<=ch.n/\ch.n<=1000))=true by simp[eight];omega];rw[c! rfl];refine p_ func318 ntmps318 ?_;intros
    refine mN sD sK aH (λM hE=>xZ M _ _) ?_;rintro e H' ⟨he,rfl⟩;rw[c! (by simp[*])] at he;subst he;refine .inl ⟨_,rfl,_,bU,?_⟩;repeat ((fail_if_success (refine C.seq (x:=Code.region 3 _ _) ?_));first|refine mV ?_|refine k_ ?_|intro _|refine Dr.two ?_ ?_)
    rename_i g3;refine C.cW (X:=Unit) (λ_=>[(0,.pointer (some ⟨g,0,none⟩)),(3,.pointer (some ⟨g3,0,none⟩)),(4,a! it)]) (λ_=>[aE g3 34 ch.cs,aE g 369 (w.cs A m c X n x),own eS A m c w.b.bG,own eT X n x w.out]) (λ_=>True) ?_ ?_
    ·have la:=λM=>Ux M w.b A m c ch.b ch.n hb;have lb:=λM=>Ux M w.b A m c ch.ref.rep ch.n hb;dsimp only[Bk.cs,k!,l!] at la lb;unfold AL at iI;cases hA:DP w.b ch.b ch.n with
     |true =>
      rw[hA] at la iI;simp only[Bool.not_true,xP,tG,if_false] at iI;subst iI;refine a_ ?_
      refine rA (l_ [0,1,2,3,4,5,6] (g_ 7 (l_ [8,9,10,11,12,13,14,15,16,17,18,19,20,21,22] (g_ 23 (n_ 24 .nil))))) (a_ ?_)
      refine y_ la ?_
      exact⟨(),aK,aC,trivial⟩
     |false =>
      rw[hA] at la iI;by_cases hB:ch.ref.seq=1
      ·cases hC:DP w.b ch.ref.rep ch.n with
       |true =>
        rw[hC] at lb iI;simp only[LM,hB,decide_true,Bool.and_true,if_true] at iI;subst iI;refine a_ ?_
        refine rA (l_ [0,1,2,3,4,5,6] (g_ 7 (l_ [8,9,10,11,12,13,14,15,16,17,18,19,20,21,22] (g_ 23 (n_ 24 .nil))))) (a_ ?_)
        refine y_ la ?_
        refine y_ lb ?_
        exact⟨(),aK,aC,trivial⟩
       |false =>
        rw[hC] at lb iI;simp only[LM,uC,hB,decide_true,Bool.and_false,tG,if_false] at iI;subst iI;refine a_ ?_
        refine rA (l_ [0,1,2,3,4,5,6] (g_ 7 (l_ [8,9,10,11,12,13,14,15,16,17,18,19,20,21,22] (g_ 23 (n_ 24 .nil))))) (a_ ?_)
        refine y_ la ?_
        refine y_ lb ?_
        exact⟨(),aK,aC,trivial⟩
      ·rw[e! hB] at iI;simp only[Bool.and_false,xP,tG,if_false] at iI;subst iI;refine a_ ?_
       refine rA (l_ [0,1,2,3,4,5,6] (g_ 7 (l_ [8,9,10,11,12,13,14,15,16,17,18,19,20,21,22] (g_ 23 (n_ 24 .nil))))) (a_ ?_)
       refine y_ la ?_
       exact⟨(),aK,aC,trivial⟩
    ·intro _ Gf _;dsimp only[aI.cs,kT,dM.cs,Wk.cs,Bk.cs,k!,l!];refine a_ ?_
     by_cases kr:r.2=0
     ·rw[tW kr];have hrok:r.1.ok:=by rw[hr] at kr⊢;exact aFt hb _ kr
      have lmr:=λM B d=>yM M ⟨w.b,w.out,w.ref⟩ r g A B m c r.1.bG.length d X n x;unfold Fv at ln;rw[c! kr] at ln;simp only[c! kr] at lmr;rw[tW kr] at lmr;dsimp only[fR,dM.cs,Wk.cs,Bk.cs,k!,l!] at lmr ln;rw[kr] at lmr;dsimp only[bind,Except.bind,pure,Except.pure];refine C.fL 16 (l_ [0,1,2,3,4,5,6,7,8,9,10,11,12] (g_ 13 (l_ [14,15] (g_ 16 .nil)))) _ q_ q_ aB.refl (a_ ?_)
      refine AV ln ?_;refine b_ ?_;intro B d hd
      refine yA rfl sD bB sK aH (λM hE=>lmr M B d) ?_;rintro e H' ⟨rfl,rfl⟩;refine .inl ⟨_,rfl,_,bU,?_⟩;have⟨s,hs⟩:∃z,z=sU r.1 it ch.n:=⟨_,rfl⟩
      rw[<-hs];have lms:=λM=>yM M ⟨r.1,w.out,w.ref⟩ s g B B r.1.bG.length d r.1.bG.length d X n x;have lfs:=λM=>OS M r.1 B r.1.bG.length d it ch.n hrok;rw[<-hs] at lfs;dsimp only[dM.cs,Wk.cs,Bk.cs,k!,l!] at lms lfs⊢;refine a_ ?_
      refine C.fL 11 (l_ [0,1,2,3,4,5,6,7] (g_ 8 (l_ [9,10] (g_ 11 .nil)))) _ q_ q_ aB.refl (a_ ?_)
      refine y_ lfs ?_
      refine yA rfl sD bB sK aH (λM hE=>lms M) ?_;by_cases ks:s.2=0
      ·rw[tW ks];try rw[tW ks]
       have hos:s.1.bG=r.1.bG:=by rw[hs] at ks⊢;exact IA _ _ _ ks
       dsimp only[fR,bind,Except.bind];rintro e H' ⟨rfl,rfl⟩;refine .inl ⟨_,rfl,_,bU,(a_ ?_)⟩
       have tl2:=λM=>uA M ⟨s.1,w.out,ch.id⟩ 1 it ch.n g B r.1.bG.length d X n x o_;dsimp only[Wk.tell,Wk.cs,Bk.cs,k!,l!] at tl2;refine u_ tl2 ?_;intro X2 x2 hx2
       have tl3:=λM=>uA M ⟨s.1,(w.out++[⟨1,it,ch.n,ch.id⟩]),ch.id⟩ 7 ch.a 1 g B r.1.bG.length d X2 (n+1) x2 o_;dsimp only[Wk.tell,Wk.cs,Bk.cs,k!,l!] at tl3;refine u_ tl3 ?_;intro X3 x3 hx3
       try unfold Wk.tell
       try dsimp only
       refine gG rfl (H':=[aE g 369 _,own eS B r.1.bG.length d s.1.bG,own eT X3 ((n+1)+1) x3 ((w.out++[⟨1,it,ch.n,ch.id⟩])++[⟨7,ch.a,1,ch.id⟩])]) ?_ ⟨B,r.1.bG.length,d,X3,((n+1)+1),x3,rfl,rfl⟩;rw[hos];exact aB.cC (.cons .aR (.cons (.bJ .aR) (.cons .aR .nil)))
      ·rw[tV ks];try rw[tV ks]
       dsimp only[fR,bind,Except.bind];rintro e H' ⟨rfl,rfl⟩;exact .inr ⟨_,rfl,[],aC,rfl,rfl⟩
     ·rw[tV kr];have lmr:=λM=>yM M ⟨w.b,w.out,w.ref⟩ r g A none m c 0 0 X n x;unfold Fv at ln;rw[b! kr] at ln;simp only[b! kr] at lmr;rw[tV kr] at lmr;dsimp only[fR,dM.cs,Wk.cs,Bk.cs,k!,l!] at lmr ln;dsimp only[bind,Except.bind,pure,Except.pure];refine C.fL 16 (l_ [0,1,2,3,4,5,6,7,8,9,10,11,12] (g_ 13 (l_ [14,15] (g_ 16 .nil)))) _ q_ q_ aB.refl (a_ ?_)
      refine E_ ln ?_
      refine yA rfl sD bB sK aH (λM hE=>lmr M) ?_;rintro e H' ⟨rfl,rfl⟩;exact .inr ⟨_,rfl,[],aC,rfl,rfl⟩
   ·rw[show(eight ch.a&&eight ch.b&&decide (1<=ch.n/\ch.n<=1000))=false by simp[eight];omega];rw[b! s_];refine p_ func318 ntmps318 ?_;intros
    refine mN sD sK aH (λM hE=>xZ M _ _) ?_;rintro e H' ⟨he,rfl⟩;rw[b! (by simp[*])] at he;subst he;exact .inr ⟨_,rfl,[],aC,rfl,rfl⟩
  ·rw[show(eight ch.a&&eight ch.b&&decide (1<=ch.n/\ch.n<=1000))=false by simp[eight];omega];rw[b! s_];refine p_ func318 ntmps318 ?_;intros
   refine mN sD sK aH (λM hE=>xZ M _ _) ?_;rintro e H' ⟨he,rfl⟩;rw[b! (by simp[*])] at he;subst he;exact .inr ⟨_,rfl,[],aC,rfl,rfl⟩
 ·rw[show(eight ch.a&&eight ch.b&&decide (1<=ch.n/\ch.n<=1000))=false by simp[eight];omega];rw[b! s_];refine p_ func318 ntmps318 ?_;intros
  refine mN sD sK aH (λM hE=>xZ M _ _) ?_;rintro e H' ⟨he,rfl⟩;rw[b! (by simp[*])] at he;subst he;exact .inr ⟨_,rfl,[],aC,rfl,rfl⟩
end
def OR(b:Bk)(i n:Int):(BG b i n).2=0->(BG b i n).1.bG=b.bG:=by
 unfold BG;split
 ·intro _;rfl
 ·intro h;cases h
section
variable (E:Env) (w:Wk) (ch:aI) (g:Nat) (A:n!) (m c:Nat) (X:n!) (n x:Nat)
def Yj(D:m<=1000)(F:n<=900)(hb:w.b.ok)(H:∀o∈w.b.bG,0<=o.dL/\o.dL<=1000):G E 276 [.pointer (some ⟨g,0,none⟩),.agg ch.cs.toArray] (kT g w A m c X n x) (fR (w.do ch) (Dn g)):=by
 unfold Wk.do;dsimp only[aI.cs,kT,k!,l!,G];by_cases k1:ch.kind=1
 ·rw[c! k1];unfold Ae;refine p_ func276 ntmps276 ?_;intros;refine mN sD sK aH (λM v=>xZ M _ _) ?_;rintro e a ⟨B,rfl⟩;by_cases y:1<=ch.n
  ·rw[c! (d! y)] at B;subst B;rw[c! (d! y)];refine .inl ⟨_,rfl,_,bU,?_⟩;obtain⟨r,t⟩:∃z,z=tZ w.b ch.a ch.n:=⟨_,rfl⟩;rw[<-t];have j:=λM=>yM M ⟨w.b,w.out,w.ref⟩ r g A A m c m c X n x;have b:=λM=>OP M w.b A m c ch.a ch.n hb;rw[<-t] at b;dsimp only[dM.cs,Wk.cs,Bk.cs,k!,l!] at j b⊢;refine a_ ?_
   refine C.fL 12 (l_ [0,1,2,3,4,5,6,7,8] (g_ 9 (l_ [10,11] (g_ 12 .nil)))) _ q_ q_ aB.refl (a_ ?_);refine y_ b ?_;refine yA rfl sD bB sK aH (λM v=>j M) ?_;by_cases d:r.2=0
   ·rw[tW d];try rw[tW d]
    have s:r.1.bG=w.b.bG:=by rw[t] at d⊢;exact EW _ _ _ d
    dsimp only[fR,bind,Except.bind];rintro e a ⟨rfl,rfl⟩;refine .inl ⟨_,rfl,_,bU,(a_ ?_)⟩;try unfold Wk.tell
    try dsimp only
    refine gG rfl (H':=[aE g 369 _,own eS A m c r.1.bG,own eT X n x w.out]) ?_ ⟨A,m,c,X,n,x,rfl,rfl⟩;rw[s];exact aB.cC (.cons .aR (.cons aV (.cons aV .nil)))
   ·rw[tV d];try rw[tV d]
    dsimp only[fR,bind,Except.bind];rintro e a ⟨rfl,rfl⟩;exact .inr ⟨_,rfl,[],aC,rfl,rfl⟩
  ·rw[b! (by simpa using y)] at B;subst B;rw[b! (by simpa using y)];exact .inr ⟨_,rfl,[],aC,rfl,rfl⟩
 rw[b! k1];by_cases k2:ch.kind=2
 ·rw[c! k2];unfold Ae;refine p_ func276 ntmps276 ?_;intros;refine mN sD sK aH (λM v=>xZ M _ _) ?_;rintro e a ⟨B,rfl⟩;by_cases y:1<=ch.n
  ·rw[c! (d! y)] at B;subst B;rw[c! (d! y)];refine .inl ⟨_,rfl,_,bU,?_⟩;obtain⟨r,t⟩:∃z,z=tX w.b ch.a ch.n:=⟨_,rfl⟩;rw[<-t];have j:=λM=>yM M ⟨w.b,w.out,w.ref⟩ r g A A m c m c X n x;have b:=λM=>Nu M w.b A m c ch.a ch.n hb;rw[<-t] at b;dsimp only[dM.cs,Wk.cs,Bk.cs,k!,l!] at j b⊢;refine a_ ?_
   refine C.fL 12 (l_ [0,1,2,3,4,5,6,7,8] (g_ 9 (l_ [10,11] (g_ 12 .nil)))) _ q_ q_ aB.refl (a_ ?_);refine y_ b ?_;refine yA rfl sD bB sK aH (λM v=>j M) ?_;by_cases d:r.2=0
   ·rw[tW d];try rw[tW d]
    have s:r.1.bG=w.b.bG:=by rw[t] at d⊢;exact EM _ _ _ d
    dsimp only[fR,bind,Except.bind];rintro e a ⟨rfl,rfl⟩;refine .inl ⟨_,rfl,_,bU,(a_ ?_)⟩;have J:=λM=>uA M ⟨r.1,w.out,w.ref⟩ 8 ch.a ch.n g A m c X n x o_;dsimp only[Wk.tell,Wk.cs,Bk.cs,k!,l!] at J;refine u_ J ?_;intro K x2 N
    refine a_ ?_;try unfold Wk.tell
    try dsimp only
    refine gG rfl (H':=[aE g 369 _,own eS A m c r.1.bG,own eT K (n+1) x2 (w.out++[⟨8,ch.a,ch.n,w.ref⟩])]) ?_ ⟨A,m,c,K,(n+1),x2,rfl,rfl⟩;rw[s];exact aB.cC (.cons .aR (.cons aV (.cons .aR .nil)))
   ·rw[tV d];try rw[tV d]
    dsimp only[fR,bind,Except.bind];rintro e a ⟨rfl,rfl⟩;exact .inr ⟨_,rfl,[],aC,rfl,rfl⟩
  ·rw[b! (by simpa using y)] at B;subst B;rw[b! (by simpa using y)];exact .inr ⟨_,rfl,[],aC,rfl,rfl⟩
 rw[b! k2];by_cases k3:ch.kind=3
 ·rw[c! k3];refine p_ func276 ntmps276 ?_;intros;refine mN sD sK aH (λM v=>XY M w ch g A m c X n x D F hb) ?_;cases w.place ch with
  |ok u =>
   rintro e a ⟨f,l,i,h,p,q,rfl,rfl⟩;refine .inl ⟨_,rfl,_,bU,(a_ ?_)⟩;refine gG rfl (H':=kT g u f l i h p q) ?_ ⟨f,l,i,h,p,q,rfl,rfl⟩;unfold kT;exact aB.cC (.cons .aR (.cons .aR (.cons .aR .nil)))
  |error k =>
   rintro e a ⟨rfl,rfl⟩;exact .inr ⟨_,rfl,[],aC,rfl,rfl⟩
 rw[b! k3];by_cases k4:ch.kind=4
 ·rw[c! k4];refine p_ func276 ntmps276 ?_;intros;refine mN sD sK aH (λM v=>Wg M w ch g A m c X n x D F hb H) ?_;cases w.I7 ch with
  |ok u =>
   rintro e a ⟨f,l,i,h,p,q,rfl,rfl⟩;refine .inl ⟨_,rfl,_,bU,(a_ ?_)⟩;refine gG rfl (H':=kT g u f l i h p q) ?_ ⟨f,l,i,h,p,q,rfl,rfl⟩;unfold kT;exact aB.cC (.cons .aR (.cons .aR (.cons .aR .nil)))
  |error k =>
   rintro e a ⟨rfl,rfl⟩;exact .inr ⟨_,rfl,[],aC,rfl,rfl⟩
 rw[b! k4];by_cases k5:ch.kind=5
 ·rw[c! k5];refine p_ func276 ntmps276 ?_;intros;refine mN sD sK aH (λM v=>Xl M w ch g A m c X n x D F hb) ?_;cases w.cancel ch with
  |ok u =>
   rintro e a ⟨f,l,i,h,p,q,rfl,rfl⟩;refine .inl ⟨_,rfl,_,bU,(a_ ?_)⟩;refine gG rfl (H':=kT g u f l i h p q) ?_ ⟨f,l,i,h,p,q,rfl,rfl⟩;unfold kT;exact aB.cC (.cons .aR (.cons .aR (.cons .aR .nil)))
  |error k =>
   rintro e a ⟨rfl,rfl⟩;exact .inr ⟨_,rfl,[],aC,rfl,rfl⟩
 rw[b! k5];by_cases k6:ch.kind=6
 ·rw[c! k6];refine p_ func276 ntmps276 ?_;intros;refine mN sD sK aH (λM v=>aPu M w ch g A m c X n x D F hb H) ?_;cases w.KN ch with
  |ok u =>
   rintro e a ⟨f,l,i,h,p,q,rfl,rfl⟩;refine .inl ⟨_,rfl,_,bU,(a_ ?_)⟩;refine gG rfl (H':=kT g u f l i h p q) ?_ ⟨f,l,i,h,p,q,rfl,rfl⟩;unfold kT;exact aB.cC (.cons .aR (.cons .aR (.cons .aR .nil)))
  |error k =>
   rintro e a ⟨rfl,rfl⟩;exact .inr ⟨_,rfl,[],aC,rfl,rfl⟩
 rw[b! k6];by_cases k7:ch.kind=7
 ·rw[c! k7];refine p_ func276 ntmps276 ?_;intros;refine mN sD sK aH (λM v=>aDl M w ch g A m c X n x D F) ?_;cases w.Kq ch with
  |ok u =>
   rintro e a ⟨f,l,i,h,p,q,rfl,rfl⟩;refine .inl ⟨_,rfl,_,bU,(a_ ?_)⟩;refine gG rfl (H':=kT g u f l i h p q) ?_ ⟨f,l,i,h,p,q,rfl,rfl⟩;unfold kT;exact aB.cC (.cons .aR (.cons .aR (.cons .aR .nil)))
  |error k =>
   rintro e a ⟨rfl,rfl⟩;exact .inr ⟨_,rfl,[],aC,rfl,rfl⟩
 rw[b! k7];by_cases k8:ch.kind=8
 ·rw[c! k8];refine p_ func276 ntmps276 ?_;intros;refine mN sD sK aH (λM v=>aCx M w ch g A m c X n x D F hb) ?_;cases w.Ka ch with
  |ok u =>
   rintro e a ⟨f,l,i,h,p,q,rfl,rfl⟩;refine .inl ⟨_,rfl,_,bU,(a_ ?_)⟩;refine gG rfl (H':=kT g u f l i h p q) ?_ ⟨f,l,i,h,p,q,rfl,rfl⟩;unfold kT;exact aB.cC (.cons .aR (.cons .aR (.cons .aR .nil)))
  |error k =>
   rintro e a ⟨rfl,rfl⟩;exact .inr ⟨_,rfl,[],aC,rfl,rfl⟩
 rw[b! k8];by_cases k9:ch.kind=9
 ·rw[c! k9];refine t_ func276 ntmps276 ?_;obtain⟨r,t⟩:∃z,z=BG w.b ch.a ch.n:=⟨_,rfl⟩;rw[<-t];have j:=λM=>yM M ⟨w.b,w.out,w.ref⟩ r g A A m c m c X n x;have b:=λM=>aIg M w.b A m c ch.a ch.n;rw[<-t] at b;dsimp only[dM.cs,Wk.cs,Bk.cs,k!,l!] at j b⊢;refine a_ ?_;intros
  refine C.fL 12 (l_ [0,1,2,3,4,5,6,7,8] (g_ 9 (l_ [10,11] (g_ 12 .nil)))) _ q_ q_ aB.refl (a_ ?_);refine y_ b ?_;refine yA rfl sD bB sK aH (λM v=>j M) ?_;by_cases d:r.2=0
  ·rw[tW d];try rw[tW d]
   have s:r.1.bG=w.b.bG:=by rw[t] at d⊢;exact OR _ _ _ d
   dsimp only[fR,bind,Except.bind];rintro e a ⟨rfl,rfl⟩;refine .inl ⟨_,rfl,_,bU,(a_ ?_)⟩;try unfold Wk.tell
   try dsimp only
   refine gG rfl (H':=[aE g 369 _,own eS A m c r.1.bG,own eT X n x w.out]) ?_ ⟨A,m,c,X,n,x,rfl,rfl⟩;rw[s];exact aB.cC (.cons .aR (.cons aV (.cons aV .nil)))
  ·rw[tV d];try rw[tV d]
   dsimp only[fR,bind,Except.bind];rintro e a ⟨rfl,rfl⟩;exact .inr ⟨_,rfl,[],aC,rfl,rfl⟩
 rw[b! k9];refine p_ func276 ntmps276 ?_;intros;refine L.val sD (λ_ _=>V.M1 rfl rfl q_) ?_;refine L.conv (H':=[]) aC ?_;refine L.panic rfl ?_;exact⟨rfl,rfl⟩
end
instance:iB 141 [a! 0,.slice none 0 0] [(0,1),(1,1)]:=⟨⟨q_,q_⟩⟩
section
variable {P:t!} {N:Nat} {E:Env} {F:Nat->p!} {H H' R R2 Hp:List aG} {d:Nat} {f:FuncId} {ops:List r!} {tys:Array q!} {ty:q!} {pos:String} {af:Array Edge} {Qw:Exit->Act->World->Prop} {Q1:Ending->List aG->Prop}
def kS.mN{os i:List Oper}(u:d<N)(x:jT f=true)(y:fJ Hp H R)(n:∀M,Sub E R M->aF prog M f (mI F ops).toArray Hp Q1)
  (l:∀e H',Q1 e H'->(∃v,e=.returned v/\∃k,kE H' R k/\kS prog N E os Qw i (gK F d v) k)\/∃c,e=.panicked c/\∀a w,gZ E N F a->St E (H'++R) w->Qw (.panic c) a w) :
  kS prog N E os Qw (⟨some d,.call { callee:=.value (.func f),args:=ops.toArray,argTypes:=tys },ty,pos,af,none⟩::i) F H:=by
 have⟨z,q,r,s⟩:=AK x;refine kS.Xj u q r s y n (λH' j=>?_) (λc H' j=>?_) (λv H' j=>?_)
 ·rcases l _ _ j with⟨p,g,_⟩|⟨o,g,_⟩<;>cases g
 ·rcases l _ _ j with⟨p,g,_⟩|⟨o,g,h⟩
  ·cases g
  ·injection g with g;subst g;exact h
 ·rcases l _ _ j with⟨p,g,k,t,h⟩|⟨o,g,_⟩
  ·injection g with g;subst g;rw[<-t.eq];exact h
  ·cases g
def T8{s:Func}{Q:Ending->List aG->Prop}{t g u g2:Nat}{ty x e j:q!}{cs a:List p!}{d r:TypeDesc}{w i:TypeInfo}(O:s.results=#[.cell t ty,.cell u e])(W:F t=.pointer (some ⟨g,0,none⟩))(q:F u=.pointer (some ⟨g2,0,none⟩))(U:P.underlying ty=some d)(K:lY d=true)(hi:P.info? ty=some w)(hb:Has (aE g x cs) H R)(M:w.size=cs.length)
  (p:P.underlying e=some r) (l:lY r=true) (n:P.info? e=some i) (k:Has (aE g2 j a) H R2) (o:i.size=a.length)
  (J:aB E H H') (h:Q (.returned (.tuple #[.agg cs.toArray,.agg a.toArray])) H'):mB P E s Q .ret F H:=by
 refine⟨.tuple #[.agg cs.toArray,.agg a.toArray],H',λw v=>?_,J,h⟩;have⟨y,z⟩:=H6 W U K hi hb M v;have⟨B,D⟩:=H6 q p l n k o v;simp[vU,O,y,z,B,D]
end
section
variable (E:Env) (b:Bk) (A:n!) (m c:Nat) (g2 g4 g5:Nat)
def Yn:Gl prog E 275 #[.pointer (some ⟨g2,0,none⟩),.pointer (some ⟨g4,0,none⟩),.pointer (some ⟨g5,0,none⟩)] .returning [] (λe a H'=>a=.returning/\e=.returned (.tuple #[])/\H'=[]):=by
 refine Oi func275 rfl ntmps275 s_ sD sD (a_ ?_)
 refine L.val (v:=.bool false) sD (λ_ _=>q_) (a_ ?_)
 exact vK
theorem Yk(k:Int)(h:Rd E eS A m c b.bG)(g:m<=1000):Gl prog E 275 #[.pointer (some ⟨g2,0,none⟩),.pointer (some ⟨g4,0,none⟩),.pointer (some ⟨g5,0,none⟩)] (.panicking (Jb k))
  [aE g2 45 (b.cs A m c),aE g4 45 (fY.cs none 0 0),aE g5 141 [.int .i64 0,.slice none 0 0]]
  (λe i H'=>i=.panicking [{ v:=.iface 371 (.agg #[.int .i64 k]),recovered:=true }]/\∃B d,e=.returned (.tuple #[])/\H'=[aE g2 45 (b.cs A m c),aE g4 45 (b.cs B m d),aE g5 141 [.int .i64 k,.slice none 0 0],own eS B m d b.bG]):=by
 dsimp only[Bk.cs,List.cons_append,List.nil_append];refine Oi func275 rfl ntmps275 (by simp) sD sD ?_;change C _ _ _ _ _ (gK (gK _ _ (.iface 371 (.agg #[.int .i64 k]))) _ (.iface 371 (.agg #[.int .i64 k]))) _;refine a_ ?_
 refine L.val (v:=.bool true) sD (λ_ _=>q_) ?_;refine a_ ?_
 refine L.val (v:=.tuple #[.agg #[.int .i64 k],.bool true]) sD (λ_ _=>q_) ?_;refine a_ ?_;intros
 rename_i gt;refine rB (l_ [0,2,3,4] (g_ 1 (g_ 5 (g_ 6 .nil)))) ([aE g2 45 _,aE gt 371 _]) ?_;refine a_ ?_
 refine cg rfl sD bB sK aH (λM a=>Tc M b A m c (h.sub a) g) ?_;rintro e H' ⟨B,d,j,rfl,rfl⟩;refine a_ ?_
 exact gG rfl aC ⟨B,d,rfl,rfl⟩
def WB(r:Bk×Out):Ending->List aG->Prop :=
 λe H'=>∃B a d X n x,e=.returned (.tuple #[.agg (r.1.cs B a d).toArray,.agg #[a! r.2.code,.slice X n x]])/\H'=[own eS B a d r.1.bG,own eT X n x r.2.lP]
theorem WC(hr:Rd E eS A m c b.bG)(hb:b.ok)(hoq:∀o∈b.bG,0<=o.dL/\o.dL<=1000)(hm:m<=1000)(ch:aI):G E 219 [.agg (b.cs A m c).toArray,.agg ch.cs.toArray] [] (WB (oG b ch)):=by
 have hr2:∀ds,Rd (E.jM ds) eS A m c b.bG:=λ_=>hr;dsimp only[aI.cs,Bk.cs,List.cons_append,List.nil_append,G];refine VS func219 rfl ntmps219 (by simp) λhds=>?_;refine WJ.vV ?_;refine a_ ?_;intros
 refine WJ.vV ?_;refine a_ ?_
 refine cl sD sK aH (λM hE=>Tc M b A m c (hr.sub hE) hm) ?_;rintro e H' ⟨B,d,hd,rfl,rfl⟩;refine gk bU ?_;refine L.conv (aB.nil eT) ?_;refine a_ ?_;intros
 rename_i g2 g3 g4 g5 gw;refine WJ.N9 ?_;refine kS.QV sD ER ?_;refine kS.defer rfl ?_;rw[hds];refine kS.nil ?_;refine WJ.N9 ?_;refine kS.IZ sD (λ_=>by simp) kP ?_;refine kS.IZ sD (λ_=>by simp) kP ?_;have law:=λM=>Yj M ⟨b,[],⟨0,0⟩⟩ ch gw B m d none 0 0 hm o_ hb hoq;dsimp only[kT,Wk.cs,Bk.cs,aI.cs,List.cons_append,List.nil_append] at law;refine kS.mN sD sK aH (λM hE=>law M) ?_;cases hw:Wk.do ⟨b,[],⟨0,0⟩⟩ ch with
 |ok w' =>
  have e:oG b ch=(w'.b,⟨0,w'.out⟩):=by unfold oG;rw[hw]
  rintro e H' ⟨A',m',c',X',n',x',rfl,rfl⟩;dsimp only[kT,Wk.cs,Bk.cs,List.cons_append,List.nil_append];refine .inl ⟨_,rfl,_,bU,?_⟩;refine kS.nil ?_;refine WJ.TR ?_;refine a_ ?_
  refine rB (l_ [0,1,2,3,4,5,6,7,8] (g_ 9 (g_ 10 .nil))) ([aE gw 369 _]) ?_;refine a_ ?_
  refine Lv.one (by simp) ⟨_,func275,q_,rfl⟩ (Hp:=[]) .nil (λM hE=>Yn M _ _ _) ?_;rintro e u' H' ⟨rfl,rfl,rfl⟩;refine⟨⟨_,rfl⟩,rfl,?_⟩;rw[e];simp only[mX,jD];exact T8 (H':=[own eS A' m' c' w'.b.bG,own eT X' n' x' w'.out]) rfl aJ aJ rfl rfl rfl aV rfl rfl rfl rfl aV rfl aC ⟨A',m',c',X',n',x',rfl,rfl⟩
 |error k =>
  have e:oG b ch=(b,⟨k,[]⟩):=by unfold oG;rw[hw]
  rintro e H' ⟨rfl,rfl⟩;refine .inr ⟨_,rfl,λa u ha hu=>Lv.get ?_ a u ha hu⟩;have dof:=λM hr=>Yk M b A m c g2 g4 g5 k hr hm;dsimp only[Bk.cs,List.cons_append,List.nil_append] at dof;refine Lv.one (by simp[Jb,Nj]) ⟨_,func275,q_,rfl⟩ aH (λM hE=>dof M ((hr2 _).sub hE)) ?_;rintro e u' H' ⟨rfl,B,d,rfl,rfl⟩;refine⟨⟨_,rfl⟩,rfl,?_⟩;rw[e];simp only[mX,jD];exact T8 (H':=[own eS B m d b.bG,own eT none 0 0 []]) rfl aJ aJ rfl rfl rfl aV rfl rfl rfl rfl aV rfl (aB.trans (aB.nil eT) aC) ⟨B,m,d,none,0,0,rfl,rfl⟩
end
end
section
structure dM.fit(o:dM):Prop where
 id:o.id.ok
 dX:0<=o.dX/\o.dX<=7
 item:0<=o.item/\o.item<=7
 dL:0<=o.dL/\o.dL<=1000
 cost:0<=o.cost/\o.cost<=1099511627776
structure Bk.fit(b:Bk):Prop where
 ok:b.ok
 Ay:∀o∈b.bG,o.fit
 len:b.bG.length<=32
structure Wk.fit(n:Nat)(w:Wk):Prop where
 b:w.b.fit
 out:∀f∈w.out,f.ok
 len:w.out.length<=n
 ref:w.ref.ok
def cG(p:X->Prop)(r:Except Int X):Prop:=∀x,r=.ok x->p x
def cG.bind{Y:Type}{r:Except Int X}{f:X->Except Int Y}{p:X->Prop}{q:Y->Prop}(h:cG p r)(k:∀x,p x->cG q (f x)):cG q (r >>= f):=by
 intro y a;cases r with
 |ok x=>exact k x (h x rfl) y a
 |error e=>cases a
theorem cG.ok{p:X->Prop}{x:X}(h:p x):cG p (.ok x):=by
 intro y a;injection a with a;subst a;exact h
def cG.pure{p:X->Prop}{x:X}(h:p x):cG p (pure x):=cG.ok h
theorem cG.error{p:X->Prop}:cG p (.error k):=by intro y a;cases a
theorem cG.mono{p q:X->Prop}{r:Except Int X}(h:cG p r)(k:∀x,p x->q x):cG q r:=λx a=>k x (h x a)
theorem cG.ask{p:Bool}{r:Wr}{q:Wk->Prop}(h:p=true->cG q r):cG q (Ae p k r):=by
 grind [Ae,cG.error]
def cG.iU{w:Wk}{r:Bk×Int}{n:Nat}(hw:w.fit n)(h:r.2=0->r.1.fit):cG (λw'=>Wk.fit n w'/\w'=⟨r.1,w.out,w.ref⟩/\r.2=0) (w.iU r):=by
 unfold Wk.iU;split
 ·rename_i hk;exact cG.ok ⟨⟨h hk,hw.out,hw.len,hw.ref⟩,rfl,hk⟩
 ·exact cG.error
def Wk.fit.tell{w:Wk}{n:Nat}(h:w.fit n)(b a k:Int)(d:bQ b)(e:bQ a)(g:bQ k):(w.tell b a k).fit (n+1) :=
 ⟨h.b,λf c=>by
  rcases eL.1 c with c|c
  ·exact h.out f c
  ·obtain rfl:=eM.1 c;exact⟨d,e,g,h.ref⟩,by have:=h.len;simp[Wk.tell];omega,h.ref⟩
def Wk.fit.le{w:Wk}{n m:Nat}(h:w.fit n)(a:n<=m):w.fit m:=⟨h.b,h.out,iR h.len a,h.ref⟩
def Sw{b:Bk}{x:dM}(h:x∈(lT b o).bG):x=o\/x∈b.bG:=by
 grind [lT]
theorem TO{b:Bk}:(lT b o).bG.length<=b.bG.length+1/\(0<=nX b o.id->(lT b o).bG.length=b.bG.length):=by
 grind [lT]
def TP{b:Bk}(h:b.ok):(lT b o).ok:=by
 unfold lT;split<;>exact h
def aEd{b:Bk}(h:o∈b.bG):0<=nX b o.id:=by
 have:=Hn (λx:dM=>decide (x.id=o.id)) b.bG;have a:b.bG.any (λx:dM=>decide (x.id=o.id))=true:=GV.2 ⟨o,h,s_⟩;rw[a] at this;exact g! this
theorem Wk.fit.put{w:Wk}{n:Nat}(h:w.fit n)(st:Int)(a:o.fit)(e:0<=nX w.b o.id):(w.put o st).fit n:=by
 have d:=(TO (b:=w.b) (o:={ o with state:=st })).2 e;refine⟨⟨TP h.b.ok,λx c=>?_,?_⟩,h.out,h.len,h.ref⟩
 ·rcases Sw c with rfl|c
  ·exact⟨a.id,a.dX,a.item,a.dL,a.cost⟩
  ·exact h.b.Ay x c
 ·show(lT w.b { o with state:=st }).bG.length<=32;rw[d];exact h.b.len
def Uy{b:Bk}(h:b.fit)(i n:Int)(k:(sU b i n).2=0):(sU b i n).1.fit :=
 ⟨aFd h.ok i n k,by rw[IA b i n k];exact h.Ay,by rw[IA b i n k];exact h.len⟩
def OQ{b:Bk}(h:b.fit)(i n:Int)(k:(tZ b i n).2=0):(tZ b i n).1.fit :=
 ⟨Uw h.ok i n k,by rw[EW b i n k];exact h.Ay,by rw[EW b i n k];exact h.len⟩
def aDt{b:Bk}(h:b.fit)(i n:Int)(k:(yS b i n).2=0):(yS b i n).1.fit :=
 ⟨aMq h.ok i n k,by rw[KU b i n k];exact h.Ay,by rw[KU b i n k];exact h.len⟩
def Nw{b:Bk}(h:b.fit)(i n:Int)(k:(tX b i n).2=0):(tX b i n).1.fit :=
 ⟨aOr h.ok i n k,by rw[EM b i n k];exact h.Ay,by rw[EM b i n k];exact h.len⟩
def aIp{b:Bk}(h:b.fit)(i n:Int)(k:(BG b i n).2=0):(BG b i n).1.fit:=by
 refine⟨?_,by rw[OR b i n k];exact h.Ay,by rw[OR b i n k];exact h.len⟩;unfold BG at k⊢;split at k
 ·rename_i a;rw[c! a];exact⟨h.ok.1,O8.sF h.ok.2.1 _ _ a.2.1 a.2.2,h.ok.2.2⟩
 ·cases k
def aIz{b:Bk}(h:b.fit)(e:o.fit)(k:(uU b o).2=0):(uU b o).1.fit:=by
 unfold uU at k⊢;split at k
 ·cases k
 ·split at k
  ·cases k
  ·rename_i c d;rw[b! c,b! d];refine⟨TP h.ok,λx a=>?_,?_⟩
   ·rcases Sw a with rfl|a
    ·exact e
    ·exact h.Ay x a
   ·grind [TO,lT]
def cG.order{w:Wk}{n:Nat}(b:w.fit n){a:aL}(e:a.ok)(st:List Int):cG (λp=>Wk.fit n p.1/\p.1=⟨w.b,w.out,a⟩/\p.2.fit/\0<=nX w.b p.2.id) (w.order a st):=by
 have⟨q,d⟩:∃q,q=qZ w.b a st:=⟨_,rfl⟩;have⟨o,k⟩:=q;rw[show w.order a st=_ from yR d];split
 ·have c:=KH d ‹_›;exact cG.ok ⟨⟨b.b,b.out,b.len,e⟩,rfl,b.b.Ay o c,aEd c⟩
 ·exact cG.error
theorem KI{b c:Bk}(h:c.bG=b.bG)(a:aL):nX c a=nX b a:=by grind [nX]
def i8(h:0<=x/\x<=7):bQ x:=by grind [bQ]
def i40(h:0<=x/\x<=1099511627776):bQ x:=by grind [bQ]
def i10(h:0<=x/\x<=1000):bQ x:=by grind [bQ]
def aMt{b:Bk}{i n:Int}(h:DP b i n=true):0<=i/\i<=7:=by
 grind [DP,sU]
def aRl{b:Bk}(hb:b.ok){i n:Int}(a:0<=n):0<=(yY b i n).1/\(yY b i n).1<=1099511627776:=by
 unfold yY;split
 ·split
  ·have:=O8.HL hb.2.1 i;exact⟨Int.mul_nonneg a this.1,by assumption⟩
  ·grind
 ·grind
def Wk.Ym{w:Wk}(hw:w.fit 0){c:aI}(hc:c.ok):cG (Wk.fit 4) (w.do c):=by
 have⟨hid,hti,hki,ha,hb,hn,href⟩:=hc;have h64:∀k:Int,0<=k->k<=1000->bQ k:=λk h1 h2=>i10 ⟨h1,h2⟩;unfold Wk.do;split
 ·exact cG.ask λ_=>(cG.iU hw λk=>OQ hw.b _ _ k).mono λx hx=>hx.1.le o_
 split
 ·exact cG.ask λ_=>(cG.iU hw λk=>Nw hw.b _ _ k).bind λx hx=>cG.pure ((hx.1.tell _ _ _ (h64 _ o_ o_) ha hn).le o_)
 split
 ·refine cG.ask λhp=>?_;simp only[eight,fI,h!] at hp;have iI:0<=AL w.b c/\AL w.b c<=7:=by
   unfold AL;split
   ·rename_i h;simp only[fI] at h;exact aMt h.2
   ·exact hp.1.2
  refine(cG.iU hw λk=>aIz hw.b ⟨hid,hp.1.1,iI,by dsimp only;omega,d_⟩ k).bind λx hx=>?_;refine(cG.iU hx.1 λk=>Uy hx.1.b _ _ k).bind λy hy=>?_;refine cG.pure (Wk.fit.le (Wk.fit.tell (Wk.fit.tell (w:={ y with ref:=c.id }) ⟨hy.1.b,hy.1.out,hy.1.len,hid⟩ _ _ _ (h64 _ o_ o_) (i8 iI) hn) _ _ _ (h64 _ o_ o_) ha (h64 _ o_ o_)) o_)
 split
 ·refine cG.ask λhp=>?_;simp only[h!] at hp;refine(cG.order hw href _).bind λp hp2=>?_;have⟨w1,o⟩:=p;obtain⟨h1,rfl,h3,h4⟩:=hp2;dsimp only;have key:∀x:Wk,x.fit 0->x.b.bG=w.b.bG->cG (Wk.fit 4) (pure ((x.put { o with dL:=c.n } 1).tell 2 o.item c.n)):=λx hx ho =>
   cG.pure (((hx.put 1 (o:={ o with dL:=c.n }) ⟨h3.id,h3.dX,h3.item,by dsimp only;omega,h3.cost⟩ (by grind [KI])).tell _ _ _ (h64 _ o_ o_) (i8 h3.item) hn).le o_)
  split
  ·exact(cG.iU h1 λk=>Uy h1.b _ _ k).bind λx hx=>key x hx.1 (by grind [IA])
  ·exact(cG.iU h1 λk=>OQ h1.b _ _ k).bind λx hx=>key x hx.1 (by grind [EW])
 split
 ·refine(cG.order hw href _).bind λp hp2=>?_;have⟨w1,o⟩:=p;obtain⟨h1,rfl,h3,h4⟩:=hp2;dsimp only;refine(cG.iU h1 λk=>OQ h1.b _ _ k).bind λx hx=>?_;have hx1:=hx.1.tell 3 o.item o.dL (h64 _ o_ o_) (i8 h3.item) (i10 h3.dL);have hxo:(x.tell 3 o.item o.dL).b.bG=w.b.bG:=by show x.b.bG=_;rw[hx.2.1];exact EW _ _ _ hx.2.2
  have key:∀y:Wk,y.fit 2->y.b.bG=w.b.bG->cG (Wk.fit 4) (pure ((y.put o 4).tell 7 o.dX 2)):=λy hy ho =>
   cG.pure (((hy.put 4 h3 (by grind [KI])).tell _ _ _ (h64 _ o_ o_) (i8 h3.dX) (h64 _ o_ o_)).le o_)
  split
  ·refine cG.bind (p:=λy=>Wk.fit 2 y/\y.b.bG=w.b.bG) ?_ λy hy=>key y hy.1 hy.2;refine(cG.iU hx1 λk=>Nw hx1.b _ _ k).bind λy hy=>cG.pure ⟨hy.1.tell _ _ _ (h64 _ o_ o_) (i8 h3.dX) (i40 h3.cost),?_⟩;show y.b.bG=_
   grind [EM]
  ·exact cG.bind (p:=λy=>Wk.fit 2 y/\y.b.bG=w.b.bG) (cG.ok ⟨hx1.le o_,hxo⟩) λy hy=>key y hy.1 hy.2
 split
 ·refine(cG.order hw href _).bind λp hp2=>?_;have⟨w1,o⟩:=p;obtain⟨h1,rfl,h3,h4⟩:=hp2;dsimp only;split
  ·exact cG.error
  ·have hc:=aRl hw.b.ok (i:=o.item) h3.dL.1;refine(cG.iU h1 λk=>aDt h1.b _ _ k).bind λx hx=>?_;refine cG.pure ((((hx.1.put 2 (o:={ o with cost:=(yY w.b o.item o.dL).1 }) ⟨h3.id,h3.dX,h3.item,h3.dL,hc⟩ ?_).tell _ _ _ (h64 _ o_ o_) (i8 h3.dX) (i40 hc)).tell _ _ _ (h64 _ o_ o_) (i8 h3.dX) (i40 hc)).le o_)
   grind [KI,KU]
 split
 ·refine(cG.order hw href _).bind λp hp2=>?_;have⟨w1,o⟩:=p;obtain⟨h1,rfl,h3,h4⟩:=hp2;have i1:=i8 h3.item;have i2:=i10 h3.dL;exact cG.pure (((((h1.put 3 h3 h4).tell _ _ _ (h64 _ o_ o_) i1 i2).tell _ _ _ (h64 _ o_ o_) i1 i2).tell _ _ _ (h64 _ o_ o_) i1 i2).tell _ _ _ (h64 _ o_ o_) (i8 h3.dX) (h64 _ o_ o_) |>.le o_)
 split
 ·refine(cG.order hw href _).bind λp hp2=>?_;have⟨w1,o⟩:=p;obtain⟨h1,rfl,h3,h4⟩:=hp2;dsimp only;refine(cG.iU h1 λk=>Nw h1.b _ _ k).bind λx hx=>?_;refine cG.pure (((hx.1.put 5 h3 ?_).tell _ _ _ (h64 _ o_ o_) (i8 h3.dX) (i40 h3.cost)).le o_)
  grind [KI,EM]
 split
 ·exact(cG.iU hw λk=>aIp hw.b _ _ k).mono λx hx=>hx.1.le o_
 ·exact cG.error
structure Out.fit(o:Out):Prop where
 lP:∀f∈o.lP,f.ok
 len:o.lP.length<=4
def Qm{b:Bk}(h:b.fit){c:aI}(a:c.ok):(oG b c).1.fit/\(oG b c).2.fit:=by
 have e:Wk.fit 0 ⟨b,[],⟨0,0⟩⟩:=⟨h,(λ_ h=>(cZ h).elim),bM _,⟨show bQ 0 from⟨by decide,by decide⟩,show bQ 0 from⟨by decide,by decide⟩⟩⟩
 unfold oG;cases d:Wk.do ⟨b,[],⟨0,0⟩⟩ c with
 |ok w=>have:=Wk.Ym e a w d;exact⟨this.b,this.out,this.len⟩
 |error k=>exact⟨h,(λ_ h=>(cZ h).elim),bY _⟩
theorem EP{b:Bk}(h:b.fit)(a:∀c∈l,c.ok):(fM b l).1.fit/\∀o∈(fM b l).2,o.fit:=by
 induction l generalizing b with
 |nil=>exact⟨h,λ_ h=>by cases h⟩
 |cons c l i =>
  have e:=Qm h (a c jW);have f:=i e.1 λx g=>a x (kF _ g);refine⟨f.1,λo d=>?_⟩;rcases tK.1 d with rfl|d
  all_goals grind
theorem BD{b:Bk}:(fM b l).2.length=l.length:=by
 induction l generalizing b with
 |nil=>rfl
 |cons c l a=>simp[fM,a]
def H4{b:Bk}{m:List aI}:fM b (l++m)=((fM (fM b l).1 m).1,(fM b l).2++(fM (fM b l).1 m).2):=by
 induction l generalizing b with
 |nil=>rfl
 |cons c l a=>simp[fM,a]
theorem Bf:fY.fit:=⟨by refine⟨?_,?_,?_⟩<;>(unfold O8.nC;decide),λ_ h=>(cZ h).elim,bY _⟩
end
section
open Go.RowKit Reg
open Mem hiding Rd
structure Ov where
 code:Int
 X:Option Addr
 n:Nat
 c:Nat
 lP:List bE
abbrev Ov.cs(x:Ov):List p!:=[a! x.code,.slice x.X x.n x.c]
def Ov.d(x:Ov):Out:=⟨x.code,x.lP⟩
def qF:Ty Ov where
 val x:=.agg x.cs.toArray
 size:=2
 bytes:=32
 tid:=141
 zero:=.agg #[a! 0,.slice none 0 0]
 hlen _:=rfl
 kL a u h:=by simp[Value.cells] at h;rcases h with rfl|rfl<;>rfl
 fZ:=sD
 hzero:=rfl
 lF:=q_
 mQ:=.inl ⟨q_,λ_=>⟨_,rfl⟩⟩
instance:pH 141 Ov qF:=⟨rfl⟩
instance:pR qF 32:=⟨rfl⟩
instance:zH 141 [a! 0,.slice none 0 0]:=⟨q_⟩
instance:zH 46 [.slice none 0 0]:=⟨q_⟩
abbrev dZ(x:Ov):aG:=own eT x.X x.n x.c x.lP
structure Bh where
 b:Bk
 A:Option Addr
 m:Nat
 c:Nat
abbrev Bh.cs(x:Bh):List p!:=x.b.cs x.A x.m x.c
abbrev gQ(x:Bh):aG:=own eS x.A x.m x.c x.b.bG
def WD(E:Env)(x:Bh)(c:Rd E eS x.A x.m x.c x.b.bG)(hb:x.b.fit)(a:aI):G E 219 [.agg x.cs.toArray,.agg a.cs.toArray] []
  λe b=>∃(y:Bh) (o:Ov),y.b=(oG x.b a).1/\o.d=(oG x.b a).2/\e=.returned (.tuple #[.agg y.cs.toArray,.agg o.cs.toArray])/\b=[gQ y,dZ o]:=by
 have f:x.m<=1000:=by have:=c.len;have:=hb.len;omega
 refine aF.mono (WC E x.b x.A x.m x.c c hb.ok (λo g=>(hb.Ay o g).dL) f a) ?_;rintro e b ⟨B,h,d,X,n,k,rfl,rfl⟩;exact⟨⟨(oG x.b a).1,B,h,d⟩,⟨(oG x.b a).2.code,X,n,k,(oG x.b a).2.lP⟩,rfl,rfl,rfl,rfl⟩
def aJw(E:Env)(x:Bh)(Z:n!)(n k:Nat):G E 165 [.agg x.cs.toArray,.slice Z n k] []
  λe c=>∃a b,e=.returned (.func (.func 218) #[] #[.pointer (some ⟨a,0,none⟩),.pointer (some ⟨b,0,none⟩)])/\c=[aE a 24 [.slice Z n k],aE b 45 x.cs]:=by
 dsimp only[Bh.cs,Bk.cs,G];refine p_ func165 ntmps165 ?_;intros
 exact aX rfl aJ aC ⟨_,_,rfl,rfl⟩
abbrev GQ:=List Ov×Bh
def Jd(s:GQ)(x:Ov×Bh):GQ:=(s.1++[x.1],x.2)
abbrev Jc(x:Ov×Bh):List p!:=[.agg x.1.cs.toArray,.agg x.2.cs.toArray]
def aIb(E:Env)(h j:Nat)(d:Bh)(hb:d.b.fit)(Z:n!)(n k:Nat)(l:List aI)(A:Rd E bO Z n k l)(p:∀c∈l,c.ok)(U:n<=1000000)(lp:Nat)(J:GQ->aG)
  (Q:∀r R2 s x,Sub E R2 r->s.1.length<=1000000->Gm prog r lp (Jc x) (J s::[dZ x.1]) (λe H'=>e=.returned (.bool true)/\H'=[J (Jd s x)])) :
  aF prog E 218 #[.func (.yield lp) #[] #[],.pointer (some ⟨h,0,none⟩),.pointer (some ⟨j,0,none⟩)] (J ([],d)::[aE h 24 [.slice Z n k],aE j 45 d.cs,gQ d])
   (λe H'=>(∃v,e=.returned v)/\∃(s:GQ) (Hd:List aG),(s.1.map Ov.d=(fM d.b l).2/\s.2.b=(fM d.b l).1/\Hd=[aE h 24 [.slice Z n k],aE j 45 s.2.cs,gQ s.2])/\H'=J s::Hd):=by
 have B:=A.len;have w:=A.cap;have D:=cS;refine VT func218 rfl ntmps218 s_ ?_;repeat (first|refine tC ?_|refine sH ?_|intro _)
 refine CI.loop (X:=Nat×GQ) (λs=>[(0,.func (.yield lp) #[] #[]),(1,.pointer (some ⟨h,0,none⟩)),(2,.pointer (some ⟨j,0,none⟩)),(7,.slice Z n k),(8,a! n),(9,a! s.1)]) (λs=>[J s.2,aE h 24 [.slice Z n k],aE j 45 s.2.2.cs,gQ s.2.2])
  (λs=>s.1<=n/\s.2.1.map Ov.d=(fM d.b (l.take s.1)).2/\s.2.2.b=(fM d.b (l.take s.1)).1) (λs=>n - s.1) (0,[],d) aK aC ⟨bY _,rfl,rfl⟩ ?_
 rintro⟨i,s⟩ G ⟨H,b,a⟩;dsimp only at H b a⊢;by_cases K:i<n
 ·have⟨c,u⟩:∃c,l[i]?=some c:=⟨_,bS o_⟩;have g:s.2.b.fit:=by rw[a];exact(EP hb λx P=>p x (mD P)).1
  have m:=λM O=>WD M s.2 O g c;have q:s.1.length<=n:=by rw[<-fB (f:=Ov.d),b,BD,dR];omega
  have⟨F,y⟩:=s;dsimp only[Bh.cs,Bk.cs,aI.cs,gQ,dZ] at b a g m q⊢;repeat (first|refine tC ?_|refine sH ?_|intro _)
  refine MO sD sK aH (λM t=>m M bK) ?_;rintro e H' ⟨z,o,R,N,rfl,rfl⟩;refine⟨_,rfl,_,bU,?_⟩;repeat (first|refine tC ?_|refine sH ?_|intro _)
  refine LI.yield sD rfl ER aH (λM t=>Q M _ (F,y) (o,z) t d_) ?_;rintro e H' ⟨rfl,rfl⟩;refine⟨_,rfl,_,bU,?_⟩;repeat (first|refine tC ?_|refine sH ?_|intro _)
  dsimp only[Jd];refine⟨(i+1,F++[o],z),aK,aC,⟨by dsimp only;omega,?_,?_⟩,d_⟩
  ·dsimp only;rw[take_succ u,H4,<-a];simp only[gP,jL,tI,b,N,fM]
  ·dsimp only;rw[take_succ u,H4,<-a];simp only[R,fM]
 ·obtain rfl:i=n:=o_;rw[fX o_] at b a;repeat (first|refine tC ?_|refine sH ?_|intro _)
  exact gG rfl aC (⟨⟨_,rfl⟩,s,_,⟨b,a,rfl⟩,rfl⟩)
def CI.unpack{r:Option Nat}{N:Nat}{cd:Code}{Q:QF}{H:List aG}{l:X->List aG}(c:Has (pack l) H R)(h:∀x,CI r P N E cd Q F (l x++R)):CI r P N E cd Q F H:=⟨λa w b d=>by
 have⟨x,e⟩:=d.unpack c;exact(h x).get a w b e⟩
def WJ.unpack{N:Nat}{cd:Code}{b:Exit->Act->World->Prop}{H:List aG}{l:X->List aG}(d:Has (pack l) H R)(h:∀x,WJ P N E cd b F (l x++R)):WJ P N E cd b F H:=⟨λa w c e=>by
 have⟨x,f⟩:=e.unpack d;exact(h x).get a w c f⟩
abbrev KL(g:Nat)(os:List Ov):aG:=pack λ(x:n!×Nat)=>[aE g 46 [.slice x.1 os.length x.2],own qF x.1 os.length x.2 os,aT dZ os]
def WO(b:Bk)(l:List aI):Ending->List aG->Prop:=λe a=>∃(y:Bh) (O:n!) (k:Nat) (os:List Ov),os.map Ov.d=(fM b l).2/\y.b=(fM b l).1/\e=.returned (.tuple #[.agg y.cs.toArray,.slice O os.length k])/\a=[gQ y,own qF O os.length k os,aT dZ os]
theorem Iw(E:Env)(f0:Bh)(hr:Rd E eS f0.A f0.m f0.c f0.b.bG)(hb:f0.b.fit)(Z:Option Addr)(n k:Nat)(l:List aI)(hl:Rd E bO Z n k l)(hok:∀c∈l,c.ok)(hn:n<=1000000):G E 102 [.agg f0.cs.toArray,.slice Z n k] [] (WO f0.b l):=by
 have hlen:=hl.len;have hm:f0.m<=1000:=by have:=hr.len;have:=hb.len;omega
 obtain⟨b,A,m,c⟩:=f0;dsimp only at hm hr hb⊢;have clone:=λM hr=>MP M A m c b.bG hr o_;dsimp only[Bh.cs,Bk.cs,G];refine VU func102 rfl ntmps102 (by simp) λhds=>?_;refine WJ.vV ?_;refine a_ ?_;intros
 refine WJ.vV ?_;refine a_ ?_
 refine cU clone ?_;rintro e H' ⟨B,d,hd,rfl,rfl⟩;refine a_ ?_
 refine WJ.vV ?_;refine a_ ?_;intros
 refine WJ.vV ?_;refine a_ ?_;intros
 rename_i g2 g4 g6 g7;refine WJ.seq ?_;refine WJ.vV ?_;refine a_ ?_
 refine aU (λM=>aJw M ⟨b,B,m,d⟩ Z n k) ?_;rintro e H' ⟨g1,g3,rfl,rfl⟩;refine a_ ?_
 refine WJ.rg (Y:=Nat×Nat) (ps:=[18,19]) Jc (λx=>[dZ x.1]) Jd (λs=>[aE g4 45 (fY.cs none 0 0),KL g6 s.1,aE g7 45 s.2.cs]) ([],⟨b,B,m,d⟩)
  (λs x y=>[(4,.pointer (some ⟨g4,0,none⟩)),(6,.pointer (some ⟨g6,0,none⟩)),(7,.pointer (some ⟨g7,0,none⟩)),(8,.pointer (some ⟨y.1,0,none⟩)),(9,.pointer (some ⟨y.2,0,none⟩))])
  (λs x y=>[aE y.1 141 x.1.cs,aE y.2 45 x.2.cs,dZ x.1,aE g4 45 (fY.cs none 0 0),KL g6 s.1,aE g7 45 s.2.cs])
  (Hit:=[aE g1 24 [.slice Z n k],aE g3 45 (b.cs B m d),own eS B m d b.bG])
  (λs Hd=>s.1.map Ov.d=(fM b l).2/\s.2.b=(fM b l).1/\Hd=[aE g1 24 [.slice Z n k],aE g3 45 s.2.cs,gQ s.2]) (λs _=>s.1.length<=1000000)
  hds rfl ⟨_,func218,q_,rfl⟩ (λ_=>rfl) sD ?_
  (λM R' lp J hE hy=>aIb M g1 g3 ⟨b,B,m,d⟩ hb Z n k l (hl.sub hE) hok hn lp J hy) ?_ ?_ ?_
 ·unfold KL;dsimp only[Bh.cs,Bk.cs,List.length_nil,List.cons_append,List.nil_append];refine aB.trans (aB.nil qF) (aB.trans (aB.pK dZ) ?_);exact aB.trans (aB.pack (l:=λ(x:Option Addr×Nat)=>[aE g6 46 [.slice x.1 0 x.2],own qF x.1 0 x.2 [],aT dZ []]) (none,0) aH) aC
 ·rintro E2 R3 lp s x hE hd hs;obtain⟨o,y⟩:=x;dsimp only[Bh.cs,Bk.cs,Jc,Ov.cs,List.cons_append,List.nil_append];repeat (first|refine tC ?_|refine sH ?_|intro _)
  exact⟨(_,_),aK,aC⟩
 ·rintro E2 R3 lp s x y Gf hE hd hs;obtain⟨o,z⟩:=x;dsimp only[Bh.cs,Bk.cs,Jc,Ov.cs];refine CI.unpack aV λx=>?_;obtain⟨O,k⟩:=x;dsimp only[List.cons_append,List.nil_append];repeat (first|refine tC ?_|refine sH ?_|intro _)
  rename_i O1 k1 _ _;have hl1:(s.1++[o]).length=s.1.length+1:=by simp
  dsimp only[Jd,KL];rw[hl1];refine⟨aB.trans (aB.push (f:=dZ) (x:=o) aH) ?_⟩;exact aB.trans (aB.pack (l:=λ(x:Option Addr×Nat)=>[aE g6 46 [.slice x.1 (s.1.length+1) x.2],own qF x.1 (s.1.length+1) x.2 (s.1++[o]),aT dZ (s.1++[o])]) (O1,k1) aH) aC
 ·rintro D s Hd ⟨h1,h2,rfl⟩;dsimp only[Bh.cs,Bk.cs,gQ,List.cons_append,List.nil_append];refine WJ.unpack aV λx=>?_;obtain⟨O,k⟩:=x;dsimp only[List.cons_append,List.nil_append];refine WJ.Na ?_;refine a_ ?_
  refine rB (l_ [0,1] (g_ 2 (n_ 3 .nil))) ([aE g7 45 _,aE g6 46 _]) ?_;refine a_ ?_
  refine⟨_,aV,?_⟩;exact mL (H':=[own eS s.2.A s.2.m s.2.c s.2.b.bG,own qF O s.1.length k s.1,aT dZ s.1]) rfl aJ rfl rfl rfl aV rfl aJ aC ⟨s.2,O,k,s.1,h1,h2,rfl,rfl⟩
def Lb(E:Env)(a:Bh)(g:Rd E eS a.A a.m a.c a.b.bG)(hb:a.b.fit)(Z:n!)(n k:Nat)(l:List aI)(f:Rd E bO Z n k l)(b:∀c∈l,c.ok)(i:n<=1000000):G E 76 [.agg a.cs.toArray,.slice Z n k] []
  λe d=>∃y:Bh,y.b=(fM a.b l).1/\e=.returned (.agg y.cs.toArray)/\d=[gQ y]:=by
 have run:=λM g f=>Iw M a g hb Z n k l f b i;dsimp only[Bh.cs,Bk.cs,G] at run⊢;refine p_ func76 ntmps76 ?_;intros
 refine rO run ?_;rintro e d ⟨y,O,k1,m,j,h,rfl,rfl⟩;refine gk bU ?_;dsimp only[Bh.cs,Bk.cs,gQ];refine a_ ?_;intros
 exact eP rfl aJ rfl rfl rfl aV rfl aC (⟨y,h,rfl,rfl⟩)
def AB(f:bE):Bool:=decide (7<=f.kind/\f.kind<=11)
def Ao(f:bE):Bool := !AB f&&decide (1<=f.kind/\f.kind<=11)
def qM(o:Out)(a:Bool):List bE:=if o.code=0 then o.lP.filter Ao++(if a then o.lP.filter AB else[]) else[]
def M?(E:Env)(x:bE):G E 272 [.agg x.cs.toArray] [] (bL (.bool (AB x)) []):=by
 unfold AB;refine p_ func272 ntmps272 ?_;intros
 exact aS
instance {x:bE}:uD 272 [.agg x.cs.toArray] (.bool (AB x)):=⟨λE=>M? E x⟩
def Vk(E:Env)(o:Ov)(l:Bool)(z:Rd E eT o.X o.n o.c o.lP)(H:o.n<=1000):G E 211 [.agg o.cs.toArray,.bool l] []
  λe D=>∃Y m d,e=.returned (.slice Y m d)/\D=[own eT Y m d (qM o.d l)]:=by
 have⟨f,X,n,c,b⟩:=o;have a:=z.len;have g:=z.cap;have B:=cS;unfold qM Ov.d;dsimp only at a H z g⊢;by_cases h:f=0
 ·rw[c! h];subst h;refine p_ func211 ntmps211 ?_;intros;refine C.conv (aB.trans (aB.mR eT none) (aB.mR eT none)) ?_;refine C.scan (Y:=(n!×Nat×Nat)×(n!×Nat×Nat)) a (λi y=>[(1,.bool l),(5,.slice y.1.1 y.1.2.1 y.1.2.2),(6,.slice y.2.1 y.2.2.1 y.2.2.2),(13,.slice X n c),(14,a! n),(15,a! i)])
   (λi y=>[own eT y.1.1 y.1.2.1 y.1.2.2 ((b.take i).filter Ao),own eT y.2.1 y.2.2.1 y.2.2.2 ((b.take i).filter AB)]) (λi y=>y.1.2.1<=i/\y.2.2.1<=i) ((none,0,0),(none,0,0)) aK (by dsimp only[List.take_zero,List.filter_nil];exact aC) ⟨bM _,bM _⟩ ?_ ?_
  ·rintro i ⟨⟨q,j,s⟩,⟨r,k,t⟩⟩ x G M K ⟨u,v⟩;dsimp only at u v⊢;have A:∀p:bE->Bool,(b.take (i+1)).filter p=if p x=true then(b.take i).filter p++[x] else(b.take i).filter p:=λp=>by
    rw[take_succ K,GY];cases J:p x<;>simp[List.filter,J]
   rw[A,A];cases w:AB x with
   |true =>
    rw[b! (show ¬Ao x=true by simp[Ao,w]),c! rfl];refine a_ ?_;intros;refine⟨((q,j,s),(_,k+1,_)),aK,aC,by dsimp only;omega,d_⟩
   |false =>
    by_cases F:1<=x.kind/\x.kind<=11
    ·rw[c! (show Ao x=true by simp[Ao,w,F]),b! sD];refine a_ ?_;intros;refine⟨((_,j+1,_),(r,k,t)),aK,aC,by dsimp only;omega,d_⟩
    ·rw[b! (show ¬Ao x=true by simp[Ao,w];omega),b! sD];refine a_ ?_;intros;refine⟨((q,j,s),(r,k,t)),aK,aC,by dsimp only;omega,d_⟩
  ·rintro⟨⟨q,j,s⟩,⟨r,k,t⟩⟩ G ⟨u,v⟩;rw[fX o_];dsimp only at u v⊢;cases l with
   |true =>
    rw[show(if true=true then b.filter AB else[])=b.filter AB from rfl];refine a_ ?_;intros;exact dS ⟨_,_,_,rfl,rfl⟩
   |false =>
    rw[show(if false=true then b.filter AB else[])=[] from rfl,aY];refine a_ ?_;exact dS ⟨_,_,_,rfl,rfl⟩
 ·rw[b! h];refine p_ func211 ntmps211 ?_;intros;exact aX rfl aJ (aB.trans (aB.mR eT none) aC) ⟨none,0,0,rfl,rfl⟩
instance:iB 153 ([.slice none 0 0,.slice none 0 0]++fY.cs none 0 0++[.bool false,.pointer none,a! 0,a! 0,a! 0,a! 0,a! 0,a! 0,a! 0,a! 0]) [(0,27),(27,1),(28,1),(29,4),(33,4)]:=⟨⟨q_,q_⟩⟩
structure Lg where
 l:List aI
 t:List aI
 known:V4
 times:V4
structure Lh where
 g:Nat
 A:Option Addr
 c:Nat
 O:Option Addr
 k:Nat
 os:List Ov
 y:Bh
 gt:Nat
 T:Option Addr
 q:Nat
abbrev iT(h:Lh)(v:Lg):List p!:=[.slice h.A v.l.length h.c,.slice h.O h.os.length h.k]++h.y.cs++[.bool true,pt h.gt]++v.known.cs++v.times.cs
structure Lf(h:Lh)(v:Lg):Prop where
 outs:h.os.map Ov.d=(fM fY v.l).2
 base:h.y.b=(fM fY v.l).1
 len:v.l.length+v.t.length<=48
 B4:∀c∈v.l,c.ok
 tok:∀c∈v.t,c.ok
 known:v.known.ok
 times:v.times.ok
def Lf.n{h:Lh}{v:Lg}(f:Lf h v):h.os.length=v.l.length:=by
 have:=j! List.length f.outs
 rwa [fB,BD] at this
def Lf.fit{h:Lh}{v:Lg}(f:Lf h v):h.y.b.fit:=by rw[f.base];exact(EP Bf f.B4).1
structure xX(E:Env)(h:Lh)(v:Lg):Prop where
 b:gX E h.g (iT h v)
 l:Rd E bO h.A v.l.length h.c v.l
 o:Rd E qF h.O h.os.length h.k h.os
 y:Rd E eS h.y.A h.y.m h.y.c h.y.b.bG
 tb:gX E h.gt [.slice h.T v.t.length h.q]
 t:Rd E bO h.T v.t.length h.q v.t
def eU(h:Lh)(v:Lg):List aG:=[aE h.g 153 (iT h v),own bO h.A v.l.length h.c v.l,own qF h.O h.os.length h.k h.os,gQ h.y,aE h.gt 221 [.slice h.T v.t.length h.q],own bO h.T v.t.length h.q v.t]
section
variable (E:Env) (h:Lh) (v:Lg)
def Ar(hb:gX E h.g (iT h v)):G E 74 [pt h.g] [] (bL (.bool true) []):=by
 dsimp only[iT,Bh.cs,Bk.cs,k!,l!] at hb;refine p_ func74 ntmps74 ?_
 exact aS
def aKp(r:xX E h v)(f:Lf h v):G E 16 [pt h.g] [] λe c=>∃B k,(v.l.length<=k/\k<=maxLen)/\e=.returned (.slice B v.l.length k)/\c=[own bO B v.l.length k v.l]:=by
 have⟨hb,j,o,q,n,p⟩:=r;have l:=f.len;have b:=λM hb=>Ar M h v hb;have a:=λM m=>Gx M h.A v.l.length h.c v.l m o_;dsimp only[iT,Bh.cs,Bk.cs,k!,l!] at hb b;refine p_ func16 ntmps16 ?_
 refine z_ b ?_
 refine cl sD sK aH (λM g=>a M (j.sub g)) (b_ ?_);intro B d i
 exact dS ⟨_,_,i,rfl,rfl⟩
def aEf(r:xX E h v)(f:Lf h v):G E 40 [pt h.g] [] λe g=>∃B k,(v.t.length<=k/\k<=maxLen)/\e=.returned (.slice B v.t.length k)/\g=[own bO B v.t.length k v.t]:=by
 have⟨hb,n,o,p,a,m⟩:=r;have j:=f.len;have c:=λM hb=>Ar M h v hb;have all:=λM hb l=>GF M h.gt h.T v.t.length h.q v.t hb l o_;dsimp only[iT,Bh.cs,Bk.cs,k!,l!] at hb c;refine p_ func40 ntmps40 ?_
 refine z_ c ?_
 refine cl sD sK aH (λM b=>all M (a.sub b) (m.sub b)) (b_ ?_);intro B d i
 exact dS ⟨_,_,i,rfl,rfl⟩
def aFx(r:xX E h v)(f:Lf h v):G E 18 [pt h.g] [] λe j=>∃y:Bh,y.b=(fM fY (v.l++v.t)).1/\e=.returned (.agg y.cs.toArray)/\j=[gQ y]:=by
 have b:=f.fit;have n:=f.len;have⟨hb,k,s,p,i,o⟩:=r;have l:=λM hb=>Ar M h v hb;have all:=λM hb g=>GF M h.gt h.T v.t.length h.q v.t hb g o_;have a:=λM g B d k=>Lb M h.y g b B v.t.length d v.t k f.tok o_;dsimp only[iT,Bh.cs,Bk.cs,k!,l!] at hb l a;refine p_ func18 ntmps18 ?_;intros
 refine z_ l ?_
 refine rB (l_ [0,1,2,3,4,5,6,7,8] (g_ 9 (g_ 10 (g_ 11 .nil)))) ([]) (a_ ?_)
 refine cg rfl sD bB sK aH (λM c=>all M (i.sub c) (o.sub c)) (b_ ?_);intro B d q
 refine cg rfl sD bB sK aH (λM c=>a M (p.sub c) B d bK) ?_;rintro e j ⟨y,m,rfl,rfl⟩;refine gd bU aC ?_;dsimp only[Bh.cs,Bk.cs];refine a_ ?_
 exact eP rfl aJ rfl rfl rfl aV rfl aC (⟨y,by rw[H4,<-f.base,m],rfl,rfl⟩)
def aIk(r:xX E h v)(f:Lf h v):G E 96 [pt h.g] [] (bL (.agg (xK (v.l++v.t)).cs.toArray) []):=by
 have j:=f.len;have⟨hb,i,p,q,b,l⟩:=r;have e:=λM hb=>Ar M h v hb;have all:=λM hb k=>GF M h.gt h.T v.t.length h.q v.t hb k o_;dsimp only[iT,Bh.cs,Bk.cs,k!,l!] at hb e;refine p_ func96 ntmps96 ?_;intros
 refine z_ e ?_
 refine rB (l_ [0,1,2,3,4,5,6,7,8] (g_ 9 (g_ 10 (g_ 11 (g_ 12 (g_ 13 .nil)))))) ([]) (a_ ?_)
 refine cg rfl sD bB sK aH (λM a=>all M (b.sub a) (l.sub a)) (b_ ?_);intro B d o;intros
 refine cg rfl sD bB sK aH (λM a=>JF M _ _ _ _ bK (by intro s c;simp at c;rcases c with rfl|rfl;exact i.sub a;exact bK) (by simp;omega)) ?_;simp only[zK,GZ,aY];refine b_ ?_;intro m n g
 refine E_ (λM=>aCa M _ _ _ _) ?_
 exact gE
def V.aNi{g:r!->p!}{o:Oper}{x y z t:r!}{f:Array q!}{k:IntKind}{a b c d:Int}{u:World}(i:o.op=.call { callee:=.builtin .max,args:=#[x,y,z,t],argTypes:=f })(l:g x=.int k a)(m:g y=.int k b)(n:g z=.int k c)(j:g t=.int k d):(execOp g o).run P u=.ok (.value (.int k (Max.max (Max.max (Max.max a b) c) d))) u:=by
 have e:∀p q:Int,(if q > p then q else p)=Max.max p q:=λp q=>by rw[Int.max_def];split<;>split<;>omega
 have h:(Builtin.max_ f o.type #[.int k a,.int k b,.int k c,.int k d]).run P u=.ok (.int k (if d > (if c > (if b > a then b else a) then c else(if b > a then b else a)) then d else(if c > (if b > a then b else a) then c else(if b > a then b else a)))) u:=by
  simp[Builtin.max_,Builtin.max2]
 simp only[e] at h;generalize Max.max (Max.max (Max.max a b) c) d=r at h⊢;simp[execOp,i,resolve,l,m,n,j,invoke,builtin,h]
def Bx(v:Lg):Int:=Max.max (Max.max (Max.max v.times.a v.times.b) v.times.c) v.times.d
def U?(r:xX E h v)(f:Lf h v):G E 97 [pt h.g] [] (bL (a! (Bx v)) []):=by
 have⟨hb,c,d,g,b,e⟩:=r;have a:=λM hb=>Ar M h v hb;dsimp only[iT,Bh.cs,Bk.cs,k!,l!] at hb a;refine p_ func97 ntmps97 ?_
 refine z_ a ?_
 refine rA (l_ [0,1,2,3,4,5,6,7,8,9,10,11,12,13,14,15,16,17,18,19,20,21] .nil) (a_ ?_)
 refine Dr.take rfl sD bB (λ_ _=>V.aNi rfl rfl rfl rfl rfl) (a_ ?_)
 exact aS
def aSf(r:xX E h v)(f:Lf h v):G E 115 [pt h.g] [] (bL (.tuple #[.agg ((v.t[0]?).getD kU).id.cs.toArray,.bool (!v.t.isEmpty)]) []):=by
 have⟨hb,i,j,k,a,g⟩:=r;have d:=λM hb=>Ar M h v hb;have first:=λM hb e=>aLw M h.gt h.T v.t.length h.q v.t hb e
 dsimp only[iT,Bh.cs,Bk.cs,k!,l!] at hb d;generalize (v.t[0]?).getD kU=c at first⊢
 dsimp only[aI.cs] at first
 refine p_ func115 ntmps115 ?_;intros
 refine z_ d ?_
 refine cl sD sK aH (λM b=>first M (a.sub b) (g.sub b)) (b_ ?_);intros
 exact lO
end
def YN(E:Env)(A:n!)(n c:Nat)(l:List Ov)(g:Rd E qF A n c l)(i:n<=1000000):G E 142 [.slice A n c] [] λe b=>∃B k,(n<=k/\k<=maxLen)/\e=.returned (.slice B n k)/\b=[own qF B n k l]:=by
 refine t_ func142 ntmps142 ?_;cases A with
 |none =>
  obtain⟨rfl,rfl⟩:=g.none;refine a_ ?_
  exact aX rfl aJ (aB.mR qF none) ⟨none,0,⟨bM _,bY _⟩,rfl,rfl⟩
 |some a =>
  refine a_ ?_;intros
  rename_i B k d f;exact dS ⟨_,_,⟨d,f⟩,rfl,rfl⟩
def aDh(E:Env)(o:Ov)(b:Rd E eT o.X o.n o.c o.lP)(i:o.n<=1000):G E 173 [.agg o.cs.toArray] [] λe c=>∃z:Ov,z.d=o.d/\e=.returned (.agg z.cs.toArray)/\c=[dZ z]:=by
 have a:=λM b=>YM M o.X o.n o.c o.lP b o_;dsimp only[Ov.cs,G];refine p_ func173 ntmps173 ?_;intros
 refine cl sD sK aH (λM f=>a M (b.sub f)) (b_ ?_);intro B d g
 exact eP rfl aJ rfl rfl rfl aV rfl aC (⟨⟨o.code,B,o.n,d,o.lP⟩,rfl,rfl,rfl⟩)
def Kc{H H':List aG}{b:Func}{Q:Ending->List aG->Prop}{t g u s:Nat}{ty e:q!}{cs:List p!}{d:TypeDesc}{c:TypeInfo}{v a:p!}(m:b.results=#[.cell t ty,.tmp u,.tmp s])(q:F t=.pointer (some ⟨g,0,none⟩))(o:P.underlying ty=some d)(k:lY d=true)(hi:P.info? ty=some c)(hb:Has (aE g e cs) H R)(l:c.size=cs.length)
  (p:F u=v) (n:F s=a) (j:aB E H H') (h:Q (.returned (.tuple #[.agg cs.toArray,v,a])) H'):mB P E b Q .ret F H:=by
 refine⟨.tuple #[.agg cs.toArray,v,a],H',λw r=>?_,j,h⟩;subst p n;have⟨f,i⟩:=H6 q o k hi hb l r;simp[vU,m,f,i]
section
variable (E:Env) (h:Lh) (v:Lg)
def Y?(r:xX E h v)(f:Lf h v):G E 73 [pt h.g] [] λe j=>∃i:Lh,i.os=h.os/\Lf i v/\e=.returned (pt i.g)/\j=eU i v:=by
 have g:=f.fit;have z:=f.len;have F:=f.n;have⟨hb,x,D,J,l,H⟩:=r;have p:=λM hb=>Ar M h v hb;have s:=λM c=>Gx M h.A v.l.length h.c v.l c o_;have t:=λM c=>YN M h.O h.os.length h.k h.os c o_;have K:=λM hb c=>aRg M h.gt h.T v.t.length h.q v.t hb c o_;have b:=λM c=>Lb M h.y c g none 0 0 [] (Rd.nil _ _) (λ_ h=>(cZ h).elim) o_;dsimp only[iT,Bh.cs,Bk.cs,V4.cs,k!,l!] at hb p b;refine p_ func73 ntmps73 ?_
 refine cl sD sK aH (λM a=>p M (hb.sub a)) (b_ ?_);intros
 refine rB (l_ [0,1,2,3,4,6,7,8,9,10,12,13,14,15,16] (g_ 5 (g_ 11 (g_ 17 (l_ [18,19] (g_ 20 (l_ [21,22] (g_ 23 (l_ [24,25] (g_ 26 .nil)))))))))) ([]) (a_ ?_)
 refine cg rfl sD bB sK aH (λM a=>s M (x.sub a)) (b_ ?_);intro B d N
 refine cg rfl sD bB sK aH (λM a=>t M (D.sub a)) (b_ ?_);intro m n w
 refine cg rfl sD bB sK aH (λM a=>b M (J.sub a)) ?_;rintro e j ⟨y,u,rfl,rfl⟩;refine gd bU aC ?_;dsimp only[Bh.cs,Bk.cs,gQ];refine a_ ?_
 refine cl sD sK aH (λM a=>K M (l.sub a) (H.sub a)) (b_ ?_);intro q A k
 rename_i o;exact aX (H':=eU ⟨o,B,d,m,n,h.os,y,q,A,k⟩ v) rfl aJ (by unfold eU;dsimp only[iT,Bh.cs,Bk.cs,V4.cs,gQ,k!,l!];exact aC) ⟨⟨o,B,d,m,n,h.os,y,q,A,k⟩,rfl,⟨f.outs,u.trans f.base,f.len,f.B4,f.tok,f.known,f.times⟩,rfl,rfl⟩
def nN(E:Env)(os:List Ov):Prop:=∀o∈os,Rd E eT o.X o.n o.c o.lP
def nN.sub{E M:Env}{os:List Ov}(c:nN E os)(a:Sub E R M):nN M os:=λo b=>(c o b).sub a
def aNy{os:List Ov}{b:Bk}(hb:b.fit)(a:∀c∈l,c.ok)(d:os.map Ov.d=(fM b l).2){o:Ov}(e:o∈os):o.d.fit:=(EP hb a).2 _ (d▸xV e)
def iZ(v:Lg)(a:aL):Out×Bool×Bool :=
 if 0<=eH v.l a then(((fM fY v.l).2[(eH v.l a).toNat]?).getD ⟨0,[]⟩,true,true)
 else if 0<=eH v.t a then(((fM (fM fY v.l).1 (v.t.take ((eH v.t a).toNat+1))).2[(eH v.t a).toNat]?).getD ⟨0,[]⟩,false,true)
 else(⟨0,[]⟩,false,false)
theorem aHj(r:xX E h v)(f:Lf h v)(N:nN E h.os)(a:aL):G E 110 [pt h.g,.agg a.cs.toArray] [] λe l=>∃o:Ov,o.d=(iZ v a).1/\e=.returned (.tuple #[.agg o.cs.toArray,.bool (iZ v a).2.1,.bool (iZ v a).2.2])/\l=[dZ o]:=by
 have s:=f.fit;have a8:=f.len;have a9:=f.n;obtain⟨hb,P,ho,U,u,R⟩:=r;have Q:=cS;have A:=λM hb=>Ar M h v hb;have all:=λM hb t=>GF M h.gt h.T v.t.length h.q v.t hb t o_;dsimp only[iT,Bh.cs,Bk.cs,V4.cs,List.cons_append,List.nil_append] at hb A;obtain⟨g,b⟩:=a;unfold iZ;by_cases D:0<=eH v.l ⟨g,b⟩
 ·rw[if_pos D];obtain⟨k1,W,F,_⟩:=CD D;have H:(eH v.l ⟨g,b⟩).toNat<v.l.length:=k1;obtain⟨o,i⟩:∃o,h.os[(eH v.l ⟨g,b⟩).toNat]?=some o:=⟨_,bS o_⟩
  have n:(fM fY v.l).2[(eH v.l ⟨g,b⟩).toNat]?=some o.d:=by rw[<-f.outs,mM,i];rfl
  have p:=N o (dG i);have hn:o.n<=1000:=by have:=(aNy Bf f.B4 f.outs (dG i)).len;have x:=p.len;unfold Ov.d at this;dsimp only at this;omega
  have own:=λM t=>aDh M o t hn;rw[n];dsimp only[Option.getD,Ov.cs,aL.cs] at own⊢;refine p_ func110 ntmps110 ?_;intros
  refine cl sD sK aH (λM j=>A M (hb.sub j)) ?_;rintro e l ⟨rfl,rfl⟩;refine a_ ?_
  refine rA (l_ [0,1,2,3,4,5] (g_ 6 (n_ 7 .nil))) (a_ ?_)
  refine cl sD sK aH (λM j=>own M (p.sub j)) ?_;rintro e l ⟨z,hz,rfl,rfl⟩;refine gk bU ?_;dsimp only[Ov.cs,dZ];refine a_ ?_
  exact Kc rfl aJ rfl rfl rfl aV rfl aJ aJ aC ⟨z,hz,rfl,rfl⟩
 ·rw[if_neg D];by_cases x:0<=eH v.t ⟨g,b⟩
  ·rw[if_pos x];obtain⟨k1,W,F,_⟩:=CD x;have H:(eH v.t ⟨g,b⟩).toNat<v.t.length:=k1;have X:(eH v.t ⟨g,b⟩+1).toNat=(eH v.t ⟨g,b⟩).toNat+1:=o_;have q:(eH v.t ⟨g,b⟩+1).toNat<=v.t.length:=o_;have b0:eH v.t ⟨g,b⟩<48:=o_;have run:=λM t B d P=>Iw M h.y t s B (eH v.t ⟨g,b⟩+1).toNat d (v.t.take (eH v.t ⟨g,b⟩+1).toNat) P (λc Z=>f.tok c (mD Z)) o_;rw[<-X];dsimp only[Bh.cs,Bk.cs,Ov.cs,aL.cs] at run⊢;refine p_ func110 ntmps110 ?_;intros
   refine cl sD sK aH (λM j=>A M (hb.sub j)) ?_;rintro e l ⟨rfl,rfl⟩;refine a_ ?_
   refine rA (l_ [0,1,2,3,4,5] (g_ 6 (n_ 7 .nil))) (a_ ?_)
   refine cl sD sK aH (λM j=>all M (u.sub j) (R.sub j)) ?_;rintro e l ⟨B,d,hd,rfl,rfl⟩;refine a_ ?_
   refine rA (l_ [0,1,2,3,4,5,6,7,8] (.two 9 (l_ [10,11,12] (g_ 13 (g_ 14 (n_ 15 .nil)))) 13 (g_ 9 (l_ [10,11,12] (g_ 14 (n_ 15 .nil)))))) (a_ ?_)
   refine Dr.two ?_ ?_
   ·refine lC rfl sD bB sK aH (λM j=>run M (U.sub j) B d (Rd.upto (show Rd M bO B v.t.length d v.t from bK) q o_ (bM _))) ?_;rintro e l ⟨y,O,k,w,m,J,rfl,rfl⟩;refine a_ ?_;intros
    have K:w.length=(eH v.t ⟨g,b⟩+1).toNat:=by
     have:=congrArg List.length m;rw[fB,BD,dR] at this;omega
    obtain⟨o,i⟩:∃o,w[(eH v.t ⟨g,b⟩).toNat]?=some o:=⟨_,bS o_⟩
    have n:(fM h.y.b (v.t.take (eH v.t ⟨g,b⟩+1).toNat)).2[(eH v.t ⟨g,b⟩).toNat]?=some o.d:=by rw[<-m,mM,i];rfl
    refine a_ ?_
    exact Kc (H':=[dZ o]) rfl aJ rfl rfl rfl aV rfl aJ aJ (aB.trans (aB.out (f:=dZ) aV i) aC) ⟨o,by rw[<-f.base,n];rfl,rfl,rfl⟩
   ·refine a_ ?_;intros
    refine cg rfl sD bB sK aH (λM j=>run M (U.sub j) B d (Rd.upto (show Rd M bO B v.t.length d v.t from bK) q o_ (bM _))) ?_;rintro e l ⟨y,O,k,w,m,J,rfl,rfl⟩;refine a_ ?_
    have K:w.length=(eH v.t ⟨g,b⟩+1).toNat:=by
     have:=congrArg List.length m;rw[fB,BD,dR] at this;omega
    obtain⟨o,i⟩:∃o,w[(eH v.t ⟨g,b⟩).toNat]?=some o:=⟨_,bS o_⟩
    have n:(fM h.y.b (v.t.take (eH v.t ⟨g,b⟩+1).toNat)).2[(eH v.t ⟨g,b⟩).toNat]?=some o.d:=by rw[<-m,mM,i];rfl
    refine a_ ?_
    exact Kc (H':=[dZ o]) rfl aJ rfl rfl rfl aV rfl aJ aJ (aB.trans (aB.out (f:=dZ) aV i) aC) ⟨o,by rw[<-f.base,n];rfl,rfl,rfl⟩
  ·rw[if_neg x];dsimp only[Ov.cs,aL.cs];refine p_ func110 ntmps110 ?_;intros
   refine cl sD sK aH (λM j=>A M (hb.sub j)) ?_;rintro e l ⟨rfl,rfl⟩;refine a_ ?_
   refine rA (l_ [0,1,2,3,4,5] (g_ 6 (n_ 7 .nil))) (a_ ?_)
   refine cl sD sK aH (λM j=>all M (u.sub j) (R.sub j)) ?_;rintro e l ⟨B,d,hd,rfl,rfl⟩;refine a_ ?_
   exact Kc rfl aJ rfl rfl rfl aV rfl aJ aJ (aB.trans (aB.nil eT) aC) ⟨⟨0,none,0,0,[]⟩,rfl,rfl,rfl⟩
end
end
end Go.Proofs.YtmilalkjbojciaaGreat.Sep
