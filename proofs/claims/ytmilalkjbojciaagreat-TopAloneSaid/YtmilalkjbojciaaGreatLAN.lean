/- Part AN: what it needs. No condition. -/
import Derived.Test.YtmilalkjbojciaaGreatLAA
import Derived.Test.YtmilalkjbojciaaGreatLAM
import Derived.Test.YtmilalkjbojciaaGreatLAG
import Derived.Test.YtmilalkjbojciaaGreatLAD
import Derived.Test.YtmilalkjbojciaaGreatLAE
set_option maxRecDepth 100000
set_option maxHeartbeats 8000000
open Go.Proofs.Tryz
namespace Go.Proofs.YtmilalkjbojciaaGreat.Sep
section
open Go.RowKit Reg
open Mem hiding Rd
theorem jZ(b:Bk)(i n:Int):(jB b i n).2=0→(jB b i n).1.aH=b.aH:=by
 unfold jB;split
 ·split
  ·intro h;first|rfl|cases h
  ·intro h;first|rfl|cases h
 ·intro h;cases h
theorem hP(b:Bk)(i n:Int):(nF b i n).2=0→(nF b i n).1.aH=b.aH:=by
 unfold nF;split
 ·split
  ·intro h;first|rfl|cases h
  ·intro h;first|rfl|cases h
 ·intro h;cases h
theorem nU(b:Bk)(i n:Int):(sN b i n).2=0→(sN b i n).1.aH=b.aH:=by
 unfold sN;split
 ·split
  ·intro h;first|rfl|cases h
  ·intro h;first|rfl|cases h
 ·intro h;cases h
theorem BF{b:Bk}{a:bJ}{st:List Int}{o:dD}{k:Int}(h:(o,k)=FT b a st)(hk:k=0):o∈b.aH:=by
 subst hk;unfold FT at h;cases hf:vL b a with
 |none=>rw[hf] at h;cases h
 |some x =>
  rw[hf] at h;dsimp only at h;split at h
  ·injection h with h1 h2
   subst h1;unfold vL at hf;split at hf
   ·exact aAi hf
   ·cases hf
  ·cases h
section
variable (E:Env) (w:Wk) (ch:aX) (g:Nat) (A:Option Addr) (m c:Nat) (X:Option Addr) (n x:Nat)
theorem Mv(hm:m≤1000)(hn:n≤900)(hb:w.b.ok)(hoq:∀o∈w.b.aH,0≤o.iN∧o.iN≤1000):G E 319 [.pointer (some ⟨g,0,none⟩),.agg ch.cs.toArray] (xC g w A m c X n x) (oN (w.J6 ch) (VF g)):=by
 unfold Wk.J6 C9;obtain⟨q,hq⟩:∃q,q=FT w.b ch.ref [1]:=⟨_,rfl⟩
 obtain⟨o,k⟩:=q;rw[show w.order ch.ref [1]=_ from iF hq];dsimp only[aX.cs,xC,List.cons_append,List.nil_append,G];refine t_ func319 ntmps319 ?_;repeat first|refine v_ ?_|intro
 refine Av sD sK aC (λM hE=>kC M _ _) ?_;rintro e H' ⟨he,rfl⟩;by_cases ha:1≤ch.n∧ch.n≤1000
 ·rw[if_pos (decide_eq_true ha)] at he;subst he;rw[if_pos (decide_eq_true ha)];refine .inl ⟨_,rfl,_,bG,?_⟩;repeat first|refine v_ ?_|intro
  refine Av sD sK aC (λM hE=>rH M w g A m c X n x dB ch.ref.rep ch.ref.seq _ 1 1 [1] dB) ?_;rw[iF hq];by_cases h:k=0
  ·rw[if_pos h];try rw[if_pos h]
   dsimp only[oN,bind,Except.bind];rintro e H' ⟨rfl,rfl⟩;refine .inl ⟨_,rfl,_,bG,?_⟩;dsimp only[dD.cs];have hq1:=hoq o (BF hq h);repeat ((fail_if_success (refine C.seq (x:=Code.region 5 _ _) ?_));first|refine Cx ?_|refine k_ ?_|intro _|refine Dr.two ?_ ?_)
   by_cases hs:0≤ch.n - o.iN
   ·rw[if_pos hs];obtain⟨r,hr⟩:∃r,r=jB w.b o.item (ch.n - o.iN):=⟨_,rfl⟩
    rw[←hr];have lmr:=λM=>aJy M ⟨w.b,w.out,ch.ref⟩ r g A A m c m c X n x;have lfr:=λM=>wX M w.b A m c o.item (ch.n - o.iN) hb;rw[←hr] at lfr;dsimp only[dD.cs,Wk.cs,Bk.cs,List.cons_append,List.nil_append] at lmr lfr⊢;repeat first|refine v_ ?_|intro
    refine C.bL 11 (l_ [0,1,2,3,4,5,6,7] (g_ 8 (l_ [9,10] (g_ 11 .nil)))) _ q_ q_ aB.refl ?_;repeat first|refine v_ ?_|intro
    refine eJ lfr ?_;repeat first|refine v_ ?_|intro
    refine As rfl sD bA sK aC (λM hE=>lmr M) ?_;unfold Wk.iQ;by_cases kr:r.2=0
    ·rw[if_pos kr];try rw[if_pos kr]
     have hor:r.1.aH=w.b.aH:=by rw[hr] at kr⊢;exact jZ _ _ _ kr
     dsimp only[oN,bind,Except.bind];rintro e H' ⟨rfl,rfl⟩;refine .inl ⟨_,rfl,_,bG,?_⟩;repeat first|refine v_ ?_|intro
     obtain⟨b1,hb1⟩:∃b',b'=lK r.1 ⟨o.id,o.cC,o.item,ch.n,o.cost,1⟩:=⟨_,rfl⟩
     have pu1:=λM=>oJ M ⟨r.1,w.out,ch.ref⟩ ⟨o.id,o.cC,o.item,ch.n,o.cost,o.state⟩ 1 g A m c X n x;dsimp only[Wk.put] at pu1;rw[←hb1] at pu1;dsimp only[Wk.tell,dD.cs,Wk.cs,Bk.cs,List.cons_append,List.nil_append] at pu1;rw[hor] at pu1;refine dX (λM h1=>pu1 M h1 hm) ?_;rintro e H' ⟨B1,d1,hd1,rfl,rfl⟩;repeat first|refine v_ ?_|intro
     have tl2:=λM=>eP M ⟨b1,w.out,ch.ref⟩ 2 o.item ch.n g B1 b1.aH.length d1 X n x o_;dsimp only[Wk.tell,Wk.cs,Bk.cs,List.cons_append,List.nil_append] at tl2;refine bW tl2 ?_;rintro e H' ⟨X2,x2,hx2,rfl,rfl⟩;repeat first|refine v_ ?_|intro
     unfold Wk.put Wk.tell;dsimp only;rw[←hb1];refine gO rfl (H':=[aJ g 369 _,own eB B1 b1.aH.length d1 b1.aH,own eG X2 (n+1) x2 (w.out++[⟨2,o.item,ch.n,ch.ref⟩])]) ?_ ⟨B1,b1.aH.length,d1,X2,(n+1),x2,rfl,rfl⟩;exact aB.aV (.cons .aN (.cons (.aM .aN) (.cons .aN .nil)))
    ·rw[if_neg kr];try rw[if_neg kr]
     dsimp only[oN,bind,Except.bind];rintro e H' ⟨rfl,rfl⟩;exact .inr ⟨_,rfl,[],aA,rfl,rfl⟩
   ·rw[if_neg hs,show o.iN - ch.n = -(ch.n - o.iN) by omega];obtain⟨r,hr⟩:∃r,r=nF w.b o.item (-(ch.n - o.iN)):=⟨_,rfl⟩
    rw[←hr];have lmr:=λM=>aJy M ⟨w.b,w.out,ch.ref⟩ r g A A m c m c X n x;have lfr:=λM=>zO M w.b A m c o.item (-(ch.n - o.iN)) hb;rw[←hr] at lfr;dsimp only[dD.cs,Wk.cs,Bk.cs,List.cons_append,List.nil_append] at lmr lfr⊢;repeat first|refine v_ ?_|intro
    refine C.bL 12 (l_ [0,1,2,3,4,5,6,7,8] (g_ 9 (l_ [10,11] (g_ 12 .nil)))) _ q_ q_ aB.refl ?_;repeat first|refine v_ ?_|intro
    refine eJ lfr ?_;repeat first|refine v_ ?_|intro
    refine As rfl sD bA sK aC (λM hE=>lmr M) ?_;unfold Wk.iQ;by_cases kr:r.2=0
    ·rw[if_pos kr];try rw[if_pos kr]
     have hor:r.1.aH=w.b.aH:=by rw[hr] at kr⊢;exact hP _ _ _ kr
     dsimp only[oN,bind,Except.bind];rintro e H' ⟨rfl,rfl⟩;refine .inl ⟨_,rfl,_,bG,?_⟩;repeat first|refine v_ ?_|intro
     obtain⟨b1,hb1⟩:∃b',b'=lK r.1 ⟨o.id,o.cC,o.item,ch.n,o.cost,1⟩:=⟨_,rfl⟩
     have pu1:=λM=>oJ M ⟨r.1,w.out,ch.ref⟩ ⟨o.id,o.cC,o.item,ch.n,o.cost,o.state⟩ 1 g A m c X n x;dsimp only[Wk.put] at pu1;rw[←hb1] at pu1;dsimp only[Wk.tell,dD.cs,Wk.cs,Bk.cs,List.cons_append,List.nil_append] at pu1;rw[hor] at pu1;refine dX (λM h1=>pu1 M h1 hm) ?_;rintro e H' ⟨B1,d1,hd1,rfl,rfl⟩;repeat first|refine v_ ?_|intro
     have tl2:=λM=>eP M ⟨b1,w.out,ch.ref⟩ 2 o.item ch.n g B1 b1.aH.length d1 X n x o_;dsimp only[Wk.tell,Wk.cs,Bk.cs,List.cons_append,List.nil_append] at tl2;refine bW tl2 ?_;rintro e H' ⟨X2,x2,hx2,rfl,rfl⟩;repeat first|refine v_ ?_|intro
     unfold Wk.put Wk.tell;dsimp only;rw[←hb1];refine gO rfl (H':=[aJ g 369 _,own eB B1 b1.aH.length d1 b1.aH,own eG X2 (n+1) x2 (w.out++[⟨2,o.item,ch.n,ch.ref⟩])]) ?_ ⟨B1,b1.aH.length,d1,X2,(n+1),x2,rfl,rfl⟩;exact aB.aV (.cons .aN (.cons (.aM .aN) (.cons .aN .nil)))
    ·rw[if_neg kr];try rw[if_neg kr]
     dsimp only[oN,bind,Except.bind];rintro e H' ⟨rfl,rfl⟩;exact .inr ⟨_,rfl,[],aA,rfl,rfl⟩
  ·rw[if_neg h];dsimp only[oN,bind,Except.bind];rintro e H' ⟨rfl,rfl⟩;exact .inr ⟨_,rfl,[],aA,rfl,rfl⟩
 ·rw[if_neg (by simpa using ha)] at he;subst he;rw[if_neg (by simpa using ha)];exact .inr ⟨_,rfl,[],aA,rfl,rfl⟩
end
theorem O8.iW{x:O8}{hi:Int}(h:x.BH hi)(i v:Int)(h0:0≤v)(h1:v≤hi):(x.set i v).BH hi:=by
 unfold O8.BH O8.set at *;repeat' split
 all_goals (dsimp only;omega)
theorem O8.B6{x:O8}{hi:Int}(h:x.BH hi)(i:Int):0≤x.get i∧x.get i≤hi:=by
 unfold O8.BH O8.get at *;repeat' split
 all_goals omega
theorem gB{w:Wk}{r:Bk×Int}(h:r.2=0):w.iQ r=.ok ⟨r.1,w.out,w.ref⟩:=by unfold Wk.iQ;rw[if_pos h]
theorem gC{w:Wk}{r:Bk×Int}(h:r.2≠0):w.iQ r=.error r.2:=by unfold Wk.iQ;rw[if_neg h]
theorem L7{b:Bk}(hb:b.ok)(i n:Int):(jB b i n).2=0→(jB b i n).1.ok:=by
 obtain⟨h1,h2,h3⟩:=hb;have h4:=O8.B6 (x:=b.fP) (hi:=1099511627776) (by assumption) i;unfold jB;split
 ·split
  ·intro h;first|exact⟨O8.iW h1 _ _ o_ o_,h2,h3⟩|exact⟨h1,h2,O8.iW h3 _ _ o_ o_⟩|cases h
  ·intro h;first|exact⟨O8.iW h1 _ _ o_ o_,h2,h3⟩|exact⟨h1,h2,O8.iW h3 _ _ o_ o_⟩|cases h
 ·intro h;cases h
theorem HK{b:Bk}(hb:b.ok)(i n:Int):(nF b i n).2=0→(nF b i n).1.ok:=by
 obtain⟨h1,h2,h3⟩:=hb;have h4:=O8.B6 (x:=b.fP) (hi:=1099511627776) (by assumption) i;unfold nF;split
 ·split
  ·intro h;first|exact⟨O8.iW h1 _ _ o_ o_,h2,h3⟩|exact⟨h1,h2,O8.iW h3 _ _ o_ o_⟩|cases h
  ·intro h;first|exact⟨O8.iW h1 _ _ o_ o_,h2,h3⟩|exact⟨h1,h2,O8.iW h3 _ _ o_ o_⟩|cases h
 ·intro h;cases h
theorem Kx{b:Bk}(hb:b.ok)(i n:Int):(jT b i n).2=0→(jT b i n).1.ok:=by
 obtain⟨h1,h2,h3⟩:=hb;have h4:=O8.B6 (x:=b.eO) (hi:=1099511627776) (by assumption) i;unfold jT;split
 ·split
  ·intro h;first|exact⟨O8.iW h1 _ _ o_ o_,h2,h3⟩|exact⟨h1,h2,O8.iW h3 _ _ o_ o_⟩|cases h
  ·intro h;first|exact⟨O8.iW h1 _ _ o_ o_,h2,h3⟩|exact⟨h1,h2,O8.iW h3 _ _ o_ o_⟩|cases h
 ·intro h;cases h
theorem NU{b:Bk}(hb:b.ok)(i n:Int):(sN b i n).2=0→(sN b i n).1.ok:=by
 obtain⟨h1,h2,h3⟩:=hb;have h4:=O8.B6 (x:=b.eO) (hi:=1099511627776) (by assumption) i;unfold sN;split
 ·split
  ·intro h;first|exact⟨O8.iW h1 _ _ o_ o_,h2,h3⟩|exact⟨h1,h2,O8.iW h3 _ _ o_ o_⟩|cases h
  ·intro h;first|exact⟨O8.iW h1 _ _ o_ o_,h2,h3⟩|exact⟨h1,h2,O8.iW h3 _ _ o_ o_⟩|cases h
 ·intro h;cases h
section
variable (E:Env) (w:Wk) (ch:aX) (g:Nat) (A:Option Addr) (m c:Nat) (X:Option Addr) (n x:Nat)
theorem II(hm:m≤1000)(hn:n≤900)(hb:w.b.ok):G E 320 [.pointer (some ⟨g,0,none⟩),.agg ch.cs.toArray] (xC g w A m c X n x) (oN (w.cancel ch) (VF g)):=by
 unfold Wk.cancel;obtain⟨q,hq⟩:∃q,q=FT w.b ch.ref [1,2]:=⟨_,rfl⟩
 obtain⟨o,k⟩:=q;rw[show w.order ch.ref [1,2]=_ from iF hq];dsimp only[aX.cs,xC,List.cons_append,List.nil_append,G];refine t_ func320 ntmps320 ?_;repeat first|refine v_ ?_|intro
 refine Av sD sK aC (λM hE=>rH M w g A m c X n x dB ch.ref.rep ch.ref.seq _ 2 2 [1,2] dB) ?_;rw[iF hq];by_cases h:k=0
 ·rw[if_pos h];try rw[if_pos h]
  dsimp only[oN,bind,Except.bind];rintro e H' ⟨rfl,rfl⟩;refine .inl ⟨_,rfl,_,bG,?_⟩;dsimp only[dD.cs];obtain⟨r,hr⟩:∃z,z=nF w.b o.item o.iN:=⟨_,rfl⟩
  rw[←hr];have lmr:=λM=>aJy M ⟨w.b,w.out,ch.ref⟩ r g A A m c m c X n x;have lfr:=λM=>zO M w.b A m c o.item o.iN hb;rw[←hr] at lfr;dsimp only[dD.cs,Wk.cs,Bk.cs,List.cons_append,List.nil_append] at lmr lfr⊢;repeat first|refine v_ ?_|intro
  refine C.bL 12 (l_ [0,1,2,3,4,5,6,7,8] (g_ 9 (l_ [10,11] (g_ 12 .nil)))) _ q_ q_ aB.refl ?_;repeat first|refine v_ ?_|intro
  refine eJ lfr ?_;repeat first|refine v_ ?_|intro
  refine As rfl sD bA sK aC (λM hE=>lmr M) ?_;by_cases kr:r.2=0
  ·rw[gB kr];try rw[gB kr]
   have hor:r.1.aH=w.b.aH:=by rw[hr] at kr⊢;exact hP _ _ _ kr
   dsimp only[oN,bind,Except.bind];rintro e H' ⟨rfl,rfl⟩;refine .inl ⟨_,rfl,_,bG,?_⟩;have hrok:r.1.ok:=by rw[hr] at kr⊢;exact HK hb _ _ kr
   repeat first|refine v_ ?_|intro
   have tl2:=λM=>eP M ⟨r.1,w.out,ch.ref⟩ 3 o.item o.iN g A m c X n x o_;dsimp only[Wk.tell,Wk.cs,Bk.cs,List.cons_append,List.nil_append] at tl2;refine bW tl2 ?_;rintro e H' ⟨X2,x2,hx2,rfl,rfl⟩;repeat first|refine v_ ?_|intro
   by_cases hs:o.state=2
   ·rw[if_pos hs];dsimp only[Wk.tell,pure,Except.pure,bind,Except.bind];obtain⟨s,hs⟩:∃z,z=jT r.1 o.cC o.cost:=⟨_,rfl⟩
    rw[←hs];have lms:=λM=>aJy M ⟨r.1,(w.out++[⟨3,o.item,o.iN,ch.ref⟩]),ch.ref⟩ s g A A m c m c X2 (n+1) x2;have lfs:=λM=>wE M r.1 A m c o.cC o.cost hrok;rw[←hs] at lfs;dsimp only[dD.cs,Wk.cs,Bk.cs,List.cons_append,List.nil_append] at lms lfs⊢;repeat first|refine v_ ?_|intro
    refine C.bL 12 (l_ [0,1,2,3,4,5,6,7,8] (g_ 9 (l_ [10,11] (g_ 12 .nil)))) _ q_ q_ aB.refl ?_;repeat first|refine v_ ?_|intro
    refine eJ lfs ?_;repeat first|refine v_ ?_|intro
    refine As rfl sD bA sK aC (λM hE=>lms M) ?_;by_cases ks:s.2=0
    ·rw[gB ks];try rw[gB ks]
     have hos:s.1.aH=r.1.aH:=by rw[hs] at ks⊢;exact fS _ _ _ ks
     dsimp only[oN,bind,Except.bind];rintro e H' ⟨rfl,rfl⟩;refine .inl ⟨_,rfl,_,bG,?_⟩;repeat first|refine v_ ?_|intro
     have tl3:=λM=>eP M ⟨s.1,(w.out++[⟨3,o.item,o.iN,ch.ref⟩]),ch.ref⟩ 10 o.cC o.cost g A m c X2 (n+1) x2 o_;dsimp only[Wk.tell,Wk.cs,Bk.cs,List.cons_append,List.nil_append] at tl3;refine bW tl3 ?_;rintro e H' ⟨X3,x3,hx3,rfl,rfl⟩;repeat first|refine v_ ?_|intro
     repeat first|refine v_ ?_|intro
     obtain⟨b5,hb5⟩:∃b',b'=lK s.1 ⟨o.id,o.cC,o.item,o.iN,o.cost,4⟩:=⟨_,rfl⟩
     have pu5:=λM=>oJ M ⟨s.1,((w.out++[⟨3,o.item,o.iN,ch.ref⟩])++[⟨10,o.cC,o.cost,ch.ref⟩]),ch.ref⟩ o 4 g A m c X3 ((n+1)+1) x3;dsimp only[Wk.put] at pu5;rw[←hb5] at pu5;dsimp only[Wk.tell,dD.cs,Wk.cs,Bk.cs,List.cons_append,List.nil_append] at pu5;rw[hos,hor] at pu5;refine dX (λM h1=>pu5 M h1 hm) ?_;rintro e H' ⟨B5,d5,hd5,rfl,rfl⟩;repeat first|refine v_ ?_|intro
     have tl6:=λM=>eP M ⟨b5,((w.out++[⟨3,o.item,o.iN,ch.ref⟩])++[⟨10,o.cC,o.cost,ch.ref⟩]),ch.ref⟩ 7 o.cC 2 g B5 b5.aH.length d5 X3 ((n+1)+1) x3 o_;dsimp only[Wk.tell,Wk.cs,Bk.cs,List.cons_append,List.nil_append] at tl6;refine bW tl6 ?_;rintro e H' ⟨X6,x6,hx6,rfl,rfl⟩;repeat first|refine v_ ?_|intro
     try unfold Wk.put
     try unfold Wk.tell
     try dsimp only
     rw[←hb5];refine gO rfl (H':=[aJ g 369 _,own eB B5 b5.aH.length d5 b5.aH,own eG X6 (((n+1)+1)+1) x6 (((w.out++[⟨3,o.item,o.iN,ch.ref⟩])++[⟨10,o.cC,o.cost,ch.ref⟩])++[⟨7,o.cC,2,ch.ref⟩])]) ?_ ⟨B5,b5.aH.length,d5,X6,(((n+1)+1)+1),x6,rfl,rfl⟩;exact aB.aV (.cons .aN (.cons (.aM .aN) (.cons .aN .nil)))
    ·rw[gC ks];try rw[gC ks]
     dsimp only[oN,bind,Except.bind];rintro e H' ⟨rfl,rfl⟩;exact .inr ⟨_,rfl,[],aA,rfl,rfl⟩
   ·rw[if_neg hs];dsimp only[Wk.tell,bind,Except.bind,pure,Except.pure];repeat first|refine v_ ?_|intro
    obtain⟨b5,hb5⟩:∃b',b'=lK r.1 ⟨o.id,o.cC,o.item,o.iN,o.cost,4⟩:=⟨_,rfl⟩
    have pu5:=λM=>oJ M ⟨r.1,(w.out++[⟨3,o.item,o.iN,ch.ref⟩]),ch.ref⟩ o 4 g A m c X2 (n+1) x2;dsimp only[Wk.put] at pu5;rw[←hb5] at pu5;dsimp only[Wk.tell,dD.cs,Wk.cs,Bk.cs,List.cons_append,List.nil_append] at pu5;rw[hor] at pu5;refine dX (λM h1=>pu5 M h1 hm) ?_;rintro e H' ⟨B5,d5,hd5,rfl,rfl⟩;repeat first|refine v_ ?_|intro
    have tl6:=λM=>eP M ⟨b5,(w.out++[⟨3,o.item,o.iN,ch.ref⟩]),ch.ref⟩ 7 o.cC 2 g B5 b5.aH.length d5 X2 (n+1) x2 o_;dsimp only[Wk.tell,Wk.cs,Bk.cs,List.cons_append,List.nil_append] at tl6;refine bW tl6 ?_;rintro e H' ⟨X6,x6,hx6,rfl,rfl⟩;repeat first|refine v_ ?_|intro
    try unfold Wk.put
    try unfold Wk.tell
    try dsimp only
    rw[←hb5];refine gO rfl (H':=[aJ g 369 _,own eB B5 b5.aH.length d5 b5.aH,own eG X6 ((n+1)+1) x6 ((w.out++[⟨3,o.item,o.iN,ch.ref⟩])++[⟨7,o.cC,2,ch.ref⟩])]) ?_ ⟨B5,b5.aH.length,d5,X6,((n+1)+1),x6,rfl,rfl⟩;exact aB.aV (.cons .aN (.cons (.aM .aN) (.cons .aN .nil)))
  ·rw[gC kr];try rw[gC kr]
   dsimp only[oN,bind,Except.bind];rintro e H' ⟨rfl,rfl⟩;exact .inr ⟨_,rfl,[],aA,rfl,rfl⟩
 ·rw[if_neg h];dsimp only[oN,bind,Except.bind];rintro e H' ⟨rfl,rfl⟩;exact .inr ⟨_,rfl,[],aA,rfl,rfl⟩
theorem SF(hm:m≤1000)(hn:n≤900)(hb:w.b.ok)(hoq:∀o∈w.b.aH,0≤o.iN∧o.iN≤1000):G E 321 [.pointer (some ⟨g,0,none⟩),.agg ch.cs.toArray] (xC g w A m c X n x) (oN (w.Y2 ch) (VF g)):=by
 unfold Wk.Y2;obtain⟨q,hq⟩:∃q,q=FT w.b ch.ref [1]:=⟨_,rfl⟩
 obtain⟨o,k⟩:=q;rw[show w.order ch.ref [1]=_ from iF hq];dsimp only[aX.cs,xC,List.cons_append,List.nil_append,G];refine t_ func321 ntmps321 ?_;repeat first|refine v_ ?_|intro
 refine Av sD sK aC (λM hE=>rH M w g A m c X n x dB ch.ref.rep ch.ref.seq _ 1 1 [1] dB) ?_;rw[iF hq];by_cases h:k=0
 ·rw[if_pos h];try rw[if_pos h]
  dsimp only[oN,bind,Except.bind];rintro e H' ⟨rfl,rfl⟩;refine .inl ⟨_,rfl,_,bG,?_⟩;dsimp only[dD.cs];have hq1:=hoq o (BF hq h);obtain⟨p,hp⟩:∃p,p=mY w.b o.item o.iN:=⟨_,rfl⟩
  have lp:=λM=>Jh M w.b A m c o.item o.iN hb hq1;rw[←hp] at lp⊢;obtain⟨cost,ec⟩:=p;dsimp only at lp⊢;repeat first|refine v_ ?_|intro
  refine rA (l_ [0,1,2,3,4,5,6,7] (g_ 8 (l_ [9,10,11,12,13] .nil))) ?_;repeat first|refine v_ ?_|intro
  refine eJ lp ?_;repeat first|refine v_ ?_|intro
  refine Av sD sK aC (λM hE=>kC M _ _) ?_;rintro e H' ⟨he,rfl⟩;by_cases ha:ec=0
  ·rw[if_pos (decide_eq_true ha)] at he;subst he;rw[if_neg (show ¬ec≠0 from λq=>q ha)];refine .inl ⟨_,rfl,_,bG,?_⟩;obtain⟨r,hr⟩:∃z,z=sN w.b o.cC cost:=⟨_,rfl⟩
   rw[←hr];have lmr:=λM=>aJy M ⟨w.b,w.out,ch.ref⟩ r g A A m c m c X n x;have lfr:=λM=>Mq M w.b A m c o.cC cost hb;rw[←hr] at lfr;dsimp only[dD.cs,Wk.cs,Bk.cs,List.cons_append,List.nil_append] at lmr lfr⊢;repeat first|refine v_ ?_|intro
   refine C.bL 11 (l_ [0,1,2,3,4,5,6,7] (g_ 8 (l_ [9,10] (g_ 11 .nil)))) _ q_ q_ aB.refl ?_;repeat first|refine v_ ?_|intro
   refine eJ lfr ?_;repeat first|refine v_ ?_|intro
   refine As rfl sD bA sK aC (λM hE=>lmr M) ?_;by_cases kr:r.2=0
   ·rw[gB kr];try rw[gB kr]
    have hor:r.1.aH=w.b.aH:=by rw[hr] at kr⊢;exact nU _ _ _ kr
    dsimp only[oN,bind,Except.bind];rintro e H' ⟨rfl,rfl⟩;refine .inl ⟨_,rfl,_,bG,?_⟩;repeat first|refine v_ ?_|intro
    obtain⟨b1,hb1⟩:∃b',b'=lK r.1 ⟨o.id,o.cC,o.item,o.iN,cost,2⟩:=⟨_,rfl⟩
    have pu1:=λM=>oJ M ⟨r.1,w.out,ch.ref⟩ ⟨o.id,o.cC,o.item,o.iN,cost,o.state⟩ 2 g A m c X n x;dsimp only[Wk.put] at pu1;rw[←hb1] at pu1;dsimp only[Wk.tell,dD.cs,Wk.cs,Bk.cs,List.cons_append,List.nil_append] at pu1;rw[hor] at pu1;refine dX (λM h1=>pu1 M h1 hm) ?_;rintro e H' ⟨B1,d1,hd1,rfl,rfl⟩;repeat first|refine v_ ?_|intro
    have tl2:=λM=>eP M ⟨b1,w.out,ch.ref⟩ 4 o.cC cost g B1 b1.aH.length d1 X n x o_;dsimp only[Wk.tell,Wk.cs,Bk.cs,List.cons_append,List.nil_append] at tl2;refine bW tl2 ?_;rintro e H' ⟨X2,x2,hx2,rfl,rfl⟩;repeat first|refine v_ ?_|intro
    have tl3:=λM=>eP M ⟨b1,(w.out++[⟨4,o.cC,cost,ch.ref⟩]),ch.ref⟩ 9 o.cC cost g B1 b1.aH.length d1 X2 (n+1) x2 o_;dsimp only[Wk.tell,Wk.cs,Bk.cs,List.cons_append,List.nil_append] at tl3;refine bW tl3 ?_;rintro e H' ⟨X3,x3,hx3,rfl,rfl⟩;repeat first|refine v_ ?_|intro
    try unfold Wk.put
    try unfold Wk.tell
    try dsimp only
    rw[←hb1];refine gO rfl (H':=[aJ g 369 _,own eB B1 b1.aH.length d1 b1.aH,own eG X3 ((n+1)+1) x3 ((w.out++[⟨4,o.cC,cost,ch.ref⟩])++[⟨9,o.cC,cost,ch.ref⟩])]) ?_ ⟨B1,b1.aH.length,d1,X3,((n+1)+1),x3,rfl,rfl⟩;exact aB.aV (.cons .aN (.cons (.aM .aN) (.cons .aN .nil)))
   ·rw[gC kr];try rw[gC kr]
    dsimp only[oN,bind,Except.bind];rintro e H' ⟨rfl,rfl⟩;exact .inr ⟨_,rfl,[],aA,rfl,rfl⟩
  ·rw[if_neg (by simpa using ha)] at he;subst he;rw[if_pos ha];exact .inr ⟨_,rfl,[],aA,rfl,rfl⟩
 ·rw[if_neg h];dsimp only[oN,bind,Except.bind];rintro e H' ⟨rfl,rfl⟩;exact .inr ⟨_,rfl,[],aA,rfl,rfl⟩
end
theorem RR{b:Bk}(hb:b.ok)(o:dD):(wH b o).2=0→(wH b o).1.ok:=by
 unfold wH;split
 ·intro h;cases h
 ·split
  ·intro h;cases h
  ·intro _;unfold lK;split<;>exact hb
section
variable (E:Env) (w:Wk) (ch:aX) (g:Nat) (A:Option Addr) (m c:Nat) (X:Option Addr) (n x:Nat)
theorem H6(hm:m≤1000)(hn:n≤900)(hb:w.b.ok):G E 318 [.pointer (some ⟨g,0,none⟩),.agg ch.cs.toArray] (xC g w A m c X n x) (oN (w.place ch) (VF g)):=by
 unfold Wk.place C9;obtain⟨it,tA⟩:∃z,z=oI w.b ch:=⟨_,rfl⟩
 rw[←tA];obtain⟨r,hr⟩:∃z,z=wH w.b ⟨ch.id,ch.a,it,ch.n,0,1⟩:=⟨_,rfl⟩
 rw[←hr];have ln:=λM h=>Pn M w.b A m c h ⟨ch.id,ch.a,it,ch.n,0,1⟩ hm;rw[←hr] at ln;dsimp only[aX.cs,xC,dD.cs,Wk.cs,Bk.cs,List.cons_append,List.nil_append,G] at ln⊢;by_cases h1:0≤ch.a∧ch.a≤7
 ·by_cases h2:0≤ch.b∧ch.b≤7
  ·by_cases h3:1≤ch.n∧ch.n≤1000
   ·rw[show(eight ch.a&&eight ch.b&&decide (1≤ch.n∧ch.n≤1000))=true by simp[eight];omega];rw[if_pos rfl];refine t_ func318 ntmps318 ?_;repeat first|refine v_ ?_|intro
    refine Av sD sK aC (λM hE=>kC M _ _) ?_;rintro e H' ⟨he,rfl⟩;rw[if_pos (by simp[*])] at he;subst he;refine .inl ⟨_,rfl,_,bG,?_⟩;repeat ((fail_if_success (refine C.seq (x:=Code.region 3 _ _) ?_));first|refine Cx ?_|refine k_ ?_|intro _|refine Dr.two ?_ ?_)
    rename_i g3;refine C.BI (X:=Unit) (λ_=>[(0,.pointer (some ⟨g,0,none⟩)),(3,.pointer (some ⟨g3,0,none⟩)),(4,.int .i64 it)]) (λ_=>[aJ g3 34 ch.cs,aJ g 369 (w.cs A m c X n x),own eB A m c w.b.aH,own eG X n x w.out]) (λ_=>True) ?_ ?_
    ·have la:=λM=>D2 M w.b A m c ch.b ch.n hb;have lb:=λM=>D2 M w.b A m c ch.ref.rep ch.n hb;dsimp only[Bk.cs,List.cons_append,List.nil_append] at la lb;unfold oI at tA;cases hA:Aj w.b ch.b ch.n with
     |true =>
      rw[hA] at la tA;simp only[Bool.not_true,aCx,aCb,if_false] at tA;subst tA;repeat first|refine v_ ?_|intro
      refine rA (l_ [0,1,2,3,4,5,6] (g_ 7 (l_ [8,9,10,11,12,13,14,15,16,17,18,19,20,21,22] (g_ 23 (n_ 24 .nil))))) ?_;repeat first|refine v_ ?_|intro
      refine eJ la ?_;repeat first|refine v_ ?_|intro
      exact⟨(),aD,aA,trivial⟩
     |false =>
      rw[hA] at la tA;by_cases hB:ch.ref.seq=1
      ·cases hC:Aj w.b ch.ref.rep ch.n with
       |true =>
        rw[hC] at lb tA;simp only[aRa,hB,decide_true,aRb,if_true] at tA;subst tA;repeat first|refine v_ ?_|intro
        refine rA (l_ [0,1,2,3,4,5,6] (g_ 7 (l_ [8,9,10,11,12,13,14,15,16,17,18,19,20,21,22] (g_ 23 (n_ 24 .nil))))) ?_;repeat first|refine v_ ?_|intro
        refine eJ la ?_;repeat first|refine v_ ?_|intro
        refine eJ lb ?_;repeat first|refine v_ ?_|intro
        exact⟨(),aD,aA,trivial⟩
       |false =>
        rw[hC] at lb tA;simp only[aRa,aCt,hB,decide_true,Bool.and_false,aCb,if_false] at tA;subst tA;repeat first|refine v_ ?_|intro
        refine rA (l_ [0,1,2,3,4,5,6] (g_ 7 (l_ [8,9,10,11,12,13,14,15,16,17,18,19,20,21,22] (g_ 23 (n_ 24 .nil))))) ?_;repeat first|refine v_ ?_|intro
        refine eJ la ?_;repeat first|refine v_ ?_|intro
        refine eJ lb ?_;repeat first|refine v_ ?_|intro
        exact⟨(),aD,aA,trivial⟩
      ·rw[decide_eq_false hB] at tA;simp only[Bool.and_false,aCx,aCb,if_false] at tA;subst tA;repeat first|refine v_ ?_|intro
       refine rA (l_ [0,1,2,3,4,5,6] (g_ 7 (l_ [8,9,10,11,12,13,14,15,16,17,18,19,20,21,22] (g_ 23 (n_ 24 .nil))))) ?_;repeat first|refine v_ ?_|intro
       refine eJ la ?_;repeat first|refine v_ ?_|intro
       exact⟨(),aD,aA,trivial⟩
    ·intro _ Gf _;dsimp only[aX.cs,xC,dD.cs,Wk.cs,Bk.cs,List.cons_append,List.nil_append];repeat first|refine v_ ?_|intro
     by_cases kr:r.2=0
     ·rw[gB kr];have hrok:r.1.ok:=by rw[hr] at kr⊢;exact RR hb _ kr
      have lmr:=λM B d=>aJy M ⟨w.b,w.out,w.ref⟩ r g A B m c r.1.aH.length d X n x;unfold Dk at ln;rw[if_pos kr] at ln;simp only[if_pos kr] at lmr;rw[gB kr] at lmr;dsimp only[oN,dD.cs,Wk.cs,Bk.cs,List.cons_append,List.nil_append] at lmr ln;rw[kr] at lmr;dsimp only[bind,Except.bind,pure,Except.pure];refine C.bL 16 (l_ [0,1,2,3,4,5,6,7,8,9,10,11,12] (g_ 13 (l_ [14,15] (g_ 16 .nil)))) _ q_ q_ aB.refl ?_;repeat first|refine v_ ?_|intro
      refine C2 ln ?_;rintro e H' ⟨B,d,hd,rfl,rfl⟩;repeat first|refine v_ ?_|intro
      refine As rfl sD bA sK aC (λM hE=>lmr M B d) ?_;rintro e H' ⟨rfl,rfl⟩;refine .inl ⟨_,rfl,_,bG,?_⟩;obtain⟨s,hs⟩:∃z,z=jB r.1 it ch.n:=⟨_,rfl⟩
      rw[←hs];have lms:=λM=>aJy M ⟨r.1,w.out,w.ref⟩ s g B B r.1.aH.length d r.1.aH.length d X n x;have lfs:=λM=>wX M r.1 B r.1.aH.length d it ch.n hrok;rw[←hs] at lfs;dsimp only[dD.cs,Wk.cs,Bk.cs,List.cons_append,List.nil_append] at lms lfs⊢;repeat first|refine v_ ?_|intro
      refine C.bL 11 (l_ [0,1,2,3,4,5,6,7] (g_ 8 (l_ [9,10] (g_ 11 .nil)))) _ q_ q_ aB.refl ?_;repeat first|refine v_ ?_|intro
      refine eJ lfs ?_;repeat first|refine v_ ?_|intro
      refine As rfl sD bA sK aC (λM hE=>lms M) ?_;by_cases ks:s.2=0
      ·rw[gB ks];try rw[gB ks]
       have hos:s.1.aH=r.1.aH:=by rw[hs] at ks⊢;exact jZ _ _ _ ks
       dsimp only[oN,bind,Except.bind];rintro e H' ⟨rfl,rfl⟩;refine .inl ⟨_,rfl,_,bG,?_⟩;repeat first|refine v_ ?_|intro
       have tl2:=λM=>eP M ⟨s.1,w.out,ch.id⟩ 1 it ch.n g B r.1.aH.length d X n x o_;dsimp only[Wk.tell,Wk.cs,Bk.cs,List.cons_append,List.nil_append] at tl2;refine bW tl2 ?_;rintro e H' ⟨X2,x2,hx2,rfl,rfl⟩;repeat first|refine v_ ?_|intro
       have tl3:=λM=>eP M ⟨s.1,(w.out++[⟨1,it,ch.n,ch.id⟩]),ch.id⟩ 7 ch.a 1 g B r.1.aH.length d X2 (n+1) x2 o_;dsimp only[Wk.tell,Wk.cs,Bk.cs,List.cons_append,List.nil_append] at tl3;refine bW tl3 ?_;rintro e H' ⟨X3,x3,hx3,rfl,rfl⟩;repeat first|refine v_ ?_|intro
       try unfold Wk.tell
       try dsimp only
       refine gO rfl (H':=[aJ g 369 _,own eB B r.1.aH.length d s.1.aH,own eG X3 ((n+1)+1) x3 ((w.out++[⟨1,it,ch.n,ch.id⟩])++[⟨7,ch.a,1,ch.id⟩])]) ?_ ⟨B,r.1.aH.length,d,X3,((n+1)+1),x3,rfl,rfl⟩;rw[hos];exact aB.aV (.cons .aN (.cons (.aM .aN) (.cons .aN .nil)))
      ·rw[gC ks];try rw[gC ks]
       dsimp only[oN,bind,Except.bind];rintro e H' ⟨rfl,rfl⟩;exact .inr ⟨_,rfl,[],aA,rfl,rfl⟩
     ·rw[gC kr];have lmr:=λM=>aJy M ⟨w.b,w.out,w.ref⟩ r g A none m c 0 0 X n x;unfold Dk at ln;rw[if_neg kr] at ln;simp only[if_neg kr] at lmr;rw[gC kr] at lmr;dsimp only[oN,dD.cs,Wk.cs,Bk.cs,List.cons_append,List.nil_append] at lmr ln;dsimp only[bind,Except.bind,pure,Except.pure];refine C.bL 16 (l_ [0,1,2,3,4,5,6,7,8,9,10,11,12] (g_ 13 (l_ [14,15] (g_ 16 .nil)))) _ q_ q_ aB.refl ?_;repeat first|refine v_ ?_|intro
      refine Ib ln ?_;repeat first|refine v_ ?_|intro
      refine As rfl sD bA sK aC (λM hE=>lmr M) ?_;rintro e H' ⟨rfl,rfl⟩;exact .inr ⟨_,rfl,[],aA,rfl,rfl⟩
   ·rw[show(eight ch.a&&eight ch.b&&decide (1≤ch.n∧ch.n≤1000))=false by simp[eight];omega];rw[if_neg (by simp)];refine t_ func318 ntmps318 ?_;repeat first|refine v_ ?_|intro
    refine Av sD sK aC (λM hE=>kC M _ _) ?_;rintro e H' ⟨he,rfl⟩;rw[if_neg (by simp[*])] at he;subst he;exact .inr ⟨_,rfl,[],aA,rfl,rfl⟩
  ·rw[show(eight ch.a&&eight ch.b&&decide (1≤ch.n∧ch.n≤1000))=false by simp[eight];omega];rw[if_neg (by simp)];refine t_ func318 ntmps318 ?_;repeat first|refine v_ ?_|intro
   refine Av sD sK aC (λM hE=>kC M _ _) ?_;rintro e H' ⟨he,rfl⟩;rw[if_neg (by simp[*])] at he;subst he;exact .inr ⟨_,rfl,[],aA,rfl,rfl⟩
 ·rw[show(eight ch.a&&eight ch.b&&decide (1≤ch.n∧ch.n≤1000))=false by simp[eight];omega];rw[if_neg (by simp)];refine t_ func318 ntmps318 ?_;repeat first|refine v_ ?_|intro
  refine Av sD sK aC (λM hE=>kC M _ _) ?_;rintro e H' ⟨he,rfl⟩;rw[if_neg (by simp[*])] at he;subst he;exact .inr ⟨_,rfl,[],aA,rfl,rfl⟩
end
theorem oP(b:Bk)(i n:Int):(mF b i n).2=0→(mF b i n).1.aH=b.aH:=by
 unfold mF;split
 ·intro _;rfl
 ·intro h;cases h
section
variable (E:Env) (w:Wk) (ch:aX) (g:Nat) (A:Option Addr) (m c:Nat) (X:Option Addr) (n x:Nat)
theorem U1(hm:m≤1000)(hn:n≤900)(hb:w.b.ok)(hoq:∀o∈w.b.aH,0≤o.iN∧o.iN≤1000):G E 276 [.pointer (some ⟨g,0,none⟩),.agg ch.cs.toArray] (xC g w A m c X n x) (oN (w.do ch) (VF g)):=by
 unfold Wk.do;dsimp only[aX.cs,xC,List.cons_append,List.nil_append,G];by_cases k1:ch.kind=1
 ·rw[if_pos k1];unfold C9;refine t_ func276 ntmps276 ?_;repeat first|refine v_ ?_|intro
  refine Av sD sK aC (λM hE=>kC M _ _) ?_;rintro e H' ⟨he,rfl⟩;by_cases ha:1≤ch.n
  ·rw[if_pos (decide_eq_true ha)] at he;subst he;rw[if_pos (decide_eq_true ha)];refine .inl ⟨_,rfl,_,bG,?_⟩;obtain⟨r,hr⟩:∃z,z=nF w.b ch.a ch.n:=⟨_,rfl⟩
   rw[←hr];have lmr:=λM=>aJy M ⟨w.b,w.out,w.ref⟩ r g A A m c m c X n x;have lfr:=λM=>zO M w.b A m c ch.a ch.n hb;rw[←hr] at lfr;dsimp only[dD.cs,Wk.cs,Bk.cs,List.cons_append,List.nil_append] at lmr lfr⊢;repeat first|refine v_ ?_|intro
   refine C.bL 12 (l_ [0,1,2,3,4,5,6,7,8] (g_ 9 (l_ [10,11] (g_ 12 .nil)))) _ q_ q_ aB.refl ?_;repeat first|refine v_ ?_|intro
   refine eJ lfr ?_;repeat first|refine v_ ?_|intro
   refine As rfl sD bA sK aC (λM hE=>lmr M) ?_;by_cases kr:r.2=0
   ·rw[gB kr];try rw[gB kr]
    have hor:r.1.aH=w.b.aH:=by rw[hr] at kr⊢;exact hP _ _ _ kr
    dsimp only[oN,bind,Except.bind];rintro e H' ⟨rfl,rfl⟩;refine .inl ⟨_,rfl,_,bG,?_⟩;repeat first|refine v_ ?_|intro
    try unfold Wk.tell
    try dsimp only
    refine gO rfl (H':=[aJ g 369 _,own eB A m c r.1.aH,own eG X n x w.out]) ?_ ⟨A,m,c,X,n,x,rfl,rfl⟩;rw[hor];exact aB.aV (.cons .aN (.cons aS (.cons aS .nil)))
   ·rw[gC kr];try rw[gC kr]
    dsimp only[oN,bind,Except.bind];rintro e H' ⟨rfl,rfl⟩;exact .inr ⟨_,rfl,[],aA,rfl,rfl⟩
  ·rw[if_neg (by simpa using ha)] at he;subst he;rw[if_neg (by simpa using ha)];exact .inr ⟨_,rfl,[],aA,rfl,rfl⟩
 rw[if_neg k1];by_cases k2:ch.kind=2
 ·rw[if_pos k2];unfold C9;refine t_ func276 ntmps276 ?_;repeat first|refine v_ ?_|intro
  refine Av sD sK aC (λM hE=>kC M _ _) ?_;rintro e H' ⟨he,rfl⟩;by_cases ha:1≤ch.n
  ·rw[if_pos (decide_eq_true ha)] at he;subst he;rw[if_pos (decide_eq_true ha)];refine .inl ⟨_,rfl,_,bG,?_⟩;obtain⟨r,hr⟩:∃z,z=jT w.b ch.a ch.n:=⟨_,rfl⟩
   rw[←hr];have lmr:=λM=>aJy M ⟨w.b,w.out,w.ref⟩ r g A A m c m c X n x;have lfr:=λM=>wE M w.b A m c ch.a ch.n hb;rw[←hr] at lfr;dsimp only[dD.cs,Wk.cs,Bk.cs,List.cons_append,List.nil_append] at lmr lfr⊢;repeat first|refine v_ ?_|intro
   refine C.bL 12 (l_ [0,1,2,3,4,5,6,7,8] (g_ 9 (l_ [10,11] (g_ 12 .nil)))) _ q_ q_ aB.refl ?_;repeat first|refine v_ ?_|intro
   refine eJ lfr ?_;repeat first|refine v_ ?_|intro
   refine As rfl sD bA sK aC (λM hE=>lmr M) ?_;by_cases kr:r.2=0
   ·rw[gB kr];try rw[gB kr]
    have hor:r.1.aH=w.b.aH:=by rw[hr] at kr⊢;exact fS _ _ _ kr
    dsimp only[oN,bind,Except.bind];rintro e H' ⟨rfl,rfl⟩;refine .inl ⟨_,rfl,_,bG,?_⟩;repeat first|refine v_ ?_|intro
    have tl2:=λM=>eP M ⟨r.1,w.out,w.ref⟩ 8 ch.a ch.n g A m c X n x o_;dsimp only[Wk.tell,Wk.cs,Bk.cs,List.cons_append,List.nil_append] at tl2;refine bW tl2 ?_;rintro e H' ⟨X2,x2,hx2,rfl,rfl⟩;repeat first|refine v_ ?_|intro
    repeat first|refine v_ ?_|intro
    try unfold Wk.tell
    try dsimp only
    refine gO rfl (H':=[aJ g 369 _,own eB A m c r.1.aH,own eG X2 (n+1) x2 (w.out++[⟨8,ch.a,ch.n,w.ref⟩])]) ?_ ⟨A,m,c,X2,(n+1),x2,rfl,rfl⟩;rw[hor];exact aB.aV (.cons .aN (.cons aS (.cons .aN .nil)))
   ·rw[gC kr];try rw[gC kr]
    dsimp only[oN,bind,Except.bind];rintro e H' ⟨rfl,rfl⟩;exact .inr ⟨_,rfl,[],aA,rfl,rfl⟩
  ·rw[if_neg (by simpa using ha)] at he;subst he;rw[if_neg (by simpa using ha)];exact .inr ⟨_,rfl,[],aA,rfl,rfl⟩
 rw[if_neg k2];by_cases k3:ch.kind=3
 ·rw[if_pos k3];refine t_ func276 ntmps276 ?_;repeat first|refine v_ ?_|intro
  refine Av sD sK aC (λM hE=>H6 M w ch g A m c X n x hm hn hb) ?_;cases w.place ch with
  |ok w' =>
   rintro e H' ⟨A',m',c',X',n',x',rfl,rfl⟩;refine .inl ⟨_,rfl,_,bG,?_⟩;repeat first|refine v_ ?_|intro
   refine gO rfl (H':=xC g w' A' m' c' X' n' x') ?_ ⟨A',m',c',X',n',x',rfl,rfl⟩;unfold xC;exact aB.aV (.cons .aN (.cons .aN (.cons .aN .nil)))
  |error k =>
   rintro e H' ⟨rfl,rfl⟩;exact .inr ⟨_,rfl,[],aA,rfl,rfl⟩
 rw[if_neg k3];by_cases k4:ch.kind=4
 ·rw[if_pos k4];refine t_ func276 ntmps276 ?_;repeat first|refine v_ ?_|intro
  refine Av sD sK aC (λM hE=>Mv M w ch g A m c X n x hm hn hb hoq) ?_;cases w.J6 ch with
  |ok w' =>
   rintro e H' ⟨A',m',c',X',n',x',rfl,rfl⟩;refine .inl ⟨_,rfl,_,bG,?_⟩;repeat first|refine v_ ?_|intro
   refine gO rfl (H':=xC g w' A' m' c' X' n' x') ?_ ⟨A',m',c',X',n',x',rfl,rfl⟩;unfold xC;exact aB.aV (.cons .aN (.cons .aN (.cons .aN .nil)))
  |error k =>
   rintro e H' ⟨rfl,rfl⟩;exact .inr ⟨_,rfl,[],aA,rfl,rfl⟩
 rw[if_neg k4];by_cases k5:ch.kind=5
 ·rw[if_pos k5];refine t_ func276 ntmps276 ?_;repeat first|refine v_ ?_|intro
  refine Av sD sK aC (λM hE=>II M w ch g A m c X n x hm hn hb) ?_;cases w.cancel ch with
  |ok w' =>
   rintro e H' ⟨A',m',c',X',n',x',rfl,rfl⟩;refine .inl ⟨_,rfl,_,bG,?_⟩;repeat first|refine v_ ?_|intro
   refine gO rfl (H':=xC g w' A' m' c' X' n' x') ?_ ⟨A',m',c',X',n',x',rfl,rfl⟩;unfold xC;exact aB.aV (.cons .aN (.cons .aN (.cons .aN .nil)))
  |error k =>
   rintro e H' ⟨rfl,rfl⟩;exact .inr ⟨_,rfl,[],aA,rfl,rfl⟩
 rw[if_neg k5];by_cases k6:ch.kind=6
 ·rw[if_pos k6];refine t_ func276 ntmps276 ?_;repeat first|refine v_ ?_|intro
  refine Av sD sK aC (λM hE=>SF M w ch g A m c X n x hm hn hb hoq) ?_;cases w.Y2 ch with
  |ok w' =>
   rintro e H' ⟨A',m',c',X',n',x',rfl,rfl⟩;refine .inl ⟨_,rfl,_,bG,?_⟩;repeat first|refine v_ ?_|intro
   refine gO rfl (H':=xC g w' A' m' c' X' n' x') ?_ ⟨A',m',c',X',n',x',rfl,rfl⟩;unfold xC;exact aB.aV (.cons .aN (.cons .aN (.cons .aN .nil)))
  |error k =>
   rintro e H' ⟨rfl,rfl⟩;exact .inr ⟨_,rfl,[],aA,rfl,rfl⟩
 rw[if_neg k6];by_cases k7:ch.kind=7
 ·rw[if_pos k7];refine t_ func276 ntmps276 ?_;repeat first|refine v_ ?_|intro
  refine Av sD sK aC (λM hE=>Ng M w ch g A m c X n x hm hn) ?_;cases w.Qn ch with
  |ok w' =>
   rintro e H' ⟨A',m',c',X',n',x',rfl,rfl⟩;refine .inl ⟨_,rfl,_,bG,?_⟩;repeat first|refine v_ ?_|intro
   refine gO rfl (H':=xC g w' A' m' c' X' n' x') ?_ ⟨A',m',c',X',n',x',rfl,rfl⟩;unfold xC;exact aB.aV (.cons .aN (.cons .aN (.cons .aN .nil)))
  |error k =>
   rintro e H' ⟨rfl,rfl⟩;exact .inr ⟨_,rfl,[],aA,rfl,rfl⟩
 rw[if_neg k7];by_cases k8:ch.kind=8
 ·rw[if_pos k8];refine t_ func276 ntmps276 ?_;repeat first|refine v_ ?_|intro
  refine Av sD sK aC (λM hE=>IE M w ch g A m c X n x hm hn hb) ?_;cases w.Er ch with
  |ok w' =>
   rintro e H' ⟨A',m',c',X',n',x',rfl,rfl⟩;refine .inl ⟨_,rfl,_,bG,?_⟩;repeat first|refine v_ ?_|intro
   refine gO rfl (H':=xC g w' A' m' c' X' n' x') ?_ ⟨A',m',c',X',n',x',rfl,rfl⟩;unfold xC;exact aB.aV (.cons .aN (.cons .aN (.cons .aN .nil)))
  |error k =>
   rintro e H' ⟨rfl,rfl⟩;exact .inr ⟨_,rfl,[],aA,rfl,rfl⟩
 rw[if_neg k8];by_cases k9:ch.kind=9
 ·rw[if_pos k9];refine t_ func276 ntmps276 ?_;obtain⟨r,hr⟩:∃z,z=mF w.b ch.a ch.n:=⟨_,rfl⟩
  rw[←hr];have lmr:=λM=>aJy M ⟨w.b,w.out,w.ref⟩ r g A A m c m c X n x;have lfr:=λM=>FY M w.b A m c ch.a ch.n;rw[←hr] at lfr;dsimp only[dD.cs,Wk.cs,Bk.cs,List.cons_append,List.nil_append] at lmr lfr⊢;repeat first|refine v_ ?_|intro
  refine C.bL 12 (l_ [0,1,2,3,4,5,6,7,8] (g_ 9 (l_ [10,11] (g_ 12 .nil)))) _ q_ q_ aB.refl ?_;repeat first|refine v_ ?_|intro
  refine eJ lfr ?_;repeat first|refine v_ ?_|intro
  refine As rfl sD bA sK aC (λM hE=>lmr M) ?_;by_cases kr:r.2=0
  ·rw[gB kr];try rw[gB kr]
   have hor:r.1.aH=w.b.aH:=by rw[hr] at kr⊢;exact oP _ _ _ kr
   dsimp only[oN,bind,Except.bind];rintro e H' ⟨rfl,rfl⟩;refine .inl ⟨_,rfl,_,bG,?_⟩;repeat first|refine v_ ?_|intro
   try unfold Wk.tell
   try dsimp only
   refine gO rfl (H':=[aJ g 369 _,own eB A m c r.1.aH,own eG X n x w.out]) ?_ ⟨A,m,c,X,n,x,rfl,rfl⟩;rw[hor];exact aB.aV (.cons .aN (.cons aS (.cons aS .nil)))
  ·rw[gC kr];try rw[gC kr]
   dsimp only[oN,bind,Except.bind];rintro e H' ⟨rfl,rfl⟩;exact .inr ⟨_,rfl,[],aA,rfl,rfl⟩
 rw[if_neg k9];refine t_ func276 ntmps276 ?_;repeat first|refine v_ ?_|intro
 refine L.val sD (λ_ _=>V.e9 rfl rfl q_) ?_;refine L.conv (H':=[]) aA ?_;refine L.panic rfl ?_;exact⟨rfl,rfl⟩
end
instance:cL 141 [.int .i64 0,.slice none 0 0] [(0,1),(1,1)]:=⟨⟨q_,q_⟩⟩
section
variable {P:Program} {N:Nat} {E:Env} {F:Nat→Value} {H H' R R2 Hp:List aL} {d:Nat} {f:FuncId} {ops:List Operand} {tys:Array TypeId} {ty:TypeId} {pos:String} {af:Array Edge} {Qw:Exit→Act→World→Prop} {Q1:Ending→List aL→Prop}
theorem xD.Av{os rest:List Oper}(hd:d<N)(hk:xA f=true)(hp:cS Hp H R)(law:∀M,Sub E R M→aK prog M f (AO F ops).toArray Hp Q1)
  (hQ:∀e H',Q1 e H'→(∃v,e=.returned v∧∃H2,wK H' R H2∧xD prog N E os Qw rest (pT F d v) H2)∨∃c,e=.panicked c∧∀a w,qX E N F a→St E (H'++R) w→Qw (.panic c) a w) :
  xD prog N E os Qw (⟨some d,.call { callee:=.value (.func f),args:=ops.toArray,argTypes:=tys },ty,pos,af,none⟩::rest) F H:=by
 obtain⟨fn,h1,h2,h3⟩:=iY hk;refine xD.Wx hd h1 h2 h3 hp law (λH' hq=>?_) (λc H' hq=>?_) (λv H' hq=>?_)
 ·rcases hQ _ _ hq with⟨v',he,_⟩|⟨c',he,_⟩<;>cases he
 ·rcases hQ _ _ hq with⟨v',he,_⟩|⟨c',he,h⟩
  ·cases he
  ·injection he with he;subst he;exact h
 ·rcases hQ _ _ hq with⟨v',he,H2,hc,h⟩|⟨c',he,_⟩
  ·injection he with he;subst he;rw[←hc.eq];exact h
  ·cases he
theorem TU{fn:Func}{Q:Ending→List aL→Prop}{t g u g2:Nat}{ty bt ty2 bt2:TypeId}{cs cs2:List Value}{d d2:TypeDesc}{ti ti2:TypeInfo}(hr:fn.results=#[.cell t ty,.cell u ty2])(hv:F t=.pointer (some ⟨g,0,none⟩))(hv2:F u=.pointer (some ⟨g2,0,none⟩))(ht:P.underlying ty=some d)(hd:lT d=true)(hi:P.info? ty=some ti)(hb:Has (aJ g bt cs) H R)(hm:ti.size=cs.length)
  (ht2:P.underlying ty2=some d2) (hd2:lT d2=true) (hi2:P.info? ty2=some ti2) (hb2:Has (aJ g2 bt2 cs2) H R2) (hm2:ti2.size=cs2.length)
  (hc:aB E H H') (h:Q (.returned (.tuple #[.agg cs.toArray,.agg cs2.toArray])) H'):gF P E fn Q .ret F H:=by
 refine⟨.tuple #[.agg cs.toArray,.agg cs2.toArray],H',λw hw=>?_,hc,h⟩;obtain⟨h1,h2⟩:=mL hv ht hd hi hb hm hw;obtain⟨h3,h4⟩:=mL hv2 ht2 hd2 hi2 hb2 hm2 hw;simp[yC,hr,h1,h2,h3,h4]
end
section
variable (E:Env) (b:Bk) (A:Option Addr) (m c:Nat) (g2 g4 g5:Nat)
theorem SW:N4 prog E 275 #[.pointer (some ⟨g2,0,none⟩),.pointer (some ⟨g4,0,none⟩),.pointer (some ⟨g5,0,none⟩)] .returning [] (λe u' H'=>u'=.returning∧e=.returned (.tuple #[])∧H'=[]):=by
 refine Ur func275 rfl ntmps275 (by simp) sD sD ?_;repeat first|refine v_ ?_|intro
 refine L.val (v:=.bool false) sD (λ_ _=>q_) ?_;repeat first|refine v_ ?_|intro
 exact r4
theorem PF(k:Int)(hr:Rd E eB A m c b.aH)(hm:m≤1000):N4 prog E 275 #[.pointer (some ⟨g2,0,none⟩),.pointer (some ⟨g4,0,none⟩),.pointer (some ⟨g5,0,none⟩)] (.panicking (Yt k))
  [aJ g2 45 (b.cs A m c),aJ g4 45 (sY.cs none 0 0),aJ g5 141 [.int .i64 0,.slice none 0 0]]
  (λe u' H'=>u'=.panicking [{ v:=.iface 371 (.agg #[.int .i64 k]),recovered:=true }]∧∃B d,e=.returned (.tuple #[])∧H'=[aJ g2 45 (b.cs A m c),aJ g4 45 (b.cs B m d),aJ g5 141 [.int .i64 k,.slice none 0 0],own eB B m d b.aH]):=by
 dsimp only[Bk.cs,List.cons_append,List.nil_append];refine Ur func275 rfl ntmps275 (by simp) sD sD ?_;change C _ _ _ _ _ (pT (pT _ _ (.iface 371 (.agg #[.int .i64 k]))) _ (.iface 371 (.agg #[.int .i64 k]))) _;repeat first|refine v_ ?_|intro
 refine L.val (v:=.bool true) sD (λ_ _=>q_) ?_;repeat first|refine v_ ?_|intro
 refine L.val (v:=.tuple #[.agg #[.int .i64 k],.bool true]) sD (λ_ _=>q_) ?_;repeat first|refine v_ ?_|intro
 rename_i gt;refine rB (l_ [0,2,3,4] (g_ 1 (g_ 5 (g_ 6 .nil)))) ([aJ g2 45 _,aJ gt 371 _]) ?_;repeat first|refine v_ ?_|intro
 refine cg rfl sD bA sK aC (λM hE=>Kh M b A m c (hr.sub hE) hm) ?_;rintro e H' ⟨B,d,hd,rfl,rfl⟩;repeat first|refine v_ ?_|intro
 exact gO rfl aA ⟨B,d,rfl,rfl⟩
def r6(r:Bk×Out):Ending→List aL→Prop :=
 λe H'=>∃B m' d X n x,e=.returned (.tuple #[.agg (r.1.cs B m' d).toArray,.agg #[.int .i64 r.2.code,.slice X n x]])∧H'=[own eB B m' d r.1.aH,own eG X n x r.2.zM]
theorem VR(hr:Rd E eB A m c b.aH)(hb:b.ok)(hoq:∀o∈b.aH,0≤o.iN∧o.iN≤1000)(hm:m≤1000)(ch:aX):G E 219 [.agg (b.cs A m c).toArray,.agg ch.cs.toArray] [] (r6 (C0 b ch)):=by
 have hr2:∀ds,Rd (E.jU ds) eB A m c b.aH:=λ_=>hr;dsimp only[aX.cs,Bk.cs,List.cons_append,List.nil_append,G];refine Xb func219 rfl ntmps219 (by simp) λhds=>?_;refine WJ.yR ?_;repeat first|refine v_ ?_|intro
 refine WJ.yR ?_;repeat first|refine v_ ?_|intro
 refine cl sD sK aC (λM hE=>Kh M b A m c (hr.sub hE) hm) ?_;rintro e H' ⟨B,d,hd,rfl,rfl⟩;refine gk bG ?_;refine L.conv (aB.nil eG) ?_;repeat first|refine v_ ?_|intro
 rename_i g2 g3 g4 g5 gw;refine WJ.Zd ?_;refine xD.YV sD I7 ?_;refine xD.defer rfl ?_;rw[hds];refine xD.nil ?_;refine WJ.Zd ?_;refine xD.Yd sD (λ_=>by simp) Cw ?_;refine xD.Yd sD (λ_=>by simp) Cw ?_;have law:=λM=>U1 M ⟨b,[],⟨0,0⟩⟩ ch gw B m d none 0 0 hm o_ hb hoq;dsimp only[xC,Wk.cs,Bk.cs,aX.cs,List.cons_append,List.nil_append] at law;refine xD.Av sD sK aC (λM hE=>law M) ?_;cases hw:Wk.do ⟨b,[],⟨0,0⟩⟩ ch with
 |ok w' =>
  have e:C0 b ch=(w'.b,⟨0,w'.out⟩):=by unfold C0;rw[hw]
  rintro e H' ⟨A',m',c',X',n',x',rfl,rfl⟩;dsimp only[xC,Wk.cs,Bk.cs,List.cons_append,List.nil_append];refine .inl ⟨_,rfl,_,bG,?_⟩;refine xD.nil ?_;refine WJ.l7 ?_;repeat first|refine v_ ?_|intro
  refine rB (l_ [0,1,2,3,4,5,6,7,8] (g_ 9 (g_ 10 .nil))) ([aJ gw 369 _]) ?_;repeat first|refine v_ ?_|intro
  refine Lv.one (by simp) ⟨_,func275,q_,rfl⟩ (Hp:=[]) .nil (λM hE=>SW M _ _ _) ?_;rintro e u' H' ⟨rfl,rfl,rfl⟩;refine⟨⟨_,rfl⟩,rfl,?_⟩;rw[e];simp only[aBq];exact TU (H':=[own eB A' m' c' w'.b.aH,own eG X' n' x' w'.out]) rfl aF aF rfl rfl rfl aS rfl rfl rfl rfl aS rfl aA ⟨A',m',c',X',n',x',rfl,rfl⟩
 |error k =>
  have e:C0 b ch=(b,⟨k,[]⟩):=by unfold C0;rw[hw]
  rintro e H' ⟨rfl,rfl⟩;refine .inr ⟨_,rfl,λa u ha hu=>Lv.get ?_ a u ha hu⟩;have dof:=λM hr=>PF M b A m c g2 g4 g5 k hr hm;dsimp only[Bk.cs,List.cons_append,List.nil_append] at dof;refine Lv.one (by simp[Yt,Z3]) ⟨_,func275,q_,rfl⟩ aC (λM hE=>dof M ((hr2 _).sub hE)) ?_;rintro e u' H' ⟨rfl,B,d,rfl,rfl⟩;refine⟨⟨_,rfl⟩,rfl,?_⟩;rw[e];simp only[aCj,aBq];exact TU (H':=[own eB B m d b.aH,own eG none 0 0 []]) rfl aF aF rfl rfl rfl aS rfl rfl rfl rfl aS rfl (aB.trans (aB.nil eG) aA) ⟨B,m,d,none,0,0,rfl,rfl⟩
end
end
section
structure dD.fit(o:dD):Prop where
 id:o.id.ok
 cC:0≤o.cC∧o.cC≤7
 item:0≤o.item∧o.item≤7
 iN:0≤o.iN∧o.iN≤1000
 cost:0≤o.cost∧o.cost≤1099511627776
structure Bk.fit(b:Bk):Prop where
 ok:b.ok
 C7:∀o∈b.aH,o.fit
 len:b.aH.length≤32
structure Wk.fit(n:Nat)(w:Wk):Prop where
 b:w.b.fit
 out:∀f∈w.out,f.ok
 len:w.out.length≤n
 ref:w.ref.ok
def eK{X:Type}(p:X→Prop)(r:Except Int X):Prop:=∀x,r=.ok x→p x
theorem eK.bind{X Y:Type}{r:Except Int X}{f:X→Except Int Y}{p:X→Prop}{q:Y→Prop}(h:eK p r)(k:∀x,p x→eK q (f x)):eK q (r >>= f):=by
 intro y hy;cases r with
 |ok x=>exact k x (h x rfl) y hy
 |error e=>cases hy
theorem eK.ok{X:Type}{p:X→Prop}{x:X}(h:p x):eK p (.ok x):=by
 intro y hy;injection hy with hy;subst hy;exact h
theorem eK.pure{X:Type}{p:X→Prop}{x:X}(h:p x):eK p (pure x):=eK.ok h
theorem eK.error{X:Type}{p:X→Prop}{k:Int}:eK p (.error k):=by intro y hy;cases hy
theorem eK.mono{X:Type}{p q:X→Prop}{r:Except Int X}(h:eK p r)(k:∀x,p x→q x):eK q r:=λx hx=>k x (h x hx)
theorem eK.ask{p:Bool}{k:Int}{r:Wr}{q:Wk→Prop}(h:p=true→eK q r):eK q (C9 p k r):=by
 unfold C9;split
 ·exact h ‹_›
 ·exact eK.error
theorem eK.iQ{w:Wk}{r:Bk×Int}{n:Nat}(hw:w.fit n)(h:r.2=0→r.1.fit):eK (λw'=>Wk.fit n w'∧w'=⟨r.1,w.out,w.ref⟩∧r.2=0) (w.iQ r):=by
 unfold Wk.iQ;split
 ·rename_i hk;exact eK.ok ⟨⟨h hk,hw.out,hw.len,hw.ref⟩,rfl,hk⟩
 ·exact eK.error
theorem Wk.fit.tell{w:Wk}{n:Nat}(h:w.fit n)(kind a k:Int)(h1:dQ kind)(h2:dQ a)(h3:dQ k):(w.tell kind a k).fit (n+1) :=
 ⟨h.b,λf hf=>by
  rcases aBg.1 hf with hf|hf
  ·exact h.out f hf
  ·obtain rfl:=aAp.1 hf;exact⟨h1,h2,h3,h.ref⟩,by have:=h.len;simp[Wk.tell];omega,h.ref⟩
theorem Wk.fit.le{w:Wk}{n m:Nat}(h:w.fit n)(hm:n≤m):w.fit m:=⟨h.b,h.out,aBw h.len hm,h.ref⟩
theorem F8{b:Bk}{o x:dD}(h:x∈(lK b o).aH):x=o∨x∈b.aH:=by
 unfold lK at h;split at h
 ·rcases aCr h with h|h
  ·exact .inr h
  ·exact .inl h
 ·simp only[aBg,aAp] at h;rcases h with(h|h)|h
  ·exact .inr (aBs h)
  ·exact .inl h
  ·exact .inr (aDw h)
theorem Gg{b:Bk}{o:dD}:(lK b o).aH.length≤b.aH.length+1∧(0≤fA b o.id→(lK b o).aH.length=b.aH.length):=by
 unfold lK;split
 ·exact⟨by simp,λ_=>by simp⟩
 ·refine⟨?_,λh=>absurd h ‹_›⟩;simp only[aAe,aAg,aBd,aDa];omega
theorem J5{b:Bk}{o:dD}(h:b.ok):(lK b o).ok:=by
 unfold lK;split<;>exact h
theorem Ig{b:Bk}{o:dD}(h:o∈b.aH):0≤fA b o.id:=by
 have:=rC (λx:dD=>decide (x.id=o.id)) b.aH;have h2:b.aH.any (λx:dD=>decide (x.id=o.id))=true:=aEm.2 ⟨o,h,by simp⟩;rw[h2] at this;exact of_decide_eq_true this
theorem Wk.fit.put{w:Wk}{n:Nat}(h:w.fit n){o:dD}(st:Int)(ho:o.fit)(hp:0≤fA w.b o.id):(w.put o st).fit n:=by
 have hl:=(Gg (b:=w.b) (o:={ o with state:=st })).2 hp;refine⟨⟨J5 h.b.ok,λx hx=>?_,?_⟩,h.out,h.len,h.ref⟩
 ·rcases F8 hx with rfl|hx
  ·exact⟨ho.id,ho.cC,ho.item,ho.iN,ho.cost⟩
  ·exact h.b.C7 x hx
 ·show(lK w.b { o with state:=st }).aH.length≤32;rw[hl];exact h.b.len
theorem Cl{b:Bk}(h:b.fit)(i n:Int)(k:(jB b i n).2=0):(jB b i n).1.fit :=
 ⟨L7 h.ok i n k,by rw[jZ b i n k];exact h.C7,by rw[jZ b i n k];exact h.len⟩
theorem AE{b:Bk}(h:b.fit)(i n:Int)(k:(nF b i n).2=0):(nF b i n).1.fit :=
 ⟨HK h.ok i n k,by rw[hP b i n k];exact h.C7,by rw[hP b i n k];exact h.len⟩
theorem MC{b:Bk}(h:b.fit)(i n:Int)(k:(sN b i n).2=0):(sN b i n).1.fit :=
 ⟨NU h.ok i n k,by rw[nU b i n k];exact h.C7,by rw[nU b i n k];exact h.len⟩
theorem wD{b:Bk}(h:b.fit)(i n:Int)(k:(jT b i n).2=0):(jT b i n).1.fit :=
 ⟨Kx h.ok i n k,by rw[fS b i n k];exact h.C7,by rw[fS b i n k];exact h.len⟩
theorem HU{b:Bk}(h:b.fit)(i n:Int)(k:(mF b i n).2=0):(mF b i n).1.fit:=by
 refine⟨?_,by rw[oP b i n k];exact h.C7,by rw[oP b i n k];exact h.len⟩;unfold mF at k⊢;split at k
 ·rename_i h1;rw[if_pos h1];exact⟨h.ok.1,O8.iW h.ok.2.1 _ _ h1.2.1 h1.2.2,h.ok.2.2⟩
 ·cases k
theorem QS{b:Bk}(h:b.fit){o:dD}(ho:o.fit)(k:(wH b o).2=0):(wH b o).1.fit:=by
 unfold wH at k⊢;split at k
 ·cases k
 ·split at k
  ·cases k
  ·rename_i h1 h2;rw[if_neg h1,if_neg h2];refine⟨J5 h.ok,λx hx=>?_,?_⟩
   ·rcases F8 hx with rfl|hx
    ·exact ho
    ·exact h.C7 x hx
   ·have:=(Gg (b:=b) (o:=o)).1;show(lK b o).aH.length≤32;omega
theorem eK.order{w:Wk}{n:Nat}(hw:w.fit n){a:bJ}(ha:a.ok)(st:List Int):eK (λp=>Wk.fit n p.1∧p.1=⟨w.b,w.out,a⟩∧p.2.fit∧0≤fA w.b p.2.id) (w.order a st):=by
 obtain⟨q,hq⟩:∃q,q=FT w.b a st:=⟨_,rfl⟩
 obtain⟨o,k⟩:=q;rw[show w.order a st=_ from iF hq];split
 ·have hm:=BF hq ‹_›;exact eK.ok ⟨⟨hw.b,hw.out,hw.len,ha⟩,rfl,hw.b.C7 o hm,Ig hm⟩
 ·exact eK.error
theorem mA{b b':Bk}(h:b'.aH=b.aH)(a:bJ):fA b' a=fA b a:=by unfold fA;rw[h]
theorem i8{x:Int}(h:0≤x∧x≤7):dQ x:=by unfold dQ;omega
theorem i40{x:Int}(h:0≤x∧x≤1099511627776):dQ x:=by unfold dQ;omega
theorem i10{x:Int}(h:0≤x∧x≤1000):dQ x:=by unfold dQ;omega
theorem Cn{b:Bk}{i n:Int}(h:Aj b i n=true):0≤i∧i≤7:=by
 unfold Aj jB at h;split at h
 ·exact ‹_∧_›.1
 ·simp at h
theorem Mo{b:Bk}(hb:b.ok){i n:Int}(hn:0≤n):0≤(mY b i n).1∧(mY b i n).1≤1099511627776:=by
 unfold mY;split
 ·split
  ·have:=O8.B6 hb.2.1 i;exact⟨Int.mul_nonneg hn this.1,by assumption⟩
  ·dsimp only;omega
 ·dsimp only;omega
theorem Wk.VT{w:Wk}(hw:w.fit 0){c:aX}(hc:c.ok):eK (Wk.fit 4) (w.do c):=by
 obtain⟨hid,hti,hki,ha,hb,hn,href⟩:=hc;have h64:∀k:Int,0≤k→k≤1000→dQ k:=λk h1 h2=>i10 ⟨h1,h2⟩;unfold Wk.do;split
 ·exact eK.ask λ_=>(eK.iQ hw λk=>AE hw.b _ _ k).mono λx hx=>hx.1.le o_
 split
 ·exact eK.ask λ_=>(eK.iQ hw λk=>wD hw.b _ _ k).bind λx hx=>eK.pure ((hx.1.tell _ _ _ (h64 _ o_ o_) ha hn).le o_)
 split
 ·refine eK.ask λhp=>?_;simp only[eight,aAv,decide_eq_true_eq] at hp;have tA:0≤oI w.b c∧oI w.b c≤7:=by
   unfold oI;split
   ·rename_i h;simp only[aAv] at h;exact Cn h.2
   ·exact hp.1.2
  refine(eK.iQ hw λk=>QS hw.b ⟨hid,hp.1.1,tA,by dsimp only;omega,by dsimp only;omega⟩ k).bind λx hx=>?_;refine(eK.iQ hx.1 λk=>Cl hx.1.b _ _ k).bind λy hy=>?_;refine eK.pure (Wk.fit.le (Wk.fit.tell (Wk.fit.tell (w:={ y with ref:=c.id }) ⟨hy.1.b,hy.1.out,hy.1.len,hid⟩ _ _ _ (h64 _ o_ o_) (i8 tA) hn) _ _ _ (h64 _ o_ o_) ha (h64 _ o_ o_)) o_)
 split
 ·refine eK.ask λhp=>?_;simp only[decide_eq_true_eq] at hp;refine(eK.order hw href _).bind λp hp2=>?_;obtain⟨w1,o⟩:=p;obtain⟨h1,rfl,h3,h4⟩:=hp2;dsimp only;have key:∀x:Wk,x.fit 0→x.b.aH=w.b.aH→eK (Wk.fit 4) (pure ((x.put { o with iN:=c.n } 1).tell 2 o.item c.n)):=λx hx ho =>
   eK.pure (((hx.put 1 (o:={ o with iN:=c.n }) ⟨h3.id,h3.cC,h3.item,by dsimp only;omega,h3.cost⟩ (by rw[mA ho];exact h4)).tell _ _ _ (h64 _ o_ o_) (i8 h3.item) hn).le o_)
  split
  ·exact(eK.iQ h1 λk=>Cl h1.b _ _ k).bind λx hx=>key x hx.1 (by rw[hx.2.1];exact jZ _ _ _ hx.2.2)
  ·exact(eK.iQ h1 λk=>AE h1.b _ _ k).bind λx hx=>key x hx.1 (by rw[hx.2.1];exact hP _ _ _ hx.2.2)
 split
 ·refine(eK.order hw href _).bind λp hp2=>?_;obtain⟨w1,o⟩:=p;obtain⟨h1,rfl,h3,h4⟩:=hp2;dsimp only;refine(eK.iQ h1 λk=>AE h1.b _ _ k).bind λx hx=>?_;have hx1:=hx.1.tell 3 o.item o.iN (h64 _ o_ o_) (i8 h3.item) (i10 h3.iN);have hxo:(x.tell 3 o.item o.iN).b.aH=w.b.aH:=by show x.b.aH=_;rw[hx.2.1];exact hP _ _ _ hx.2.2
  have key:∀y:Wk,y.fit 2→y.b.aH=w.b.aH→eK (Wk.fit 4) (pure ((y.put o 4).tell 7 o.cC 2)):=λy hy ho =>
   eK.pure (((hy.put 4 h3 (by rw[mA ho];exact h4)).tell _ _ _ (h64 _ o_ o_) (i8 h3.cC) (h64 _ o_ o_)).le o_)
  split
  ·refine eK.bind (p:=λy=>Wk.fit 2 y∧y.b.aH=w.b.aH) ?_ λy hy=>key y hy.1 hy.2;refine(eK.iQ hx1 λk=>wD hx1.b _ _ k).bind λy hy=>eK.pure ⟨hy.1.tell _ _ _ (h64 _ o_ o_) (i8 h3.cC) (i40 h3.cost),?_⟩;show y.b.aH=_;rw[hy.2.1];exact(fS _ _ _ hy.2.2).trans hxo
  ·exact eK.bind (p:=λy=>Wk.fit 2 y∧y.b.aH=w.b.aH) (eK.ok ⟨hx1.le o_,hxo⟩) λy hy=>key y hy.1 hy.2
 split
 ·refine(eK.order hw href _).bind λp hp2=>?_;obtain⟨w1,o⟩:=p;obtain⟨h1,rfl,h3,h4⟩:=hp2;dsimp only;split
  ·exact eK.error
  ·have hc:=Mo hw.b.ok (i:=o.item) h3.iN.1;refine(eK.iQ h1 λk=>MC h1.b _ _ k).bind λx hx=>?_;refine eK.pure ((((hx.1.put 2 (o:={ o with cost:=(mY w.b o.item o.iN).1 }) ⟨h3.id,h3.cC,h3.item,h3.iN,hc⟩ ?_).tell _ _ _ (h64 _ o_ o_) (i8 h3.cC) (i40 hc)).tell _ _ _ (h64 _ o_ o_) (i8 h3.cC) (i40 hc)).le o_);rw[mA (show x.b.aH=w.b.aH by rw[hx.2.1];exact nU _ _ _ hx.2.2)];exact h4
 split
 ·refine(eK.order hw href _).bind λp hp2=>?_;obtain⟨w1,o⟩:=p;obtain⟨h1,rfl,h3,h4⟩:=hp2;have i1:=i8 h3.item;have i2:=i10 h3.iN;exact eK.pure (((((h1.put 3 h3 h4).tell _ _ _ (h64 _ o_ o_) i1 i2).tell _ _ _ (h64 _ o_ o_) i1 i2).tell _ _ _ (h64 _ o_ o_) i1 i2).tell _ _ _ (h64 _ o_ o_) (i8 h3.cC) (h64 _ o_ o_) |>.le o_)
 split
 ·refine(eK.order hw href _).bind λp hp2=>?_;obtain⟨w1,o⟩:=p;obtain⟨h1,rfl,h3,h4⟩:=hp2;dsimp only;refine(eK.iQ h1 λk=>wD h1.b _ _ k).bind λx hx=>?_;refine eK.pure (((hx.1.put 5 h3 ?_).tell _ _ _ (h64 _ o_ o_) (i8 h3.cC) (i40 h3.cost)).le o_);rw[mA (show x.b.aH=w.b.aH by rw[hx.2.1];exact fS _ _ _ hx.2.2)];exact h4
 split
 ·exact(eK.iQ hw λk=>HU hw.b _ _ k).mono λx hx=>hx.1.le o_
 ·exact eK.error
structure Out.fit(o:Out):Prop where
 zM:∀f∈o.zM,f.ok
 len:o.zM.length≤4
theorem Ki{b:Bk}(h:b.fit){c:aX}(hc:c.ok):(C0 b c).1.fit∧(C0 b c).2.fit:=by
 have hw:Wk.fit 0 ⟨b,[],⟨0,0⟩⟩:=⟨h,(λ_ h=>(aAk h).elim),aAf _,⟨show dQ 0 from⟨by decide,by decide⟩,show dQ 0 from⟨by decide,by decide⟩⟩⟩
 unfold C0;cases hd:Wk.do ⟨b,[],⟨0,0⟩⟩ c with
 |ok w=>have:=Wk.VT hw hc w hd;exact⟨this.b,this.out,this.len⟩
 |error k=>exact⟨h,(λ_ h=>(aAk h).elim),aAh _⟩
theorem mG{b:Bk}(h:b.fit){l:List aX}(hl:∀c∈l,c.ok):(gH b l).1.fit∧∀o∈(gH b l).2,o.fit:=by
 induction l generalizing b with
 |nil=>exact⟨h,λ_ h=>by cases h⟩
 |cons c l ih =>
  have h1:=Ki h (hl c aBo);have h2:=ih h1.1 λx hx=>hl x (aBl _ hx);refine⟨h2.1,λo ho=>?_⟩;rcases aEj.1 ho with rfl|ho
  ·exact h1.2
  ·exact h2.2 o ho
theorem lF{b:Bk}{l:List aX}:(gH b l).2.length=l.length:=by
 induction l generalizing b with
 |nil=>rfl
 |cons c l ih=>simp[gH,ih]
theorem pO{b:Bk}{l m:List aX}:gH b (l++m)=((gH (gH b l).1 m).1,(gH b l).2++(gH (gH b l).1 m).2):=by
 induction l generalizing b with
 |nil=>rfl
 |cons c l ih=>simp[gH,ih]
theorem pS:sY.fit:=⟨by refine⟨?_,?_,?_⟩<;>(unfold O8.BH;decide),λ_ h=>(aAk h).elim,aAh _⟩
end
section
open Go.RowKit Reg
open Mem hiding Rd
structure Ov where
 code:Int
 X:Option Addr
 n:Nat
 c:Nat
 zM:List cQ
abbrev Ov.cs(x:Ov):List Value:=[.int .i64 x.code,.slice x.X x.n x.c]
def Ov.d(x:Ov):Out:=⟨x.code,x.zM⟩
def rM:Ty Ov where
 val x:=.agg x.cs.toArray
 size:=2
 bytes:=32
 tid:=141
 zero:=.agg #[.int .i64 0,.slice none 0 0]
 hlen _:=rfl
 lJ a u h:=by simp[Value.cells] at h;rcases h with rfl|rfl<;>rfl
 gL:=sD
 hzero:=rfl
 fW:=q_
 nR:=.inl ⟨q_,λ_=>⟨_,rfl⟩⟩
instance:kQ 141 Ov rM:=⟨rfl⟩
instance:lL rM 32:=⟨rfl⟩
instance:Bg 141 [.int .i64 0,.slice none 0 0]:=⟨q_⟩
instance:Bg 46 [.slice none 0 0]:=⟨q_⟩
abbrev dM(x:Ov):aL:=own eG x.X x.n x.c x.zM
structure Bh where
 b:Bk
 A:Option Addr
 m:Nat
 c:Nat
abbrev Bh.cs(x:Bh):List Value:=x.b.cs x.A x.m x.c
abbrev iR(x:Bh):aL:=own eB x.A x.m x.c x.b.aH
theorem UH(E:Env)(x:Bh)(hr:Rd E eB x.A x.m x.c x.b.aH)(hb:x.b.fit)(ch:aX):G E 219 [.agg x.cs.toArray,.agg ch.cs.toArray] []
  λe H'=>∃(y:Bh) (o:Ov),y.b=(C0 x.b ch).1∧o.d=(C0 x.b ch).2∧e=.returned (.tuple #[.agg y.cs.toArray,.agg o.cs.toArray])∧H'=[iR y,dM o]:=by
 have hm:x.m≤1000:=by have:=hr.len;have:=hb.len;omega
 refine aK.mono (VR E x.b x.A x.m x.c hr hb.ok (λo ho=>(hb.C7 o ho).iN) hm ch) ?_;rintro e H' ⟨B,m',d,X,n,k,rfl,rfl⟩;exact⟨⟨(C0 x.b ch).1,B,m',d⟩,⟨(C0 x.b ch).2.code,X,n,k,(C0 x.b ch).2.zM⟩,rfl,rfl,rfl,rfl⟩
theorem M9(E:Env)(x:Bh)(Z:Option Addr)(n k:Nat):G E 165 [.agg x.cs.toArray,.slice Z n k] []
  λe H'=>∃g1 g2,e=.returned (.func (.func 218) #[] #[.pointer (some ⟨g1,0,none⟩),.pointer (some ⟨g2,0,none⟩)])∧H'=[aJ g1 24 [.slice Z n k],aJ g2 45 x.cs]:=by
 dsimp only[Bh.cs,Bk.cs,G];refine t_ func165 ntmps165 ?_;repeat first|refine v_ ?_|intro
 exact aR rfl aF aA ⟨_,_,rfl,rfl⟩
abbrev W9:=List Ov×Bh
def FB(s:W9)(x:Ov×Bh):W9:=(s.1++[x.1],x.2)
abbrev Jw(x:Ov×Bh):List Value:=[.agg x.1.cs.toArray,.agg x.2.cs.toArray]
theorem JM(E:Env)(g1 g2:Nat)(f0:Bh)(hb:f0.b.fit)(Z:Option Addr)(n k:Nat)(l:List aX)(hl:Rd E bE Z n k l)(hok:∀c∈l,c.ok)(hn:n≤1000000)(lp:Nat)(J:W9→aL)
  (hy:∀E2 R2 s x,Sub E R2 E2→s.1.length≤1000000→Ps prog E2 lp (Jw x) (J s::[dM x.1]) (λe H'=>e=.returned (.bool true)∧H'=[J (FB s x)])) :
  aK prog E 218 #[.func (.yield lp) #[] #[],.pointer (some ⟨g1,0,none⟩),.pointer (some ⟨g2,0,none⟩)] (J ([],f0)::[aJ g1 24 [.slice Z n k],aJ g2 45 f0.cs,iR f0])
   (λe H'=>(∃v,e=.returned v)∧∃(s:W9) (Hd:List aL),(s.1.map Ov.d=(gH f0.b l).2∧s.2.b=(gH f0.b l).1∧Hd=[aJ g1 24 [.slice Z n k],aJ g2 45 s.2.cs,iR s.2])∧H'=J s::Hd):=by
 have hlen:=hl.len;have hcap:=hl.cap;have hmax:=fX;refine X8 func218 rfl ntmps218 (by simp) ?_;repeat (first|refine HI ?_|refine HC ?_|intro _)
 refine CI.loop (X:=Nat×W9) (λs=>[(0,.func (.yield lp) #[] #[]),(1,.pointer (some ⟨g1,0,none⟩)),(2,.pointer (some ⟨g2,0,none⟩)),(7,.slice Z n k),(8,.int .i64 n),(9,.int .i64 s.1)]) (λs=>[J s.2,aJ g1 24 [.slice Z n k],aJ g2 45 s.2.2.cs,iR s.2.2])
  (λs=>s.1≤n∧s.2.1.map Ov.d=(gH f0.b (l.take s.1)).2∧s.2.2.b=(gH f0.b (l.take s.1)).1) (λs=>n - s.1) (0,[],f0) aD aA ⟨aAh _,rfl,rfl⟩ ?_
 rintro⟨i,s⟩ G ⟨hi,hs1,hs2⟩;dsimp only at hi hs1 hs2⊢;by_cases hlt:i<n
 ·obtain⟨c,hc⟩:∃c,l[i]?=some c:=⟨_,aAa o_⟩
  have hfit:s.2.b.fit:=by rw[hs2];exact(mG hb λx hx=>hok x (aBs hx)).1
  have law:=λM hr=>UH M s.2 hr hfit c;have hol:s.1.length≤n:=by rw[←aAw (f:=Ov.d),hs1,lF,aAg];omega
  obtain⟨os,y⟩:=s;dsimp only[Bh.cs,Bk.cs,aX.cs,iR,dM] at hs1 hs2 hfit law hol⊢;repeat (first|refine HI ?_|refine HC ?_|intro _)
  refine Zz sD sK aC (λM hE=>law M dB) ?_;rintro e H' ⟨z,o,hz,ho,rfl,rfl⟩;refine⟨_,rfl,_,bG,?_⟩;repeat (first|refine HI ?_|refine HC ?_|intro _)
  refine LI.yield sD rfl I7 aC (λM hE=>hy M _ (os,y) (o,z) hE (by dsimp only;omega)) ?_;rintro e H' ⟨rfl,rfl⟩;refine⟨_,rfl,_,bG,?_⟩;repeat (first|refine HI ?_|refine HC ?_|intro _)
  dsimp only[FB];refine⟨(i+1,os++[o],z),aD,aA,⟨by dsimp only;omega,?_,?_⟩,by dsimp only;omega⟩
  ·dsimp only;rw[take_succ hc,pO,←hs2];simp only[aBk,aCi,aDo,hs1,ho,gH]
  ·dsimp only;rw[take_succ hc,pO,←hs2];simp only[hz,gH]
 ·obtain rfl:i=n:=o_;rw[aAj o_] at hs1 hs2;repeat (first|refine HI ?_|refine HC ?_|intro _)
  exact gO rfl aA (⟨⟨_,rfl⟩,s,_,⟨hs1,hs2,rfl⟩,rfl⟩)
theorem CI.unpack{r:Option Nat}{P:Program}{N:Nat}{E:Env}{cd:Code}{Q:QF}{F:Nat→Value}{H R:List aL}{X:Type}{l:X→List aL}(hh:Has (pack l) H R)(h:∀x,CI r P N E cd Q F (l x++R)):CI r P N E cd Q F H:=⟨λa w ha hw=>by
 obtain⟨x,hx⟩:=hw.unpack hh;exact(h x).get a w ha hx⟩
theorem WJ.unpack{P:Program}{N:Nat}{E:Env}{cd:Code}{Qw:Exit→Act→World→Prop}{F:Nat→Value}{H R:List aL}{X:Type}{l:X→List aL}(hh:Has (pack l) H R)(h:∀x,WJ P N E cd Qw F (l x++R)):WJ P N E cd Qw F H:=⟨λa w ha hw=>by
 obtain⟨x,hx⟩:=hw.unpack hh;exact(h x).get a w ha hx⟩
abbrev KJ(g:Nat)(os:List Ov):aL:=pack λ(x:Option Addr×Nat)=>[aJ g 46 [.slice x.1 os.length x.2],own rM x.1 os.length x.2 os,aO dM os]
def Zr(b:Bk)(l:List aX):Ending→List aL→Prop:=λe H'=>∃(y:Bh) (O:Option Addr) (k:Nat) (os:List Ov),os.map Ov.d=(gH b l).2∧y.b=(gH b l).1∧e=.returned (.tuple #[.agg y.cs.toArray,.slice O os.length k])∧H'=[iR y,own rM O os.length k os,aO dM os]
theorem BM(E:Env)(f0:Bh)(hr:Rd E eB f0.A f0.m f0.c f0.b.aH)(hb:f0.b.fit)(Z:Option Addr)(n k:Nat)(l:List aX)(hl:Rd E bE Z n k l)(hok:∀c∈l,c.ok)(hn:n≤1000000):G E 102 [.agg f0.cs.toArray,.slice Z n k] [] (Zr f0.b l):=by
 have hlen:=hl.len;have hm:f0.m≤1000:=by have:=hr.len;have:=hb.len;omega
 obtain⟨b,A,m,c⟩:=f0;dsimp only at hm hr hb⊢;have clone:=λM hr=>FN M A m c b.aH hr o_;dsimp only[Bh.cs,Bk.cs,G];refine Ww func102 rfl ntmps102 (by simp) λhds=>?_;refine WJ.yR ?_;repeat first|refine v_ ?_|intro
 refine WJ.yR ?_;repeat first|refine v_ ?_|intro
 refine dX clone ?_;rintro e H' ⟨B,d,hd,rfl,rfl⟩;repeat first|refine v_ ?_|intro
 refine WJ.yR ?_;repeat first|refine v_ ?_|intro
 refine WJ.yR ?_;repeat first|refine v_ ?_|intro
 rename_i g2 g4 g6 g7;refine WJ.seq ?_;refine WJ.yR ?_;repeat first|refine v_ ?_|intro
 refine bW (λM=>M9 M ⟨b,B,m,d⟩ Z n k) ?_;rintro e H' ⟨g1,g3,rfl,rfl⟩;repeat first|refine v_ ?_|intro
 refine WJ.rg (Y:=Nat×Nat) (ps:=[18,19]) Jw (λx=>[dM x.1]) FB (λs=>[aJ g4 45 (sY.cs none 0 0),KJ g6 s.1,aJ g7 45 s.2.cs]) ([],⟨b,B,m,d⟩)
  (λs x y=>[(4,.pointer (some ⟨g4,0,none⟩)),(6,.pointer (some ⟨g6,0,none⟩)),(7,.pointer (some ⟨g7,0,none⟩)),(8,.pointer (some ⟨y.1,0,none⟩)),(9,.pointer (some ⟨y.2,0,none⟩))])
  (λs x y=>[aJ y.1 141 x.1.cs,aJ y.2 45 x.2.cs,dM x.1,aJ g4 45 (sY.cs none 0 0),KJ g6 s.1,aJ g7 45 s.2.cs])
  (Hit:=[aJ g1 24 [.slice Z n k],aJ g3 45 (b.cs B m d),own eB B m d b.aH])
  (λs Hd=>s.1.map Ov.d=(gH b l).2∧s.2.b=(gH b l).1∧Hd=[aJ g1 24 [.slice Z n k],aJ g3 45 s.2.cs,iR s.2]) (λs _=>s.1.length≤1000000)
  hds rfl ⟨_,func218,q_,rfl⟩ (λ_=>rfl) sD ?_
  (λM R' lp J hE hy=>JM M g1 g3 ⟨b,B,m,d⟩ hb Z n k l (hl.sub hE) hok hn lp J hy) ?_ ?_ ?_
 ·unfold KJ;dsimp only[Bh.cs,Bk.cs,List.length_nil,List.cons_append,List.nil_append];refine aB.trans (aB.nil rM) (aB.trans (aB.kP dM) ?_);exact aB.trans (aB.pack (l:=λ(x:Option Addr×Nat)=>[aJ g6 46 [.slice x.1 0 x.2],own rM x.1 0 x.2 [],aO dM []]) (none,0) aC) aA
 ·rintro E2 R3 lp s x hE hd hs;obtain⟨o,y⟩:=x;dsimp only[Bh.cs,Bk.cs,Jw,Ov.cs,List.cons_append,List.nil_append];repeat (first|refine HI ?_|refine HC ?_|intro _)
  exact⟨(_,_),aD,aA⟩
 ·rintro E2 R3 lp s x y Gf hE hd hs;obtain⟨o,z⟩:=x;dsimp only[Bh.cs,Bk.cs,Jw,Ov.cs];refine CI.unpack aS λx=>?_;obtain⟨O,k⟩:=x;dsimp only[List.cons_append,List.nil_append];repeat (first|refine HI ?_|refine HC ?_|intro _)
  rename_i O1 k1 _ _;have hl1:(s.1++[o]).length=s.1.length+1:=by simp
  dsimp only[FB,KJ];rw[hl1];refine⟨aB.trans (aB.push (f:=dM) (x:=o) aC) ?_⟩;exact aB.trans (aB.pack (l:=λ(x:Option Addr×Nat)=>[aJ g6 46 [.slice x.1 (s.1.length+1) x.2],own rM x.1 (s.1.length+1) x.2 (s.1++[o]),aO dM (s.1++[o])]) (O1,k1) aC) aA
 ·rintro D s Hd ⟨h1,h2,rfl⟩;dsimp only[Bh.cs,Bk.cs,iR,List.cons_append,List.nil_append];refine WJ.unpack aS λx=>?_;obtain⟨O,k⟩:=x;dsimp only[List.cons_append,List.nil_append];refine WJ.ZB ?_;repeat first|refine v_ ?_|intro
  refine rB (l_ [0,1] (g_ 2 (n_ 3 .nil))) ([aJ g7 45 _,aJ g6 46 _]) ?_;repeat first|refine v_ ?_|intro
  refine⟨_,aS,?_⟩;exact gS (H':=[own eB s.2.A s.2.m s.2.c s.2.b.aH,own rM O s.1.length k s.1,aO dM s.1]) rfl aF rfl rfl rfl aS rfl aF aA ⟨s.2,O,k,s.1,h1,h2,rfl,rfl⟩
theorem Pg(E:Env)(f0:Bh)(hr:Rd E eB f0.A f0.m f0.c f0.b.aH)(hb:f0.b.fit)(Z:Option Addr)(n k:Nat)(l:List aX)(hl:Rd E bE Z n k l)(hok:∀c∈l,c.ok)(hn:n≤1000000):G E 76 [.agg f0.cs.toArray,.slice Z n k] []
  λe H'=>∃y:Bh,y.b=(gH f0.b l).1∧e=.returned (.agg y.cs.toArray)∧H'=[iR y]:=by
 have run:=λM hr hl=>BM M f0 hr hb Z n k l hl hok hn;dsimp only[Bh.cs,Bk.cs,G] at run⊢;refine t_ func76 ntmps76 ?_;repeat first|refine v_ ?_|intro
 refine C1 run ?_;rintro e H' ⟨y,O,k1,os,h1,h2,rfl,rfl⟩;refine gk bG ?_;dsimp only[Bh.cs,Bk.cs,iR];repeat first|refine v_ ?_|intro
 exact cI rfl aF rfl rfl rfl aS rfl aA (⟨y,h2,rfl,rfl⟩)
def kD(f:cQ):Bool:=decide (7≤f.kind∧f.kind≤11)
def tG(f:cQ):Bool := !kD f&&decide (1≤f.kind∧f.kind≤11)
def mU(o:Out)(pF:Bool):List cQ:=if o.code=0 then o.zM.filter tG++(if pF then o.zM.filter kD else[]) else[]
theorem Ld(E:Env)(x:cQ):G E 272 [.agg x.cs.toArray] [] (cM (.bool (kD x)) []):=by
 unfold kD;refine t_ func272 ntmps272 ?_;repeat first|refine v_ ?_|intro
 exact B7
instance {x:cQ}:vZ 272 [.agg x.cs.toArray] (.bool (kD x)):=⟨λE=>Ld E x⟩
theorem GL(E:Env)(o:Ov)(pF:Bool)(hr:Rd E eG o.X o.n o.c o.zM)(hn:o.n≤1000):G E 211 [.agg o.cs.toArray,.bool pF] []
  λe H'=>∃Y m d,e=.returned (.slice Y m d)∧H'=[own eG Y m d (mU o.d pF)]:=by
 obtain⟨code,X,n,c,zM⟩:=o;have hlen:=hr.len;have hcap:=hr.cap;have hmax:=fX;unfold mU Ov.d;dsimp only at hlen hn hr hcap⊢;by_cases h:code=0
 ·rw[if_pos h];subst h;refine t_ func211 ntmps211 ?_;repeat first|refine v_ ?_|intro
  refine C.conv (aB.trans (aB.oR eG none) (aB.oR eG none)) ?_;refine C.scan (Y:=(Option Addr×Nat×Nat)×(Option Addr×Nat×Nat)) hlen (λi y=>[(1,.bool pF),(5,.slice y.1.1 y.1.2.1 y.1.2.2),(6,.slice y.2.1 y.2.2.1 y.2.2.2),(13,.slice X n c),(14,.int .i64 n),(15,.int .i64 i)])
   (λi y=>[own eG y.1.1 y.1.2.1 y.1.2.2 ((zM.take i).filter tG),own eG y.2.1 y.2.2.1 y.2.2.2 ((zM.take i).filter kD)]) (λi y=>y.1.2.1≤i∧y.2.2.1≤i) ((none,0,0),(none,0,0)) aD (by dsimp only[List.take_zero,List.filter_nil];exact aA) ⟨aAf _,aAf _⟩ ?_ ?_
  ·rintro i ⟨⟨A1,n1,c1⟩,⟨A2,n2,c2⟩⟩ x G hi hx ⟨h1,h2⟩;dsimp only at h1 h2⊢;have hf:∀p:cQ→Bool,(zM.take (i+1)).filter p=if p x=true then(zM.take i).filter p++[x] else(zM.take i).filter p:=λp=>by
    rw[take_succ hx,aQz];cases hp:p x<;>simp[List.filter,hp]
   rw[hf,hf];cases hL:kD x with
   |true =>
    rw[if_neg (show ¬tG x=true by simp[tG,hL]),if_pos rfl];repeat first|refine v_ ?_|intro
    refine⟨((A1,n1,c1),(_,n2+1,_)),aD,aA,by dsimp only;omega,by dsimp only;omega⟩
   |false =>
    by_cases hN:1≤x.kind∧x.kind≤11
    ·rw[if_pos (show tG x=true by simp[tG,hL,hN]),if_neg sD];repeat first|refine v_ ?_|intro
     refine⟨((_,n1+1,_),(A2,n2,c2)),aD,aA,by dsimp only;omega,by dsimp only;omega⟩
    ·rw[if_neg (show ¬tG x=true by simp[tG,hL];omega),if_neg sD];repeat first|refine v_ ?_|intro
     refine⟨((A1,n1,c1),(A2,n2,c2)),aD,aA,by dsimp only;omega,by dsimp only;omega⟩
  ·rintro⟨⟨A1,n1,c1⟩,⟨A2,n2,c2⟩⟩ G ⟨h1,h2⟩;rw[aAj o_];dsimp only at h1 h2⊢;cases pF with
   |true =>
    rw[show(if true=true then zM.filter kD else[])=zM.filter kD from rfl];repeat first|refine v_ ?_|intro
    exact jQ ⟨_,_,_,rfl,rfl⟩
   |false =>
    rw[show(if false=true then zM.filter kD else[])=[] from rfl,aAc];repeat first|refine v_ ?_|intro
    exact jQ ⟨_,_,_,rfl,rfl⟩
 ·rw[if_neg h];refine t_ func211 ntmps211 ?_;repeat first|refine v_ ?_|intro
  exact aR rfl aF (aB.trans (aB.oR eG none) aA) ⟨none,0,0,rfl,rfl⟩
instance:cL 153 ([.slice none 0 0,.slice none 0 0]++sY.cs none 0 0++[.bool false,.pointer none,.int .i64 0,.int .i64 0,.int .i64 0,.int .i64 0,.int .i64 0,.int .i64 0,.int .i64 0,.int .i64 0]) [(0,27),(27,1),(28,1),(29,4),(33,4)]:=⟨⟨q_,q_⟩⟩
structure Lg where
 l:List aX
 t:List aX
 known:V4
 times:V4
structure Lh where
 g:Nat
 A:Option Addr
 c:Nat
 O:Option Addr
 k:Nat
 os:List Ov
 y:Bh
 gt:Nat
 T:Option Addr
 q:Nat
abbrev tE(h:Lh)(v:Lg):List Value:=[.slice h.A v.l.length h.c,.slice h.O h.os.length h.k]++h.y.cs++[.bool true,pt h.gt]++v.known.cs++v.times.cs
structure Lf(h:Lh)(v:Lg):Prop where
 outs:h.os.map Ov.d=(gH sY v.l).2
 base:h.y.b=(gH sY v.l).1
 len:v.l.length+v.t.length≤48
 RB:∀c∈v.l,c.ok
 tok:∀c∈v.t,c.ok
 known:v.known.ok
 times:v.times.ok
theorem Lf.n{h:Lh}{v:Lg}(f:Lf h v):h.os.length=v.l.length:=by
 have:=congrArg List.length f.outs
 rwa [aAw,lF] at this
theorem Lf.fit{h:Lh}{v:Lg}(f:Lf h v):h.y.b.fit:=by rw[f.base];exact(mG pS f.RB).1
structure PB(E:Env)(h:Lh)(v:Lg):Prop where
 b:gE E h.g (tE h v)
 l:Rd E bE h.A v.l.length h.c v.l
 o:Rd E rM h.O h.os.length h.k h.os
 y:Rd E eB h.y.A h.y.m h.y.c h.y.b.aH
 tb:gE E h.gt [.slice h.T v.t.length h.q]
 t:Rd E bE h.T v.t.length h.q v.t
def mC(h:Lh)(v:Lg):List aL:=[aJ h.g 153 (tE h v),own bE h.A v.l.length h.c v.l,own rM h.O h.os.length h.k h.os,iR h.y,aJ h.gt 221 [.slice h.T v.t.length h.q],own bE h.T v.t.length h.q v.t]
section
variable (E:Env) (h:Lh) (v:Lg)
theorem nV(hb:gE E h.g (tE h v)):G E 74 [pt h.g] [] (cM (.bool true) []):=by
 dsimp only[tE,Bh.cs,Bk.cs,List.cons_append,List.nil_append] at hb;refine t_ func74 ntmps74 ?_;repeat first|refine v_ ?_|intro
 exact B7
theorem JW(r:PB E h v)(f:Lf h v):G E 16 [pt h.g] [] λe H'=>∃B k,(v.l.length≤k∧k≤maxLen)∧e=.returned (.slice B v.l.length k)∧H'=[own bE B v.l.length k v.l]:=by
 obtain⟨hb,hl,ho,hy,htb,ht⟩:=r;have hln:=f.len;have is:=λM hb=>nV M h v hb;have cln:=λM hr=>xN M h.A v.l.length h.c v.l hr o_;dsimp only[tE,Bh.cs,Bk.cs,List.cons_append,List.nil_append] at hb is;refine t_ func16 ntmps16 ?_;repeat first|refine v_ ?_|intro
 refine eV is ?_;repeat first|refine v_ ?_|intro
 refine cl sD sK aC (λM hE=>cln M (hl.sub hE)) ?_;rintro e H' ⟨B,d,hd,rfl,rfl⟩;repeat first|refine v_ ?_|intro
 exact jQ ⟨_,_,hd,rfl,rfl⟩
theorem Ih(r:PB E h v)(f:Lf h v):G E 40 [pt h.g] [] λe H'=>∃B k,(v.t.length≤k∧k≤maxLen)∧e=.returned (.slice B v.t.length k)∧H'=[own bE B v.t.length k v.t]:=by
 obtain⟨hb,hl,ho,hy,htb,ht⟩:=r;have hln:=f.len;have is:=λM hb=>nV M h v hb;have all:=λM hb hr=>tX M h.gt h.T v.t.length h.q v.t hb hr o_;dsimp only[tE,Bh.cs,Bk.cs,List.cons_append,List.nil_append] at hb is;refine t_ func40 ntmps40 ?_;repeat first|refine v_ ?_|intro
 refine eV is ?_;repeat first|refine v_ ?_|intro
 refine cl sD sK aC (λM hE=>all M (htb.sub hE) (ht.sub hE)) ?_;rintro e H' ⟨B,d,hd,rfl,rfl⟩;repeat first|refine v_ ?_|intro
 exact jQ ⟨_,_,hd,rfl,rfl⟩
theorem aJm(r:PB E h v)(f:Lf h v):G E 18 [pt h.g] [] λe H'=>∃y:Bh,y.b=(gH sY (v.l++v.t)).1∧e=.returned (.agg y.cs.toArray)∧H'=[iR y]:=by
 have hfit:=f.fit;have hln:=f.len;obtain⟨hb,hl,ho,hy,htb,ht⟩:=r;have is:=λM hb=>nV M h v hb;have all:=λM hb hr=>tX M h.gt h.T v.t.length h.q v.t hb hr o_;have last:=λM hr B d hl=>Pg M h.y hr hfit B v.t.length d v.t hl f.tok o_;dsimp only[tE,Bh.cs,Bk.cs,List.cons_append,List.nil_append] at hb is last;refine t_ func18 ntmps18 ?_;repeat first|refine v_ ?_|intro
 refine eV is ?_;repeat first|refine v_ ?_|intro
 refine rB (l_ [0,1,2,3,4,5,6,7,8] (g_ 9 (g_ 10 (g_ 11 .nil)))) ([]) ?_;repeat first|refine v_ ?_|intro
 refine cg rfl sD bA sK aC (λM hE=>all M (htb.sub hE) (ht.sub hE)) ?_;rintro e H' ⟨B,d,hd,rfl,rfl⟩;repeat first|refine v_ ?_|intro
 refine cg rfl sD bA sK aC (λM hE=>last M (hy.sub hE) B d dB) ?_;rintro e H' ⟨y,h1,rfl,rfl⟩;refine gd bG aA ?_;dsimp only[Bh.cs,Bk.cs];repeat first|refine v_ ?_|intro
 exact cI rfl aF rfl rfl rfl aS rfl aA (⟨y,by rw[pO,←f.base,h1],rfl,rfl⟩)
theorem Vc(r:PB E h v)(f:Lf h v):G E 96 [pt h.g] [] (cM (.agg (L0 (v.l++v.t)).cs.toArray) []):=by
 have hln:=f.len;obtain⟨hb,hl,ho,hy,htb,ht⟩:=r;have is:=λM hb=>nV M h v hb;have all:=λM hb hr=>tX M h.gt h.T v.t.length h.q v.t hb hr o_;dsimp only[tE,Bh.cs,Bk.cs,List.cons_append,List.nil_append] at hb is;refine t_ func96 ntmps96 ?_;repeat first|refine v_ ?_|intro
 refine eV is ?_;repeat first|refine v_ ?_|intro
 refine rB (l_ [0,1,2,3,4,5,6,7,8] (g_ 9 (g_ 10 (g_ 11 (g_ 12 (g_ 13 .nil)))))) ([]) ?_;repeat first|refine v_ ?_|intro
 refine cg rfl sD bA sK aC (λM hE=>all M (htb.sub hE) (ht.sub hE)) ?_;rintro e H' ⟨B,d,hd,rfl,rfl⟩;repeat first|refine v_ ?_|intro
 refine cg rfl sD bA sK aC (λM hE=>zJ M _ _ _ _ dB (by intro s hs;simp at hs;rcases hs with rfl|rfl;exact hl.sub hE;exact dB) (by simp;omega)) ?_;simp only[aDy,aEu,aAc];rintro e H' ⟨B2,d2,hd2,rfl,rfl⟩;repeat first|refine v_ ?_|intro
 refine Ib (λM=>RJ M _ _ _ _) ?_;repeat first|refine v_ ?_|intro
 exact Kz
theorem V.Za{ρ:Operand→Value}{o:Oper}{P:Program}{x y z t:Operand}{tys:Array TypeId}{k:IntKind}{a b c d:Int}{u:World}(ho:o.op=.call { callee:=.builtin .max,args:=#[x,y,z,t],argTypes:=tys })(hx:ρ x=.int k a)(hy:ρ y=.int k b)(hz:ρ z=.int k c)(ht:ρ t=.int k d):(execOp ρ o).run P u=.ok (.value (.int k (Max.max (Max.max (Max.max a b) c) d))) u:=by
 have e:∀p q:Int,(if q > p then q else p)=Max.max p q:=λp q=>by rw[Int.max_def];split<;>split<;>omega
 have h:(Builtin.max_ tys o.type #[.int k a,.int k b,.int k c,.int k d]).run P u=.ok (.int k (if d > (if c > (if b > a then b else a) then c else(if b > a then b else a)) then d else(if c > (if b > a then b else a) then c else(if b > a then b else a)))) u:=by
  simp[Builtin.max_,Builtin.max2]
 simp only[e] at h;generalize Max.max (Max.max (Max.max a b) c) d=M_ at h⊢;simp[execOp,ho,resolve,hx,hy,hz,ht,invoke,builtin,h]
def sF(v:Lg):Int:=Max.max (Max.max (Max.max v.times.a v.times.b) v.times.c) v.times.d
theorem UX(r:PB E h v)(_f:Lf h v):G E 97 [pt h.g] [] (cM (.int .i64 (sF v)) []):=by
 obtain⟨hb,hl,ho,hy,htb,ht⟩:=r;have is:=λM hb=>nV M h v hb;dsimp only[tE,Bh.cs,Bk.cs,List.cons_append,List.nil_append] at hb is;refine t_ func97 ntmps97 ?_;repeat first|refine v_ ?_|intro
 refine eV is ?_;repeat first|refine v_ ?_|intro
 refine rA (l_ [0,1,2,3,4,5,6,7,8,9,10,11,12,13,14,15,16,17,18,19,20,21] .nil) ?_;repeat first|refine v_ ?_|intro
 refine Dr.take rfl sD bA (λ_ _=>V.Za rfl rfl rfl rfl rfl) ?_;repeat first|refine v_ ?_|intro
 exact B7
theorem VK(r:PB E h v)(_f:Lf h v):G E 115 [pt h.g] [] (cM (.tuple #[.agg ((v.t[0]?).getD dO).id.cs.toArray,.bool (!v.t.isEmpty)]) []):=by
 obtain⟨hb,hl,ho,hy,htb,ht⟩:=r;have is:=λM hb=>nV M h v hb;have first:=λM hb hr=>JE M h.gt h.T v.t.length h.q v.t hb hr
 dsimp only[tE,Bh.cs,Bk.cs,List.cons_append,List.nil_append] at hb is;generalize (v.t[0]?).getD dO=c at first⊢
 dsimp only[aX.cs] at first
 refine t_ func115 ntmps115 ?_;repeat first|refine v_ ?_|intro
 refine eV is ?_;repeat first|refine v_ ?_|intro
 refine cl sD sK aC (λM hE=>first M (htb.sub hE) (ht.sub hE)) ?_;rintro e H' ⟨rfl,rfl⟩;repeat first|refine v_ ?_|intro
 exact Sa
end
end
end Go.Proofs.YtmilalkjbojciaaGreat.Sep
