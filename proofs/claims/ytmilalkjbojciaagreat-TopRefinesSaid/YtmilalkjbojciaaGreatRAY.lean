/- Part AY: what it needs. No condition. -/
import Derived.Test.YtmilalkjbojciaaGreatRAA
import Derived.Test.YtmilalkjbojciaaGreatRAX
set_option maxRecDepth 100000
set_option maxHeartbeats 8000000
open Go.Proofs.Tryz
namespace Go.Proofs.YtmilalkjbojciaaGreat.Sep
open Go.RowKit Reg Oct
open Mem hiding Rd
def gU(N k:Nat):List Nd:=(List.range k).map λ(r:Nat)=>Nd.new (r:Int) N
theorem Fa(N k:Nat):gU N (k+1)=gU N k++[Nd.new k N]:=by unfold gU;rw[List.range_succ,aBk];rfl
theorem rX(N k:Nat):(gU N k).length=k:=by unfold gU;rw[aAw,aFu]
abbrev Wv.new(cf:fU):Wv:=⟨cf,0,0,[],[],0,[],gU cf.eF.toNat cf.bN.toNat⟩
theorem Wv.VX{cf:fU}(h:cf.cV):(Wv.new cf).ok 1 :=
 ⟨h,by show((gU _ _).length:Int)=cf.bN;rw[rX];have:=h.1;omega,⟨aCd _,by show(0:Int)≤_;omega⟩,⟨aCd _,by show(0:Int)≤_;omega⟩,aAh _,aAh _,⟨λp hp=>(aAk hp).elim,aAh _⟩⟩
section
variable (E:Env) (P:List Ov)
theorem No(cf:fU)(hf:¬cf.cV):G E 8 [.agg cf.cs.toArray] [] (cM (.tuple #[.pointer none,.int .i64 6]) []):=by
 have hU:=λM=>KC M cf;rw[if_neg hf] at hU;refine t_ func8 ntmps8 ?_;repeat first|refine v_ ?_|intro
 refine bK hU ?_;repeat first|refine v_ ?_|intro
 exact Xs
theorem YX(cf:fU)(hf:cf.cV):G E 8 [.agg cf.cs.toArray] [aI P] λe H'=>∃Q g,e=.returned (.tuple #[pt g,.int .i64 0])∧H'=[aQ (P++Q) g 1 (Wv.new cf),aI (P++Q)]:=by
 have hU:=λM=>KC M cf;rw[if_pos hf] at hU;obtain⟨hr,hs,_⟩:=hf;have hN:cf.eF=(cf.eF.toNat:Int):=o_;have hR:cf.bN=(cf.bN.toNat:Int):=o_;have mk:∀ {M:Env} {H R:List aL} {Q:List Ov} {g:Nat} {x:AM},x.gs.length=cf.bN.toNat→cS [aJ g 121 (wC x 0 0 cf cf.bN.toNat 0),aZ x.gw [],cK x.gg 0 [],own mK x.sA 0 x.sc [],own vE x.nA cf.bN.toNat x.nc x.gs,aO (nP (P++Q) cf 2048) (x.gs.zip (gU cf.eF.toNat cf.bN.toNat))] H R→aB M H (aQ (P++Q) g 1 (Wv.new cf)::R):=by
  intro M H R Q g x hx hp;have hl:=rX cf.eF.toNat cf.bN.toNat;have hp':cS ([aJ g 121 (wC x 0 ([]:List fM).length cf (gU cf.eF.toNat cf.bN.toNat).length 0),aZ x.gw [],cK x.gg 0 [],own mK x.sA ([]:List fM).length x.sc [],own vE x.nA (gU cf.eF.toNat cf.bN.toNat).length x.nc x.gs,aO (nP (P++Q) cf 2048) (x.gs.zip (gU cf.eF.toNat cf.bN.toNat))]) H R:=by rw[hl];exact hp
  have c1:=aB.imp (E:=M) cA.refl hp';dsimp only[List.cons_append,List.nil_append] at c1;refine c1.trans (aB.trans (aB.imp (A:=[aO (nP (P++Q) cf 2048) (x.gs.zip (gU cf.eF.toNat cf.bN.toNat))]) (B:=[aO (nP (P++Q) cf (kt 1)) (x.gs.zip (gU cf.eF.toNat cf.bN.toNat))]) (cA.Ge (λz=>bZ.qK sD)) aC) ?_);dsimp only[List.cons_append,List.nil_append];exact aB.fp (l:=wL (P++Q) g (kt 1) (Wv.new cf)) (x:=x) ⟨Wv.VX ⟨hr,hs,‹_›⟩,by show x.gs.length=(gU _ _).length;rw[hl];exact hx⟩ aC
 have nw:=λM PP r hr3=>Z2 M PP (cf:=cf) r cf.eF.toNat hr3 hN o_ o_;generalize cf.eF.toNat=N at *;obtain⟨n,hn⟩:∃n,cf.bN.toNat=n:=⟨_,rfl⟩
 rw[hn] at hR mk;refine t_ func8 ntmps8 ?_;repeat first|refine v_ ?_|intro
 refine bK hU ?_;repeat first|refine v_ ?_|intro
 rename_i g1 gw gg gW;have cw:aB E [aJ gW 121 (wC ⟨gw,gg,none,0,none,0,[]⟩ 0 0 cf 0 0),aJ gg 116 [.map none,.slice none 0 0,.int .i64 0],aJ gw 113 [.slice none 0 0],aJ g1 23 cf.cs,aI P]
   [aJ g1 23 cf.cs,aJ gW 121 (wC ⟨gw,gg,none,0,none,0,[]⟩ 0 0 cf 0 0),aZ gw [],cK gg 0 [],own mK none 0 0 [],own vE none 0 0 [],aO (nP (P++[]) cf 2048) [],aI (P++[])]:=by
  have h1:=aZ.mk (E:=E) (R:=[aJ gW 121 (wC ⟨gw,gg,none,0,none,0,[]⟩ 0 0 cf 0 0),aJ gg 116 [.map none,.slice none 0 0,.int .i64 0],aJ g1 23 cf.cs,aI P]) (g:=gw) (x:=⟨none,0,[]⟩) (ws:=[]) ⟨rfl,(λ_ h=>(aAk h).elim),by decide,by decide⟩;have c1:=aB.trans (aB.trans (aB.trans (aB.nil iC) (aB.kP DD)) (aB.aV (l:=Ku gw ⟨none,0,[]⟩++[aJ gW 121 (wC ⟨gw,gg,none,0,none,0,[]⟩ 0 0 cf 0 0),aJ gg 116 [.map none,.slice none 0 0,.int .i64 0],aJ g1 23 cf.cs,aI P]) (H:=[aO DD [],own iC none 0 0 [],aJ gW 121 (wC ⟨gw,gg,none,0,none,0,[]⟩ 0 0 cf 0 0),aJ gg 116 [.map none,.slice none 0 0,.int .i64 0],aJ gw 113 [.slice none 0 0],aJ g1 23 cf.cs,aI P]) (by dsimp only[Ku,wr,List.cons_append,List.nil_append,List.length_nil];exact aC))) h1;have h2:=cK.mk (E:=E) (R:=[aZ gw [],aJ gW 121 (wC ⟨gw,gg,none,0,none,0,[]⟩ 0 0 cf 0 0),aJ g1 23 cf.cs,aI P]) (g:=gg) (x:=⟨none,none,0⟩) (r:=0) (l:=[]) ⟨rfl,by decide,λ_=>rfl,by decide⟩;have c2:=aB.trans (aB.trans (aB.trans c1 (aB.trans (aB.nil cP) aB.l6)) (aB.aV (l:=[aJ gg 116 [.map none,.slice none 0 0,.int .i64 0],Dq none [],own cP none 0 0 [],aZ gw [],aJ gW 121 (wC ⟨gw,gg,none,0,none,0,[]⟩ 0 0 cf 0 0),aJ g1 23 cf.cs,aI P]) aC)) h2;rw[aAc];exact aB.trans (aB.trans c2 (aB.trans (aB.nil mK) (aB.trans (aB.nil vE) (aB.kP (nP P cf 2048))))) aA
 refine C.scan (Y:=List Ov×Option Addr×Nat×List Nat) (l:=List.range n) (n:=n) aFu.symm (λi _=>[(1,pt g1),(5,pt gW),(21,.int .i64 n),(22,.int .i64 i)])
  (λi y=>[aJ g1 23 cf.cs,aJ gW 121 (wC ⟨gw,gg,none,0,y.2.1,y.2.2.1,y.2.2.2⟩ 0 0 cf i 0),aZ gw [],cK gg 0 [],own mK none 0 0 [],own vE y.2.1 i y.2.2.1 y.2.2.2,aO (nP (P++y.1) cf 2048) (y.2.2.2.zip (gU N i)),aI (P++y.1)]) (λi y=>y.2.2.2.length=i) ([],none,0,[]) (by rw[←hR];exact aD) cw rfl ?_ ?_
 ·rintro i ⟨Q,nA,nc,gs⟩ r F hi hr2 hgl;obtain rfl:i=r:=by rw[List.getElem?_range hi] at hr2;injection hr2
  dsimp only at hgl⊢;have nw2:=λM=>nw M (P++Q) i o_;repeat first|refine v_ ?_|intro
  refine C.bL 12 (l_ [0,1,2,3,4,5,6] (g_ 7 (g_ 8 (g_ 9 (l_ [10,11] (g_ 12 .nil)))))) ([aJ g1 23 _,aJ gW 121 _]) q_ q_ aA ?_;repeat first|refine v_ ?_|intro
  refine iO nw2 ?_;rintro e H' ⟨Q2,g2,rfl,rfl⟩;repeat first|refine v_ ?_|intro
  rename_i A2 c2 hc1 hc2;have hz:(gs++[g2]).zip (gU N (i+1))=gs.zip (gU N i)++[(g2,Nd.new i N)]:=by rw[Fa,List.zip_append (by rw[hgl,rX])];rfl
  refine⟨(Q++Q2,A2,c2,gs++[g2]),aD,?_,by simp[hgl]⟩;dsimp only;rw[hz,←aAb];refine aB.trans (aB.imp (A:=[aO (nP (P++Q) cf 2048) (gs.zip (gU N i))]) (B:=[aO (nP (P++Q++Q2) cf 2048) (gs.zip (gU N i))]) (cA.Ge (λz=>bZ.mono (aCd _))) aC) ?_;dsimp only[List.cons_append,List.nil_append];exact aB.trans (aB.push (f:=nP (P++Q++Q2) cf 2048) (x:=(g2,Nd.new i N)) aC) aA
 ·rintro⟨Q,nA,nc,gs⟩ F hgl;dsimp only at hgl⊢;repeat first|refine v_ ?_|intro
  exact vT (H':=[aQ (P++Q) gW 1 (Wv.new cf),aI (P++Q)]) rfl aF aF (aB.trans (mk (x:=⟨gw,gg,none,0,nA,nc,gs⟩) hgl aC) aA) ⟨Q,gW,rfl,rfl⟩
end
theorem Ox{v:Wv}{l:List cH}{i:Nat}{x:cH}(h:l[i]?=some x):v.run (l.take (i+1))=((v.run (l.take i)).step x).1:=iX h
theorem Wv.ok.mono{t t':Nat}{v:Wv}(h:v.ok t)(ht:t≤t'):v.ok t':=⟨h.cV,h.len,h.now,h.sub,by have:=h.aW;omega,by have:=h.app;omega,h.pk⟩
theorem cA.s5{X:Type}{p:X→Prop}{l:X→List aL}{B:List aL}(h:∀x,p x→cA (l x) B):cA [nI p l] B:=λF w hs=>by
 obtain⟨F1,F2,h1,h2,⟨x,G1,G2,g1,g2,g3,g4⟩,h4⟩:=hs;obtain⟨F',k1,k2⟩:=h x g3.1 G2 w g4;exact⟨F',k1,λb hb=>(h1 b).2 (.inl ((g1 b).2 (.inr (k2 b hb))))⟩
theorem aQ.mono{P Q:List Ov}{g t t':Nat}{v:Wv}(ht:t≤t'):cA [aQ P g t v] [aQ (P++Q) g t' v] :=
 cA.s5 λx hx=>(cA.cons cA.refl (cA.cons cA.refl (cA.cons cA.refl (cA.cons cA.refl (cA.cons cA.refl (cA.Ge (λ_z=>bZ.mono (P:=P) (Q:=Q) (uX ht)))))))).trans (cA.fp (l:=wL (P++Q) g (kt t') v) (x:=x) ⟨hx.1.mono ht,hx.2⟩)
section
variable (E:Env) (P:List Ov)
theorem p8(a:wM):G E 87 [.agg a.cs.toArray] [] (cM (.tuple #[]) []):=by
 refine t_ func87 ntmps87 ?_;repeat first|refine v_ ?_|intro
 exact e3_
theorem Oh(cf:fU)(hf:¬cf.cV)(sl fv:Value):G E 86 [.agg cf.cs.toArray,sl,fv] [] (cM (.tuple #[.pointer none,.int .i64 6]) []):=by
 have nw:=λM=>No M cf hf;refine t_ func86 ntmps86 ?_;repeat first|refine v_ ?_|intro
 refine bK nw ?_;repeat first|refine v_ ?_|intro
 exact Xs
theorem XM(cf:fU)(hf:cf.cV)(A:Option Addr)(m c:Nat)(l:List cH)(hr:Rd E mX A m c l)(hm:m≤256)(hl:∀st∈l,dQ st.c.n):G E 86 [.agg cf.cs.toArray,.slice A m c,.func (.func 87) #[] #[]] [aI P] λe H'=>∃Q g,e=.returned (.tuple #[pt g,.int .i64 0])∧H'=[aQ (P++Q) g (m+1) ((Wv.new cf).run l),aI (P++Q)]:=by
 have nw:=λM=>YX M P cf hf;have hlen:=hr.len;generalize Wv.new cf=v0 at *;refine t_ func86 ntmps86 ?_;repeat first|refine v_ ?_|intro
 refine bW nw ?_;rintro e H' ⟨Q,g,rfl,rfl⟩;repeat first|refine v_ ?_|intro
 rename_i g3;refine C.scan (Y:=List Ov) (l:=l) (n:=m) hlen (λi _=>[(2,.func (.func 87) #[] #[]),(8,pt g),(25,.slice A m c),(26,.int .i64 m),(27,.int .i64 i)])
  (λi y=>[aQ (P++y) g (i+1) (v0.run (l.take i)),aI (P++y)]) (λ_ _=>True) Q aD (by show aB E _ [aQ (P++Q) g 1 v0,aI (P++Q)];exact aA) trivial ?_ ?_
 ·rintro i y st F hi hst -;have hI:=hl st (aAi hst);have jV:=λM=>N8 M (P++y) g (i+1) (v0.run (l.take i)) o_ st hI;rw[Ox hst];generalize (v0.run (l.take i)).step st=z at *;obtain⟨v1,a⟩:=z;dsimp only at jV⊢;repeat first|refine v_ ?_|intro
  refine bW jV ?_;rintro e H' ⟨Q2,rfl,rfl⟩;repeat first|refine v_ ?_|intro
  refine cv sD rfl rfl rfl .nil (λM hE=>p8 M a) ?_;rintro e H' ⟨rfl,rfl⟩;repeat first|refine v_ ?_|intro
  exact⟨y++Q2,aD,by rw[←aAb];exact aA,trivial⟩
 ·rintro y F -;rw[show l.take m=l by rw[hlen,aAo]];repeat first|refine v_ ?_|intro
  exact Cz ⟨y,g,rfl,rfl⟩
theorem LW(cf:fU)(hf:¬cf.cV)(sl:Value):G E 24 [.agg cf.cs.toArray,sl] [] (cM (.tuple #[.pointer none,.int .i64 6]) []):=by
 have ea:=λM fv=>Oh M cf hf sl fv;refine t_ func24 ntmps24 ?_;repeat first|refine v_ ?_|intro
 refine bK (λM=>ea M _) ?_;repeat first|refine v_ ?_|intro
 exact Xs
theorem Is(cf:fU)(hf:cf.cV)(A:Option Addr)(m c:Nat)(l:List cH)(hr:Rd E mX A m c l)(hm:m≤256)(hl:∀st∈l,dQ st.c.n):G E 24 [.agg cf.cs.toArray,.slice A m c] [aI P] λe H'=>∃Q g,e=.returned (.tuple #[pt g,.int .i64 0])∧H'=[aQ (P++Q) g (m+1) ((Wv.new cf).run l),aI (P++Q)]:=by
 have ea:=λM hr=>XM M P cf hf A m c l hr hm hl;generalize (Wv.new cf).run l=v at *;refine t_ func24 ntmps24 ?_;repeat first|refine v_ ?_|intro
 refine dX ea ?_;rintro e H' ⟨Q,g,rfl,rfl⟩;repeat first|refine v_ ?_|intro
 exact Cz ⟨Q,g,rfl,rfl⟩
end
instance:cL 134 [.pointer none,.bool false] [(0,1),(1,1)]:=⟨⟨q_,q_⟩⟩
theorem aIh{d:Dv}{l:List cH}{i:Nat}{x:cH}(h:l[i]?=some x):d.J1 (l.take (i+1))=(d.J1 (l.take i)).pE x:=iX h
abbrev dA(P:List Ov)(gv g t:Nat)(d:Dv):List aL:=[aJ gv 134 [pt g,.bool d.short],aQ P g t d.w,aI P]
section
variable (E:Env) (P:List Ov) (gv g t:Nat) (d:Dv)
theorem Yp(A:Option Addr)(m c:Nat)(l:List cH)(hr:Rd E mX A m c l)(hm:t+m≤1000000)(hl:∀st∈l,dQ st.c.n):G E 62 [pt gv,.slice A m c] (dA P gv g t d) λe H'=>∃Q,e=.returned (.tuple #[])∧H'=dA (P++Q) gv g (t+m) (d.J1 l):=by
 have hlen:=hr.len;dsimp only[dA];refine t_ func62 ntmps62 ?_;repeat first|refine v_ ?_|refine Dr.two ?_ ?_|intro
 refine C.scan (Y:=List Ov) (l:=l) (n:=m) hlen (λi _=>[(0,pt gv),(7,.slice A m c),(8,.int .i64 m),(9,.int .i64 i)])
  (λi y=>[aJ gv 134 [pt g,.bool (d.J1 (l.take i)).short],aQ (P++y) g (t+i) (d.J1 (l.take i)).w,aI (P++y)]) (λ_ _=>True) [] aD (by rw[aAc];show aB E _ [aJ gv 134 [pt g,.bool d.short],aQ P g t d.w,aI P];exact aA) trivial ?_ ?_
 ·rintro i y st F hi hst -;have hI:=hl st (aAi hst);rw[aIh hst];generalize d.J1 (l.take i)=d1 at *;obtain⟨v1,sh⟩:=d1;have jV:=λM=>N8 M (P++y) g (t+i) v1 o_ st hI;unfold Dv.pE;dsimp only;generalize v1.step st=z at *;obtain⟨v2,a⟩:=z;dsimp only at jV⊢;repeat first|refine v_ ?_|refine Dr.two ?_ ?_|intro
  rename_i g5;refine C.bL 7 (l_ [0,1,2,3,4] (.two 5 (g_ 6 (g_ 7 .nil)) 6 (g_ 5 (g_ 7 .nil)))) ([aJ gv 134 _,aJ g5 39 _]) q_ q_ aA ?_;repeat first|refine v_ ?_|intro
  refine Dr.two ?_ ?_
  ·refine yB rfl sD bA sK aC (λM hE=>jV M) ?_;rintro e H' ⟨Q2,rfl,rfl⟩;repeat first|refine v_ ?_|refine Dr.two ?_ ?_|intro
   cases sh with
   |true =>
    rw[Bool.true_or];repeat first|refine v_ ?_|refine Dr.two ?_ ?_|intro
    exact⟨y++Q2,aD,by rw[←aAb,←aDv];exact aA,trivial⟩
   |false =>
    by_cases hk:st.kind=15
    ·rw[show(false||(!decide (st.kind=15)&&decide (a.code=10)))=false by simp[hk]];have hd:decide (st.kind≠15)=false:=decide_eq_false o_;repeat first|refine v_ ?_|refine Dr.two ?_ ?_|intro
     exact⟨y++Q2,aD,by rw[←aAb,←aDv];exact aA,trivial⟩
    ·have hd:decide (st.kind≠15)=true:=decide_eq_true hk;rw[show(false||(!decide (st.kind=15)&&decide (a.code=10)))=decide (a.code=10) by simp[hk]];repeat first|refine v_ ?_|refine Dr.two ?_ ?_|intro
     exact⟨y++Q2,aD,by rw[←aAb,←aDv];exact aA,trivial⟩
  ·repeat first|refine v_ ?_|intro
   refine iO jV ?_;rintro e H' ⟨Q2,rfl,rfl⟩;repeat first|refine v_ ?_|refine Dr.two ?_ ?_|intro
   cases sh with
   |true =>
    rw[Bool.true_or];repeat first|refine v_ ?_|refine Dr.two ?_ ?_|intro
    exact⟨y++Q2,aD,by rw[←aAb,←aDv];exact aA,trivial⟩
   |false =>
    by_cases hk:st.kind=15
    ·rw[show(false||(!decide (st.kind=15)&&decide (a.code=10)))=false by simp[hk]];have hd:decide (st.kind≠15)=false:=decide_eq_false o_;repeat first|refine v_ ?_|refine Dr.two ?_ ?_|intro
     exact⟨y++Q2,aD,by rw[←aAb,←aDv];exact aA,trivial⟩
    ·have hd:decide (st.kind≠15)=true:=decide_eq_true hk;rw[show(false||(!decide (st.kind=15)&&decide (a.code=10)))=decide (a.code=10) by simp[hk]];repeat first|refine v_ ?_|refine Dr.two ?_ ?_|intro
     exact⟨y++Q2,aD,by rw[←aAb,←aDv];exact aA,trivial⟩
 ·rintro y F -;rw[show l.take m=l by rw[hlen,aAo]];repeat first|refine v_ ?_|refine Dr.two ?_ ?_|intro
  exact gO rfl aA (⟨y,rfl,rfl⟩)
end
def BE(E:Env)(f:FuncId)(cs:List Value)(F:Nat→List cH):Prop:=∀M R,Sub E R M→∀r:Nat,r≤4→aK prog M f (.int .i64 r::cs).toArray [] λe H'=>∃A c,e=.returned (.slice A (F r).length c)∧H'=[own mX A (F r).length c (F r)]
def Sx(F:Nat→List cH):Prop:=∀r,(F r).length≤2∧∀st∈F r,dQ st.c.n
theorem rS{E:Env}{P:List Ov}{g t t':Nat}{v:Wv}{H R:List aL}(ht:t≤t')(hp:cS [aQ P g t v] H R):aB E H (aQ P g t' v::R):=by
 have:=aB.imp (E:=E) (aQ.mono (P:=P) (Q:=[]) ht) hp;rw[aAc] at this;exact this
theorem Uq(E:Env):BE E 135 [] AK:=λM R hE r hr=>by
 refine t_ func135 ntmps135 ?_;repeat first|refine v_ ?_|intro
 refine L.fQ sD (S.QZ (T:=mX) (e1:=pB 3 r 0 0) rfl eS rfl FV (by rfl) sD) ?_;rintro _ _ ⟨_,rfl,rfl⟩;repeat first|refine v_ ?_|intro
 exact jQ ⟨_,_,rfl,rfl⟩
theorem YZ(E:Env):BE E 134 [] EH:=λM R hE r hr=>by
 refine t_ func134 ntmps134 ?_;repeat first|refine v_ ?_|intro
 refine L.fQ sD (S.j8 (T:=mX) (e1:=pB 3 r 0 0) (e2:=pB 3 0 r 0) rfl eS eS rfl FV (by rfl) (by rfl) sD) ?_;rintro _ _ ⟨_,rfl,rfl⟩;repeat first|refine v_ ?_|intro
 exact jQ ⟨_,_,rfl,rfl⟩
theorem KW(E:Env)(g1:Nat)(kind:Int)(hb:gE E g1 [.int .i64 kind]):BE E 132 [pt g1] (pH kind):=λM R hE r hr=>by
 have hb:=hb.sub hE;show G M 132 [.int .i64 r,pt g1] [] _;refine t_ func132 ntmps132 ?_;repeat first|refine v_ ?_|intro
 refine L.fQ sD (S.QZ (T:=mX) (e1:=pB kind r 0 0) rfl eS rfl FV (by rfl) sD) ?_;rintro _ _ ⟨_,rfl,rfl⟩;repeat first|refine v_ ?_|intro
 exact jQ ⟨_,_,rfl,rfl⟩
theorem S4(E:Env)(kind:Int):G E 64 [.int .i64 kind] [] λe H'=>∃g1,e=.returned (.func (.func 132) #[] #[pt g1])∧H'=[aJ g1 3 [.int .i64 kind]]:=by
 refine t_ func64 ntmps64 ?_;repeat first|refine v_ ?_|intro
 exact jQ ⟨_,rfl,rfl⟩
theorem Am:dQ 0:=⟨by decide,by decide⟩
theorem aHx:Sx AK:=λr=>⟨aCq 1,λst hst=>by rw[aAp.1 hst];exact Am⟩
theorem BL(kind:Int):Sx (pH kind):=λr=>⟨aCq 1,λst hst=>by rw[aAp.1 hst];exact Am⟩
theorem Nn:Sx EH:=λr=>⟨aAf 2,λst hst=>by
 rcases aEj.1 hst with h|h
 ·rw[h];exact Am
 ·rw[aAp.1 h];exact Am⟩
theorem Hu(F:Nat→List cH)(i k:Nat)(d:Dv):AW F i (k+1) d=AW F (i+1) k (d.J1 (F i)):=rfl
section
variable (E:Env) (P:List Ov) (gv g t:Nat) (d:Dv)
theorem XV(f:FuncId)(cs:List Value)(F:Nat→List cH)(hk:xA f=true)(law:BE E f cs F)(hF:Sx F)(i:Nat)(hi:i≤1)(ht:t≤999990)(hn:d.w.bU.length≤4∧(d.w.bU.length:Int)=d.w.cf.bN):G E 63 [pt gv,.int .i64 i,.func (.func f) #[] cs.toArray] (dA P gv g t d) λe H'=>∃Q,e=.returned (.tuple #[])∧H'=dA (P++Q) gv g (t+8) (d.all i F):=by
 obtain⟨n,hnn⟩:∃n,d.w.bU.length=n:=⟨_,rfl⟩
 have hall:AW F i (n - i) d=d.all i F:=by rw[←hnn];rfl
 generalize d.all i F=dE at *;dsimp only[dA];refine t_ func63 ntmps63 ?_;repeat first|refine v_ ?_|intro
 refine C.loop (X:=Nat×Dv×List Ov) (λx=>[(0,pt gv),(2,.func (.func f) #[] cs.toArray),(6,.int .i64 x.1)]) (λx=>[aJ gv 134 [pt g,.bool x.2.1.short],aQ (P++x.2.2) g (t+2*(x.1 - i)) x.2.1.w,aI (P++x.2.2)])
  (λx=>i≤x.1∧(x.1≤n∨x.1=i)∧AW F x.1 (n - x.1) x.2.1=dE∧x.2.1.w.cf=d.w.cf) (λx=>n - x.1) (i,d,[]) aD (by rw[aAc,aEi];exact aA) ⟨aAf _,.inr rfl,hall,rfl⟩ ?_
 rintro⟨r,⟨v1,sh⟩,y⟩ G ⟨h1,h2,h3,h4⟩;dsimp only at h1 h2 h3 h4⊢;have hrep:v1.cf.bN=n:=by rw[h4];omega
 have cfg:=λM=>xU M (P++y) g (t+2*(r - i)) v1;repeat first|refine v_ ?_|intro
 refine bK cfg ?_;by_cases hlt:r<n
 ·have hk1:n - r=(n - (r+1))+1:=o_;rw[hk1,Hu] at h3;have hcf:=(Ck (F r) ⟨v1,sh⟩).1;have dw:=λM A c hr=>Yp M (P++y) gv g (t+2*(r - i)) ⟨v1,sh⟩ A (F r).length c (F r) hr (by have:=(hF r).1;omega) (hF r).2;dsimp only[dA] at dw;generalize Dv.J1 ⟨v1,sh⟩ (F r)=d2 at *;repeat first|refine v_ ?_|intro
  refine cv sD rfl rfl hk .nil (λM hE=>law M _ hE r o_) ?_;rintro e H' ⟨A,c,rfl,rfl⟩;repeat first|refine v_ ?_|intro
  refine dX (λM=>dw M A c) ?_;rintro e H' ⟨Q2,rfl,rfl⟩;repeat first|refine v_ ?_|intro
  exact⟨(r+1,d2,y++Q2),aD,by rw[←aAb];exact aB.trans (rS (show t+2*(r - i)+(F r).length≤t+2*(r+1 - i) by have:=(hF r).1;omega) aC) aA,⟨by dsimp only;omega,.inl hlt,h3,hcf.trans h4⟩,by dsimp only;omega⟩
 ·have hk0:n - r=0:=o_;rw[hk0] at h3;obtain rfl:(⟨v1,sh⟩:Dv)=dE:=h3;repeat first|refine v_ ?_|intro
  refine gO rfl (aB.trans (rS (show t+2*(r - i)≤t+8 by omega) aC) aA) ⟨y,rfl,rfl⟩
end
theorem Fz{v:Wv}(hn:1≤v.bU.length):(v.step (pB 7 0 0 0)).1=(v.bV 0).1:=by
 unfold Wv.step;rw[if_neg (show ¬(pB 7 0 0 0).check≠0 by decide)];have h0:(pB 7 0 0 0).r.toNat=0:=rfl;rw[h0,aAa (show 0<v.bU.length by omega)];rfl
theorem wY(k:Nat)(d:Dv)(n:Nat)(h:d.w.ws≠[]):nJ (k+1) d n=nJ k (d.pE (pB 7 0 0 0)) (n+1):=by
 show(match d.w.ws with|[]=>(d,n)|_::_=>nJ k (d.pE (pB 7 0 0 0)) (n+1))=_;cases hw:d.w.ws with
 |nil=>exact absurd hw h
 |cons p ws=>rfl
theorem qN(k:Nat)(d:Dv)(n:Nat)(h:d.w.ws=[]):nJ k d n=(d,n):=by
 cases k with
 |zero=>rfl
 |succ k =>
  show(match d.w.ws with|[]=>(d,n)|_::_=>nJ k (d.pE (pB 7 0 0 0)) (n+1))=_;rw[h]
theorem CH:∀(k:Nat) (d:Dv) (n:Nat) (j:Nat),1≤d.w.bU.length→nL d.w.ws≤k→nJ (k+j) d n=nJ k d n
 |0,d,n,j,_,h=>by
  have:d.w.ws=[]:=by
   cases hw:d.w.ws with
   |nil=>rfl
   |cons p ws=>rw[hw] at h;have:=(IN p).1;have e:nL (p::ws)=wt p+nL ws:=rfl;omega
  rw[qN _ d n this,qN _ d n this]
 |k+1,d,n,j,hn,h=>by
  by_cases hw:d.w.ws=[]
  ·rw[qN _ d n hw,qN _ d n hw]
  ·have e:k+1+j=(k+j)+1:=o_;rw[e,wY _ d n hw,wY _ d n hw];refine CH k _ _ j (by rw[(oY d _).2];exact hn) ?_;obtain⟨p,ws,hp⟩:∃p ws,d.w.ws=p::ws:=by
    cases hw2:d.w.ws with
    |nil=>exact absurd hw2 hw
    |cons p ws=>exact⟨p,ws,rfl⟩
   have:=Ad hp;show nL (d.w.step (pB 7 0 0 0)).1.ws≤k;rw[Fz hn];omega
section
variable (E:Env) (P:List Ov) (gv g t:Nat) (d:Dv)
theorem e8(ht:t≤999000)(hn:1≤d.w.bU.length):G E 133 [pt gv] (dA P gv g t d) λe H'=>∃Q n,e=.returned (.int .i64 n)∧H'=dA (P++Q) gv g (t+256) d.bV:=by
 refine aK.Y1 (p:=λx:AM=>d.w.ok t∧x.gs.length=d.w.bU.length) (l:=wL P g (kt t) d.w) (.aM .aN) (λhx=>?_);obtain⟨_,ho,_⟩:=hx;have hw:nL d.w.ws≤256:=by have:=RL d.w.ws;have:=ho.pk.2;omega
 clear ho;have hall:nJ (nL d.w.ws) d 0=(d.bV,(nJ (nL d.w.ws) d 0).2):=rfl;generalize d.bV=dE at *;generalize (nJ (nL d.w.ws) d 0).2=nE at *;dsimp only[dA];refine t_ func133 ntmps133 ?_;repeat first|refine v_ ?_|intro
 refine C.loop (X:=Dv×Nat×List Ov) (λx=>[(0,pt gv),(3,.int .i64 x.2.1)]) (λx=>[aJ gv 134 [pt g,.bool x.1.short],aQ (P++x.2.2) g (t+x.2.1) x.1.w,aI (P++x.2.2)])
  (λx=>x.2.1+nL x.1.w.ws≤256∧nJ (nL x.1.w.ws) x.1 x.2.1=(dE,nE)∧1≤x.1.w.bU.length) (λx=>nL x.1.w.ws) (d,0,[]) aD (by rw[aAc];exact aA) ⟨by dsimp only;omega,hall,hn⟩ ?_
 rintro⟨⟨v1,sh⟩,u,y⟩ G ⟨h1,h2,h3⟩;dsimp only at h1 h2 h3⊢;have wr:=λM=>CF M (P++y) g (t+u) v1;repeat first|refine v_ ?_|intro
 refine bW wr ?_;rintro e H' ⟨g2,rfl,rfl⟩;repeat first|refine v_ ?_|intro
 refine bK (λM=>Ko M g2 v1.ws) ?_;cases hws:v1.ws with
 |nil =>
  rw[qN _ _ _ hws] at h2;injection h2 with h2 _
  subst h2;repeat first|refine v_ ?_|intro
  exact aR (H':=dA (P++y) gv g (t+256) ⟨v1,sh⟩) rfl aF (aB.trans (rS (show t+u≤t+256 by omega) aC) aA) ⟨y,_,rfl,rfl⟩
 |cons p ws =>
  have hne:v1.ws≠[]:=by rw[hws];exact List.cons_ne_nil _ _
  have hd:=Ad hws;have hk1:nL v1.ws=(nL v1.ws - 1)+1:=o_;have hlt:decide ((0:Int)<((p::ws).length:Nat))=true:=decide_eq_true (by rw[aAs];omega);rw[hk1,wY _ _ _ hne] at h2;have hw1:(Dv.pE ⟨v1,sh⟩ (pB 7 0 0 0)).w.ws=(v1.bV 0).1.ws:=by show(v1.step _).1.ws=_;rw[Fz h3]
  have hl1:=(oY ⟨v1,sh⟩ (pB 7 0 0 0)).2;have hmore:=CH (nL (Dv.pE ⟨v1,sh⟩ (pB 7 0 0 0)).w.ws) (Dv.pE ⟨v1,sh⟩ (pB 7 0 0 0)) (u+1) (nL v1.ws - 1 - nL (Dv.pE ⟨v1,sh⟩ (pB 7 0 0 0)).w.ws) (by rw[hl1];exact h3) (aAf _);rw[show nL (Dv.pE ⟨v1,sh⟩ (pB 7 0 0 0)).w.ws+(nL v1.ws - 1 - nL (Dv.pE ⟨v1,sh⟩ (pB 7 0 0 0)).w.ws)=nL v1.ws - 1 by rw[hw1];omega,h2] at hmore;rw[←hw1] at hd;have dw:=λM A c hr=>Yp M (P++y) gv g (t+u) ⟨v1,sh⟩ A 1 c [pB 7 0 0 0] hr o_ (λst hst=>by rw[aAp.1 hst];exact Am);have e1:Dv.J1 ⟨v1,sh⟩ [pB 7 0 0 0]=Dv.pE ⟨v1,sh⟩ (pB 7 0 0 0):=rfl;rw[e1] at dw;generalize Dv.pE ⟨v1,sh⟩ (pB 7 0 0 0)=d2 at *;dsimp only[dA] at dw;repeat first|refine v_ ?_|intro
  refine L.fQ sD (S.QZ (T:=mX) (e1:=pB 7 0 0 0) rfl eS rfl FV (by rfl) sD) ?_;rintro _ _ ⟨_,rfl,rfl⟩;repeat first|refine v_ ?_|intro
  refine dX (λM=>dw M _ _) ?_;rintro e H' ⟨Q2,rfl,rfl⟩;repeat first|refine v_ ?_|intro
  have hd':nL d2.w.ws<nL (p::ws):=by rw[←hws];exact hd
  exact⟨(d2,u+1,y++Q2),aD,by rw[←aAb,←aDv];exact aA,⟨by dsimp only;omega,hmore.symm,by dsimp only;rw[hl1];exact h3⟩,by dsimp only;omega⟩
end
section
variable (E:Env) (P:List Ov) (g t:Nat) (v:Wv)
theorem Vx(ht:t≤990000)(hn:(1≤v.bU.length∧v.bU.length≤4)∧(v.bU.length:Int)=v.cf.bN):G E 67 [pt g] [aQ P g t v,aI P] λe H'=>∃Q,e=.returned (.bool v.round.short)∧H'=[aQ (P++Q) g (t+1200) v.round.w,aI (P++Q)]:=by
 have k1:xA 132=true:=q_;have k2:xA 134=true:=q_;have k3:xA 135=true:=q_;unfold Wv.round;have c0:∀d:Dv,d.w.cf=v.cf→d.w.bU.length=v.bU.length→d.w.bU.length≤4∧(d.w.bU.length:Int)=d.w.cf.bN:=λd h1 h2=>⟨by rw[h2];exact hn.1.2,by rw[h1,h2];exact hn.2⟩
 have dl:=λM P gv t (d:Dv) (h1:d.w.bU.length=v.bU.length) ht=>e8 M P gv g t d ht (by rw[h1];exact hn.1.1);have al:=λM P gv t (d:Dv) (h1:d.w.cf=v.cf∧d.w.bU.length=v.bU.length) f cs F hk law hF i hi ht=>XV M P gv g t d f cs F hk law hF i hi ht (c0 d h1.1 h1.2);have dw:=λM P gv t (d:Dv) A c st hr ht hI=>Yp M P gv g t d A 1 c [st] hr ht hI;have e1:∀(d:Dv) st,Dv.J1 d [st]=d.pE st:=λd st=>rfl;simp only[e1] at dw;have dl0:=λM gv=>dl M P gv t ⟨v,false⟩ rfl o_;dsimp only[dA] at dl al dw dl0;obtain⟨d1,hd1⟩:∃d,(Dv.mk v false).bV=d:=⟨_,rfl⟩
 have b1:=uC ⟨v,false⟩;rw[hd1] at b1 dl0⊢;dsimp only at b1;obtain⟨d2,hd2⟩:∃d,d1.all 0 (pH 15)=d:=⟨_,rfl⟩
 have b2:=oZ d1 0 (pH 15);rw[hd2,b1.1,b1.2] at b2;rw[hd2];obtain⟨d3,hd3⟩:∃d,d2.all 1 EH=d:=⟨_,rfl⟩
 have b3:=oZ d2 1 EH;rw[hd3,b2.1,b2.2] at b3;rw[hd3];obtain⟨d4,hd4⟩:∃d,d3.bV=d:=⟨_,rfl⟩
 have b4:=uC d3;rw[hd4,b3.1,b3.2] at b4;rw[hd4];obtain⟨d5,hd5⟩:∃d,d4.pE (pB 4 0 0 16)=d:=⟨_,rfl⟩
 have b5:=oY d4 (pB 4 0 0 16);rw[hd5,b4.1,b4.2] at b5;rw[hd5];obtain⟨d6,hd6⟩:∃d,d5.all 1 AK=d:=⟨_,rfl⟩
 have b6:=oZ d5 1 AK;rw[hd6,b5.1,b5.2] at b6;rw[hd6];obtain⟨d7,hd7⟩:∃d,d6.bV=d:=⟨_,rfl⟩
 have b7:=uC d6;rw[hd7,b6.1,b6.2] at b7;rw[hd7];obtain⟨d8,hd8⟩:∃d,d7.all 0 (pH 5)=d:=⟨_,rfl⟩
 have b8:=oZ d7 0 (pH 5);rw[hd8,b7.1,b7.2] at b8;rw[hd8];obtain⟨d9,hd9⟩:∃d,d8.bV=d:=⟨_,rfl⟩
 have b9:=uC d8;rw[hd9,b8.1,b8.2] at b9;rw[hd9];obtain⟨d10,hd10⟩:∃d,d9.pE (pB 6 0 0 v.cf.cap)=d:=⟨_,rfl⟩
 rw[hd10];have cfg:=λM P t=>xU M P g t d9.w;rw[b9.1] at cfg;refine t_ func67 ntmps67 ?_;repeat first|refine v_ ?_|intro
 rename_i gv;refine bW (λM=>dl0 M gv) ?_;rintro e H' ⟨Q1,n1,rfl,rfl⟩;repeat first|refine v_ ?_|intro
 refine bW (λM=>S4 M 15) ?_;rintro e H' ⟨ga1,rfl,rfl⟩;repeat first|refine v_ ?_|intro
 refine cl sD sK aC (λM hE=>al M (P++Q1) gv (t+256) d1 b1 132 [pt ga1] (pH 15) k1 (KW M ga1 15 (gE.of hE aS)) (BL 15) 0 o_ o_) ?_;rintro e H' ⟨Q2,rfl,rfl⟩;rw[hd2];repeat first|refine v_ ?_|intro
 refine cl sD sK aC (λM hE=>al M (P++Q1++Q2) gv (t+256+8) d2 b2 134 [] EH k2 (YZ M) Nn 1 o_ o_) ?_;rintro e H' ⟨Q3,rfl,rfl⟩;rw[hd3];repeat first|refine v_ ?_|intro
 refine bW (λM=>dl M (P++Q1++Q2++Q3) gv (t+256+8+8) d3 b3.2 (by omega)) ?_;rintro e H' ⟨Q4,n4,rfl,rfl⟩;rw[hd4];repeat first|refine v_ ?_|intro
 refine L.fQ sD (S.QZ (T:=mX) (e1:=pB 4 0 0 16) rfl eS rfl FV (by rfl) sD) ?_;rintro _ _ ⟨_,rfl,rfl⟩;repeat first|refine v_ ?_|intro
 refine cl sD sK aC (λM hE=>dw M (P++Q1++Q2++Q3++Q4) gv (t+256+8+8+256) d4 _ _ (pB 4 0 0 16) dB o_ (λst hst=>by rw[aAp.1 hst];exact Am)) ?_;rintro e H' ⟨Q5,rfl,rfl⟩;rw[hd5];repeat first|refine v_ ?_|intro
 refine cl sD sK aC (λM hE=>al M (P++Q1++Q2++Q3++Q4++Q5) gv (t+256+8+8+256+1) d5 b5 135 [] AK k3 (Uq M) aHx 1 o_ o_) ?_;rintro e H' ⟨Q6,rfl,rfl⟩;rw[hd6];repeat first|refine v_ ?_|intro
 refine bW (λM=>dl M (P++Q1++Q2++Q3++Q4++Q5++Q6) gv (t+256+8+8+256+1+8) d6 b6.2 (by omega)) ?_;rintro e H' ⟨Q7,n7,rfl,rfl⟩;rw[hd7];repeat first|refine v_ ?_|intro
 refine bW (λM=>S4 M 5) ?_;rintro e H' ⟨ga2,rfl,rfl⟩;repeat first|refine v_ ?_|intro
 refine cl sD sK aC (λM hE=>al M (P++Q1++Q2++Q3++Q4++Q5++Q6++Q7) gv (t+256+8+8+256+1+8+256) d7 b7 132 [pt ga2] (pH 5) k1 (KW M ga2 5 (gE.of hE aS)) (BL 5) 0 o_ o_) ?_;rintro e H' ⟨Q8,rfl,rfl⟩;rw[hd8];repeat first|refine v_ ?_|intro
 refine bW (λM=>dl M (P++Q1++Q2++Q3++Q4++Q5++Q6++Q7++Q8) gv (t+256+8+8+256+1+8+256+8) d8 b8.2 (by omega)) ?_;rintro e H' ⟨Q9,n9,rfl,rfl⟩;rw[hd9];repeat first|refine v_ ?_|intro
 refine bK (λM=>cfg M (P++Q1++Q2++Q3++Q4++Q5++Q6++Q7++Q8++Q9) (t+256+8+8+256+1+8+256+8+256)) ?_;repeat first|refine v_ ?_|intro
 refine L.fQ sD (S.QZ (T:=mX) (e1:=pB 6 0 0 v.cf.cap) rfl eS rfl FV (by rfl) sD) ?_;rintro _ _ ⟨_,rfl,rfl⟩;repeat first|refine v_ ?_|intro
 refine cl sD sK aC (λM hE=>dw M (P++Q1++Q2++Q3++Q4++Q5++Q6++Q7++Q8++Q9) gv (t+256+8+8+256+1+8+256+8+256) d9 _ _ (pB 6 0 0 v.cf.cap) dB o_ (λst hst=>by rw[aAp.1 hst];exact Am)) ?_;rintro e H' ⟨Q10,rfl,rfl⟩;rw[hd10];repeat first|refine v_ ?_|intro
 exact aR (H':=[aQ (P++(Q1++(Q2++(Q3++(Q4++(Q5++(Q6++(Q7++(Q8++(Q9++Q10)))))))))) g (t+1200) d10.w,aI (P++(Q1++(Q2++(Q3++(Q4++(Q5++(Q6++(Q7++(Q8++(Q9++Q10))))))))))]) rfl aF (by simp only[←aAb];exact aB.trans (rS (show t+256+8+8+256+1+8+256+8+256+1≤t+1200 by omega) aC) aA) ⟨_,rfl,rfl⟩
end
end Go.Proofs.YtmilalkjbojciaaGreat.Sep
