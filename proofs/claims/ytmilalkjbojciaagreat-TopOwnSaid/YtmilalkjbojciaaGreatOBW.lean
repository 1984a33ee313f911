/- Part BW: what it needs. No condition. -/
import Derived.Test.YtmilalkjbojciaaGreatOAA
import Derived.Test.YtmilalkjbojciaaGreatOBV
import Derived.Test.YtmilalkjbojciaaGreatOBT
set_option maxRecDepth 100000
set_option maxHeartbeats 8000000
open Go.Proofs.Tryz
namespace Go.Proofs.YtmilalkjbojciaaGreat.Sep
open Go.RowKit Reg Oct
open Mem hiding Rd
theorem Ox{v:Wv}{l:List cH}{i:Nat}{x:cH}(h:l[i]?=some x):v.run (l.take (i+1))=((v.run (l.take i)).step x).1:=iX h
theorem Wv.ok.mono{t t':Nat}{v:Wv}(h:v.ok t)(ht:t≤t'):v.ok t':=⟨h.cV,h.len,h.now,h.sub,by have:=h.aW;omega,by have:=h.app;omega,h.pk⟩
theorem cA.s5{X:Type}{p:X→Prop}{l:X→List aL}{B:List aL}(h:∀x,p x→cA (l x) B):cA [nI p l] B:=λF w hs=>by
 obtain⟨F1,F2,h1,h2,⟨x,G1,G2,g1,g2,g3,g4⟩,h4⟩:=hs;obtain⟨F',k1,k2⟩:=h x g3.1 G2 w g4;exact⟨F',k1,λb hb=>(h1 b).2 (.inl ((g1 b).2 (.inr (k2 b hb))))⟩
theorem aQ.mono{P Q:List Ov}{g t t':Nat}{v:Wv}(ht:t≤t'):cA [aQ P g t v] [aQ (P++Q) g t' v] :=
 cA.s5 λx hx=>(cA.cons cA.refl (cA.cons cA.refl (cA.cons cA.refl (cA.cons cA.refl (cA.cons cA.refl (cA.Ge (λ_z=>bZ.mono (P:=P) (Q:=Q) (uX ht)))))))).trans (cA.fp (l:=wL (P++Q) g (kt t') v) (x:=x) ⟨hx.1.mono ht,hx.2⟩)
section
variable (E:Env) (P:List Ov)
theorem p8(a:wM):G E 87 [.agg a.cs.toArray] [] (cM (.tuple #[]) []):=by
 refine t_ func87 ntmps87 ?_;repeat first|refine v_ ?_|intro
 exact e3_
theorem Oh(cf:fU)(hf:¬cf.cV)(sl fv:Value):G E 86 [.agg cf.cs.toArray,sl,fv] [] (cM (.tuple #[.pointer none,.int .i64 6]) []):=by
 have nw:=λE'=>No E' cf hf;refine t_ func86 ntmps86 ?_;repeat first|refine v_ ?_|intro
 refine bK nw ?_;repeat first|refine v_ ?_|intro
 exact e2_
theorem XM(cf:fU)(hf:cf.cV)(A:Option Addr)(m c:Nat)(l:List cH)(hr:Rd E mX A m c l)(hm:m≤256)(hl:∀st∈l,dQ st.c.n):G E 86 [.agg cf.cs.toArray,.slice A m c,.func (.func 87) #[] #[]] [aI P] λe H'=>∃Q g,e=.returned (.tuple #[pt g,.int .i64 0])∧H'=[aQ (P++Q) g (m+1) ((Wv.new cf).run l),aI (P++Q)]:=by
 have nw:=λE'=>YX E' P cf hf;have hlen:=hr.len;generalize Wv.new cf=v0 at *;refine t_ func86 ntmps86 ?_;repeat first|refine v_ ?_|intro
 refine bW nw ?_;rintro e H' ⟨Q,g,rfl,rfl⟩;repeat first|refine v_ ?_|intro
 rename_i g3;refine C.scan (Y:=List Ov) (l:=l) (n:=m) hlen (λi _=>[(2,.func (.func 87) #[] #[]),(8,pt g),(25,.slice A m c),(26,.int .i64 m),(27,.int .i64 i)])
  (λi y=>[aQ (P++y) g (i+1) (v0.run (l.take i)),aI (P++y)]) (λ_ _=>True) Q aD (by show aB E _ [aQ (P++Q) g 1 v0,aI (P++Q)];exact aA) trivial ?_ ?_
 ·rintro i y st F hi hst -;have hI:=hl st (aAi hst);have jV:=λE'=>N8 E' (P++y) g (i+1) (v0.run (l.take i)) o_ st hI;rw[Ox hst];generalize (v0.run (l.take i)).step st=z at *;obtain⟨v1,a⟩:=z;dsimp only at jV⊢;repeat first|refine v_ ?_|intro
  refine bW jV ?_;rintro e H' ⟨Q2,rfl,rfl⟩;repeat first|refine v_ ?_|intro
  refine cv sD rfl rfl rfl .nil (λE' hE=>p8 E' a) ?_;rintro e H' ⟨rfl,rfl⟩;repeat first|refine v_ ?_|intro
  exact⟨y++Q2,aD,by rw[←aAb];exact aA,trivial⟩
 ·rintro y F -;rw[show l.take m=l by rw[hlen,aAo]];repeat first|refine v_ ?_|intro
  exact Cz ⟨y,g,rfl,rfl⟩
theorem LW(cf:fU)(hf:¬cf.cV)(sl:Value):G E 24 [.agg cf.cs.toArray,sl] [] (cM (.tuple #[.pointer none,.int .i64 6]) []):=by
 have ea:=λE' fv=>Oh E' cf hf sl fv;refine t_ func24 ntmps24 ?_;repeat first|refine v_ ?_|intro
 refine bK (λ(E':Env)=>ea E' _) ?_;repeat first|refine v_ ?_|intro
 exact e2_
theorem Is(cf:fU)(hf:cf.cV)(A:Option Addr)(m c:Nat)(l:List cH)(hr:Rd E mX A m c l)(hm:m≤256)(hl:∀st∈l,dQ st.c.n):G E 24 [.agg cf.cs.toArray,.slice A m c] [aI P] λe H'=>∃Q g,e=.returned (.tuple #[pt g,.int .i64 0])∧H'=[aQ (P++Q) g (m+1) ((Wv.new cf).run l),aI (P++Q)]:=by
 have ea:=λE' hr=>XM E' P cf hf A m c l hr hm hl;generalize (Wv.new cf).run l=v at *;refine t_ func24 ntmps24 ?_;repeat first|refine v_ ?_|intro
 refine dX ea ?_;rintro e H' ⟨Q,g,rfl,rfl⟩;repeat first|refine v_ ?_|intro
 exact Cz ⟨Q,g,rfl,rfl⟩
end
instance:cL 134 [.pointer none,.bool false] [(0,1),(1,1)]:=⟨⟨by kernel_rfl,by kernel_rfl⟩⟩
theorem P0{d:Dv}{l:List cH}{i:Nat}{x:cH}(h:l[i]?=some x):d.J1 (l.take (i+1))=(d.J1 (l.take i)).pE x:=iX h
abbrev dA(P:List Ov)(gv g t:Nat)(d:Dv):List aL:=[aJ gv 134 [pt g,.bool d.short],aQ P g t d.w,aI P]
section
variable (E:Env) (P:List Ov) (gv g t:Nat) (d:Dv)
theorem Yp(A:Option Addr)(m c:Nat)(l:List cH)(hr:Rd E mX A m c l)(hm:t+m≤1000000)(hl:∀st∈l,dQ st.c.n):G E 62 [pt gv,.slice A m c] (dA P gv g t d) λe H'=>∃Q,e=.returned (.tuple #[])∧H'=dA (P++Q) gv g (t+m) (d.J1 l):=by
 have hlen:=hr.len;dsimp only[dA];refine t_ func62 ntmps62 ?_;repeat first|refine v_ ?_|refine Dr.two ?_ ?_|intro
 refine C.scan (Y:=List Ov) (l:=l) (n:=m) hlen (λi _=>[(0,pt gv),(7,.slice A m c),(8,.int .i64 m),(9,.int .i64 i)])
  (λi y=>[aJ gv 134 [pt g,.bool (d.J1 (l.take i)).short],aQ (P++y) g (t+i) (d.J1 (l.take i)).w,aI (P++y)]) (λ_ _=>True) [] aD (by rw[aAc];show aB E _ [aJ gv 134 [pt g,.bool d.short],aQ P g t d.w,aI P];exact aA) trivial ?_ ?_
 ·rintro i y st F hi hst -;have hI:=hl st (aAi hst);rw[P0 hst];generalize d.J1 (l.take i)=d1 at *;obtain⟨v1,sh⟩:=d1;have jV:=λE'=>N8 E' (P++y) g (t+i) v1 o_ st hI;unfold Dv.pE;dsimp only;generalize v1.step st=z at *;obtain⟨v2,a⟩:=z;dsimp only at jV⊢;repeat first|refine v_ ?_|refine Dr.two ?_ ?_|intro
  rename_i g5;refine C.bL 7 (l_ [0,1,2,3,4] (.two 5 (g_ 6 (g_ 7 .nil)) 6 (g_ 5 (g_ 7 .nil)))) ([aJ gv 134 _,aJ g5 39 _]) q_ q_ aA ?_;repeat first|refine v_ ?_|intro
  refine Dr.two ?_ ?_
  ·refine yB rfl sD bA sK aC (λE' hE=>jV E') ?_;rintro e H' ⟨Q2,rfl,rfl⟩;repeat first|refine v_ ?_|refine Dr.two ?_ ?_|intro
   cases sh with
   |true =>
    rw[Bool.true_or];repeat first|refine v_ ?_|refine Dr.two ?_ ?_|intro
    exact⟨y++Q2,aD,by rw[←aAb,←aDv];exact aA,trivial⟩
   |false =>
    by_cases hk:st.kind=15
    ·rw[show(false||(!decide (st.kind=15)&&decide (a.code=10)))=false by simp[hk]];have hd:decide (st.kind≠15)=false:=decide_eq_false o_;repeat first|refine v_ ?_|refine Dr.two ?_ ?_|intro
     exact⟨y++Q2,aD,by rw[←aAb,←aDv];exact aA,trivial⟩
    ·have hd:decide (st.kind≠15)=true:=decide_eq_true hk;rw[show(false||(!decide (st.kind=15)&&decide (a.code=10)))=decide (a.code=10) by simp[hk]];repeat first|refine v_ ?_|refine Dr.two ?_ ?_|intro
     exact⟨y++Q2,aD,by rw[←aAb,←aDv];exact aA,trivial⟩
  ·repeat first|refine v_ ?_|intro
   refine iO jV ?_;rintro e H' ⟨Q2,rfl,rfl⟩;repeat first|refine v_ ?_|refine Dr.two ?_ ?_|intro
   cases sh with
   |true =>
    rw[Bool.true_or];repeat first|refine v_ ?_|refine Dr.two ?_ ?_|intro
    exact⟨y++Q2,aD,by rw[←aAb,←aDv];exact aA,trivial⟩
   |false =>
    by_cases hk:st.kind=15
    ·rw[show(false||(!decide (st.kind=15)&&decide (a.code=10)))=false by simp[hk]];have hd:decide (st.kind≠15)=false:=decide_eq_false o_;repeat first|refine v_ ?_|refine Dr.two ?_ ?_|intro
     exact⟨y++Q2,aD,by rw[←aAb,←aDv];exact aA,trivial⟩
    ·have hd:decide (st.kind≠15)=true:=decide_eq_true hk;rw[show(false||(!decide (st.kind=15)&&decide (a.code=10)))=decide (a.code=10) by simp[hk]];repeat first|refine v_ ?_|refine Dr.two ?_ ?_|intro
     exact⟨y++Q2,aD,by rw[←aAb,←aDv];exact aA,trivial⟩
 ·rintro y F -;rw[show l.take m=l by rw[hlen,aAo]];repeat first|refine v_ ?_|refine Dr.two ?_ ?_|intro
  exact gO rfl aA (⟨y,rfl,rfl⟩)
end
end Go.Proofs.YtmilalkjbojciaaGreat.Sep
