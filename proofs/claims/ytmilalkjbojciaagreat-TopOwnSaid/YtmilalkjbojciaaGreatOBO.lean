/- Part BO: what it needs. No condition. -/
import Derived.Test.YtmilalkjbojciaaGreatOAA
import Derived.Test.YtmilalkjbojciaaGreatOBN
import Derived.Test.YtmilalkjbojciaaGreatOBL
set_option maxRecDepth 100000
set_option maxHeartbeats 8000000
open Go.Proofs.Tryz
namespace Go.Proofs.YtmilalkjbojciaaGreat.Sep
open Go.RowKit Reg Oct
open Mem hiding Rd
def eE(z:Sv×List Rc)(x:Rc):Sv×List Rc:=((z.1.doc x).1,if (z.1.doc x).2=0 then z.2++[x] else z.2)
def comms:Sv→List Rc→List bJ→List Rc
 |_,out,[]=>out
 |s,out,a::l=>if (s.doc (.rI a)).2=0 then comms (s.doc (.rI a)).1 (out++[.rI a]) l else out
def tryAll(s:Sv)(l:List aX):Sv×List Rc:=l.foldl (λz c=>eE z (.lI c)) (s,[])
def kL(s:Sv)(m:Mg):List Rc :=
 if m.check=0∧m.kind=2∧m.to=s.r then
  (if ((tryAll s m.iS).1.v.l.length:Int) - m.base<0 then(tryAll s m.iS).2 else comms (tryAll s m.iS).1 (tryAll s m.iS).2 (m.ids.drop (min ((tryAll s m.iS).1.v.l.length - m.base.toNat) m.ids.length)))
 else[]
theorem HB{s:Sv}{l:List aX}{i:Nat}{x:aX}(h:l[i]?=some x):tryAll s (l.take (i+1))=eE (tryAll s (l.take i)) (.lI x):=iX (f:=λz c=>eE z (.lI c)) h
theorem Fv(z:Sv×List Rc)(x:Rc):(eE z x).2.length≤z.2.length+1:=by
 unfold eE;dsimp only;split
 ·simp
 ·omega
theorem CZ(s:Sv)(l:List aX):(tryAll s l).2.length≤l.length:=by
 have:∀(l:List aX) (z:Sv×List Rc),(l.foldl (λz c=>eE z (.lI c)) z).2.length≤z.2.length+l.length:=by
  intro l
  induction l with
  |nil=>exact λz=>aAf _
  |cons c l ih =>
   intro z;have h1:=ih (eE z (.lI c));have h2:=Fv z (.lI c);rw[aFj,aAs];omega
 have h:=this l (s,[]);simpa [tryAll] using h
theorem Mh{s:Sv}(h:Gd s){l:List aX}(hl:∀c∈l,c.ok):Gd (tryAll s l).1:=by
 have:∀(l:List aX) (z:Sv×List Rc),(∀c∈l,c.ok)→Gd z.1→Gd (l.foldl (λz c=>eE z (.lI c)) z).1:=by
  intro l
  induction l with
  |nil=>exact λz _ h=>h
  |cons c l ih=>exact λz hl h=>ih _ (λx hx=>hl x (aBl _ hx)) (h.doc (x:=.lI c) (hl c aBo))
 exact this l (s,[]) hl h
section
variable (E:Env) (P:List Ov) (g:Nat) (s:Sv)
theorem Th(A:Option Addr)(c:Nat)(l:List Rc)(x:Rc)(hx:x.ok)(hn:l.length≤1000000):G E 254 [pt g,.slice A l.length c,.agg x.r.cs.toArray] [dI P g s,aI P,own jE A l.length c (l.map Rc.r)] λe H'=>∃Q A' c',(eE (s,l) x).2.length≤c'∧c'≤maxLen∧e=.returned (.tuple #[.slice A' (eE (s,l) x).2.length c',.bool (decide ((s.doc x).2=0))])∧H'=[dI (P++Q) g (s.doc x).1,aI (P++Q),own jE A' (eE (s,l) x).2.length c' ((eE (s,l) x).2.map Rc.r)]:=by
 refine aK.post (Z9 E P g s A l.length c (l.map Rc.r) x hx hn) ?_;rintro e H' ⟨Q,A',c',h1,h2,rfl,rfl⟩;have e1:(if (s.doc x).2=0 then l.length+1 else l.length)=(eE (s,l) x).2.length:=by unfold eE;dsimp only;split<;>simp
 have e2:(if (s.doc x).2=0 then l.map Rc.r++[x.r] else l.map Rc.r)=(eE (s,l) x).2.map Rc.r:=by unfold eE;dsimp only;split<;>simp
 rw[e1] at h1;rw[e1,e2];exact⟨_,aB.refl,Q,A',c',h1,h2,rfl,rfl⟩
theorem Xg(m:Mg)(A:Option Addr)(n c:Nat)(B:Option Addr)(k d:Nat)(hI:Rd E fN A n c m.ids)(hC:Rd E bE B k d m.iS)(hok:m.ok):G E 189 [pt g,.agg (oK m A n c B k d).toArray] [dI P g s,aI P] λe H'=>∃Q X qc,((kL s m).length≤qc∧qc≤maxLen)∧(kL s m).length≤100∧e=.returned (.slice X (kL s m).length qc)∧H'=[own jE X (kL s m).length qc ((kL s m).map Rc.r),dI (P++Q) g s,aI (P++Q)]:=by
 refine Jo E P g s λhg=>?_;have hmax:=fX;have h0:=hg.rep;have rep:=λE'=>qR E' P g s;have hU:=λE' hI hC=>Cr E' m A n c B k d hI hC;have cln:=λE'=>Ij E' P g s;have hnl:=hI.len;have hkl:=hC.len;unfold kL;by_cases hc:m.check=0
 ·by_cases hk:m.kind=2
  ·by_cases ht:m.to=s.r
   ·rw[if_pos ⟨hc,hk,ht⟩];obtain⟨f1,f2,f3,f4,f5⟩:=Mg.Ei hc hk;rw[hc] at hU;refine t_ func189 ntmps189 ?_;repeat first|refine v_ ?_|intro
    rename_i g3;refine rA (n_ 0 (g_ 1 (l_ [2,3,4] (g_ 5 (l_ [6,7,8,9,10,11,12,13,14,15,16] (g_ 17 (l_ [18,19] .nil))))))) ?_;repeat first|refine v_ ?_|intro
    refine eJ rep ?_;repeat first|refine v_ ?_|intro
    refine Ju hU ?_;repeat first|refine v_ ?_|intro
    refine eJ rep ?_;repeat first|refine v_ ?_|intro
    refine bW cln ?_;rintro e H' ⟨g2,rfl,rfl⟩;repeat first|refine v_ ?_|intro
    have hkm:k≤maxLen:=by omega
    have hch:∀c∈m.iS,c.ok:=λc hc=>Jj (aDm.1 f4 c hc) (hok.1 c hc);refine C.scan (Y:=List Ov×Option Addr×Nat) (l:=m.iS) hkl (λi y=>[(0,pt g2),(3,pt g3),(5,.slice y.2.1 (tryAll s (m.iS.take i)).2.length y.2.2),(35,.slice B k d),(36,.int .i64 k),(37,.int .i64 i)])
     (λi y=>[dI (P++y.1) g2 (tryAll s (m.iS.take i)).1,aI (P++y.1),own jE y.2.1 (tryAll s (m.iS.take i)).2.length y.2.2 ((tryAll s (m.iS.take i)).2.map Rc.r),aJ g3 195 (oK m A n c B k d),dI P g s]) (λi y=>(tryAll s (m.iS.take i)).2.length≤y.2.2∧y.2.2≤maxLen) ([],none,0) aD (by dsimp only;rw[aAc];exact(show aB _ _ [dI P g2 s,aI P,own jE none 0 0 [],aJ g3 195 (oK m A n c B k d),dI P g s] from aB.trans (aB.nil jE) aA)) ⟨aAf _,aAh _⟩ ?_ ?_
    ·rintro i ⟨Q,X,qc⟩ x F hi hx ⟨h1,h2⟩;dsimp only at h1 h2⊢;have hzl:=CZ s (m.iS.take i);rw[aAg] at hzl;rw[HB hx];generalize tryAll s (m.iS.take i)=z at *;obtain⟨s1,out⟩:=z;dsimp only at h1 hzl⊢;have law:=λE'=>Th E' (P++Q) g2 s1 X qc out (.lI x) (hch x (aAi hx)) o_;have e1:(eE (s1,out) (.lI x)).1=(s1.doc (.lI x)).1:=rfl;rw[e1];generalize (eE (s1,out) (.lI x)).2=out2 at *;generalize s1.doc (.lI x)=w at *;repeat first|refine v_ ?_|intro
     refine bK (λ(E':Env)=>qM E' x) ?_;repeat first|refine v_ ?_|intro
     refine bW law ?_;rintro e H' ⟨Q2,X2,q2,h3,h4,rfl,rfl⟩;repeat first|refine v_ ?_|intro
     exact⟨(Q++Q2,X2,q2),aD,(by dsimp only;rw[←aAb];exact aA),h3,h4⟩
    ·rintro⟨Q,X,qc⟩ F ⟨h1,h2⟩;dsimp only at h1 h2⊢;rw[hkl,aAo] at h1⊢;have hzl:=CZ s m.iS;have hzg:=Mh hg hch;generalize tryAll s m.iS=z at *;obtain⟨s1,out⟩:=z;dsimp only at h1 hzl hzg⊢;have hln:=hzg.v.len;have hlm:s1.v.l.length≤maxLen:=by omega
     have mC:=λE'=>qQ E' (P++Q) g2 s1;have hb0:0≤m.base∧m.base≤48:=f5;have bak:aB E [own jE X out.length qc (out.map Rc.r),dI P g s,aI (P++Q)] [own jE X out.length qc (out.map Rc.r),dI (P++Q) g s,aI (P++Q)]:=aB.cF (cA.cons cA.refl (cA.cons dI.mono cA.refl));by_cases hneg:(s1.v.l.length:Int) - m.base<0
     ·rw[if_pos hneg];repeat first|refine v_ ?_|intro
      refine rB (l_ [0,4,5] (g_ 1 (g_ 2 (l_ [3,6,7] .nil)))) ([aJ g3 195 _]) ?_;repeat first|refine v_ ?_|intro
      refine iO mC ?_;rintro e H' ⟨g5,rfl,rfl⟩;repeat first|refine v_ ?_|intro
      refine iO (λ(E':Env)=>iV E' (P++Q) g5 s1.v) ?_;rintro e H' ⟨O,oc,hoc,rfl,rfl⟩;repeat first|refine v_ ?_|intro
      exact aR (H':=[own jE X out.length qc (out.map Rc.r),dI (P++Q) g s,aI (P++Q)]) rfl aF (aB.trans (aB.aV (l:=[own jE X out.length qc (out.map Rc.r),dI P g s,aI (P++Q)]) aC) bak) ⟨Q,X,qc,⟨h1,h2⟩,by omega,rfl,rfl⟩
     ·rw[if_neg hneg];have hJ:(min ((s1.v.l.length:Int) - m.base) (n:Int)).toNat=min (s1.v.l.length - m.base.toNat) m.ids.length:=by rw[←hnl];omega
      have hr2:=hI.from_ (k:=(min ((s1.v.l.length:Int) - m.base) (n:Int)).toNat) o_;rw[←hJ];have hnm:n≤maxLen:=by omega
      repeat first|refine v_ ?_|intro
      refine rB (l_ [0,4,5] (g_ 1 (g_ 2 (l_ [3,6,7] .nil)))) ([aJ g3 195 _]) ?_;repeat first|refine v_ ?_|intro
      refine iO mC ?_;rintro e H' ⟨g5,rfl,rfl⟩;repeat first|refine v_ ?_|intro
      refine iO (λ(E':Env)=>iV E' (P++Q) g5 s1.v) ?_;rintro e H' ⟨O,oc,hoc,rfl,rfl⟩;repeat first|refine v_ ?_|intro
      generalize (min ((s1.v.l.length:Int) - m.base) (n:Int)).toNat=J at *;refine C.scan (Y:=Sv×List Rc×List Ov×Option Addr×Nat) (l:=m.ids.drop J) hr2.len (λi y=>[(0,pt g2),(5,.slice y.2.2.2.1 y.2.1.length y.2.2.2.2),(67,.slice (if c=J then A else A.map (·.add (J*fN.size))) (n - J) (c - J)),(68,.int .i64 ((n - J:Nat):Int)),(69,.int .i64 i)])
       (λi y=>[dI (P++y.2.2.1) g2 y.1,aI (P++y.2.2.1),own jE y.2.2.2.1 y.2.1.length y.2.2.2.2 (y.2.1.map Rc.r),dI P g s]) (λi y=>comms s1 out (m.ids.drop J)=comms y.1 y.2.1 ((m.ids.drop J).drop i)∧y.2.1.length≤8+i∧y.2.1.length≤y.2.2.2.2∧y.2.2.2.2≤maxLen) (s1,out,Q,X,qc) aD aA ⟨rfl,by dsimp only;omega,h1,h2⟩ ?_ ?_
      ·rintro i ⟨s2,out2,Q2,X2,q2⟩ a F hi ha ⟨hcm,h3,h4,h5⟩;dsimp only at hcm h3 h4 h5⊢;have hlt:=(aAd.1 ha).1;have e1:(m.ids.drop J).drop i=a::(m.ids.drop J).drop (i+1):=by rw[aAm hlt,(aAd.1 ha).2]
       rw[e1,comms] at hcm;have hid:(m.ids.drop J).length≤16:=by rw[aBd];omega
       have law:=λE'=>Th E' (P++Q2) g2 s2 X2 q2 out2 (.rI a) trivial o_;unfold eE at law;dsimp only at law;generalize s2.doc (.rI a)=w at *;obtain⟨s3,cd⟩:=w;dsimp only at law hcm;by_cases he:cd=0
       ·subst he;rw[if_pos rfl] at hcm;simp only[if_true,decide_true] at law;repeat first|refine v_ ?_|intro
        refine bK (λ(E':Env)=>oS E' a) ?_;repeat first|refine v_ ?_|intro
        refine bW law ?_;rintro e H' ⟨Q3,X3,q3,h6,h7,rfl,rfl⟩;repeat first|refine v_ ?_|intro
        exact⟨(s3,out2++[.rI a],Q2++Q3,X3,q3),aD,(by dsimp only;rw[←aAb];exact aA),hcm,by dsimp only;rw[aAe];simp;omega,h6,h7⟩
       ·rw[if_neg he] at hcm;simp only[he,if_false,decide_false] at law;rw[hcm];repeat first|refine v_ ?_|intro
        refine bK (λ(E':Env)=>oS E' a) ?_;repeat first|refine v_ ?_|intro
        refine bW law ?_;rintro e H' ⟨Q3,X3,q3,h6,h7,rfl,rfl⟩;repeat first|refine v_ ?_|intro
        exact aR (H':=[own jE X3 out2.length q3 (out2.map Rc.r),dI (P++(Q2++Q3)) g s,aI (P++(Q2++Q3))]) rfl aF (by rw[←aAb];exact aB.trans (aB.aV (l:=[own jE X3 out2.length q3 (out2.map Rc.r),dI P g s,aI (P++Q2++Q3)]) aC) (aB.cF (cA.cons cA.refl (cA.cons (by rw[aAb];exact dI.mono) cA.refl)))) ⟨Q2++Q3,X3,q3,⟨h6,h7⟩,by omega,rfl,rfl⟩
      ·rintro⟨s2,out2,Q2,X2,q2⟩ F ⟨hcm,h3,h4,h5⟩;dsimp only at hcm h3 h4 h5⊢;have hid:(m.ids.drop J).length≤16:=by rw[aBd];omega
       have hnj:=hr2.len;rw[show(m.ids.drop J).drop (n - J)=[] from aCn o_,comms] at hcm;rw[hcm];repeat first|refine v_ ?_|intro
       exact aR (H':=[own jE X2 out2.length q2 (out2.map Rc.r),dI (P++Q2) g s,aI (P++Q2)]) rfl aF (aB.trans (aB.aV (l:=[own jE X2 out2.length q2 (out2.map Rc.r),dI P g s,aI (P++Q2)]) aC) (aB.cF (cA.cons cA.refl (cA.cons dI.mono cA.refl)))) ⟨Q2,X2,q2,⟨h4,h5⟩,by omega,rfl,rfl⟩
   ·rw[if_neg λh=>ht h.2.2];rw[hc] at hU;refine t_ func189 ntmps189 ?_;repeat first|refine v_ ?_|intro
    rename_i g3;refine rA (n_ 0 (g_ 1 (l_ [2,3,4] (g_ 5 (l_ [6,7,8,9,10,11,12,13,14,15,16] (g_ 17 (l_ [18,19] .nil))))))) ?_;repeat first|refine v_ ?_|intro
    refine eJ rep ?_;repeat first|refine v_ ?_|intro
    refine Ju hU ?_;repeat first|refine v_ ?_|intro
    refine eJ rep ?_;repeat first|refine v_ ?_|intro
    exact aR (H':=[own jE none 0 0 [],dI (P++[]) g s,aI (P++[])]) rfl aF (by rw[aAc];exact aB.trans (aB.nil jE) (aB.aV (l:=[own jE none 0 0 [],dI P g s,aI P]) aC)) ⟨[],none,0,⟨aAf _,aAh _⟩,aAh _,rfl,rfl⟩
  ·rw[if_neg λh=>hk h.2.1];rw[hc] at hU;refine t_ func189 ntmps189 ?_;repeat first|refine v_ ?_|intro
   rename_i g3;refine rA (n_ 0 (g_ 1 (l_ [2,3,4] (g_ 5 (l_ [6,7,8,9,10,11,12,13,14,15,16] (g_ 17 (l_ [18,19] .nil))))))) ?_;repeat first|refine v_ ?_|intro
   refine eJ rep ?_;repeat first|refine v_ ?_|intro
   refine Ju hU ?_;repeat first|refine v_ ?_|intro
   exact aR (H':=[own jE none 0 0 [],dI (P++[]) g s,aI (P++[])]) rfl aF (by rw[aAc];exact aB.trans (aB.nil jE) (aB.aV (l:=[own jE none 0 0 [],dI P g s,aI P]) aC)) ⟨[],none,0,⟨aAf _,aAh _⟩,aAh _,rfl,rfl⟩
 ·rw[if_neg λh=>hc h.1];refine t_ func189 ntmps189 ?_;repeat first|refine v_ ?_|intro
  rename_i g3;refine rA (n_ 0 (g_ 1 (l_ [2,3,4] (g_ 5 (l_ [6,7,8,9,10,11,12,13,14,15,16] (g_ 17 (l_ [18,19] .nil))))))) ?_;repeat first|refine v_ ?_|intro
  refine eJ rep ?_;repeat first|refine v_ ?_|intro
  refine Ju hU ?_;repeat first|refine v_ ?_|intro
  exact aR (H':=[own jE none 0 0 [],dI (P++[]) g s,aI (P++[])]) rfl aF (by rw[aAc];exact aB.trans (aB.nil jE) (aB.aV (l:=[own jE none 0 0 [],dI P g s,aI P]) aC)) ⟨[],none,0,⟨aAf _,aAh _⟩,aAh _,rfl,rfl⟩
end
def oX(s:Sv)(m:Mg):List bJ:=(s.v.l.drop (min m.base.toNat s.v.l.length)).map (·.id)
def E8(s:Sv)(m:Mg):List aX:=(s.v.l++s.v.t).filter λx => !yN ⟨m.k0,m.k1,m.k2,m.k3⟩ x.id
def uN(s:Sv)(m:Mg):Mg:=⟨2,s.r,m.fr,0,0,0,0,m.base,(oX s m).take 16,(E8 s m).take 8,kz,ez⟩
def answers(s:Sv)(m:Mg):Prop:=m.check=0∧m.kind=1∧m.to=s.r
instance (s:Sv)(m:Mg):Decidable (answers s m):=by unfold answers;infer_instance
def mz:Mg:=⟨0,0,0,0,0,0,0,0,[],[],kz,ez⟩
theorem XY:oK mz none 0 0 none 0 0=[.int .i64 0,.int .i64 0,.int .i64 0,.int .i64 0,.int .i64 0,.int .i64 0,.int .i64 0,.int .i64 0,.slice none 0 0,.slice none 0 0,.int .i64 0,.int .i64 0,.int .i64 0,.bool false,.int .i64 0,.int .i64 0,.int .i64 0,.int .i64 0,.int .i64 0]:=rfl
section
variable (E:Env) (P:List Ov) (g:Nat) (s:Sv)
theorem Hq(m:Mg)(A:Option Addr)(n c:Nat)(B:Option Addr)(k d:Nat)(hI:Rd E fN A n c m.ids)(hC:Rd E bE B k d m.iS)(hno:¬answers s m):G E 188 [pt g,.agg (oK m A n c B k d).toArray] [dI P g s] λe H'=>e=.returned (.tuple #[.agg (oK mz none 0 0 none 0 0).toArray,.bool false])∧H'=[dI P g s]:=by
 refine Jo E P g s λhg=>?_;have h0:=hg.rep;have rep:=λE'=>qR E' P g s;have hU:=λE' hI hC=>Cr E' m A n c B k d hI hC;unfold answers at hno;rw[XY];by_cases hc:m.check=0
 ·by_cases hk:m.kind=1
  ·have ht:m.to≠s.r:=λh=>hno ⟨hc,hk,h⟩;rw[hc] at hU;refine t_ func188 ntmps188 ?_;repeat first|refine v_ ?_|intro
   rename_i g3 g4;refine rA (n_ 0 (g_ 1 (l_ [2,3,4] (g_ 5 (l_ [6,7,8,9,10,11,12,13,14,15,16] (g_ 17 (l_ [18,19] .nil))))))) ?_;repeat first|refine v_ ?_|intro
   refine eJ rep ?_;repeat first|refine v_ ?_|intro
   refine Ju hU ?_;repeat first|refine v_ ?_|intro
   refine eJ rep ?_;repeat first|refine v_ ?_|intro
   exact e6_
  ·rw[hc] at hU;refine t_ func188 ntmps188 ?_;repeat first|refine v_ ?_|intro
   rename_i g3 g4;refine rA (n_ 0 (g_ 1 (l_ [2,3,4] (g_ 5 (l_ [6,7,8,9,10,11,12,13,14,15,16] (g_ 17 (l_ [18,19] .nil))))))) ?_;repeat first|refine v_ ?_|intro
   refine eJ rep ?_;repeat first|refine v_ ?_|intro
   refine Ju hU ?_;repeat first|refine v_ ?_|intro
   exact e6_
 ·refine t_ func188 ntmps188 ?_;repeat first|refine v_ ?_|intro
  rename_i g3 g4;refine rA (n_ 0 (g_ 1 (l_ [2,3,4] (g_ 5 (l_ [6,7,8,9,10,11,12,13,14,15,16] (g_ 17 (l_ [18,19] .nil))))))) ?_;repeat first|refine v_ ?_|intro
  refine eJ rep ?_;repeat first|refine v_ ?_|intro
  refine Ju hU ?_;repeat first|refine v_ ?_|intro
  exact e6_
theorem RF(m:Mg)(A:Option Addr)(n c:Nat)(B:Option Addr)(k d:Nat)(hI:Rd E fN A n c m.ids)(hC:Rd E bE B k d m.iS)(hyes:answers s m):G E 188 [pt g,.agg (oK m A n c B k d).toArray] [dI P g s] λe H'=>∃X a x Y b y,a=(oX s m).length∧e=.returned (.tuple #[.agg (oK (uN s m) X (min a 16) (min a 16) Y (min b 8) (min b 8)).toArray,.bool true])∧H'=[own fN X a x (oX s m),own bE Y b y (E8 s m),dI P g s]:=by
 refine Jo E P g s λhg=>?_;have h0:=hg.rep;have hmax:=fX;have rep:=λE'=>qR E' P g s;have mC:=λE'=>qQ E' P g s;have hU:=λE' hI hC=>Cr E' m A n c B k d hI hC;obtain⟨hc,hk,ht⟩:=hyes;obtain⟨f1,f2,hb0⟩:=Mg.Nj hc hk;have hlen:=hg.v.len;rw[hc] at hU;refine t_ func188 ntmps188 ?_;repeat first|refine v_ ?_|refine Dr.two ?_ ?_|intro
 rename_i g3 g4;refine rA (n_ 0 (g_ 1 (l_ [2,3,4] (g_ 5 (l_ [6,7,8,9,10,11,12,13,14,15,16] (g_ 17 (l_ [18,19] .nil))))))) ?_;repeat first|refine v_ ?_|refine Dr.two ?_ ?_|intro
 refine eJ rep ?_;repeat first|refine v_ ?_|refine Dr.two ?_ ?_|intro
 refine Ju hU ?_;repeat first|refine v_ ?_|refine Dr.two ?_ ?_|intro
 refine eJ rep ?_;repeat first|refine v_ ?_|refine Dr.two ?_ ?_|intro
 refine bW mC ?_;rintro e H' ⟨g5,rfl,rfl⟩;repeat first|refine v_ ?_|refine Dr.two ?_ ?_|intro
 refine bW (λ(E':Env)=>iV E' P g5 s.v) ?_;rintro e H' ⟨O,oc,hoc,rfl,rfl⟩;repeat first|refine v_ ?_|refine Dr.two ?_ ?_|intro
 refine C.BI (X:=Nat) (λg8=>[(3,pt g3),(4,pt g4),(6,pt g5),(7,.slice O s.v.l.length oc),(8,pt g8)]) (λg8=>[aJ g8 195 [Value.int IntKind.i64 2,Value.int IntKind.i64 s.r,Value.int IntKind.i64 m.fr,Value.int IntKind.i64 0,Value.int IntKind.i64 0,Value.int IntKind.i64 0,Value.int IntKind.i64 0,Value.int IntKind.i64 m.base,.slice none 0 0,.slice none 0 0,Value.int IntKind.i64 0,Value.int IntKind.i64 0,Value.int IntKind.i64 0,Value.bool false,Value.int IntKind.i64 0,Value.int IntKind.i64 0,Value.int IntKind.i64 0,Value.int IntKind.i64 0,Value.int IntKind.i64 0],aJ g3 195 (oK m A n c B k d),aJ g4 195 [Value.int IntKind.i64 0,Value.int IntKind.i64 0,Value.int IntKind.i64 0,Value.int IntKind.i64 0,Value.int IntKind.i64 0,Value.int IntKind.i64 0,Value.int IntKind.i64 0,Value.int IntKind.i64 0,.slice none 0 0,.slice none 0 0,Value.int IntKind.i64 0,Value.int IntKind.i64 0,Value.int IntKind.i64 0,Value.bool false,Value.int IntKind.i64 0,Value.int IntKind.i64 0,Value.int IntKind.i64 0,Value.int IntKind.i64 0,Value.int IntKind.i64 0],own bE O s.v.l.length oc s.v.l,AT P g5 s.v,dI P g s]) (λ_=>True) ?_ ?_
 ·refine rB (l_ [0,2,3,4,5] (.two 1 (n_ 6 (g_ 7 (g_ 8 .nil))) 7 (g_ 1 (n_ 6 (g_ 8 .nil))))) ([aJ g3 195 _]) ?_;repeat first|refine v_ ?_|intro
  refine Dr.two ?_ ?_
  ·refine yB rfl sD bA sK aC (λE' hE=>rep E') ?_;rintro e H' ⟨rfl,rfl⟩;repeat first|refine cY ?_|intro
   rename_i g8;exact⟨g8,aD,aA,trivial⟩
  ·repeat first|refine cY ?_|intro
   refine eJ rep ?_;repeat first|refine cY ?_|intro
   rename_i g8;exact⟨g8,aD,aA,trivial⟩
 ·rintro g8 F -;have hJ:(min m.base (s.v.l.length:Int)).toNat=min m.base.toNat s.v.l.length:=by omega
  repeat first|refine v_ ?_|refine Dr.two ?_ ?_|intro
  rw[hJ];generalize hJ':min m.base.toNat s.v.l.length=J at *;have hJl:J≤s.v.l.length:=by omega
  have hld:s.v.l.length - J=(s.v.l.drop J).length:=by rw[aBd]
  have hids:oX s m=(s.v.l.drop J).map (·.id):=by unfold oX;rw[hJ']
  have hca:s.v.l.length≤48:=by omega
  refine C.scan (Y:=Option Addr×Nat) (l:=s.v.l.drop J) hld (λi y=>[(3,pt g3),(4,pt g4),(6,pt g5),(7,.slice O s.v.l.length oc),(8,pt g8),(49,.slice (if oc=J then O else O.map (·.add (J*bE.size))) (s.v.l.length - J) (oc - J)),(50,.int .i64 ((s.v.l.length - J:Nat):Int)),(51,.int .i64 i)])
   (λi y=>[own fN y.1 i y.2 (((s.v.l.drop J).take i).map (·.id)),aJ g8 195 [Value.int IntKind.i64 2,Value.int IntKind.i64 s.r,Value.int IntKind.i64 m.fr,Value.int IntKind.i64 0,Value.int IntKind.i64 0,Value.int IntKind.i64 0,Value.int IntKind.i64 0,Value.int IntKind.i64 m.base,.slice y.1 i y.2,.slice none 0 0,Value.int IntKind.i64 0,Value.int IntKind.i64 0,Value.int IntKind.i64 0,Value.bool false,Value.int IntKind.i64 0,Value.int IntKind.i64 0,Value.int IntKind.i64 0,Value.int IntKind.i64 0,Value.int IntKind.i64 0],aJ g3 195 (oK m A n c B k d),aJ g4 195 [Value.int IntKind.i64 0,Value.int IntKind.i64 0,Value.int IntKind.i64 0,Value.int IntKind.i64 0,Value.int IntKind.i64 0,Value.int IntKind.i64 0,Value.int IntKind.i64 0,Value.int IntKind.i64 0,.slice none 0 0,.slice none 0 0,Value.int IntKind.i64 0,Value.int IntKind.i64 0,Value.int IntKind.i64 0,Value.bool false,Value.int IntKind.i64 0,Value.int IntKind.i64 0,Value.int IntKind.i64 0,Value.int IntKind.i64 0,Value.int IntKind.i64 0],own bE O s.v.l.length oc s.v.l,AT P g5 s.v,dI P g s]) (λi y=>i≤y.2∧y.2≤maxLen) (none,0) aD (aB.nil fN) ⟨aAh _,aAh _⟩ ?_ ?_
  ·rintro i ⟨X,x⟩ c F hi hc' ⟨h1,h2⟩;dsimp only at h1 h2⊢;have hsucc:((s.v.l.drop J).take (i+1)).map (·.id)=((s.v.l.drop J).take i).map (·.id)++[c.id]:=by rw[take_succ hc',aBk];rfl
   rw[hsucc];repeat first|refine v_ ?_|refine Dr.two ?_ ?_|intro
   rename_i X' x' h3 h4;exact⟨(X',x'),aD,aA,h3,h4⟩
  ·rintro⟨X,x⟩ F ⟨h1,h2⟩;dsimp only at h1 h2⊢;have hal:(oX s m).length=s.v.l.length - J:=by rw[hids,aAw,aBd]
   rw[show((s.v.l.drop J).take (s.v.l.length - J)).map (·.id)=oX s m by rw[hids,aAj (by rw[aBd];exact aAf _)]];have ha48:s.v.l.length - J≤48:=by omega
   generalize s.v.l.length - J=a at *;repeat first|refine v_ ?_|refine Dr.two ?_ ?_|intro
   refine eV (λ(E':Env) h1=>IF E' X a x (oX s m) 16 h1 (by omega) (by omega)) ?_;repeat first|refine v_ ?_|refine Dr.two ?_ ?_|intro
   refine rB (l_ [0,1,2,3] (g_ 4 (g_ 5 (g_ 6 (g_ 7 (n_ 8 (g_ 9 .nil))))))) ([aJ g3 195 _]) ?_;repeat first|refine v_ ?_|refine Dr.two ?_ ?_|intro
   refine iO (λ(E':Env)=>IZ E' P g5 s.v) ?_;rintro e H' ⟨U,uc,huc,rfl,rfl⟩;repeat first|refine v_ ?_|refine Dr.two ?_ ?_|intro
   rename_i W w1 hw1 hw2;refine cg rfl sD bA sK aC (λE' hE=>Mc E' ⟨m.k0,m.k1,m.k2,m.k3⟩ W _ w1 (s.v.l++s.v.t) dB o_) ?_;rintro e H' ⟨K2,b,y,hb,rfl,rfl⟩;repeat first|refine v_ ?_|refine Dr.two ?_ ?_|intro
   refine cg rfl sD bA sK aC (λE' hE=>Ji E' K2 b y _ 8 dB o_ o_) ?_;rintro e H' ⟨rfl,rfl⟩;repeat first|refine v_ ?_|refine Dr.two ?_ ?_|intro
   exact gS (cs:=[Value.int IntKind.i64 2,Value.int IntKind.i64 s.r,Value.int IntKind.i64 m.fr,Value.int IntKind.i64 0,Value.int IntKind.i64 0,Value.int IntKind.i64 0,Value.int IntKind.i64 0,Value.int IntKind.i64 m.base,.slice X (min a 16) (min a 16),.slice K2 (min b 8) (min b 8),Value.int IntKind.i64 0,Value.int IntKind.i64 0,Value.int IntKind.i64 0,Value.bool false,Value.int IntKind.i64 0,Value.int IntKind.i64 0,Value.int IntKind.i64 0,Value.int IntKind.i64 0,Value.int IntKind.i64 0]) (H':=[own fN X a x (oX s m),own bE K2 b y ((s.v.l++s.v.t).filter λx => !yN ⟨m.k0,m.k1,m.k2,m.k3⟩ x.id),dI P g s]) rfl aF rfl rfl rfl aS rfl aF aA ⟨X,a,x,K2,b,y,hal.symm,rfl,rfl⟩
end
end Go.Proofs.YtmilalkjbojciaaGreat.Sep
