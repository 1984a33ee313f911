/- Part AU: what it needs. No condition. -/
import Derived.Test.YtmilalkjbojciaaGreatLAT
set_option maxRecDepth 100000
set_option maxHeartbeats 8000000
open Go.Proofs.Tryz
namespace Go.Proofs.YtmilalkjbojciaaGreat.Sep
open Go.RowKit Reg Oct
open Mem hiding Rd
theorem Ox{v:Wv}{l:List cH}{i:Nat}{x:cH}(h:l[i]?=some x):v.run (l.take (i+1))=((v.run (l.take i)).step x).1:=iX h
theorem Wv.ok.mono{t t':Nat}{v:Wv}(h:v.ok t)(ht:t<=t'):v.ok t':=⟨h.cV,h.len,h.now,h.sub,by have:=h.aW;omega,by have:=h.app;omega,h.pk⟩
theorem cA.s5{X:Type}{p:X->Prop}{l:X->List aL}{B:List aL}(h:∀x,p x->cA (l x) B):cA [nI p l] B:=λF w hs=>by
 obtain⟨F1,F2,h1,h2,⟨x,G1,G2,g1,g2,g3,g4⟩,h4⟩:=hs;obtain⟨F',k1,k2⟩:=h x g3.1 G2 w g4;exact⟨F',k1,λb hb=>(h1 b).2 (.inl ((g1 b).2 (.inr (k2 b hb))))⟩
theorem aQ.mono{P Q:List Ov}{g t t':Nat}{v:Wv}(ht:t<=t'):cA [aQ P g t v] [aQ (P++Q) g t' v] :=
 cA.s5 λx hx=>(cA.cons cA.refl (cA.cons cA.refl (cA.cons cA.refl (cA.cons cA.refl (cA.cons cA.refl (cA.Ge (λ_z=>bZ.mono (P:=P) (Q:=Q) (uX ht)))))))).trans (cA.fp (l:=wL (P++Q) g (kt t') v) (x:=x) ⟨hx.1.mono ht,hx.2⟩)
section
variable (E:Env) (P:List Ov)
theorem p8(a:wM):G E 87 [.agg a.cs.toArray] [] (cM (.tuple #[]) []):=by
 refine t_ func87 ntmps87 ?_;repeat first|refine v_ ?_|intro
 exact r4
end
instance:cL 134 [.pointer none,.bool false] [(0,1),(1,1)]:=⟨⟨q_,q_⟩⟩
theorem aIh{d:Dv}{l:List cH}{i:Nat}{x:cH}(h:l[i]?=some x):d.J1 (l.take (i+1))=(d.J1 (l.take i)).pE x:=iX h
abbrev dA(P:List Ov)(gv g t:Nat)(d:Dv):List aL:=[aJ gv 134 [pt g,.bool d.short],aQ P g t d.w,aI P]
section
variable (E:Env) (P:List Ov) (gv g t:Nat) (d:Dv)
end
def BE(E:Env)(f:FuncId)(cs:List Value)(F:Nat->List cH):Prop:=∀M R,Sub E R M->∀r:Nat,r<=4->aK prog M f (.int .i64 r::cs).toArray [] λe H'=>∃A c,e=.returned (.slice A (F r).length c)/\H'=[own mX A (F r).length c (F r)]
def Sx(F:Nat->List cH):Prop:=∀r,(F r).length<=2/\∀st∈F r,dQ st.c.n
theorem rS{E:Env}{P:List Ov}{g t t':Nat}{v:Wv}{H R:List aL}(ht:t<=t')(hp:cS [aQ P g t v] H R):aB E H (aQ P g t' v::R):=by
 have:=aB.imp (E:=E) (aQ.mono (P:=P) (Q:=[]) ht) hp;rw[aAc] at this;exact this
theorem Uq(E:Env):BE E 135 [] AK:=λM R hE r hr=>by
 refine t_ func135 ntmps135 ?_;repeat first|refine v_ ?_|intro
 refine L.fQ sD (S.QZ (T:=mX) (e1:=pB 3 r 0 0) rfl eS rfl FV (by rfl) sD) ?_;rintro _ _ ⟨_,rfl,rfl⟩;repeat first|refine v_ ?_|intro
 exact jQ ⟨_,_,rfl,rfl⟩
theorem YZ(E:Env):BE E 134 [] EH:=λM R hE r hr=>by
 refine t_ func134 ntmps134 ?_;repeat first|refine v_ ?_|intro
 refine L.fQ sD (S.j8 (T:=mX) (e1:=pB 3 r 0 0) (e2:=pB 3 0 r 0) rfl eS eS rfl FV (by rfl) (by rfl) sD) ?_;rintro _ _ ⟨_,rfl,rfl⟩;repeat first|refine v_ ?_|intro
 exact jQ ⟨_,_,rfl,rfl⟩
theorem KW(E:Env)(g1:Nat)(kind:Int)(hb:gE E g1 [.int .i64 kind]):BE E 132 [pt g1] (pH kind):=λM R hE r hr=>by
 have hb:=hb.sub hE;show G M 132 [.int .i64 r,pt g1] [] _;refine t_ func132 ntmps132 ?_;repeat first|refine v_ ?_|intro
 refine L.fQ sD (S.QZ (T:=mX) (e1:=pB kind r 0 0) rfl eS rfl FV (by rfl) sD) ?_;rintro _ _ ⟨_,rfl,rfl⟩;repeat first|refine v_ ?_|intro
 exact jQ ⟨_,_,rfl,rfl⟩
theorem S4(E:Env)(kind:Int):G E 64 [.int .i64 kind] [] λe H'=>∃g1,e=.returned (.func (.func 132) #[] #[pt g1])/\H'=[aJ g1 3 [.int .i64 kind]]:=by
 refine t_ func64 ntmps64 ?_;repeat first|refine v_ ?_|intro
 exact jQ ⟨_,rfl,rfl⟩
theorem Am:dQ 0:=⟨by decide,by decide⟩
theorem aHx:Sx AK:=λr=>⟨aCq 1,λst hst=>by rw[aAp.1 hst];exact Am⟩
theorem BL(kind:Int):Sx (pH kind):=λr=>⟨aCq 1,λst hst=>by rw[aAp.1 hst];exact Am⟩
theorem Nn:Sx EH:=λr=>⟨aAf 2,λst hst=>by
 rcases aEj.1 hst with h|h
 ·rw[h];exact Am
 ·rw[aAp.1 h];exact Am⟩
theorem Hu(F:Nat->List cH)(i k:Nat)(d:Dv):AW F i (k+1) d=AW F (i+1) k (d.J1 (F i)):=rfl
section
variable (E:Env) (P:List Ov) (gv g t:Nat) (d:Dv)
end
theorem Fz{v:Wv}(hn:1<=v.bU.length):(v.step (pB 7 0 0 0)).1=(v.bV 0).1:=by
 unfold Wv.step;rw[if_neg (show ¬(pB 7 0 0 0).check≠0 by decide)];have h0:(pB 7 0 0 0).r.toNat=0:=rfl;rw[h0,aAa (show 0<v.bU.length by omega)];rfl
theorem wY(k:Nat)(d:Dv)(n:Nat)(h:d.w.ws≠[]):nJ (k+1) d n=nJ k (d.pE (pB 7 0 0 0)) (n+1):=by
 show(match d.w.ws with|[]=>(d,n)|_::_=>nJ k (d.pE (pB 7 0 0 0)) (n+1))=_;cases hw:d.w.ws with
 |nil=>exact absurd hw h
 |cons p ws=>rfl
theorem qN(k:Nat)(d:Dv)(n:Nat)(h:d.w.ws=[]):nJ k d n=(d,n):=by
 cases k with
 |zero=>rfl
 |succ k =>
  show(match d.w.ws with|[]=>(d,n)|_::_=>nJ k (d.pE (pB 7 0 0 0)) (n+1))=_;rw[h]
theorem CH:∀(k:Nat) (d:Dv) (n:Nat) (j:Nat),1<=d.w.bU.length->nL d.w.ws<=k->nJ (k+j) d n=nJ k d n
 |0,d,n,j,_,h=>by
  have:d.w.ws=[]:=by
   cases hw:d.w.ws with
   |nil=>rfl
   |cons p ws=>rw[hw] at h;have:=(IN p).1;have e:nL (p::ws)=wt p+nL ws:=rfl;omega
  rw[qN _ d n this,qN _ d n this]
 |k+1,d,n,j,hn,h=>by
  by_cases hw:d.w.ws=[]
  ·rw[qN _ d n hw,qN _ d n hw]
  ·have e:k+1+j=(k+j)+1:=o_;rw[e,wY _ d n hw,wY _ d n hw];refine CH k _ _ j (by rw[(oY d _).2];exact hn) ?_;obtain⟨p,ws,hp⟩:∃p ws,d.w.ws=p::ws:=by
    cases hw2:d.w.ws with
    |nil=>exact absurd hw2 hw
    |cons p ws=>exact⟨p,ws,rfl⟩
   have:=Ad hp;show nL (d.w.step (pB 7 0 0 0)).1.ws<=k;rw[Fz hn];omega
section
variable (E:Env) (P:List Ov) (gv g t:Nat) (d:Dv)
end
theorem N2(v:Wv):v.round.w.cf=v.cf/\v.round.w.bU.length=v.bU.length:=by
 unfold Wv.round;have e:=λ(a b c:Dv) (h:a.w.cf=b.w.cf/\a.w.bU.length=b.w.bU.length) (k:b.w.cf=c.w.cf/\b.w.bU.length=c.w.bU.length)=>(⟨h.1.trans k.1,h.2.trans k.2⟩:a.w.cf=c.w.cf/\a.w.bU.length=c.w.bU.length)
 exact e _ _ ⟨v,false⟩ (oY _ _) (e _ _ _ (uC _) (e _ _ _ (oZ _ _ _) (e _ _ _ (uC _) (e _ _ _ (oZ _ _ _) (e _ _ _ (oY _ _) (e _ _ _ (uC _) (e _ _ _ (oZ _ _ _) (e _ _ _ (oZ _ _ _) (uC _)))))))))
theorem Py(v:Wv):v.start.cf=v.cf/\v.start.bU.length=v.bU.length:=by
 unfold Wv.start;have h1:=oY ⟨v,false⟩ (pB 11 0 0 0);have h2:=oZ (Dv.pE ⟨v,false⟩ (pB 11 0 0 0)) 0 (pH 14);have h3:=oZ ((Dv.pE ⟨v,false⟩ (pB 11 0 0 0)).all 0 (pH 14)) 0 (pH 13);exact⟨h3.1.trans (h2.1.trans h1.1),h3.2.trans (h2.2.trans h1.2)⟩
theorem Fk{k:Nat}{v:Wv}{sh:Bool}{n:Nat}(h:v.quiet=true):xY (k+1) v sh n=(v,n,sh):=by
 show(if v.quiet then(v,n,sh) else _)=_;rw[if_pos h]
theorem OF{k:Nat}{v:Wv}{sh:Bool}{n:Nat}(h:v.quiet=false):xY (k+1) v sh n=xY k v.round.w (v.round.short||sh) (n+1):=by
 show(if v.quiet then(v,n,sh) else _)=_;rw[if_neg (by rw[h];decide)]
section
variable (E:Env) (P:List Ov) (g t:Nat) (v:Wv)
end
section
variable (E:Env) (P:List Ov) (g:Nat) (cf:fU) (n:Nd) (k:Int)
theorem aRf(r:Int)(hr:0<=r/\r<=3)(z:LS)(hz:z.bF=[])(gl gd:Nat)(k:Int):G E 168 [.int .i64 r,pt gl] [iB gl gd z k,aI P] λe H'=>∃gs,e=.returned (pt gs)/\H'=[iB gl gd z k,dI P gs (Qb r),aI P]:=by
 have new:=λM=>Xt M P r;rw[show dF r 0 3=r by unfold dF;rw[if_neg o_,if_neg o_],show(⟨Hb,[],r⟩:Sv)=Qb r from rfl] at new;refine t_ func168 ntmps168 ?_;repeat first|refine v_ ?_|intro
 refine bW new ?_;rintro e H' ⟨gs0,rfl,rfl⟩;repeat first|refine v_ ?_|intro
 refine bW (λM=>QM M gl gd z k) ?_;rintro e H' ⟨O,oc,xs,hxs,hxw,hxl,rfl,rfl⟩;refine gk bG ?_;rw[hz] at hxs⊢;obtain rfl:xs=[]:=List.map_eq_nil_iff.1 hxs;repeat first|refine v_ ?_|intro
 refine C.scan (Y:=Unit) (l:=([]:List Oc)) (n:=0) rfl (λi _=>[(0,.int .i64 r),(5,pt gs0),(13,.slice O 0 oc),(14,.int .i64 0),(15,.int .i64 i)]) (λ_ _=>[dI P gs0 (Qb r),aI P,iB gl gd z k]) (λ_ _=>True) () aD aA trivial ?_ ?_
 ·intro i _ _ _ hi;exact absurd hi (aFk i)
 ·intro _ _ _;repeat first|refine v_ ?_|intro
  exact jQ ⟨gs0,rfl,rfl⟩
theorem aRm(r:Int)(hr:0<=r/\r<=3)(z:LS)(gd:Nat)(hd:z.dead=false)(ha:z.aG = -1)(hk:k<=10000000000000)(hb:(LS.open z.N z.D (-1)).bF=[]):G E 107 [.int .i64 r,pt gd] [kJ gd z k,aI P] λe H'=>∃gm gl gs,e=.returned (pt gm)/\H'=ZG P gm gl gs gd (LS.open z.N z.D (-1)) (k+2048) (Qb r)++[aI P]:=by
 have pG:=λM=>Xy M gd z k hd ha hk;have rcl:=λM gl=>aRf M P r hr (LS.open z.N z.D (-1)) hb gl gd (k+2048);generalize LS.open z.N z.D (-1)=z2 at *;refine t_ func107 ntmps107 ?_;repeat first|refine v_ ?_|intro
 refine bW pG ?_;rintro e H' ⟨gl,rfl,rfl⟩;repeat first|refine v_ ?_|intro
 refine bW (λM=>rcl M gl) ?_;rintro e H' ⟨gs,rfl,rfl⟩;repeat first|refine v_ ?_|intro
 rename_i gm;exact jQ ⟨gm,gl,gs,rfl,rfl⟩
theorem aRs(r:Nat)(N:Nat)(hr:r<=3)(hN:cf.eF=N)(h0:1<=N)(h1:N<=64):G E 48 [.agg cf.cs.toArray,.int .i64 r] [aI P] λe H'=>∃g,e=.returned (pt g)/\H'=[bZ P g cf (Nd.new r N) 2048,aI P]:=by
 have hok:(Nd.new r N).ok:=Nd.ok.new ⟨by omega,by omega⟩ h0 h1;have nw:=λM=>ZT M (2*(N:Int)+1) N rfl h0 h1;have pG:=λM g'=>aRm M P 0 r ⟨by omega,by omega⟩ (LS.new N) g' rfl rfl sD (by show(LS.open N (LS.new N).D (-1)).bF=[];rw[HW N h0 h1];rfl);simp only[Int.zero_add] at pG;have e:LS.open (LS.new N).N (LS.new N).D (-1)=LS.new N:=HW N h0 h1;rw[e] at pG;have c1:dF (r:Int) 0 3=r:=by unfold dF;rw[if_neg o_,if_neg o_]
 have c2:dF cf.eF 1 64=N:=by rw[hN];unfold dF;rw[if_neg o_,if_neg o_]
 have hw:IntKind.i64.wrap (IntKind.i64.wrap (2*(N:Int))+1)=2*(N:Int)+1:=by rw[aAq (2*(N:Int)) o_,aAq _ o_]
 unfold Nd.new at hok⊢;generalize LS.new N=zz at *;dsimp only[fU.cs];refine t_ func48 ntmps48 ?_;repeat first|refine v_ ?_|intro
 refine rA (l_ [0,1] (g_ 2 (n_ 3 (g_ 4 (n_ 5 .nil))))) ?_;repeat first|refine v_ ?_|intro
 rw[c1,c2];rename_i gc gn;refine bW nw ?_;rintro e H' ⟨g',rfl,rfl⟩;repeat first|refine v_ ?_|intro
 refine C.bL 12 (l_ [0,1,2,3,4,5,6,7,8] (g_ 9 (l_ [10,11] (g_ 12 .nil)))) ([aJ gn 181 (ET cf r (.pointer none) g')]) q_ q_ aA ?_;repeat first|refine v_ ?_|intro
 refine iO (λM=>pG M g') ?_;rintro e H' ⟨gm,gl,gs,rfl,rfl⟩;repeat first|refine v_ ?_|intro
 exact aR (H':=[bZ P gn cf ⟨r,zz,true,⟨none,[]⟩,Qb r⟩ 2048,aI P]) rfl aF (aB.trans (aB.aV (l:=fV P gn cf ⟨r,zz,true,⟨none,[]⟩,Qb r⟩ 2048 ⟨gm,gl,gs,g'⟩++[aI P]) aC) (aB.cF (cA.append (bZ.up hok rfl) cA.refl))) ⟨gn,rfl,rfl⟩
end
section
variable (E:Env) (P:List Ov)
theorem aRn(cf:fU)(hf:cf.cV):G E 8 [.agg cf.cs.toArray] [aI P] λe H'=>∃Q g,e=.returned (.tuple #[pt g,.int .i64 0])/\H'=[aQ (P++Q) g 1 (Wv.new cf),aI (P++Q)]:=by
 have sO:=λM=>KC M cf;rw[if_pos hf] at sO;obtain⟨hr,hs,_⟩:=hf;have hN:cf.eF=(cf.eF.toNat:Int):=o_;have hR:cf.bN=(cf.bN.toNat:Int):=o_;have mk:∀ {M:Env} {H R:List aL} {Q:List Ov} {g:Nat} {x:AM},x.gs.length=cf.bN.toNat->cS [aJ g 121 (wC x 0 0 cf cf.bN.toNat 0),aZ x.gw [],cK x.gg 0 [],own mK x.sA 0 x.sc [],own vE x.nA cf.bN.toNat x.nc x.gs,aO (nP (P++Q) cf 2048) (x.gs.zip (gU cf.eF.toNat cf.bN.toNat))] H R->aB M H (aQ (P++Q) g 1 (Wv.new cf)::R):=by
  intro M H R Q g x hx hp;have hl:=rX cf.eF.toNat cf.bN.toNat;have hp':cS ([aJ g 121 (wC x 0 ([]:List fM).length cf (gU cf.eF.toNat cf.bN.toNat).length 0),aZ x.gw [],cK x.gg 0 [],own mK x.sA ([]:List fM).length x.sc [],own vE x.nA (gU cf.eF.toNat cf.bN.toNat).length x.nc x.gs,aO (nP (P++Q) cf 2048) (x.gs.zip (gU cf.eF.toNat cf.bN.toNat))]) H R:=by rw[hl];exact hp
  have c1:=aB.imp (E:=M) cA.refl hp';dsimp only[List.cons_append,List.nil_append] at c1;refine c1.trans (aB.trans (aB.imp (A:=[aO (nP (P++Q) cf 2048) (x.gs.zip (gU cf.eF.toNat cf.bN.toNat))]) (B:=[aO (nP (P++Q) cf (kt 1)) (x.gs.zip (gU cf.eF.toNat cf.bN.toNat))]) (cA.Ge (λz=>bZ.qK sD)) aC) ?_);dsimp only[List.cons_append,List.nil_append];exact aB.fp (l:=wL (P++Q) g (kt 1) (Wv.new cf)) (x:=x) ⟨Wv.VX ⟨hr,hs,‹_›⟩,by show x.gs.length=(gU _ _).length;rw[hl];exact hx⟩ aC
 have nw:=λM PP r hr3=>aRs M PP (cf:=cf) r cf.eF.toNat hr3 hN o_ o_;generalize cf.eF.toNat=N at *;obtain⟨n,hn⟩:∃n,cf.bN.toNat=n:=⟨_,rfl⟩
 rw[hn] at hR mk;refine t_ func8 ntmps8 ?_;repeat first|refine v_ ?_|intro
 refine bK sO ?_;repeat first|refine v_ ?_|intro
 rename_i g1 gw gg gW;have cw:aB E [aJ gW 121 (wC ⟨gw,gg,none,0,none,0,[]⟩ 0 0 cf 0 0),aJ gg 116 [.map none,.slice none 0 0,.int .i64 0],aJ gw 113 [.slice none 0 0],aJ g1 23 cf.cs,aI P]
   [aJ g1 23 cf.cs,aJ gW 121 (wC ⟨gw,gg,none,0,none,0,[]⟩ 0 0 cf 0 0),aZ gw [],cK gg 0 [],own mK none 0 0 [],own vE none 0 0 [],aO (nP (P++[]) cf 2048) [],aI (P++[])]:=by
  have h1:=aZ.mk (E:=E) (R:=[aJ gW 121 (wC ⟨gw,gg,none,0,none,0,[]⟩ 0 0 cf 0 0),aJ gg 116 [.map none,.slice none 0 0,.int .i64 0],aJ g1 23 cf.cs,aI P]) (g:=gw) (x:=⟨none,0,[]⟩) (ws:=[]) ⟨rfl,(λ_ h=>(aAk h).elim),by decide,by decide⟩;have c1:=aB.trans (aB.trans (aB.trans (aB.nil iC) (aB.kP DD)) (aB.aV (l:=Ku gw ⟨none,0,[]⟩++[aJ gW 121 (wC ⟨gw,gg,none,0,none,0,[]⟩ 0 0 cf 0 0),aJ gg 116 [.map none,.slice none 0 0,.int .i64 0],aJ g1 23 cf.cs,aI P]) (H:=[aO DD [],own iC none 0 0 [],aJ gW 121 (wC ⟨gw,gg,none,0,none,0,[]⟩ 0 0 cf 0 0),aJ gg 116 [.map none,.slice none 0 0,.int .i64 0],aJ gw 113 [.slice none 0 0],aJ g1 23 cf.cs,aI P]) (by dsimp only[Ku,wr,List.cons_append,List.nil_append,List.length_nil];exact aC))) h1;have h2:=cK.mk (E:=E) (R:=[aZ gw [],aJ gW 121 (wC ⟨gw,gg,none,0,none,0,[]⟩ 0 0 cf 0 0),aJ g1 23 cf.cs,aI P]) (g:=gg) (x:=⟨none,none,0⟩) (r:=0) (l:=[]) ⟨rfl,by decide,λ_=>rfl,by decide⟩;have c2:=aB.trans (aB.trans (aB.trans c1 (aB.trans (aB.nil cP) aB.l6)) (aB.aV (l:=[aJ gg 116 [.map none,.slice none 0 0,.int .i64 0],Dq none [],own cP none 0 0 [],aZ gw [],aJ gW 121 (wC ⟨gw,gg,none,0,none,0,[]⟩ 0 0 cf 0 0),aJ g1 23 cf.cs,aI P]) aC)) h2;rw[aAc];exact aB.trans (aB.trans c2 (aB.trans (aB.nil mK) (aB.trans (aB.nil vE) (aB.kP (nP P cf 2048))))) aA
 refine C.scan (Y:=List Ov×Option Addr×Nat×List Nat) (l:=List.range n) (n:=n) aFu.symm (λi _=>[(1,pt g1),(5,pt gW),(21,.int .i64 n),(22,.int .i64 i)])
  (λi y=>[aJ g1 23 cf.cs,aJ gW 121 (wC ⟨gw,gg,none,0,y.2.1,y.2.2.1,y.2.2.2⟩ 0 0 cf i 0),aZ gw [],cK gg 0 [],own mK none 0 0 [],own vE y.2.1 i y.2.2.1 y.2.2.2,aO (nP (P++y.1) cf 2048) (y.2.2.2.zip (gU N i)),aI (P++y.1)]) (λi y=>y.2.2.2.length=i) ([],none,0,[]) (by rw[<-hR];exact aD) cw rfl ?_ ?_
 ·rintro i ⟨Q,nA,nc,gs⟩ r F hi hr2 hgl;obtain rfl:i=r:=by rw[List.getElem?_range hi] at hr2;injection hr2
  dsimp only at hgl⊢;have nw2:=λM=>nw M (P++Q) i o_;repeat first|refine v_ ?_|intro
  refine C.bL 12 (l_ [0,1,2,3,4,5,6] (g_ 7 (g_ 8 (g_ 9 (l_ [10,11] (g_ 12 .nil)))))) ([aJ g1 23 _,aJ gW 121 _]) q_ q_ aA ?_;repeat first|refine v_ ?_|intro
  refine iO nw2 ?_;rintro e H' ⟨g2,rfl,rfl⟩;repeat first|refine v_ ?_|intro
  rename_i A2 c2 hc1 hc2;have hz:(gs++[g2]).zip (gU N (i+1))=gs.zip (gU N i)++[(g2,Nd.new i N)]:=by rw[Fa,List.zip_append (by rw[hgl,rX])];rfl
  refine⟨(Q,A2,c2,gs++[g2]),aD,?_,by simp[hgl]⟩;dsimp only;rw[hz];exact aB.trans (aB.push (f:=nP (P++Q) cf 2048) (x:=(g2,Nd.new i N)) aC) aA
 ·rintro⟨Q,nA,nc,gs⟩ F hgl;dsimp only at hgl⊢;repeat first|refine v_ ?_|intro
  exact vT (H':=[aQ (P++Q) gW 1 (Wv.new cf),aI (P++Q)]) rfl aF aF (aB.trans (mk (x:=⟨gw,gg,none,0,nA,nc,gs⟩) hgl aC) aA) ⟨Q,gW,rfl,rfl⟩
end
def Ups(v:Wv):Prop:=∀n∈v.bU,n.up=true
def aRo(v:Wv)(st:cH):Prop:=(st.kind=1\/(3<=st.kind/\st.kind<=7))\/st.n=0/\(st.kind=11\/st.kind=15\/(st.kind=13\/st.kind=14)/\Ups v)
def aRv(I:Wv->Prop)(l:List cH):Prop:=∀v,I v->∀st∈l,aRo v st/\I (v.step st).1
theorem aRx{I:Wv->Prop}:∀ {l:List cH} {d:Dv},aRv I l->I d.w->I (d.J1 l).w
 | [],_,_,h=>h
 |st::l,d,hk,h=>aRx (l:=l) (d:=d.pE st) (λv hv x hx=>hk v hv x (aBl _ hx)) (hk d.w h st aBo).2
theorem aSa{st:cH}(hn:st.n=0)(hk:st.kind=11\/st.kind=13\/st.kind=14):aRv Ups [st]:=λv hv x hx=>by
 obtain rfl:=aAp.1 hx;refine⟨.inr ⟨hn,hk.elim .inl λh=>.inr (.inr ⟨h,hv⟩)⟩,?_⟩;unfold Wv.step;split
 ·exact hv
 ·split
  ·exact hv
  ·rename_i n he;have hu:=hv n (aAi he);have hw:(wF v.ref n x).1.2.up=true:=by
    unfold wF;rcases hk with h|h|h
    ·rw[if_pos h];split<;>exact hu
    ·rw[if_neg o_,if_neg o_,if_pos h];unfold Nd.rO;rw[if_pos hu];exact hu
    ·rw[if_neg o_,if_neg o_,if_neg o_,if_neg o_,if_pos h];split
     ·exact hu
     ·show(n.arm _).up=true;unfold Nd.arm;rw[if_pos hu]
   unfold Wv.SB;rw[if_neg o_,if_neg o_,if_neg o_,if_neg o_,if_neg o_,if_neg o_,if_neg o_,if_neg o_];intro m hm;rcases aCr hm with h|h
   ·exact hv m h
   ·rw[h];exact hw
noncomputable def aRw:Nat->Wv->Bool
 |0,v=>v.bU.all (·.up)
 |k+1,v=>v.bU.all (·.up)&&(v.quiet||aRw k v.round.w)
theorem aRy:∀ {k:Nat} {v:Wv},aRw k v=true->Ups v
 |0,_,h=>λn hn=>aDm.1 h n hn
 |_+1,_,h=>λn hn=>aDm.1 (Bool.and_eq_true_iff.1 h).1 n hn
theorem aSf{k:Nat}{v:Wv}(h:aRw (k+1) v=true)(hq:v.quiet=false):aRw k v.round.w=true:=by
 have:=(Bool.and_eq_true_iff.1 h).2;rw[hq] at this;exact this
theorem aRu{l:List cH}(h:∀st∈l,(st.kind=1\/(3<=st.kind/\st.kind<=7))\/st.n=0/\(st.kind=11\/st.kind=15)):aRv (λ_=>True) l:=λ_ _ st hst=>⟨(h st hst).imp id λq=>⟨q.1,q.2.imp id .inl⟩,trivial⟩
section
variable (E:Env) (P:List Ov) (g:Nat) (cf:fU) (n:Nd) (k:Int)
theorem aRe(hu:n.up=true):G E 129 [pt g] [bZ P g cf n k,aI P] λe H'=>∃Q,e=.returned (.int .i64 n.rO.2)/\H'=[bZ (P++Q) g cf n.rO.1 (k+2048),aI (P++Q)]:=by
 refine oG (λx ho _=>?_) (λx ho h=>by rw[hu] at h;cases h)
 ·unfold Nd.rO;rw[if_pos hu];dsimp only[fV,oT,List.cons_append,List.nil_append];refine t_ func129 ntmps129 ?_;repeat first|refine v_ ?_|intro
  refine eV (λM=>qL M g cf n.r x.gm x.gd) ?_;repeat first|refine v_ ?_|intro
  exact aR (H':=[bZ (P++[]) g cf n (k+2048),aI (P++[])]) rfl aF (aB.trans (aB.aV (l:=fV P g cf n k x++[aI P]) aC) (aB.cF (cA.append ((fV.mono o_).trans (bZ.up ho hu)) (by rw[aAc];exact cA.refl)))) ⟨[],rfl,rfl⟩
theorem aRq(hu:n.up=true)(q:Int)(hq:q<=9223372036854775807):G E 131 [pt g,.int .i64 q] [bZ P g cf n k] (cM (.tuple #[]) [bZ P g cf (n.arm q) k]):=by
 refine oG (λx ho _=>?_) (λx ho h=>by rw[hu] at h;cases h)
 ·rw[aAc];have hok:=ho.arm hq;have arm:=λM=>ZI M x.gl x.gd n.ls k q hq;unfold Nd.arm at hok⊢;rw[if_pos hu] at hok⊢;have e:n.ls.Tm q=n.ls.arm q:=rfl;rw[e] at arm;generalize n.ls.arm q=zz at *;refine t_ func131 ntmps131 ?_;repeat first|refine v_ ?_|intro
  refine eV (λM=>qL M g cf n.r x.gm x.gd) ?_;repeat first|refine v_ ?_|intro
  refine bK arm ?_;repeat first|refine v_ ?_|intro
  exact gO rfl (aB.trans (aB.aV (l:=fV P g cf ⟨n.r,zz,true,n.lc,n.s⟩ k x) aC) (aB.cF (bZ.up hok rfl))) ⟨rfl,rfl⟩
end
section
variable (E:Env) (P:List Ov) (g gr:Nat) (x:AM) (now:Int) (sn:Nat) (cf:fU) (nn:Nat) (sub:Int) (n:Nd) (k:Int) (r:Int) (l:List dK)
theorem aRh(st:cH)(hk:k<=10000000000000)(hn:st.n=0)(hm:st.kind=11\/st.kind=15\/(st.kind=13\/st.kind=14)/\n.up=true):G E 61 [pt g,pt gr,.agg st.cs.toArray] [aJ g 121 (wC x now sn cf nn sub),bZ P gr cf n k,cK x.gg r l,aI P] λe H'=>∃Q,e=.returned (.agg (wF r n st).2.cs.toArray)/\H'=[aJ g 121 (wC x now sn cf nn sub),bZ (P++Q) gr cf (wF r n st).1.2 (k+4128),cK x.gg (wF r n st).1.1 l,aI (P++Q)]:=by
 have fl:=λM e=>tD M e;have up:=λM=>TI M P gr cf n k;unfold wF;by_cases h11:st.kind=11
 ·rw[if_pos h11];rw[if_neg (show ¬255<st.n by omega)];refine t_ func61 ntmps61 ?_;repeat first|refine v_ ?_|intro
  rename_i g5 g6;refine rB (l_ [0,1,2,3,4,5,6] (g_ 7 .nil)) ([aJ g 121 _,aJ g5 39 _]) ?_;repeat first|refine v_ ?_|intro
  refine eJ (λM=>Pz M x.gg r l st.n) ?_;repeat first|refine v_ ?_|intro
  exact cI (H':=[aJ g 121 (wC x now sn cf nn sub),bZ (P++[]) gr cf n (k+4128),cK x.gg (dF st.n 0 255) l,aI (P++[])]) rfl aF rfl rfl rfl aS rfl (by rw[aAc];exact aB.trans (aB.imp (bZ.qK (show k<=k+4128 by omega)) aC) aA) ⟨[],rfl,rfl⟩
 rw[if_neg h11];rw[if_neg (show ¬st.kind=12 by omega)];by_cases h13:st.kind=13
 ·rw[if_pos h13];have rs:=λM=>aRe M P gr cf n k (hm.elim (λh=>absurd h h11) λh=>h.elim (λh=>by omega) λh=>h.2);generalize n.rO=res at *;obtain⟨n2,code⟩:=res;dsimp only at rs⊢;refine t_ func61 ntmps61 ?_;repeat first|refine v_ ?_|intro
  refine bW rs ?_;rintro e H' ⟨Q,rfl,rfl⟩;repeat first|refine v_ ?_|intro
  refine bK (λM=>fl M (code)) ?_;repeat first|refine v_ ?_|intro
  exact cI (H':=[aJ g 121 (wC x now sn cf nn sub),bZ (P++Q) gr cf n2 (k+4128),cK x.gg r l,aI (P++Q)]) rfl aF rfl rfl rfl aS rfl (aB.trans (aB.imp (bZ.qK (show k+2048<=k+4128 by omega)) aC) aA) ⟨Q,rfl,rfl⟩
 rw[if_neg h13];by_cases h15:st.kind=15
 ·rw[if_pos h15];have pk:=λM=>Wt M P gr cf n k hk;generalize n.pack=res at *;obtain⟨n2,code⟩:=res;dsimp only at pk⊢;refine t_ func61 ntmps61 ?_;repeat first|refine v_ ?_|intro
  refine bK pk ?_;repeat first|refine v_ ?_|intro
  refine bK (λM=>fl M (code)) ?_;repeat first|refine v_ ?_|intro
  exact cI (H':=[aJ g 121 (wC x now sn cf nn sub),bZ (P++[]) gr cf n2 (k+4128),cK x.gg r l,aI (P++[])]) rfl aF rfl rfl rfl aS rfl (by rw[aAc];exact aB.trans (aB.imp (bZ.qK (show k+4128<=k+4128 by omega)) aC) aA) ⟨[],rfl,rfl⟩
 rw[if_neg h15];obtain⟨h14,hu⟩:=(hm.resolve_left h11).resolve_left h15;have h14:st.kind=14:=h14.resolve_left h13;rw[if_pos h14,if_neg (show ¬4096<st.n by omega),if_pos hu];rw[hu] at up;have ar:=λM=>aRq M P gr cf n k hu (st.n - 1) o_;refine t_ func61 ntmps61 ?_;repeat first|refine v_ ?_|intro
 refine bK up ?_;repeat first|refine v_ ?_|intro
 refine bK ar ?_;repeat first|refine v_ ?_|intro
 exact cI (H':=[aJ g 121 (wC x now sn cf nn sub),bZ (P++[]) gr cf (n.arm (st.n - 1)) (k+4128),cK x.gg r l,aI (P++[])]) rfl aF rfl rfl rfl aS rfl (by rw[aAc];exact aB.trans (aB.imp (bZ.qK (show k<=k+4128 by omega)) aC) aA) ⟨[],rfl,rfl⟩
end
section
variable (E:Env) {P:List Ov} {g gr:Nat} {t:Nat} {v:Wv} {x:AM} {n:Nd} {i:Nat} (ho:v.ok t) (hx:x.gs.length=v.bU.length) (ht:t<=1000000)
include ho hx ht
theorem aRg(hg:x.gs[i]?=some gr)(hn:v.bU[i]?=some n)(st:cH)(hst:st.n=0)(hm:st.kind=11\/st.kind=15\/(st.kind=13\/st.kind=14)/\n.up=true):G E 61 [pt g,pt gr,.agg st.cs.toArray] (wL P g (kt t) v x++[aI P]) (oL P g t (v.Mf i n st)):=by
 dsimp only[wL,List.cons_append,List.nil_append];refine aK.pre (vR (k:=kt t) hg hn (.aM (.aM (.aM (.aM (.aM .aN)))))) ?_;refine aK.pre (aB.lB (l:=[aJ g 121 (wC x v.now v.aW.length v.cf v.bU.length v.sub),bZ P gr v.cf n (kt t),cK x.gg v.ref v.app,aI P]) aC) (aK.post (aK.beside λM hE=>aRh M P g gr x v.now v.aW.length v.cf v.bU.length v.sub n (kt t) v.ref v.app st (EA ht) hst hm) ?_);rintro e H' ⟨H1,⟨Q,rfl,rfl⟩,rfl⟩;dsimp only[List.cons_append,List.nil_append];exact⟨_,BZ (t:=t) (v:=v) (v':=(v.Mf i n st).1) (aCq t) rfl hg hn (Bf (d:=4128) sD) (ho.Mf i n st) hx rfl rfl rfl aC,Q,rfl,rfl⟩
end
theorem aRd(E:Env)(P:List Ov)(g:Nat)(t:Nat)(v:Wv)(ht:t<=1000000)(st:cH)(hc:dQ st.c.n)(hm:aRo v st):G E 10 [pt g,.agg st.cs.toArray] [aQ P g t v,aI P] (oL P g t (v.step st)):=by
 refine aK.fp .aN (λx hxx=>?_);obtain⟨ho,hx⟩:=hxx;have rK:=ho.rK;have his:=λM hb=>Ix M g x v.now v.aW.length v.cf v.bU.length v.sub hb rK.2;rw[decide_eq_true o_] at his;have fl:=λM e=>tD M e;have same:∀ {M:Env} {H R:List aL},cS (wL P g (kt t) v x) H R->aB M H (aQ P g (t+1) v::R):=λhp=>Di (t:=t) (v:=v) (v':=v) (x':=x) (Q:=[]) (aCq t) (aAc P).symm ho.same hx rfl rfl rfl hp;unfold Wv.step;by_cases hck:st.check=0
 case neg =>
  rw[if_pos hck];have sO:=λM=>Bd M st;generalize st.check=ck at *;dsimp only[wL,List.cons_append,List.nil_append] at same⊢;refine t_ func10 ntmps10 ?_;repeat first|refine v_ ?_|intro
  refine eV his ?_;repeat first|refine v_ ?_|intro
  refine bK sO ?_;repeat first|refine v_ ?_|intro
  refine bK (λM=>fl M ck) ?_;repeat first|refine v_ ?_|intro
  exact cI (H':=[aQ P g (t+1) v,aI P]) rfl aF rfl rfl rfl aS rfl (aB.trans (same aC) aA) ⟨[],rfl,by rw[aAc]⟩
 obtain⟨⟨k1,o9⟩,⟨⟨r0,r255⟩,_⟩,⟨_,n0,n1⟩,_⟩:=cH.bR hck;have sO:=λM=>Bd M st;rw[hck] at sO;rw[if_neg (by rw[hck];decide)];have hr:st.r=(st.r.toNat:Int):=o_;cases hn:v.bU[st.r.toNat]? with
 |none =>
  have:=aBx.1 hn;have aty:=λM hb=>EN M g x v.now v.aW.length v.cf v.bU.length v.sub st.r hb rK.2 rK.1 (.inr o_);dsimp only[wL,List.cons_append,List.nil_append] at same⊢;refine t_ func10 ntmps10 ?_;repeat first|refine v_ ?_|intro
  refine eV his ?_;repeat first|refine v_ ?_|intro
  refine bK sO ?_;repeat first|refine v_ ?_|intro
  refine eV aty ?_;repeat first|refine v_ ?_|intro
  refine bK (λM=>fl M 4) ?_;repeat first|refine v_ ?_|intro
  exact cI (H':=[aQ P g (t+1) v,aI P]) rfl aF rfl rfl rfl aS rfl (aB.trans (same aC) aA) ⟨[],rfl,by rw[aAc]⟩
 |some n =>
  obtain⟨gr,hg⟩:∃gr,x.gs[st.r.toNat]?=some gr:=⟨_,aAa (by have:=(aAd.1 hn).1;omega)⟩
  have aty:=λM hb hG=>qW M g x v.now v.aW.length v.cf v.bU.length v.sub st.r.toNat gr hb rK.2 hG hg;rw[<-hr] at aty;show G E _ _ _ (oL P g t (v.SB st.r.toNat n st));generalize st.r.toNat=i at *;have sb:=λM=>K0 M (P:=P) (g:=g) ho hx ht hg hn st.c hc;have hmem:=aAi hn;have ak:=λM=>WR M (P:=P) (g:=g) ho hx ht hg hn st;have cm:=λM=>LZ M (P:=P) (g:=g) ho hx ht st.n;have pm:=λM=>SU M (P:=P) (g:=g) ho hx ht hg hn st.r;have tk:=λM=>Qf M (P:=P) (g:=g) ho hx ht st.n;have dl:=λM=>Jl M (P:=P) (g:=g) ho hx ht st.i;have hm1:¬(st.kind=1\/(3<=st.kind/\st.kind<=7))->st.n=0/\(st.kind=11\/st.kind=15\/(st.kind=13\/st.kind=14)/\n.up=true):=λh=>(hm.resolve_left h).imp id λq=>q.imp id λq=>q.imp id λq=>⟨q.1,q.2 n hmem⟩
  have hmq:=λM h=>aRg M (P:=P) (g:=g) ho hx ht hg hn st (hm1 h).1 (hm1 h).2;clear same;dsimp only[wL,List.cons_append,List.nil_append] at sb ak cm pm tk dl hmq⊢;refine t_ func10 ntmps10 ?_;repeat first|refine v_ ?_|intro
  refine eV his ?_;repeat first|refine v_ ?_|intro
  refine bK sO ?_;repeat first|refine v_ ?_|intro
  refine DY aty ?_;unfold Wv.SB;by_cases h1:st.kind=1
  ·rw[if_pos h1];repeat first|refine v_ ?_|intro
   refine bW sb ?_;rintro e H' ⟨Q,rfl,rfl⟩;repeat first|refine v_ ?_|intro
   exact cI rfl aF rfl rfl rfl aS rfl aA (⟨Q,rfl,rfl⟩)
  rw[if_neg h1];rw[if_neg (show ¬st.kind=2 by rcases hm with h|⟨_,h⟩<;>omega)];by_cases h3:st.kind=3
  ·rw[if_pos h3];repeat first|refine v_ ?_|intro
   refine bW ak ?_;rintro e H' ⟨Q,rfl,rfl⟩;repeat first|refine v_ ?_|intro
   exact cI rfl aF rfl rfl rfl aS rfl aA (⟨Q,rfl,rfl⟩)
  rw[if_neg h3];by_cases h4:st.kind=4
  ·rw[if_pos h4];repeat first|refine v_ ?_|intro
   refine bW cm ?_;rintro e H' ⟨Q,rfl,rfl⟩;repeat first|refine v_ ?_|intro
   exact cI rfl aF rfl rfl rfl aS rfl aA (⟨Q,rfl,rfl⟩)
  rw[if_neg h4];by_cases h5:st.kind=5
  ·rw[if_pos h5];repeat first|refine v_ ?_|intro
   refine bW pm ?_;rintro e H' ⟨Q,rfl,rfl⟩;repeat first|refine v_ ?_|intro
   exact cI rfl aF rfl rfl rfl aS rfl aA (⟨Q,rfl,rfl⟩)
  rw[if_neg h5];by_cases h6:st.kind=6
  ·rw[if_pos h6];repeat first|refine v_ ?_|intro
   refine bW tk ?_;rintro e H' ⟨Q,rfl,rfl⟩;repeat first|refine v_ ?_|intro
   exact cI rfl aF rfl rfl rfl aS rfl aA (⟨Q,rfl,rfl⟩)
  rw[if_neg h6];by_cases h7:st.kind=7
  ·rw[if_pos h7];repeat first|refine v_ ?_|intro
   refine bW dl ?_;rintro e H' ⟨Q,rfl,rfl⟩;repeat first|refine v_ ?_|intro
   exact cI rfl aF rfl rfl rfl aS rfl aA (⟨Q,rfl,rfl⟩)
  rw[if_neg h7];have hge:¬(st.kind=1\/(3<=st.kind/\st.kind<=7)):=o_;have hgt:11<=st.kind:=by rcases hm with h|⟨_,h⟩<;>omega
  rw[if_neg (show ¬(8<=st.kind/\st.kind<=10) by omega)];repeat first|refine v_ ?_|intro
  refine bW (λM=>hmq M hge) ?_;rintro e H' ⟨Q,rfl,rfl⟩;repeat first|refine v_ ?_|intro
  exact cI rfl aF rfl rfl rfl aS rfl aA (⟨Q,rfl,rfl⟩)
end Go.Proofs.YtmilalkjbojciaaGreat.Sep
