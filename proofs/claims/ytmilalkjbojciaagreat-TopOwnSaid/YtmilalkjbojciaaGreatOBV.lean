/- Part BV: what it needs. No condition. -/
import Derived.Test.YtmilalkjbojciaaGreatOAA
import Derived.Test.YtmilalkjbojciaaGreatOBS
set_option maxRecDepth 100000
set_option maxHeartbeats 8000000
open Go.Proofs.Tryz
namespace Go.Proofs.YtmilalkjbojciaaGreat.Sep
open Go.RowKit Reg Oct
open Mem hiding Rd
def gU(N k:Nat):List Nd:=(List.range k).map λ(r:Nat)=>Nd.new (r:Int) N
theorem Fa(N k:Nat):gU N (k+1)=gU N k++[Nd.new k N]:=by unfold gU;rw[List.range_succ,aBk];rfl
theorem rX(N k:Nat):(gU N k).length=k:=by unfold gU;rw[aAw,aFu]
abbrev Wv.new(cf:fU):Wv:=⟨cf,0,0,[],[],0,[],gU cf.eF.toNat cf.bN.toNat⟩
theorem Wv.VX{cf:fU}(h:cf.cV):(Wv.new cf).ok 1 :=
 ⟨h,by show((gU _ _).length:Int)=cf.bN;rw[rX];have:=h.1;omega,⟨aCd _,by show(0:Int)≤_;omega⟩,⟨aCd _,by show(0:Int)≤_;omega⟩,aAh _,aAh _,⟨λp hp=>(aAk hp).elim,aAh _⟩⟩
section
variable (E:Env) (P:List Ov)
theorem No(cf:fU)(hf:¬cf.cV):G E 8 [.agg cf.cs.toArray] [] (cM (.tuple #[.pointer none,.int .i64 6]) []):=by
 have hU:=λE'=>KC E' cf;rw[if_neg hf] at hU;refine t_ func8 ntmps8 ?_;repeat first|refine v_ ?_|intro
 refine bK hU ?_;repeat first|refine v_ ?_|intro
 exact e2_
theorem YX(cf:fU)(hf:cf.cV):G E 8 [.agg cf.cs.toArray] [aI P] λe H'=>∃Q g,e=.returned (.tuple #[pt g,.int .i64 0])∧H'=[aQ (P++Q) g 1 (Wv.new cf),aI (P++Q)]:=by
 have hU:=λE'=>KC E' cf;rw[if_pos hf] at hU;obtain⟨hr,hs,_⟩:=hf;have hN:cf.eF=(cf.eF.toNat:Int):=by omega
 have hR:cf.bN=(cf.bN.toNat:Int):=by omega
 have mk:∀ {E':Env} {H R:List aL} {Q:List Ov} {g:Nat} {x:AM},x.gs.length=cf.bN.toNat→cS [aJ g 121 (wC x 0 0 cf cf.bN.toNat 0),aZ x.gw [],cK x.gg 0 [],own mK x.sA 0 x.sc [],own vE x.nA cf.bN.toNat x.nc x.gs,aO (nP (P++Q) cf 2048) (x.gs.zip (gU cf.eF.toNat cf.bN.toNat))] H R→aB E' H (aQ (P++Q) g 1 (Wv.new cf)::R):=by
  intro E' H R Q g x hx hp;have hl:=rX cf.eF.toNat cf.bN.toNat;have hp':cS ([aJ g 121 (wC x 0 ([]:List fM).length cf (gU cf.eF.toNat cf.bN.toNat).length 0),aZ x.gw [],cK x.gg 0 [],own mK x.sA ([]:List fM).length x.sc [],own vE x.nA (gU cf.eF.toNat cf.bN.toNat).length x.nc x.gs,aO (nP (P++Q) cf 2048) (x.gs.zip (gU cf.eF.toNat cf.bN.toNat))]) H R:=by rw[hl];exact hp
  have c1:=aB.imp (E:=E') cA.refl hp';dsimp only[List.cons_append,List.nil_append] at c1;refine c1.trans (aB.trans (aB.imp (A:=[aO (nP (P++Q) cf 2048) (x.gs.zip (gU cf.eF.toNat cf.bN.toNat))]) (B:=[aO (nP (P++Q) cf (kt 1)) (x.gs.zip (gU cf.eF.toNat cf.bN.toNat))]) (cA.Ge (λz=>bZ.qK sD)) aC) ?_);dsimp only[List.cons_append,List.nil_append];exact aB.fp (l:=wL (P++Q) g (kt 1) (Wv.new cf)) (x:=x) ⟨Wv.VX ⟨hr,hs,‹_›⟩,by show x.gs.length=(gU _ _).length;rw[hl];exact hx⟩ aC
 have nw:=λE' PP r hr3=>Z2 E' PP (cf:=cf) r cf.eF.toNat hr3 hN o_ o_;generalize cf.eF.toNat=N at *;obtain⟨n,hn⟩:∃n,cf.bN.toNat=n:=⟨_,rfl⟩
 rw[hn] at hR mk;refine t_ func8 ntmps8 ?_;repeat first|refine v_ ?_|intro
 refine bK hU ?_;repeat first|refine v_ ?_|intro
 rename_i g1 gw gg gW;have cw:aB E [aJ gW 121 (wC ⟨gw,gg,none,0,none,0,[]⟩ 0 0 cf 0 0),aJ gg 116 [.map none,.slice none 0 0,.int .i64 0],aJ gw 113 [.slice none 0 0],aJ g1 23 cf.cs,aI P]
   [aJ g1 23 cf.cs,aJ gW 121 (wC ⟨gw,gg,none,0,none,0,[]⟩ 0 0 cf 0 0),aZ gw [],cK gg 0 [],own mK none 0 0 [],own vE none 0 0 [],aO (nP (P++[]) cf 2048) [],aI (P++[])]:=by
  have h1:=aZ.mk (E:=E) (R:=[aJ gW 121 (wC ⟨gw,gg,none,0,none,0,[]⟩ 0 0 cf 0 0),aJ gg 116 [.map none,.slice none 0 0,.int .i64 0],aJ g1 23 cf.cs,aI P]) (g:=gw) (x:=⟨none,0,[]⟩) (ws:=[]) ⟨rfl,(λ_ h=>(aAk h).elim),by decide,by decide⟩;have c1:=aB.trans (aB.trans (aB.trans (aB.nil iC) (aB.kP DD)) (aB.aV (l:=Ku gw ⟨none,0,[]⟩++[aJ gW 121 (wC ⟨gw,gg,none,0,none,0,[]⟩ 0 0 cf 0 0),aJ gg 116 [.map none,.slice none 0 0,.int .i64 0],aJ g1 23 cf.cs,aI P]) (H:=[aO DD [],own iC none 0 0 [],aJ gW 121 (wC ⟨gw,gg,none,0,none,0,[]⟩ 0 0 cf 0 0),aJ gg 116 [.map none,.slice none 0 0,.int .i64 0],aJ gw 113 [.slice none 0 0],aJ g1 23 cf.cs,aI P]) (by dsimp only[Ku,wr,List.cons_append,List.nil_append,List.length_nil];exact aC))) h1;have h2:=cK.mk (E:=E) (R:=[aZ gw [],aJ gW 121 (wC ⟨gw,gg,none,0,none,0,[]⟩ 0 0 cf 0 0),aJ g1 23 cf.cs,aI P]) (g:=gg) (x:=⟨none,none,0⟩) (r:=0) (l:=[]) ⟨rfl,by decide,λ_=>rfl,by decide⟩;have c2:=aB.trans (aB.trans (aB.trans c1 (aB.trans (aB.nil cP) aB.l6)) (aB.aV (l:=[aJ gg 116 [.map none,.slice none 0 0,.int .i64 0],Dq none [],own cP none 0 0 [],aZ gw [],aJ gW 121 (wC ⟨gw,gg,none,0,none,0,[]⟩ 0 0 cf 0 0),aJ g1 23 cf.cs,aI P]) aC)) h2;rw[aAc];exact aB.trans (aB.trans c2 (aB.trans (aB.nil mK) (aB.trans (aB.nil vE) (aB.kP (nP P cf 2048))))) aA
 refine C.scan (Y:=List Ov×Option Addr×Nat×List Nat) (l:=List.range n) (n:=n) aFu.symm (λi _=>[(1,pt g1),(5,pt gW),(21,.int .i64 n),(22,.int .i64 i)])
  (λi y=>[aJ g1 23 cf.cs,aJ gW 121 (wC ⟨gw,gg,none,0,y.2.1,y.2.2.1,y.2.2.2⟩ 0 0 cf i 0),aZ gw [],cK gg 0 [],own mK none 0 0 [],own vE y.2.1 i y.2.2.1 y.2.2.2,aO (nP (P++y.1) cf 2048) (y.2.2.2.zip (gU N i)),aI (P++y.1)]) (λi y=>y.2.2.2.length=i) ([],none,0,[]) (by rw[←hR];exact aD) cw rfl ?_ ?_
 ·rintro i ⟨Q,nA,nc,gs⟩ r F hi hr2 hgl;obtain rfl:i=r:=by rw[List.getElem?_range hi] at hr2;injection hr2
  dsimp only at hgl⊢;have nw2:=λE'=>nw E' (P++Q) i o_;repeat first|refine v_ ?_|intro
  refine C.bL 12 (l_ [0,1,2,3,4,5,6] (g_ 7 (g_ 8 (g_ 9 (l_ [10,11] (g_ 12 .nil)))))) ([aJ g1 23 _,aJ gW 121 _]) q_ q_ aA ?_;repeat first|refine v_ ?_|intro
  refine iO nw2 ?_;rintro e H' ⟨Q2,g2,rfl,rfl⟩;repeat first|refine v_ ?_|intro
  rename_i A2 c2 hc1 hc2;have hz:(gs++[g2]).zip (gU N (i+1))=gs.zip (gU N i)++[(g2,Nd.new i N)]:=by rw[Fa,List.zip_append (by rw[hgl,rX])];rfl
  refine⟨(Q++Q2,A2,c2,gs++[g2]),aD,?_,by simp[hgl]⟩;dsimp only;rw[hz,←aAb];refine aB.trans (aB.imp (A:=[aO (nP (P++Q) cf 2048) (gs.zip (gU N i))]) (B:=[aO (nP (P++Q++Q2) cf 2048) (gs.zip (gU N i))]) (cA.Ge (λz=>bZ.mono (aCd _))) aC) ?_;dsimp only[List.cons_append,List.nil_append];exact aB.trans (aB.push (f:=nP (P++Q++Q2) cf 2048) (x:=(g2,Nd.new i N)) aC) aA
 ·rintro⟨Q,nA,nc,gs⟩ F hgl;dsimp only at hgl⊢;repeat first|refine v_ ?_|intro
  exact vT (H':=[aQ (P++Q) gW 1 (Wv.new cf),aI (P++Q)]) rfl aF aF (aB.trans (mk (x:=⟨gw,gg,none,0,nA,nc,gs⟩) hgl aC) aA) ⟨Q,gW,rfl,rfl⟩
end
end Go.Proofs.YtmilalkjbojciaaGreat.Sep
