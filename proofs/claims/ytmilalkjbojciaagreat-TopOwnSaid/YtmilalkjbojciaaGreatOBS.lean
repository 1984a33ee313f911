/- Part BS: what it needs. No condition. -/
import Derived.Test.YtmilalkjbojciaaGreatOAA
import Derived.Test.YtmilalkjbojciaaGreatOBQ
set_option maxRecDepth 100000
set_option maxHeartbeats 8000000
open Go.Proofs.Tryz
namespace Go.Proofs.YtmilalkjbojciaaGreat.Sep
open Go.RowKit Reg Oct
open Mem hiding Rd
theorem Oo{ws:List fD}{p:fD}(h:sU ws)(hp:p.b.length≤1000000):sU (zX ws p).1:=by
 unfold zX;split
 ·exact h
 ·refine⟨λq hq=>?_,by show(ws++[p]).length≤128;rw[aAe,aDa];omega⟩;rcases aBg.1 hq with hq|hq
  ·exact h.1 q hq
  ·rw[aAp.1 hq];exact hp
theorem BG{ws:List fD}(h:sU ws)(m:Mg):sU (jW ws m).1:=by
 unfold jW;split
 ·exact h
 ·rename_i hc;have hc:m.check=0:=Classical.not_not.1 hc;refine Oo h ?_;have:=Mg.size hc;have:m.enc.length=m.body.length+7:=Frm.bO _;show m.enc.length≤_;omega
theorem BS{ws:List fD}(h:sU ws)(i:Int):sU (cR ws i):=by
 unfold cR;split
 ·exact h
 ·exact⟨λp hp=>h.1 p (List.mem_of_mem_eraseIdx hp),aBw (List.eraseIdx_sublist ..).length_le h.2⟩
theorem PE{ws:List fD}(h:sU ws){i:Int}{p:fD}(hp:xB ws i=some p):p.b.length≤1000000:=by
 obtain⟨k,_,hk⟩:=uP hp;exact h.1 p (aAi hk)
theorem VI{ws:List fD}(h:sU ws)(r:Int)(l:List dK)(m:Mg):sU (gG ws r l m).1.1:=by
 unfold gG;split
 ·exact BG h _
 ·exact h
theorem F5{r now:Int}:∀(l:List dK) (ws:List fD) (aW:List fM),sU ws→sU (jN r now ws aW l).1
 | [],_,_,h=>h
 |_q::l,_ws,_aW,h=>F5 l _ _ (BG h _)
theorem IY{ws:List fD}(h:sU ws)(st:cH):sU (lP ws st).1:=by
 unfold lP;split
 ·exact h
 split
 ·unfold NZ;split
  ·exact h
  ·exact BS h _
 split
 ·unfold Co;split
  ·rename_i p hp;exact Oo h (PE h hp)
  ·exact h
 split
 ·exact h
 ·unfold CU;split
  ·rename_i p hp;split
   ·exact h
   ·refine⟨λq hq=>?_,by show(ws.set _ _).length≤128;rw[aAt];exact h.2⟩;rcases aCr hq with hq|hq
    ·exact h.1 q hq
    ·rw[hq];show(tJ p.b _).length≤_;rw[show ∀k,(tJ p.b k).length=p.b.length from λk=>by simp[tJ]];exact PE h hp
  ·exact h
theorem Qj{ws:List fD}(h:sU ws)(n:Nd)(m:Mg):sU (dG ws n m).1.1:=by
 unfold dG;split
 ·split
  ·exact h
  ·exact BG h _
 split
 ·exact h
 split
 ·exact h
 ·exact h
theorem SQ(ws:List fD)(r:Int)(l:List dK)(m:Mg):(gG ws r l m).1.2.2.length≤l.length+1:=by
 have h:(L8 r l ⟨m.key,m.bC⟩).1.2.length≤l.length+1:=by
  unfold L8;split
  ·simp
  ·split<;>simp
 unfold gG;split<;>exact h
theorem IC{sub:Int}(h:0≤sub∧sub≤48)(n:Nd)(c:aX):0≤(kA sub n c).1∧(kA sub n c).1≤48:=by
 unfold kA;split
 ·exact h
 split
 ·exact h
 ·exact⟨by show 0≤sub+1;omega,by show sub+1≤48;omega⟩
theorem Nx{now:Int}(h:0≤now∧now≤1073741824)(n:Int):0≤(uD now n).1∧(uD now n).1≤1073741824:=by
 unfold uD;split
 ·rename_i hn;exact⟨by show 0≤now+n;omega,by show now+n≤_;omega⟩
 ·exact h
def Wv.bV(v:Wv)(i:Int):Wv×wM:=match xB v.ws i with
 |none=>(v,⟨14,0,0⟩)
 |some p=>match mM p.b with
  |none=>(⟨v.cf,v.now,v.sub,v.aW,cR v.ws i,v.ref,v.app,v.bU⟩,⟨0,0,0⟩)
  |some m=>if p.to=9 then(⟨v.cf,v.now,v.sub,v.aW,(gG (cR v.ws i) v.ref v.app m).1.1,(gG (cR v.ws i) v.ref v.app m).1.2.1,(gG (cR v.ws i) v.ref v.app m).1.2.2,v.bU⟩,⟨0,(gG (cR v.ws i) v.ref v.app m).2,0⟩)
   else if p.to<0 then(⟨v.cf,v.now,v.sub,v.aW,cR v.ws i,v.ref,v.app,v.bU⟩,⟨0,0,0⟩)
   else match v.bU[p.to.toNat]? with
    |none=>(⟨v.cf,v.now,v.sub,v.aW,cR v.ws i,v.ref,v.app,v.bU⟩,⟨0,0,0⟩)
    |some n=>if n.up then(⟨v.cf,v.now,v.sub,v.aW,(dG (cR v.ws i) n m).1.1,v.ref,v.app,v.bU.set p.to.toNat (dG (cR v.ws i) n m).1.2⟩,(dG (cR v.ws i) n m).2)
     else(⟨v.cf,v.now,v.sub,v.aW,cR v.ws i,v.ref,v.app,v.bU⟩,⟨0,0,0⟩)
abbrev Wv.fC(v:Wv)(i:Nat)(n:Nd)(c:aX):Wv×wM:=(⟨v.cf,v.now,(kA v.sub n c).1,v.aW,v.ws,v.ref,v.app,v.bU.set i (kA v.sub n c).2.1⟩,(kA v.sub n c).2.2)
abbrev Wv.Cj(v:Wv)(i:Nat)(n:Nd):Wv:=⟨v.cf,v.now,v.sub,v.aW,v.ws,v.ref,v.app,v.bU.set i n⟩
abbrev Wv.ask(v:Wv)(i:Nat)(n:Nd)(st:cH):Wv×wM:=(⟨v.cf,v.now,v.sub,v.aW,(yI v.bU.length v.ws n st).1.1,v.ref,v.app,v.bU.set i (yI v.bU.length v.ws n st).1.2⟩,(yI v.bU.length v.ws n st).2)
abbrev Wv.qD(v:Wv)(i:Nat)(n:Nd)(r:Int):Wv×wM:=(⟨v.cf,v.now,v.sub,(oO v.cf v.now v.ws v.aW n r).1.2.1,(oO v.cf v.now v.ws v.aW n r).1.1,v.ref,v.app,v.bU.set i (oO v.cf v.now v.ws v.aW n r).1.2.2⟩,(oO v.cf v.now v.ws v.aW n r).2)
abbrev Wv.tick(v:Wv)(n:Int):Wv×wM:=(⟨v.cf,(uD v.now n).1,v.sub,v.aW,v.ws,v.ref,v.app,v.bU⟩,(uD v.now n).2)
abbrev Wv.rY(v:Wv)(st:cH):Wv×wM:=(⟨v.cf,v.now,v.sub,v.aW,(lP v.ws st).1,v.ref,v.app,v.bU⟩,(lP v.ws st).2)
noncomputable abbrev Wv.Mf(v:Wv)(i:Nat)(n:Nd)(st:cH):Wv×wM:=(⟨v.cf,v.now,v.sub,v.aW,v.ws,(wF v.ref n st).1.1,v.app,v.bU.set i (wF v.ref n st).1.2⟩,(wF v.ref n st).2)
def Wv.qA(v:Wv)(dC:Int):Wv×wM:=match v.bU[0]? with
 |none=>(v,⟨0,0,0⟩)
 |some p=>(v.Cj 0 (mT p dC).1,(mT p dC).2)
noncomputable def Wv.SB(v:Wv)(i:Nat)(n:Nd)(st:cH):Wv×wM :=
 if st.kind=1 then v.fC i n st.c
 else if st.kind=2 then(v.Cj i n.sync.1,⟨n.sync.2,0,0⟩)
 else if st.kind=3 then v.ask i n st
 else if st.kind=4 then v.qA st.n
 else if st.kind=5 then v.qD i n st.r
 else if st.kind=6 then v.tick st.n
 else if st.kind=7 then v.bV st.i
 else if 8≤st.kind∧st.kind≤10 then v.rY st
 else v.Mf i n st
noncomputable def Wv.step(v:Wv)(st:cH):Wv×wM :=
 if st.check≠0 then(v,⟨st.check,0,0⟩)
 else match v.bU[st.r.toNat]? with
  |none=>(v,⟨4,0,0⟩)
  |some n=>v.SB st.r.toNat n st
section
variable {t:Nat} {v v':Wv} {i:Nat} {n:Nd}
theorem Wv.ok.to(h:v.ok t)(hcf:v'.cf=v.cf)(hl:v'.bU.length=v.bU.length)(hn:0≤v'.now∧v'.now≤1073741824)(hs:0≤v'.sub∧v'.sub≤48)(hx:v'.aW.length≤v.aW.length+48)(ha:v'.app.length≤v.app.length+1)(hp:sU v'.ws):v'.ok (t+1) :=
 ⟨by rw[hcf];exact h.cV,by rw[hl,hcf];exact h.len,hn,hs,by have:=h.aW;omega,by have:=h.app;omega,hp⟩
theorem Wv.ok.same(h:v.ok t):v.ok (t+1):=h.to rfl rfl h.now h.sub o_ o_ h.pk
theorem Wv.ok.Cj(h:v.ok t)(i:Nat)(n:Nd):(v.Cj i n).ok (t+1):=h.to rfl (aAt ..) h.now h.sub (aCe ..) (aCe ..) h.pk
theorem Wv.ok.fC(h:v.ok t)(i:Nat)(n:Nd)(c:aX):(v.fC i n c).1.ok (t+1):=h.to rfl (aAt ..) h.now (IC h.sub n c) (aCe ..) (aCe ..) h.pk
theorem Wv.ok.ask(h:v.ok t)(i:Nat)(n:Nd)(st:cH):(v.ask i n st).1.ok (t+1):=h.to rfl (aAt ..) h.now h.sub (aCe ..) (aCe ..) (by
 show sU (yI v.bU.length v.ws n st).1.1;unfold yI;split
 ·exact h.pk
 split
 ·exact h.pk
 ·exact BG h.pk _)
theorem Wv.ok.qD(h:v.ok t)(i:Nat)(hn:n.ok)(r:Int):(v.qD i n r).1.ok (t+1):=h.to rfl (aAt ..) h.now h.sub (by
 show(jN r v.now v.ws v.aW (n.qD v.cf v.now).2.1).2.length≤_;rw[AV];have:=HY hn v.cf v.now;omega) (aCe ..) (F5 _ _ _ h.pk)
theorem Wv.ok.tick(h:v.ok t)(n:Int):(v.tick n).1.ok (t+1):=h.to rfl rfl (Nx h.now n) h.sub (aCe ..) (aCe ..) h.pk
theorem Wv.ok.rY(h:v.ok t)(st:cH):(v.rY st).1.ok (t+1):=h.to rfl rfl h.now h.sub (aCe ..) (aCe ..) (IY h.pk st)
theorem Wv.ok.Mf(h:v.ok t)(i:Nat)(n:Nd)(st:cH):(v.Mf i n st).1.ok (t+1):=h.to rfl (aAt ..) h.now h.sub (aCe ..) (aCe ..) h.pk
theorem Wv.ok.bV(h:v.ok t)(i:Int):(v.bV i).1.ok (t+1):=by
 unfold Wv.bV;have same:Wv.ok (t+1) ⟨v.cf,v.now,v.sub,v.aW,cR v.ws i,v.ref,v.app,v.bU⟩:=h.to rfl rfl h.now h.sub (aCe ..) (aCe ..) (BS h.pk i);split
 ·exact h.same
 split
 ·exact same
 split
 ·exact h.to rfl rfl h.now h.sub (aCe ..) (SQ _ _ _ _) (VI (BS h.pk i) _ _ _)
 split
 ·exact same
 split
 ·exact same
 split
 ·exact h.to rfl (aAt ..) h.now h.sub (aCe ..) (aCe ..) (Qj (BS h.pk i) _ _)
 ·exact same
end
def oL(P:List Ov)(g t:Nat)(z:Wv×wM):Ending→List aL→Prop:=λe H'=>∃Q,e=.returned (.agg z.2.cs.toArray)∧H'=[aQ (P++Q) g (t+1) z.1,aI (P++Q)]
theorem EA{t:Nat}(h:t≤1000000):kt t≤10000000000000:=by simp only[kt];omega
theorem Bf{t:Nat}{d:Int}(h:d≤10000):kt t+d≤kt (t+1):=by simp only[kt];omega
section
variable (E:Env) {P:List Ov} {g gr:Nat} {t:Nat} {v:Wv} {x:AM} {n:Nd} {i:Nat} (ho:v.ok t) (hx:x.gs.length=v.bU.length) (ht:t≤1000000)
include ho hx ht
theorem K0(hg:x.gs[i]?=some gr)(hn:v.bU[i]?=some n)(c:aX)(hc:dQ c.n):G E 53 [pt g,pt gr,.agg c.cs.toArray] (wL P g (kt t) v x++[aI P]) (oL P g t (v.fC i n c)):=by
 have _:=ht
 dsimp only[wL,List.cons_append,List.nil_append];refine aK.pre (vR (k:=kt t) hg hn (.aM (.aM (.aM (.aM (.aM .aN)))))) ?_;refine aK.pre (aB.lB (l:=[aJ g 121 (wC x v.now v.aW.length v.cf v.bU.length v.sub),bZ P gr v.cf n (kt t),aI P]) aC) (aK.post (aK.beside λE' hE=>Pf E' P g gr x v.now v.aW.length v.cf v.bU.length v.sub n (kt t) c hc ho.sub) ?_);rintro e H' ⟨H1,⟨Q,rfl,rfl⟩,rfl⟩;dsimp only[List.cons_append,List.nil_append];exact⟨_,BZ (t:=t) (v:=v) (v':=(v.fC i n c).1) (aCq t) rfl hg hn (show kt t≤kt (t+1) from uX (aCq t)) (ho.fC i n c) hx rfl rfl rfl aC,Q,rfl,rfl⟩
theorem WR(hg:x.gs[i]?=some gr)(hn:v.bU[i]?=some n)(st:cH):G E 55 [pt g,pt gr,.agg st.cs.toArray] (wL P g (kt t) v x++[aI P]) (oL P g t (v.ask i n st)):=by
 dsimp only[wL,List.cons_append,List.nil_append];refine aK.pre (vR (k:=kt t) hg hn (.aM (.aM (.aM (.aM (.aM .aN)))))) ?_;refine aK.pre (aB.lB (l:=[aJ g 121 (wC x v.now v.aW.length v.cf v.bU.length v.sub),bZ P gr v.cf n (kt t),aZ x.gw v.ws,own vE x.nA v.bU.length x.nc x.gs]) aC) (aK.post (aK.beside λE' hE=>Xw E' P g gr x v.now v.aW.length v.cf v.bU.length v.sub n (kt t) v.ws st ho.rK.2 ho.rK.1 (EA ht) hx) ?_);rintro e H' ⟨H1,⟨rfl,rfl⟩,rfl⟩;dsimp only[List.cons_append,List.nil_append];exact⟨[aQ P g (t+1) (v.ask i n st).1,aI P],BZ (t:=t) (v:=v) (v':=(v.ask i n st).1) (Q:=[]) (aCq t) (aAc P).symm hg hn (Bf (d:=2048) sD) (ho.ask i n st) hx rfl rfl rfl aC,[],rfl,by rw[aAc]⟩
theorem S7(hg:x.gs[i]?=some gr)(hn:v.bU[i]?=some n):G E 54 [pt gr] (wL P g (kt t) v x++[aI P]) (λe H'=>e=.returned (.int .i64 n.sync.2)∧H'=[aQ P g (t+1) (v.Cj i n.sync.1),aI P]):=by
 dsimp only[wL,List.cons_append,List.nil_append];refine aK.pre (vR (k:=kt t) hg hn (.aM (.aM (.aM (.aM (.aM .aN)))))) ?_;refine aK.pre (aB.lB (l:=[bZ P gr v.cf n (kt t)]) aC) (aK.post (aK.beside λE' hE=>KU E' P gr v.cf n (kt t) (EA ht)) ?_);rintro e H' ⟨H1,⟨rfl,rfl⟩,rfl⟩;dsimp only[List.cons_append,List.nil_append];exact⟨_,BZ (t:=t) (v:=v) (v':=v.Cj i n.sync.1) (Q:=[]) (aCq t) (aAc P).symm hg hn (Bf (d:=2048) sD) (ho.Cj i _) hx rfl rfl rfl aC,rfl,rfl⟩
theorem LZ(dC:Int):G E 56 [pt g,.int .i64 dC] (wL P g (kt t) v x++[aI P]) (oL P g t (v.qA dC)):=by
 have _:=ht
 obtain⟨n,hn⟩:=ho.node (i:=0) (by have:=ho.rK;omega);obtain⟨gr,hg⟩:∃gr,x.gs[0]?=some gr:=⟨_,aAa (by have:=ho.rK;omega)⟩
 have hcm:v.qA dC=(v.Cj 0 (mT n dC).1,(mT n dC).2):=by unfold Wv.qA;rw[hn]
 rw[hcm];dsimp only[wL,List.cons_append,List.nil_append];refine aK.pre (vR (k:=kt t) hg hn (.aM (.aM (.aM (.aM (.aM .aN)))))) ?_;refine aK.pre (aB.lB (l:=[aJ g 121 (wC x v.now v.aW.length v.cf v.bU.length v.sub),bZ P gr v.cf n (kt t),own vE x.nA v.bU.length x.nc x.gs,aI P]) aC) (aK.post (aK.beside λE' hE=>Ol E' P g gr x v.now v.aW.length v.cf v.bU.length v.sub n (kt t) dC ho.rK.2 ho.rK.1 hg) ?_);rintro e H' ⟨H1,⟨Q,rfl,rfl⟩,rfl⟩;dsimp only[List.cons_append,List.nil_append];exact⟨_,BZ (t:=t) (v:=v) (v':=v.Cj 0 (mT n dC).1) (aCq t) rfl hg hn (show kt t≤kt (t+1) from uX (aCq t)) (ho.Cj 0 _) hx rfl rfl rfl aC,Q,rfl,rfl⟩
theorem SU(hg:x.gs[i]?=some gr)(hn:v.bU[i]?=some n)(r:Int):G E 57 [pt g,pt gr,.int .i64 r] (wL P g (kt t) v x++[aI P]) (oL P g t (v.qD i n r)):=by
 dsimp only[wL,List.cons_append,List.nil_append];refine aK.pre (vR (k:=kt t) hg hn (.aM (.aM (.aM (.aM (.aM .aN)))))) ?_;refine aK.Y1 (l:=O4 P gr v.cf n (kt t)) (p:=λ_:Nh=>n.ok) .aN (λhok=>?_);obtain⟨_,hok⟩:=hok;refine aK.pre (aB.lB (l:=[aJ g 121 (wC x v.now v.aW.length v.cf v.bU.length v.sub),bZ P gr v.cf n (kt t),aZ x.gw v.ws,own mK x.sA v.aW.length x.sc v.aW,aI P]) aC) (aK.post (aK.beside λE' hE=>Uh E' P g gr x v.now v.cf v.bU.length v.sub n (kt t) v.ws v.aW r (by have:=ho.now;unfold dQ;omega) (EA ht) (by have:=ho.aW;omega)) ?_);rintro e H' ⟨H1,⟨Q,sA,sc,rfl,rfl⟩,rfl⟩;dsimp only[List.cons_append,List.nil_append];exact⟨_,BZ (t:=t) (v:=v) (v':=(v.qD i n r).1) (x':=⟨x.gw,x.gg,sA,sc,x.nA,x.nc,x.gs⟩) (aCq t) rfl hg hn (Bf (d:=2048) sD) (ho.qD i hok r) hx rfl rfl rfl aC,Q,rfl,rfl⟩
theorem Qf(m:Int):G E 58 [pt g,.int .i64 m] (wL P g (kt t) v x++[aI P]) (oL P g t (v.tick m)):=by
 have _:=ht
 dsimp only[wL,List.cons_append,List.nil_append];refine aK.pre (aB.lB (l:=[aJ g 121 (wC x v.now v.aW.length v.cf v.bU.length v.sub)]) aC) (aK.post (aK.beside λE' hE=>U8 E' g x v.now v.aW.length v.cf v.bU.length v.sub m ho.now) ?_);rintro e H' ⟨H1,⟨rfl,rfl⟩,rfl⟩;dsimp only[List.cons_append,List.nil_append];exact⟨[aQ P g (t+1) (v.tick m).1,aI P],Di (t:=t) (v:=v) (v':=(v.tick m).1) (x':=x) (Q:=[]) (aCq t) (aAc P).symm (ho.tick m) hx rfl rfl rfl aC,[],rfl,by rw[aAc]⟩
theorem JF(st:cH)(hst:dQ st.n):G E 60 [pt g,.agg st.cs.toArray] (wL P g (kt t) v x++[aI P]) (oL P g t (v.rY st)):=by
 have _:=ht
 dsimp only[wL,List.cons_append,List.nil_append];refine aK.pre (aB.lB (l:=[aJ g 121 (wC x v.now v.aW.length v.cf v.bU.length v.sub),aZ x.gw v.ws]) aC) (aK.post (aK.beside λE' hE=>Md E' g x v.now v.aW.length v.cf v.bU.length v.sub v.ws st hst) ?_);rintro e H' ⟨H1,⟨rfl,rfl⟩,rfl⟩;dsimp only[List.cons_append,List.nil_append];exact⟨[aQ P g (t+1) (v.rY st).1,aI P],Di (t:=t) (v:=v) (v':=(v.rY st).1) (x':=x) (Q:=[]) (aCq t) (aAc P).symm (ho.rY st) hx rfl rfl rfl aC,[],rfl,by rw[aAc]⟩
theorem RI(hg:x.gs[i]?=some gr)(hn:v.bU[i]?=some n)(st:cH)(hst:0≤st.n∧st.n≤2147483647):G E 61 [pt g,pt gr,.agg st.cs.toArray] (wL P g (kt t) v x++[aI P]) (oL P g t (v.Mf i n st)):=by
 dsimp only[wL,List.cons_append,List.nil_append];refine aK.pre (vR (k:=kt t) hg hn (.aM (.aM (.aM (.aM (.aM .aN)))))) ?_;refine aK.pre (aB.lB (l:=[aJ g 121 (wC x v.now v.aW.length v.cf v.bU.length v.sub),bZ P gr v.cf n (kt t),cK x.gg v.ref v.app,aI P]) aC) (aK.post (aK.beside λE' hE=>Uy E' P g gr x v.now v.aW.length v.cf v.bU.length v.sub n (kt t) v.ref v.app st (EA ht) hst) ?_);rintro e H' ⟨H1,⟨Q,rfl,rfl⟩,rfl⟩;dsimp only[List.cons_append,List.nil_append];exact⟨_,BZ (t:=t) (v:=v) (v':=(v.Mf i n st).1) (aCq t) rfl hg hn (Bf (d:=4128) sD) (ho.Mf i n st) hx rfl rfl rfl aC,Q,rfl,rfl⟩
end
section
variable (E:Env) {P:List Ov} {g:Nat} {t:Nat} {v:Wv} {x:AM} (ho:v.ok t) (hx:x.gs.length=v.bU.length) (ht:t≤1000000)
include ho hx ht
theorem Jl(j:Int):G E 59 [pt g,.int .i64 j] (wL P g (kt t) v x++[aI P]) (oL P g t (v.bV j)):=by
 have hok:=ho.bV j;dsimp only[wL,List.cons_append,List.nil_append];cases hw:xB v.ws j with
 |none =>
  have hd:v.bV j=(v,⟨14,0,0⟩):=by unfold Wv.bV;rw[hw]
  rw[hd] at hok⊢;refine aK.pre (aB.lB (l:=[aJ g 121 (wC x v.now v.aW.length v.cf v.bU.length v.sub),aZ x.gw v.ws]) aC) (aK.post (aK.beside λE' hE=>CR E' g x v.now v.aW.length v.cf v.bU.length v.sub v.ws j hw) ?_);rintro e H' ⟨H1,⟨rfl,rfl⟩,rfl⟩;dsimp only[List.cons_append,List.nil_append];exact⟨[aQ P g (t+1) v,aI P],Di (t:=t) (v:=v) (v':=v) (x':=x) (Q:=[]) (aCq t) (aAc P).symm hok hx rfl rfl rfl aC,[],rfl,by rw[aAc]⟩
 |some p =>
  have hlen:=PE ho.pk hw;have take (hd:v.bV j=(⟨v.cf,v.now,v.sub,v.aW,cR v.ws j,v.ref,v.app,v.bU⟩,⟨0,0,0⟩)) {R:List aL} (hr:R=[cK x.gg v.ref v.app,own mK x.sA v.aW.length x.sc v.aW,own vE x.nA v.bU.length x.nc x.gs,aO (nP P v.cf (kt t)) (x.gs.zip v.bU),aI P])
    (law:∀E',G E' 59 [pt g,.int .i64 j] [aJ g 121 (wC x v.now v.aW.length v.cf v.bU.length v.sub),aZ x.gw v.ws] (cM (.agg (⟨0,0,0⟩:wM).cs.toArray) [aJ g 121 (wC x v.now v.aW.length v.cf v.bU.length v.sub),aZ x.gw (cR v.ws j)])) :
    G E 59 [pt g,.int .i64 j] ([aJ g 121 (wC x v.now v.aW.length v.cf v.bU.length v.sub),aZ x.gw v.ws]++R) (oL P g t (v.bV j)):=by
   rw[hd] at hok⊢;refine aK.post (aK.beside λE' hE=>law E') ?_;rintro e H' ⟨H1,⟨rfl,rfl⟩,rfl⟩;subst hr;dsimp only[List.cons_append,List.nil_append];exact⟨[aQ P g (t+1) ⟨v.cf,v.now,v.sub,v.aW,cR v.ws j,v.ref,v.app,v.bU⟩,aI P],Di (t:=t) (v:=v) (x':=x) (Q:=[]) (aCq t) (aAc P).symm hok hx rfl rfl rfl aC,[],rfl,by rw[aAc]⟩
  cases hm:mM p.b with
  |none =>
   refine take (by unfold Wv.bV;rw[hw];dsimp only;rw[hm]) rfl (λE'=>DE E' g x v.now v.aW.length v.cf v.bU.length v.sub v.ws j p hw hm hlen)
  |some m =>
   by_cases h9:p.to=9
   ·have hd:v.bV j=(⟨v.cf,v.now,v.sub,v.aW,(gG (cR v.ws j) v.ref v.app m).1.1,(gG (cR v.ws j) v.ref v.app m).1.2.1,(gG (cR v.ws j) v.ref v.app m).1.2.2,v.bU⟩,⟨0,(gG (cR v.ws j) v.ref v.app m).2,0⟩):=by unfold Wv.bV;rw[hw];dsimp only;rw[hm];dsimp only;rw[if_pos h9]
    rw[hd] at hok⊢;refine aK.pre (aB.lB (l:=[aJ g 121 (wC x v.now v.aW.length v.cf v.bU.length v.sub),aZ x.gw v.ws,cK x.gg v.ref v.app]) aC) (aK.post (aK.beside λE' hE=>B4 E' g x v.now v.aW.length v.cf v.bU.length v.sub v.ws j p hw m hm hlen h9 v.ref v.app (by have:=ho.app;omega)) ?_);rintro e H' ⟨H1,⟨rfl,rfl⟩,rfl⟩;dsimp only[List.cons_append,List.nil_append];exact⟨[aQ P g (t+1) ⟨v.cf,v.now,v.sub,v.aW,(gG (cR v.ws j) v.ref v.app m).1.1,(gG (cR v.ws j) v.ref v.app m).1.2.1,(gG (cR v.ws j) v.ref v.app m).1.2.2,v.bU⟩,aI P],Di (t:=t) (v:=v) (x':=x) (Q:=[]) (aCq t) (aAc P).symm hok hx rfl rfl rfl aC,[],rfl,by rw[aAc]⟩
   ·by_cases h0:p.to<0
    ·exact take (by unfold Wv.bV;rw[hw];dsimp only;rw[hm];dsimp only;rw[if_neg h9,if_pos h0]) rfl (λE'=>yV E' g x v.now v.aW.length v.cf v.bU.length v.sub v.ws j p hw m hm hlen h9 ho.rK.2 ho.rK.1 (.inl h0))
    ·have hto:p.to=(p.to.toNat:Int):=by omega
     cases hn:v.bU[p.to.toNat]? with
     |none =>
      refine take (by unfold Wv.bV;rw[hw];dsimp only;rw[hm];dsimp only;rw[if_neg h9,if_neg h0,hn]) rfl (λE'=>yV E' g x v.now v.aW.length v.cf v.bU.length v.sub v.ws j p hw m hm hlen h9 ho.rK.2 ho.rK.1 (.inr ?_));have:=aBx.1 hn;omega
     |some n =>
      obtain⟨gr,hg⟩:∃gr,x.gs[p.to.toNat]?=some gr:=⟨_,aAa (by have:=(aAd.1 hn).1;omega)⟩
      cases hu:n.up with
      |true =>
       have hd:v.bV j=(⟨v.cf,v.now,v.sub,v.aW,(dG (cR v.ws j) n m).1.1,v.ref,v.app,v.bU.set p.to.toNat (dG (cR v.ws j) n m).1.2⟩,(dG (cR v.ws j) n m).2):=by unfold Wv.bV;rw[hw];dsimp only;rw[hm];dsimp only;rw[if_neg h9,if_neg h0,hn];dsimp only;rw[if_pos hu]
       rw[hd] at hok⊢;refine aK.pre (vR (k:=kt t) hg hn (.aM (.aM (.aM (.aM (.aM .aN)))))) ?_;refine aK.pre (aB.lB (l:=[aJ g 121 (wC x v.now v.aW.length v.cf v.bU.length v.sub),bZ P gr v.cf n (kt t),aZ x.gw v.ws,aI P,own vE x.nA v.bU.length x.nc x.gs]) aC) (aK.post (aK.beside λE' hE=>E9 E' P g gr x v.now v.aW.length v.cf v.bU.length v.sub n (kt t) v.ws j p hw m hm hlen p.to.toNat hto ho.rK.2 hg hu (EA ht)) ?_);rintro e H' ⟨H1,⟨Q,rfl,rfl⟩,rfl⟩;dsimp only[List.cons_append,List.nil_append];exact⟨_,BZ (t:=t) (v:=v) (aCq t) rfl hg hn (Bf (d:=2048) sD) hok hx rfl rfl rfl aC,Q,rfl,rfl⟩
      |false =>
       have hd:v.bV j=(⟨v.cf,v.now,v.sub,v.aW,cR v.ws j,v.ref,v.app,v.bU⟩,⟨0,0,0⟩):=by unfold Wv.bV;rw[hw];dsimp only;rw[hm];dsimp only;rw[if_neg h9,if_neg h0,hn];dsimp only;rw[if_neg (by rw[hu];decide)]
       rw[hd] at hok⊢;refine aK.pre (vR (k:=kt t) hg hn (.aM (.aM (.aM (.aM (.aM .aN)))))) ?_;refine aK.pre (aB.lB (l:=[aJ g 121 (wC x v.now v.aW.length v.cf v.bU.length v.sub),bZ P gr v.cf n (kt t),aZ x.gw v.ws,own vE x.nA v.bU.length x.nc x.gs]) aC) (aK.post (aK.beside λE' hE=>Ew E' P g gr x v.now v.aW.length v.cf v.bU.length v.sub n (kt t) v.ws j p hw m hm hlen p.to.toNat hto ho.rK.2 hg hu) ?_);rintro e H' ⟨H1,⟨rfl,rfl⟩,rfl⟩;dsimp only[List.cons_append,List.nil_append];refine⟨[aQ P g (t+1) ⟨v.cf,v.now,v.sub,v.aW,cR v.ws j,v.ref,v.app,v.bU⟩,aI P],BZ (t:=t) (v:=v) (Q:=[]) (aCq t) (aAc P).symm hg hn (Int.le_trans (aCd _) (uX (aCq t))) hok hx ?_ rfl rfl aC,[],rfl,by rw[aAc]⟩;exact(mN hn).symm
end
theorem N8(E:Env)(P:List Ov)(g:Nat)(t:Nat)(v:Wv)(ht:t≤1000000)(st:cH)(hc:dQ st.c.n):G E 10 [pt g,.agg st.cs.toArray] [aQ P g t v,aI P] (oL P g t (v.step st)):=by
 refine aK.fp .aN (λx hxx=>?_);obtain⟨ho,hx⟩:=hxx;have rK:=ho.rK;have his:=λE' hb=>Ix E' g x v.now v.aW.length v.cf v.bU.length v.sub hb rK.2;rw[decide_eq_true o_] at his;have fl:=λE' e=>tD E' e;have same:∀ {E':Env} {H R:List aL},cS (wL P g (kt t) v x) H R→aB E' H (aQ P g (t+1) v::R):=λhp=>Di (t:=t) (v:=v) (v':=v) (x':=x) (Q:=[]) (aCq t) (aAc P).symm ho.same hx rfl rfl rfl hp;unfold Wv.step;by_cases hck:st.check=0
 case neg =>
  rw[if_pos hck];have hU:=λE'=>Bd E' st;generalize st.check=ck at *;dsimp only[wL,List.cons_append,List.nil_append] at same⊢;refine t_ func10 ntmps10 ?_;repeat first|refine v_ ?_|intro
  refine eV his ?_;repeat first|refine v_ ?_|intro
  refine bK hU ?_;repeat first|refine v_ ?_|intro
  refine bK (λ(E':Env)=>fl E' ck) ?_;repeat first|refine v_ ?_|intro
  exact cI (H':=[aQ P g (t+1) v,aI P]) rfl aF rfl rfl rfl aS rfl (aB.trans (same aC) aA) ⟨[],rfl,by rw[aAc]⟩
 obtain⟨⟨k1,o9⟩,⟨⟨r0,r255⟩,_⟩,⟨_,n0,n1⟩,_⟩:=cH.bR hck;have hU:=λE'=>Bd E' st;rw[hck] at hU;rw[if_neg (by rw[hck];decide)];have hr:st.r=(st.r.toNat:Int):=by omega
 cases hn:v.bU[st.r.toNat]? with
 |none =>
  have:=aBx.1 hn;have aty:=λE' hb=>EN E' g x v.now v.aW.length v.cf v.bU.length v.sub st.r hb rK.2 rK.1 (.inr o_);dsimp only[wL,List.cons_append,List.nil_append] at same⊢;refine t_ func10 ntmps10 ?_;repeat first|refine v_ ?_|intro
  refine eV his ?_;repeat first|refine v_ ?_|intro
  refine bK hU ?_;repeat first|refine v_ ?_|intro
  refine eV aty ?_;repeat first|refine v_ ?_|intro
  refine bK (λ(E':Env)=>fl E' 4) ?_;repeat first|refine v_ ?_|intro
  exact cI (H':=[aQ P g (t+1) v,aI P]) rfl aF rfl rfl rfl aS rfl (aB.trans (same aC) aA) ⟨[],rfl,by rw[aAc]⟩
 |some n =>
  obtain⟨gr,hg⟩:∃gr,x.gs[st.r.toNat]?=some gr:=⟨_,aAa (by have:=(aAd.1 hn).1;omega)⟩
  have aty:=λE' hb hG=>qW E' g x v.now v.aW.length v.cf v.bU.length v.sub st.r.toNat gr hb rK.2 hG hg;rw[←hr] at aty;show G E _ _ _ (oL P g t (v.SB st.r.toNat n st));generalize st.r.toNat=i at *;have hI64:dQ st.n:=by unfold dQ;omega
  have sb:=λE'=>K0 E' (P:=P) (g:=g) ho hx ht hg hn st.c hc;have sy:=λE'=>S7 E' (P:=P) (g:=g) ho hx ht hg hn;have ak:=λE'=>WR E' (P:=P) (g:=g) ho hx ht hg hn st;have cm:=λE'=>LZ E' (P:=P) (g:=g) ho hx ht st.n;have pm:=λE'=>SU E' (P:=P) (g:=g) ho hx ht hg hn st.r;have tk:=λE'=>Qf E' (P:=P) (g:=g) ho hx ht st.n;have dl:=λE'=>Jl E' (P:=P) (g:=g) ho hx ht st.i;have ds:=λE'=>JF E' (P:=P) (g:=g) ho hx ht st hI64;have hm:=λE'=>RI E' (P:=P) (g:=g) ho hx ht hg hn st ⟨n0,n1⟩;clear same;dsimp only[wL,List.cons_append,List.nil_append] at sb sy ak cm pm tk dl ds hm⊢;refine t_ func10 ntmps10 ?_;repeat first|refine v_ ?_|intro
  refine eV his ?_;repeat first|refine v_ ?_|intro
  refine bK hU ?_;repeat first|refine v_ ?_|intro
  refine DY aty ?_;unfold Wv.SB;by_cases h1:st.kind=1
  ·rw[if_pos h1];repeat first|refine v_ ?_|intro
   refine bW sb ?_;rintro e H' ⟨Q,rfl,rfl⟩;repeat first|refine v_ ?_|intro
   exact cI rfl aF rfl rfl rfl aS rfl aA (⟨Q,rfl,rfl⟩)
  rw[if_neg h1];by_cases h2:st.kind=2
  ·rw[if_pos h2];repeat first|refine v_ ?_|intro
   refine bK sy ?_;repeat first|refine v_ ?_|intro
   refine bK (λ(E':Env)=>fl E' n.sync.2) ?_;repeat first|refine v_ ?_|intro
   exact cI (H':=[aQ P g (t+1) (v.Cj i n.sync.1),aI P]) rfl aF rfl rfl rfl aS rfl aA ⟨[],rfl,by rw[aAc]⟩
  rw[if_neg h2];by_cases h3:st.kind=3
  ·rw[if_pos h3];repeat first|refine v_ ?_|intro
   refine bW ak ?_;rintro e H' ⟨Q,rfl,rfl⟩;repeat first|refine v_ ?_|intro
   exact cI rfl aF rfl rfl rfl aS rfl aA (⟨Q,rfl,rfl⟩)
  rw[if_neg h3];by_cases h4:st.kind=4
  ·rw[if_pos h4];repeat first|refine v_ ?_|intro
   refine bW cm ?_;rintro e H' ⟨Q,rfl,rfl⟩;repeat first|refine v_ ?_|intro
   exact cI rfl aF rfl rfl rfl aS rfl aA (⟨Q,rfl,rfl⟩)
  rw[if_neg h4];by_cases h5:st.kind=5
  ·rw[if_pos h5];repeat first|refine v_ ?_|intro
   refine bW pm ?_;rintro e H' ⟨Q,rfl,rfl⟩;repeat first|refine v_ ?_|intro
   exact cI rfl aF rfl rfl rfl aS rfl aA (⟨Q,rfl,rfl⟩)
  rw[if_neg h5];by_cases h6:st.kind=6
  ·rw[if_pos h6];repeat first|refine v_ ?_|intro
   refine bW tk ?_;rintro e H' ⟨Q,rfl,rfl⟩;repeat first|refine v_ ?_|intro
   exact cI rfl aF rfl rfl rfl aS rfl aA (⟨Q,rfl,rfl⟩)
  rw[if_neg h6];by_cases h7:st.kind=7
  ·rw[if_pos h7];repeat first|refine v_ ?_|intro
   refine bW dl ?_;rintro e H' ⟨Q,rfl,rfl⟩;repeat first|refine v_ ?_|intro
   exact cI rfl aF rfl rfl rfl aS rfl aA (⟨Q,rfl,rfl⟩)
  rw[if_neg h7];by_cases h8:st.kind=8
  ·rw[if_pos (show 8≤st.kind∧st.kind≤10 by omega)];repeat first|refine v_ ?_|intro
   refine bW ds ?_;rintro e H' ⟨Q,rfl,rfl⟩;repeat first|refine v_ ?_|intro
   exact cI rfl aF rfl rfl rfl aS rfl aA (⟨Q,rfl,rfl⟩)
  by_cases h9:st.kind=9
  ·rw[if_pos (show 8≤st.kind∧st.kind≤10 by omega)];repeat first|refine v_ ?_|intro
   refine bW ds ?_;rintro e H' ⟨Q,rfl,rfl⟩;repeat first|refine v_ ?_|intro
   exact cI rfl aF rfl rfl rfl aS rfl aA (⟨Q,rfl,rfl⟩)
  by_cases h10:st.kind=10
  ·rw[if_pos (show 8≤st.kind∧st.kind≤10 by omega)];repeat first|refine v_ ?_|intro
   refine bW ds ?_;rintro e H' ⟨Q,rfl,rfl⟩;repeat first|refine v_ ?_|intro
   exact cI rfl aF rfl rfl rfl aS rfl aA (⟨Q,rfl,rfl⟩)
  rw[if_neg (show ¬(8≤st.kind∧st.kind≤10) by omega)];repeat first|refine v_ ?_|intro
  refine bW hm ?_;rintro e H' ⟨Q,rfl,rfl⟩;repeat first|refine v_ ?_|intro
  exact cI rfl aF rfl rfl rfl aS rfl aA (⟨Q,rfl,rfl⟩)
end Go.Proofs.YtmilalkjbojciaaGreat.Sep
