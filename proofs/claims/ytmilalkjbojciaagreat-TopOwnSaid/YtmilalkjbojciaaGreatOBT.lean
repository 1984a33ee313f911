/- Part BT: what it needs. No condition. -/
import Derived.Test.YtmilalkjbojciaaGreatOAA
import Derived.Test.YtmilalkjbojciaaGreatOBS
set_option maxRecDepth 100000
set_option maxHeartbeats 8000000
open Go.Proofs.Tryz
namespace Go.Proofs.YtmilalkjbojciaaGreat.Sep
open Go.RowKit Reg Oct
open Mem hiding Rd
def wt(p:fD):Nat:=match mM p.b with
 |none=>1
 |some m=>if p.to=9∨m.kind=1 then 2 else 1
def nL(ws:List fD):Nat:=(ws.map wt).sum
theorem IN(p:fD):1≤wt p∧wt p≤2:=by
 unfold wt;split
 ·omega
 split<;>omega
theorem RL(ws:List fD):nL ws≤2*ws.length:=by
 induction ws with
 |nil=>exact aAf _
 |cons p ws ih =>
  have h1:nL (p::ws)=wt p+nL ws:=rfl;have:=(IN p).2;rw[h1,aAs];omega
theorem PR(ws:List fD)(p:fD):nL (ws++[p])=nL ws+wt p:=by unfold nL;simp
theorem OZ{m m':Mg}(h:m.check=0)(h':m'.check=0)(e:m.enc=m'.enc):m.kind=m'.kind:=by
 have s1:=Mg.size h;have s2:=Mg.size h';have f1:=Frm.yY (t:=[]) s1.1 o_;have f2:=Frm.yY (t:=[]) s2.1 o_;rw[aAc] at f1 f2;have e':Frm.fr m.body=Frm.fr m'.body:=e;rw[e',f2] at f1;injection f1 with f1
 injection f1 with f1 _
 have k1:=(Mg.bR h).1;have k2:=(Mg.bR h').1;have g1:m.body[0]?=some (UInt8.ofNat m.kind.toNat):=by unfold Mg.body;simp[fI,be]
 have g2:m'.body[0]?=some (UInt8.ofNat m'.kind.toNat):=by unfold Mg.body;simp[fI,be]
 rw[←f1,g2] at g1;injection g1 with g1
 have g3:=congrArg UInt8.toNat g1;simp only[aEy] at g3;omega
theorem GI{ws:List fD}{m:Mg}(hk:m.kind≠1)(ht:m.check=0→m.to≠9):nL (jW ws m).1≤nL ws+1:=by
 unfold jW;by_cases hc:m.check=0
 ·rw[if_neg (by rw[hc];decide)];show nL (zX ws ⟨m.to,m.enc,false⟩).1≤_;unfold zX;split
  ·exact aCq _
  ·show nL (ws++[_])≤_;rw[PR];have:wt ⟨m.to,m.enc,false⟩=1:=by
    unfold wt;split
    ·rfl
    ·rename_i m' hm;obtain⟨h1,h2,_⟩:=tU hm;have:=OZ h1 hc h2;rw[if_neg];rintro(h|h)
     ·exact ht hc h
     ·exact hk (this.symm.trans h)
   omega
 ·rw[if_pos hc];exact aCq _
theorem V0{m:Mg}(h:(DB m).check=0):(DB m).to≠9:=by
 have h2:=(Mg.bR h).2.1;unfold Mg.nT at h2;rw[if_neg (show ¬(DB m).kind=3 from(by decide:¬(4:Int)=3)),if_pos (show(DB m).kind=4 from rfl)] at h2;simp[wV] at h2;omega
theorem PD(s:Sv)(m:Mg):(lR s m).kind≠1:=by
 unfold lR;split
 ·exact(show(2:Int)≠1 by decide)
 ·exact(show(0:Int)≠1 by decide)
theorem WE{s:Sv}{m:Mg}(h:(lR s m).check=0):(lR s m).to≠9:=by
 have h0:=(Mg.bR h).1;have h2:=(Mg.bR h).2.1;have hk:(lR s m).kind≠3∧(lR s m).kind≠4:=by
  unfold lR;split
  ·exact⟨(show(2:Int)≠3 by decide),(show(2:Int)≠4 by decide)⟩
  ·exact⟨(show(0:Int)≠3 by decide),(show(0:Int)≠4 by decide)⟩
 unfold Mg.nT at h2;rw[if_neg hk.1,if_neg hk.2] at h2;simp[wV] at h2;omega
theorem Ad{v:Wv}{p:fD}{ws:List fD}(h:v.ws=p::ws):nL (v.bV 0).1.ws<nL v.ws:=by
 have hw:xB v.ws 0=some p:=by rw[h];rfl
 have htk:cR v.ws 0=ws:=by rw[h];rfl
 have hs:nL v.ws=wt p+nL ws:=by rw[h];rfl
 have hp:=(IN p).1;unfold Wv.bV;rw[hw];dsimp only;rw[htk];cases hm:mM p.b with
 |none=>show nL ws<_;omega
 |some m =>
  dsimp only;by_cases h9:p.to=9
  ·rw[if_pos h9];have h2:wt p=2:=by unfold wt;rw[hm];exact if_pos (.inl h9)
   show nL (gG ws v.ref v.app m).1.1<_;unfold gG;split
   ·have:=GI (ws:=ws) (m:=DB m) (show(4:Int)≠1 by decide) V0;show nL (jW ws (DB m)).1<_;omega
   ·show nL ws<_;omega
  ·rw[if_neg h9];split
   ·show nL ws<_;omega
   split
   ·show nL ws<_;omega
   split
   ·rename_i n _ _;show nL (dG ws n m).1.1<_;unfold dG;split
    ·rename_i hk;have h2:wt p=2:=by unfold wt;rw[hm];exact if_pos (.inr hk)
     split
     ·show nL ws<_;omega
     ·have:=GI (ws:=ws) (m:=lR n.sync.1.s m) (PD _ _) WE;show nL (jW ws (lR n.sync.1.s m)).1<_;omega
    split
    ·show nL ws<_;omega
    split
    ·show nL ws<_;omega
    ·show nL ws<_;omega
   ·show nL ws<_;omega
noncomputable def Wv.run(v:Wv)(l:List cH):Wv:=l.foldl (λv st=>(v.step st).1) v
structure Dv where
 w:Wv
 short:Bool
noncomputable def Dv.pE(d:Dv)(st:cH):Dv:=⟨(d.w.step st).1,d.short||(!decide (st.kind=15)&&decide ((d.w.step st).2.code=10))⟩
noncomputable def Dv.J1(d:Dv)(l:List cH):Dv:=l.foldl Dv.pE d
noncomputable def AW(f:Nat→List cH):Nat→Nat→Dv→Dv
 |_,0,d=>d
 |r,k+1,d=>AW f (r+1) k (d.J1 (f r))
noncomputable def Dv.all(d:Dv)(i:Nat)(f:Nat→List cH):Dv:=AW f i (d.w.bU.length - i) d
def pB(kind r i n:Int):cH:=⟨kind,r,i,n,mW⟩
noncomputable def nJ:Nat→Dv→Nat→Dv×Nat
 |0,d,n=>(d,n)
 |k+1,d,n=>match d.w.ws with
  | []=>(d,n)
  |_::_=>nJ k (d.pE (pB 7 0 0 0)) (n+1)
noncomputable def Dv.bV(d:Dv):Dv:=(nJ (nL d.w.ws) d 0).1
def pH(kind:Int)(r:Nat):List cH:=[pB kind r 0 0]
def AK(r:Nat):List cH:=[pB 3 r 0 0]
def EH(r:Nat):List cH:=[pB 3 r 0 0,pB 3 0 r 0]
noncomputable def Wv.round(v:Wv):Dv :=
 (((((((((Dv.mk v false).bV.all 0 (pH 15)).all 1 EH).bV).pE (pB 4 0 0 16)).all 1 AK).bV).all 0 (pH 5)).bV).pE (pB 6 0 0 v.cf.cap)
noncomputable def Wv.state(v:Wv)(r:Nat):Sv:=match v.bU[r]? with
 |some n=>n.state
 |none=>Qb 0
def Wv.up(v:Wv)(r:Nat):Bool:=match v.bU[r]? with
 |some n=>n.up
 |none=>false
noncomputable def vY(v:Wv):Nat→Nat→Bool
 |_,0=>true
 |r,k+1=>if v.up r∧(v.state r).quiet=true∧(v.state r).v.l=(v.state 0).v.l then vY v (r+1) k else false
noncomputable def Wv.quiet(v:Wv):Bool:=match v.ws with
 | []=>vY v 0 v.bU.length
 |_::_=>false
noncomputable def xY:Nat→Wv→Bool→Nat→Wv×Nat×Bool
 |0,v,sh,n=>(v,n,sh)
 |k+1,v,sh,n=>if v.quiet then(v,n,sh) else xY k v.round.w (v.round.short||sh) (n+1)
noncomputable def Wv.start(v:Wv):Wv:=((((Dv.mk v false).pE (pB 11 0 0 0)).all 0 (pH 14)).all 0 (pH 13)).w
noncomputable def Wv.fair(v:Wv)(k:Nat):Wv×Nat×Bool:=xY k v.start false 0
theorem IK(v:Wv)(i:Int):(v.bV i).1.cf=v.cf∧(v.bV i).1.bU.length=v.bU.length:=by
 unfold Wv.bV;split
 ·exact⟨rfl,rfl⟩
 split
 ·exact⟨rfl,rfl⟩
 split
 ·exact⟨rfl,rfl⟩
 split
 ·exact⟨rfl,rfl⟩
 split
 ·exact⟨rfl,rfl⟩
 split
 ·exact⟨rfl,aAt ..⟩
 ·exact⟨rfl,rfl⟩
theorem L6(v:Wv)(i:Int):(v.qA i).1.cf=v.cf∧(v.qA i).1.bU.length=v.bU.length:=by
 unfold Wv.qA;split
 ·exact⟨rfl,rfl⟩
 ·exact⟨rfl,aAt ..⟩
theorem Eg(v:Wv)(st:cH):(v.step st).1.cf=v.cf∧(v.step st).1.bU.length=v.bU.length:=by
 unfold Wv.step;split
 ·exact⟨rfl,rfl⟩
 split
 ·exact⟨rfl,rfl⟩
 unfold Wv.SB;split
 ·exact⟨rfl,aAt ..⟩
 split
 ·exact⟨rfl,aAt ..⟩
 split
 ·exact⟨rfl,aAt ..⟩
 split
 ·exact L6 v _
 split
 ·exact⟨rfl,aAt ..⟩
 split
 ·exact⟨rfl,rfl⟩
 split
 ·exact IK v _
 split
 ·exact⟨rfl,rfl⟩
 ·exact⟨rfl,aAt ..⟩
theorem oY(d:Dv)(st:cH):(d.pE st).w.cf=d.w.cf∧(d.pE st).w.bU.length=d.w.bU.length:=Eg d.w st
theorem Ck:∀(l:List cH) (d:Dv),(d.J1 l).w.cf=d.w.cf∧(d.J1 l).w.bU.length=d.w.bU.length
 | [],_=>⟨rfl,rfl⟩
 |st::l,d=>⟨(Ck l (d.pE st)).1.trans (oY d st).1,(Ck l (d.pE st)).2.trans (oY d st).2⟩
theorem Ce(f:Nat→List cH):∀(k r:Nat) (d:Dv),(AW f r k d).w.cf=d.w.cf∧(AW f r k d).w.bU.length=d.w.bU.length
 |0,_,_=>⟨rfl,rfl⟩
 |k+1,r,d=>⟨(Ce f k (r+1) _).1.trans (Ck _ d).1,(Ce f k (r+1) _).2.trans (Ck _ d).2⟩
theorem oZ(d:Dv)(i:Nat)(f:Nat→List cH):(d.all i f).w.cf=d.w.cf∧(d.all i f).w.bU.length=d.w.bU.length:=Ce f _ _ d
theorem Cd:∀(k:Nat) (d:Dv) (n:Nat),(nJ k d n).1.w.cf=d.w.cf∧(nJ k d n).1.w.bU.length=d.w.bU.length
 |0,_,_=>⟨rfl,rfl⟩
 |k+1,d,n=>by
  unfold nJ;split
  ·exact⟨rfl,rfl⟩
  ·exact⟨(Cd k _ _).1.trans (oY d _).1,(Cd k _ _).2.trans (oY d _).2⟩
theorem uC(d:Dv):d.bV.w.cf=d.w.cf∧d.bV.w.bU.length=d.w.bU.length:=Cd _ d 0
end Go.Proofs.YtmilalkjbojciaaGreat.Sep
