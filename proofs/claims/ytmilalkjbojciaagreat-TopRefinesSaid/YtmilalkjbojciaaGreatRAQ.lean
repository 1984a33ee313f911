/- Part AQ: what it needs. No condition. -/
import Derived.Test.YtmilalkjbojciaaGreatRAA
import Derived.Test.YtmilalkjbojciaaGreatRAI
import Derived.Test.YtmilalkjbojciaaGreatRAP
set_option maxRecDepth 100000
set_option maxHeartbeats 8000000
open Go.Proofs.Tryz
namespace Go.Proofs.YtmilalkjbojciaaGreat.Sep
open Go.RowKit Reg
open Mem hiding Rd
theorem aK.post{P:Program}{E:Env}{f:FuncId}{args:Array Value}{H:List aL}{Q Q':Ending→List aL→Prop}(h:aK P E f args H Q)(hq:∀e H',Q e H'→∃H2,aB E H' H2∧Q' e H2):aK P E f args H Q' :=
 λhd w hw=>(h hd w hw).mono λe w' ⟨H',h1,h2⟩=>let ⟨H2,hc,hq2⟩:=hq e H' h2;⟨H2,hc w' h1,hq2⟩
theorem Dh{E:Env}{f:FuncId}{args:Array Value}{g:Nat}{v:Lg}{os:List Ov}{Q:Ending→List aL→Prop}(h:∀h:Lh,h.g=g→h.os=os→Lf h v→aK prog E f args (mC h v) Q):aK prog E f args [cO g v os] Q:=by
 intro hds w hw;obtain⟨h1,hg,ho,hf,hs⟩:=cO.out hw;exact h h1 hg ho hf hds w (by simpa using hs)
theorem CE{l:List aX}{x c:aX}(h:x∈lG l c):x=c∨x∈l:=by
 unfold lG at h;simp only[aBg,aAp] at h;rcases h with(h|h)|h
 ·exact .inr (aBs h)
 ·exact .inl h
 ·exact .inr (aDw h)
theorem V4.Nq{v:V4}(h:v.ok){i x:Int}(h0:0≤x)(h1:x≤1073741824):(v.set i x).ok:=by
 unfold V4.ok V4.set at *;repeat' split
 all_goals (dsimp only;omega)
theorem TJ{h h2:Lh}{v:Lg}{c:aX}(f:Lf h v)(hc:c.ok)(ho:h2.os=h.os)(hy:h2.y=h.y):Lf h2 (sV v c).1:=by
 have same:Lf h2 v:=⟨by rw[ho];exact f.outs,by rw[hy];exact f.base,f.len,f.RB,f.tok,f.known,f.times⟩
 unfold sV;split
 ·exact same
 split
 ·exact same
 split
 ·exact same
 ·rename_i h1 h2' h3;have hm:c.may=true:=by simpa using h3
  have hm2:=(aX.bY c).1 hm;refine⟨same.outs,same.base,?_,f.RB,?_,V4.Nq f.known o_ o_,V4.Nq f.times o_ o_⟩
  ·dsimp only;unfold tP;split
   ·rw[lA];omega
   ·exact f.len
  ·intro x hx;dsimp only at hx;unfold tP at hx;split at hx
   ·rcases CE hx with rfl|hx
    ·exact hc
    ·exact f.tok x hx
   ·exact f.tok x hx
section
variable (E:Env) (g:Nat) (v:Lg) (os:List Ov)
theorem UP:G E 279 [] [] λe H'=>∃g,e=.returned (pt g)∧H'=[cO g Hb []] :=
 aK.post (Xq E) λe H' ⟨h,ho,hf,he,hH⟩=>⟨_,by subst hH;have:=cO.mk (E:=E) (R:=[]) hf;rw[aAc,ho] at this;exact this,h.g,he,rfl⟩
theorem uB:G E 16 [pt g] [cO g v os] λe H'=>∃B k,(v.l.length≤k∧k≤maxLen)∧e=.returned (.slice B v.l.length k)∧H'=[own bE B v.l.length k v.l,cO g v os]:=by
 refine aK.mono (lS (Q0:=λe H'=>∃B k,(v.l.length≤k∧k≤maxLen)∧e=.returned (.slice B v.l.length k)∧H'=[own bE B v.l.length k v.l]) λM h r f hg _ _=>by subst hg;exact JW M h v r f) ?_;rintro e H' ⟨H1,⟨B,k,hd,rfl,rfl⟩,rfl⟩;exact⟨B,k,hd,rfl,rfl⟩
theorem pJ:G E 40 [pt g] [cO g v os] λe H'=>∃B k,(v.t.length≤k∧k≤maxLen)∧e=.returned (.slice B v.t.length k)∧H'=[own bE B v.t.length k v.t,cO g v os]:=by
 refine aK.mono (lS (Q0:=λe H'=>∃B k,(v.t.length≤k∧k≤maxLen)∧e=.returned (.slice B v.t.length k)∧H'=[own bE B v.t.length k v.t]) λM h r f hg _ _=>by subst hg;exact Ih M h v r f) ?_;rintro e H' ⟨H1,⟨B,k,hd,rfl,rfl⟩,rfl⟩;exact⟨B,k,hd,rfl,rfl⟩
theorem aJf:G E 41 [pt g] [cO g v os] λe H'=>∃y:Bh,y.b=(gH sY v.l).1∧e=.returned (.agg y.cs.toArray)∧H'=[iR y,cO g v os]:=by
 refine aK.mono (lS (Q0:=λe H'=>∃y:Bh,y.b=(gH sY v.l).1∧e=.returned (.agg y.cs.toArray)∧H'=[iR y]) λM h r f hg _ _=>by subst hg;exact aJp M h v r f) ?_;rintro e H' ⟨H1,⟨y,h1,rfl,rfl⟩,rfl⟩;exact⟨y,h1,rfl,rfl⟩
theorem aJe:G E 18 [pt g] [cO g v os] λe H'=>∃y:Bh,y.b=(gH sY (v.l++v.t)).1∧e=.returned (.agg y.cs.toArray)∧H'=[iR y,cO g v os]:=by
 refine aK.mono (lS (Q0:=λe H'=>∃y:Bh,y.b=(gH sY (v.l++v.t)).1∧e=.returned (.agg y.cs.toArray)∧H'=[iR y]) λM h r f hg _ _=>by subst hg;exact aJm M h v r f) ?_;rintro e H' ⟨H1,⟨y,h1,rfl,rfl⟩,rfl⟩;exact⟨y,h1,rfl,rfl⟩
theorem KS:G E 96 [pt g] [cO g v os] λe H'=>e=.returned (.agg (L0 (v.l++v.t)).cs.toArray)∧H'=[cO g v os]:=by
 refine aK.mono (lS (Q0:=λe H'=>e=.returned (.agg (L0 (v.l++v.t)).cs.toArray)∧H'=[]) λM h r f hg _ _=>by subst hg;exact Vc M h v r f) ?_;rintro e H' ⟨H1,⟨rfl,rfl⟩,rfl⟩;exact⟨rfl,rfl⟩
theorem Rt:G E 97 [pt g] [cO g v os] λe H'=>e=.returned (.int .i64 (sF v))∧H'=[cO g v os]:=by
 refine aK.mono (lS (Q0:=λe H'=>e=.returned (.int .i64 (sF v))∧H'=[]) λM h r f hg _ _=>by subst hg;exact UX M h v r f) ?_;rintro e H' ⟨H1,⟨rfl,rfl⟩,rfl⟩;exact⟨rfl,rfl⟩
theorem R5:G E 115 [pt g] [cO g v os] λe H'=>e=.returned (.tuple #[.agg ((v.t[0]?).getD dO).id.cs.toArray,.bool (!v.t.isEmpty)])∧H'=[cO g v os]:=by
 refine aK.mono (lS (Q0:=λe H'=>e=.returned (.tuple #[.agg ((v.t[0]?).getD dO).id.cs.toArray,.bool (!v.t.isEmpty)])∧H'=[]) λM h r f hg _ _=>by subst hg;exact VK M h v r f) ?_;rintro e H' ⟨H1,⟨rfl,rfl⟩,rfl⟩;exact⟨rfl,rfl⟩
theorem J0:G E 73 [pt g] [cO g v os] λe H'=>∃g2,e=.returned (pt g2)∧H'=[cO g2 v os,cO g v os]:=by
 refine aK.post (lS (Q0:=λe H'=>∃h2:Lh,h2.os=os∧Lf h2 v∧e=.returned (pt h2.g)∧H'=mC h2 v) λM h r f hg ho _=>?_) ?_
 ·subst hg;refine aK.mono (Hy M h v r f) ?_;rintro e H' ⟨h2,k1,k2⟩;exact⟨h2,k1.trans ho,k2⟩
 ·rintro e H' ⟨H1,⟨h2,k1,k2,k3,rfl⟩,rfl⟩;have:=cO.mk (E:=E) (R:=[cO g v os]) k2;rw[k1] at this;exact⟨_,this,h2.g,k3,rfl⟩
theorem Dw(hro:Bw E os)(a:bJ):G E 110 [pt g,.agg a.cs.toArray] [cO g v os] λe H'=>∃o:Ov,o.d=(cE v a).1∧e=.returned (.tuple #[.agg o.cs.toArray,.bool (cE v a).2.1,.bool (cE v a).2.2])∧H'=[dM o,cO g v os]:=by
 refine aK.mono (lS (Q0:=λe H'=>∃o:Ov,o.d=(cE v a).1∧e=.returned (.tuple #[.agg o.cs.toArray,.bool (cE v a).2.1,.bool (cE v a).2.2])∧H'=[dM o]) λM h r f hg ho hrd=>?_) ?_
 ·subst hg;exact Ed M h v r f (by rw[ho];exact λo ho=>hrd _ _ _ _ _ (hro o ho)) a
 ·rintro e H' ⟨H1,⟨o,h1,rfl,rfl⟩,rfl⟩;exact⟨o,h1,rfl,rfl⟩
theorem YF(c:aX)(hc:c.ok):G E 256 [pt g,.agg c.cs.toArray] [cO g v os] (cM (.int .i64 (sV v c).2) [cO g (sV v c).1 os]):=by
 refine Dh λh hg ho hf=>?_;subst hg;refine aK.post (N7 E h v hf c hc) ?_;rintro e H' ⟨h2,k1,k2,k3,k4,rfl⟩;have:=cO.mk (E:=E) (R:=[]) (TJ hf hc k2 k3);rw[aAc,k1,k2,ho] at this;exact⟨_,this,k4,rfl⟩
theorem Ow(a:bJ):G E 257 [pt g,.agg a.cs.toArray] [cO g v os] λe H'=>∃new:List Ov,e=.returned (.int .i64 (fZ v a).2)∧H'=[cO g (fZ v a).1 (os++new),aO dM new]:=by
 refine Dh λh hg ho hf=>?_;subst hg;refine aK.post (HE E h v hf a) ?_;rintro e H' ⟨h2,new,k1,k2,k3,k4,rfl⟩;have:=cO.mk (E:=E) (R:=[aO dM new]) k3;rw[k1,k2,ho] at this;exact⟨_,this,new,k4,rfl⟩
end
theorem aK.dU{P:Program}{E:Env}{f:FuncId}{args:Array Value}{Hp R:List aL}{Q:Ending→List aL→Prop}(h:∀M,Sub E R M→aK P M f args Hp Q):aK P E f args (Hp++R) (λe H'=>∃H1,Q e H1∧H'=H1++R):=by
 intro hds w hw;obtain⟨M,hds',hE,hst,hback⟩:=hw.enter;exact(h M hE hds' w hst).mono λe w' ⟨H1,h1,h2⟩=>⟨H1++R,hback _ _ h1,H1,h2,rfl⟩
structure U7 where
 B:Option Addr
 d:Nat
 ls:List fG
structure VC(x:U7)(r:Int)(ps:List dS):Prop where
 ok:EE r x.ls
 ps:x.ls.map fG.s=ps
 cap:x.ls.length≤x.d∧x.d≤maxLen
def eC(g:Nat)(r:Int)(ps:List dS):aL:=pack λ(x:U7)=>iE (VC x r ps)::vM g x.B x.ls.length x.d r x.ls
theorem eC.mk{E:Env}{R:List aL}{g:Nat}{r:Int}{ps:List dS}{x:U7}(f:VC x r ps):aB E (vM g x.B x.ls.length x.d r x.ls++R) (eC g r ps::R):=λw hw=>by
 have h1:St E (iE (VC x r ps)::vM g x.B x.ls.length x.d r x.ls++R) w:=aB.lH f w hw;exact h1.conv λF hs=>by
  obtain⟨F1,F2,k1,k2,k3,k4⟩:=aY.1 hs;exact⟨F,⟨F1,F2,k1,k2,⟨x,k3⟩,k4⟩,λ_ h=>h⟩
theorem eC.out{E:Env}{R:List aL}{g:Nat}{r:Int}{ps:List dS}{w:World}(hw:St E (eC g r ps::R) w):∃x:U7,VC x r ps∧St E (vM g x.B x.ls.length x.d r x.ls++R) w:=by
 obtain⟨x,hs⟩:=hw.unpack (l:=λ(x:U7)=>iE (VC x r ps)::vM g x.B x.ls.length x.d r x.ls) Has.aN;have hp:=St.lH (H:=_) (R:=_) hs Has.aN;refine⟨x,hp,hs.conv λF hst=>?_⟩;obtain⟨F1,F2,k1,k2,k3,k4⟩:=hst;exact⟨F2,k4,λb hb=>(k1 b).2 (.inr hb)⟩
theorem mI{E:Env}{f:FuncId}{args:Array Value}{g:Nat}{r:Int}{ps:List dS}{Q:Ending→List aL→Prop}(h:∀x:U7,VC x r ps→aK prog E f args (vM g x.B x.ls.length x.d r x.ls) Q):aK prog E f args [eC g r ps] Q:=by
 intro hds w hw;obtain⟨x,hf,hs⟩:=eC.out hw;exact h x hf hds w (by simpa using hs)
def rW(ps:List dS)(s:Int)(w:List cQ):List dS:=if 1≤s∧s≤(ps.length:Int)+1 then mQ ps (s - 1).toNat w else ps
def wJ(r:Int)(ps:List dS)(k:bP)(now:Int):List dS×Bool :=
 if k.id.rep=r∧1≤k.id.seq∧k.id.seq≤(ps.length:Int) then
  (ps.set (k.id.seq - 1).toNat (if (ps.getD (k.id.seq - 1).toNat s0).tA k.id k then(ps.getD (k.id.seq - 1).toNat s0).gV k.id now else ps.getD (k.id.seq - 1).toNat s0),
   (ps.getD (k.id.seq - 1).toNat s0).tA k.id k&&(pK k.id (ps.getD (k.id.seq - 1).toNat s0).made (ps.getD (k.id.seq - 1).toNat s0).l (ps.getD (k.id.seq - 1).toNat s0).w now).isSome)
 else(ps,false)
def wZ(r:Int)(ps:List dS)(k:bP):List dS×Bool :=
 if k.id.rep=r∧1≤k.id.seq∧k.id.seq≤(ps.length:Int) then
  (ps.set (k.id.seq - 1).toNat ((ps.getD (k.id.seq - 1).toNat s0).qJ k.id k),(cX k.id (ps.getD (k.id.seq - 1).toNat s0).l k).isSome)
 else(ps,false)
section
variable (E:Env) (g:Nat) (r:Int) (ps:List dS)
theorem YG:G E 264 [.int .i64 r] [] λe H'=>∃g,e=.returned (pt g)∧H'=[eC g r []]:=by
 refine aK.post (Xl E r) ?_;rintro e H' ⟨g,rfl,rfl⟩;have h:=eC.mk (E:=E) (R:=[]) (g:=g) (x:=⟨none,0,[]⟩) (r:=r) (ps:=[]) ⟨(λi e h=>by cases h),rfl,by decide,by decide⟩;refine⟨_,aB.trans (aB.trans (aB.nil eD) (aB.trans (aB.kP gJ) (aB.kP iD))) (aB.trans ?_ h),g,rfl,rfl⟩;exact aB.aV (.cons (.aM (.aM (.aM .aN))) (.cons (.aM (.aM .aN)) (.cons (.aM .aN) (.cons .aN .nil))))
theorem XK(hps:ps.length≤1000)(s:Int)(X:Option Addr)(nx cx:Nat)(w:List cQ)(hw:Rd E eG X nx cx w)(hx:nx≤8)(hwo:∀f∈w,f.ok) :
  G E 308 [pt g,.int .i64 s,.slice X nx cx] [eC g r ps] λe H'=>(∃b,e=.returned (.bool b))∧H'=[eC g r (rW ps s w)]:=by
 refine mI λx hf=>?_;have hl:x.ls.length=ps.length:=by rw[←hf.ps,aAw]
 unfold rW;by_cases h:1≤s∧s≤(ps.length:Int)+1
 ·rw[if_pos h];obtain⟨i,hi⟩:∃i:Nat,s=((i+1:Nat):Int):=⟨(s - 1).toNat,by omega⟩
  subst hi;have hi2:(((i+1:Nat):Int) - 1).toNat=i:=o_;rw[hi2];refine aK.post (ZV E g x.B x.ls.length x.d r x.ls i o_ o_ rfl hf.cap hf.ok X nx cx w hw hx hwo) ?_;rintro e H' ⟨B',n',d',ls',rfl,k1,rfl,k3,k4,rfl⟩;rw[hf.ps] at k4;have h2:=eC.mk (E:=E) (R:=[]) (g:=g) (x:=⟨B',d',ls'⟩) (r:=r) ⟨k1,k4,k3⟩;exact⟨_,h2,⟨_,rfl⟩,rfl⟩
 ·rw[if_neg h];refine aK.post (aK.dU (Hp:=[lg g x.B x.ls.length x.d r]) λM hE=>Rw M g x.B x.ls.length x.d r s (.slice X nx cx) o_ o_) ?_;rintro e H' ⟨H1,⟨rfl,rfl⟩,rfl⟩;have h2:=eC.mk (E:=E) (R:=[]) (g:=g) hf;rw[aAc] at h2;exact⟨_,h2,⟨_,rfl⟩,rfl⟩
theorem Hv{x:U7}(hf:VC x r ps){k:bP}(h:k.id.rep=r∧1≤k.id.seq∧k.id.seq≤(ps.length:Int)):∃e,x.ls[(k.id.seq - 1).toNat]?=some e∧(k.id.seq - 1).toNat<x.ls.length∧e.id=k.id∧k.id.seq=(((k.id.seq - 1).toNat+1:Nat):Int)∧ps.getD (k.id.seq - 1).toNat s0=e.s:=by
 have hl:x.ls.length=ps.length:=by rw[←hf.ps,aAw]
 have hlt:(k.id.seq - 1).toNat<x.ls.length:=o_;have he:x.ls[(k.id.seq - 1).toNat]?=some x.ls[(k.id.seq - 1).toNat]:=aAa hlt;refine⟨_,he,hlt,?_,by omega,?_⟩
 ·rw[(hf.ok _ _ he).id];obtain⟨⟨a,b⟩,o,u⟩:=k;dsimp only at h⊢;obtain⟨rfl,h1,h2⟩:=h;congr 1;omega
 ·rw[←hf.ps,aBb,aBf,he];rfl
theorem Yh(hps:ps.length≤1000)(k:bP)(now:Int)(hnow:dQ now):G E 259 [pt g,.agg k.cs.toArray,.int .i64 now] [eC g r ps] (cM (.bool (wJ r ps k now).2) [eC g r (wJ r ps k now).1]):=by
 refine mI λx hf=>?_;have hl:x.ls.length=ps.length:=by rw[←hf.ps,aAw]
 unfold wJ;by_cases h:k.id.rep=r∧1≤k.id.seq∧k.id.seq≤(ps.length:Int)
 ·rw[if_pos h];obtain⟨e,he,hlt,hid,hsq,hs⟩:=Hv r ps hf h;rw[hs];have law:=ZP E g x.B x.ls.length x.d r x.ls (k.id.seq - 1).toNat o_ hlt hf.ok he k.ord k.cD now hnow;rw[←hsq,show(⟨e.id,k.ord,k.cD⟩:bP)=k by rw[hid],hid] at law;obtain⟨hr,_,_⟩:=h;subst hr;refine aK.post law ?_;rintro e2 H' ⟨ls',rfl,k1,k2,k3,rfl⟩;rw[hf.ps] at k3;have h2:=eC.mk (E:=E) (R:=[]) (g:=g) (x:=⟨x.B,x.d,ls'⟩) (r:=k.id.rep) ⟨k1,k3,by dsimp only;rw[k2];exact hf.cap⟩;dsimp only at h2;rw[k2,aAc] at h2;exact⟨_,h2,rfl,rfl⟩
 ·rw[if_neg h];refine aK.post (aK.dU (Hp:=[lg g x.B x.ls.length x.d r]) λM hE=>Qp M g x.B x.ls.length x.d r k now o_ (by rw[hl];exact h)) ?_;rintro e H' ⟨H1,⟨rfl,rfl⟩,rfl⟩;have h2:=eC.mk (E:=E) (R:=[]) (g:=g) hf;rw[aAc] at h2;exact⟨_,h2,rfl,rfl⟩
theorem Yl(hps:ps.length≤1000)(k:bP):G E 260 [pt g,.agg k.cs.toArray] [eC g r ps] (cM (.bool (wZ r ps k).2) [eC g r (wZ r ps k).1]):=by
 refine mI λx hf=>?_;have hl:x.ls.length=ps.length:=by rw[←hf.ps,aAw]
 unfold wZ;by_cases h:k.id.rep=r∧1≤k.id.seq∧k.id.seq≤(ps.length:Int)
 ·rw[if_pos h];obtain⟨e,he,hlt,hid,hsq,hs⟩:=Hv r ps hf h;rw[hs];have law:=Zt E g x.B x.ls.length x.d r x.ls (k.id.seq - 1).toNat o_ hlt hf.ok he k.ord k.cD;rw[←hsq,show(⟨e.id,k.ord,k.cD⟩:bP)=k by rw[hid],hid] at law;obtain⟨hr,_,_⟩:=h;subst hr;refine aK.post law ?_;rintro e2 H' ⟨ls',rfl,k1,k2,k3,rfl⟩;rw[hf.ps] at k3;have h2:=eC.mk (E:=E) (R:=[]) (g:=g) (x:=⟨x.B,x.d,ls'⟩) (r:=k.id.rep) ⟨k1,k3,by dsimp only;rw[k2];exact hf.cap⟩;dsimp only at h2;rw[k2,aAc] at h2;exact⟨_,h2,rfl,rfl⟩
 ·rw[if_neg h];refine aK.post (aK.dU (Hp:=[lg g x.B x.ls.length x.d r]) λM hE=>Qe M g x.B x.ls.length x.d r k o_ (by rw[hl];exact h)) ?_;rintro e H' ⟨H1,⟨rfl,rfl⟩,rfl⟩;have h2:=eC.mk (E:=E) (R:=[]) (g:=g) hf;rw[aAc] at h2;exact⟨_,h2,rfl,rfl⟩
end
instance Tb:cL 147 [.pointer none,.pointer none,.int .i64 0] [(0,1),(1,1),(2,1)]:=⟨⟨q_,q_⟩⟩
structure Sv where
 v:Lg
 ps:List dS
 r:Int
abbrev pN(g a b:Nat)(s:Sv)(os:List Ov):List aL:=[aJ g 147 [pt a,pt b,.int .i64 s.r],eC a s.r s.ps,cO b s.v os]
def aT(g:Nat)(s:Sv)(os:List Ov):aL:=pack λ(x:Nat×Nat)=>pN g x.1 x.2 s os
theorem aT.mk{E:Env}{R:List aL}{g a b:Nat}{s:Sv}{os:List Ov}:aB E (pN g a b s os++R) (aT g s os::R) :=
 aB.pack (l:=λ(x:Nat×Nat)=>pN g x.1 x.2 s os) (a,b) (.cons .aN (.cons .aN (.cons .aN .nil)))
theorem jJ{E:Env}{f:FuncId}{args:Array Value}{g:Nat}{s:Sv}{os:List Ov}{Q:Ending→List aL→Prop}(h:∀a b,aK prog E f args (pN g a b s os) Q):aK prog E f args [aT g s os] Q :=
 aK.unpack (l:=λ(x:Nat×Nat)=>pN g x.1 x.2 s os) Has.aN λx=>by rw[aAc];exact h x.1 x.2
theorem G8(E:Env)(b:Bool):G E 258 [.bool b] [] (cM (.int .i64 (if b then 0 else 14)) []):=by
 refine t_ func258 ntmps258 ?_;cases b;all_goals
  repeat first|refine v_ ?_|intro
  exact B7
section
variable (E:Env) (g a b:Nat) (s:Sv) (os:List Ov)
theorem DI(hb:gE E g [pt a,pt b,.int .i64 s.r]):G E 72 [pt g] [] (cM (.bool true) []):=by
 refine t_ func72 ntmps72 ?_;repeat first|refine v_ ?_|intro
 exact B7
theorem It(hb:gE E g [pt a,pt b,.int .i64 s.r]):G E 99 [pt g] [] (cM (pt a) []):=by
 have is:=λM hb=>DI M g a b s hb;refine t_ func99 ntmps99 ?_;repeat first|refine v_ ?_|intro
 refine eV is ?_;repeat first|refine v_ ?_|intro
 exact B7
theorem Wj(r:Int):G E 224 [.int .i64 r] [] λe H'=>∃g,e=.returned (pt g)∧H'=[aT g ⟨Hb,[],dF r 0 3⟩ []]:=by
 refine t_ func224 ntmps224 ?_;repeat first|refine v_ ?_|intro
 refine bW (λM=>YG M (dF r 0 3)) ?_;rintro e H' ⟨g1,rfl,rfl⟩;repeat first|refine v_ ?_|intro
 refine bW UP ?_;rintro e H' ⟨g2,rfl,rfl⟩;repeat first|refine v_ ?_|intro
 rename_i g3;refine aR (H':=[aT g3 ⟨Hb,[],dF r 0 3⟩ []]) rfl aF ?_ ⟨g3,rfl,rfl⟩;exact aB.trans (aB.aV (l:=pN g3 g1 g2 ⟨Hb,[],dF r 0 3⟩ []) aC) (by have:=aT.mk (E:=E) (R:=[]) (g:=g3) (a:=g1) (b:=g2) (s:=⟨Hb,[],dF r 0 3⟩) (os:=[]);rwa [aAc] at this)
theorem vC:G E 89 [pt g] [aT g s os] (cM (.int .i64 s.r) [aT g s os]):=by
 refine jJ λa b=>?_;have is:=λM hb=>DI M g a b s hb;dsimp only[pN];refine t_ func89 ntmps89 ?_;repeat first|refine v_ ?_|intro
 refine eV is ?_;repeat first|refine v_ ?_|intro
 refine aR (H':=[aT g s os]) rfl aF ?_ ⟨rfl,rfl⟩;have:=aT.mk (E:=E) (R:=[]) (g:=g) (a:=a) (b:=b) (s:=s) (os:=os);exact aB.trans (aB.aV (l:=pN g a b s os) aC) (by rwa [aAc] at this)
theorem Pp:G E 14 [pt g] [aT g s os] λe H'=>∃g2,e=.returned (pt g2)∧H'=[cO g2 s.v os,aT g s os]:=by
 refine jJ λa b=>?_;have is:=λM hb=>DI M g a b s hb;dsimp only[pN];refine t_ func14 ntmps14 ?_;repeat first|refine v_ ?_|intro
 refine eV is ?_;repeat first|refine v_ ?_|intro
 refine bW (λM=>J0 M b s.v os) ?_;rintro e H' ⟨g2,rfl,rfl⟩;repeat first|refine v_ ?_|intro
 refine aR (H':=[cO g2 s.v os,aT g s os]) rfl aF ?_ ⟨g2,rfl,rfl⟩;have:=aT.mk (E:=E) (R:=[cO g2 s.v os]) (g:=g) (a:=a) (b:=b) (s:=s) (os:=os);exact aB.trans (aB.aV (l:=pN g a b s os++[cO g2 s.v os]) aC) (aB.trans this aA)
end
end Go.Proofs.YtmilalkjbojciaaGreat.Sep
