/- Part AW: what it needs. No condition. -/
import Derived.Test.YtmilalkjbojciaaGreatRAA
import Derived.Test.YtmilalkjbojciaaGreatRAE
import Derived.Test.YtmilalkjbojciaaGreatRAO
import Derived.Laws.Externs
import Derived.MapKept
import Derived.Test.YtmilalkjbojciaaGreatRAQ
import Derived.Test.YtmilalkjbojciaaGreatRAR
set_option maxRecDepth 100000
set_option maxHeartbeats 8000000
open Go.Proofs.Tryz
namespace Go.Proofs.YtmilalkjbojciaaGreat.Sep
open Go.RowKit Reg
open Mem hiding Rd
section
variable {E:Env} {H H' R:List aL} {N:Nat} {F:Nat→Value} {o:Oper} {ρ:Operand→Value} {m:Option Nat} {ks:List bP}
theorem V.Oe{t k e:TypeId}{x:Operand}{v:Value}{u:World}(ho:o.op=.makeInterface t x)(hx:ρ x=v)(ht:prog.underlying t=some (.map k e)):(execOp ρ o).run prog u=.ok (.value (.iface t v)) u:=by
 simp[execOp,ho,hx,Instr.makeInterface,run_underlying ht]
theorem V.SN{t xT k e:TypeId}{x:Operand}{v:Value}{u:World}(ho:o.op=.typeAssert x xT t false)(hx:ρ x=.iface t v)(ht:prog.underlying t=some (.map k e)):(execOp ρ o).run prog u=.ok (.value v) u:=by
 simp[execOp,ho,hx,Instr.typeAssert,run_underlying ht,Result.andThen]
theorem S.PS{f:FuncId}{fn:Func}{t:TypeId}{x:Operand}{tys:Array TypeId}{g:Nat}(ho:o.op=.call { callee:=.value (.func f),args:=#[x],argTypes:=tys })(hx:ev F x=.iface t (.map (some g)))
  (hf:prog.funcs[f]?=some fn) (hname:(fn.name == "runtime.NumGoroutine")=false) (hb:fn.body.isNone=true) (hn:Extern.findNext fn=none) (he:Extern.find fn=some Extern.MapsClone.clone) (hm:Has (Dq (some g) ks) H R) :
  gK prog N E F H o λr H1=>∃g',r=.iface t (.map (some g'))∧H1=Dq (some g') ks::H:=by
 intro a u ha hu Kw Q' hK;obtain⟨F0,⟨_,h1⟩,_⟩:=hu.has hm;have hcl:(Extern.MapsClone.clone #[.iface t (.map (some g))]).run prog u=.ok (.iface t (.map (some u.heap.size))) (u.alloc (.map (SR ks) ks.length)):=by
  have e:Extern.MapsClone.clone #[.iface t (.map (some g))]=(getObj g >>= λo=>match o with
   | .map entries clock=>(newObj (.map entries clock) >>= λn=>pure (.iface t (.map (some n))))
   |_=>stuck "maps.clone: a map expected"):=rfl
  rw[e];simp[aEa h1,Result.andThen,go_sem]
 have hrun:(execOp (ev F) o).run prog u=.ok (.value (.iface t (.map (some u.heap.size)))) (u.alloc (.map (SR ks) ks.length)):=by
  have hcall:=run_callFunc_extern (P:=prog) hf hname hb hn he #[.iface t (.map (some g))] u;rw[hcl] at hcall;have hx':ev F (.func f)=.func (.func f) #[] #[]:=rfl;unfold execOp;simp only[ho,resolve,hx',hx,Deferred.ofValue,invoke,aAy,aCc,aAr,aEb,aCi,aDo];simpa using hcall
 unfold Oper.wp;rw[ha.eval,hrun];refine hK _ _ _ ⟨_,rfl,rfl⟩ ?_;exact hu.grow (l:=[Dq (some u.heap.size) ks]) rfl rfl rfl (by simp) (λb hb=>aDu _ _ _ hb) (F1:=λb=>b=u.heap.size) ⟨_,λ_=>False,λb=>by simp,λb _ h=>h,⟨λb=>aDl,heap_alloc_new _ _⟩,λb h=>h⟩ (λb hb=>by omega)
end
section
variable (E:Env) (g:Nat) (m:Option Nat) (A:Option Addr) (n c:Nat) (r:Int) (l:List dK)
theorem VJ(ks:List bP):aK prog E 150 #[.map m] [Dq m ks] λe H'=>∃m',e=.returned (.map m')∧(m'=none→m=none)∧H'=[Dq m' ks,Dq m ks]:=by
 refine t_ func150 ntmps150 ?_;cases m with
 |none =>
  refine C.conv (H':=[Dq none ks,Dq none ks]) (λw hw=>?_) ?_
  ·obtain⟨F,⟨rfl,_⟩,_⟩:=hw.has (R:=[]) Has.aN;exact aB.l6 w hw
  repeat first|refine qI ?_|intro
  exact jQ ⟨none,rfl,λ_=>rfl,rfl⟩
 |some g2 =>
  repeat first|refine qI ?_|intro
  refine L.val sD (λ_ _=>V.Oe rfl rfl rfl) ?_;refine L.fQ sD (S.PS rfl rfl func212 q_ q_ q_ q_ aS) ?_;rintro _ _ ⟨g3,rfl,rfl⟩;refine L.val sD (λ_ _=>V.SN rfl rfl rfl) ?_;repeat first|refine qI ?_|intro
  exact aR rfl aF aA (⟨some g3,rfl,λh=>(by cases h),rfl⟩)
theorem VH(hs:Qd m n c r l)(hl:n≤1000000000):aK prog E 84 #[.pointer (some ⟨g,0,none⟩)] (HN g m A n c r l) λe H'=>∃g' m' A' c',e=.returned (.pointer (some ⟨g',0,none⟩))∧Qd m' n c' r l∧H'=[gt g' m' A' n c' r,Dq m' (l.map dK.key),own cP A' n c' l,gt g m A n c r,Dq m (l.map dK.key),own cP A n c l]:=by
 unfold HN;refine t_ func84 ntmps84 ?_;repeat first|refine qI ?_|intro
 refine rA (l_ [0,1,2,3,5,7,8,9,10] (g_ 4 (g_ 6 (n_ 11 (g_ 12 (n_ 13 .nil)))))) ?_;repeat first|refine qI ?_|intro
 refine iO (λM=>VJ M m (l.map dK.key)) ?_;rintro e H' ⟨m',rfl,hm',rfl⟩;repeat first|refine qI ?_|intro
 refine C2 (λM h1=>GV M g m A n c r l h1 hl) ?_;rintro e H' ⟨A',c',rfl,hc',rfl⟩;repeat first|refine qI ?_|intro
 rename_i g9;exact jQ (⟨g9,m',A',c',rfl,⟨hs.hn,hc',λh=>hs.hm (hm' h),hs.hr⟩,rfl⟩)
end
structure Gh where
 m:Option Nat
 A:Option Addr
 c:Nat
def cK(g:Nat)(r:Int)(l:List dK):aL:=pack λ(x:Gh)=>iE (Qd x.m l.length x.c r l)::HN g x.m x.A l.length x.c r l
theorem cK.mk{E:Env}{R:List aL}{g:Nat}{r:Int}{l:List dK}{x:Gh}(f:Qd x.m l.length x.c r l):aB E (HN g x.m x.A l.length x.c r l++R) (cK g r l::R):=λw hw=>by
 have h1:St E (iE (Qd x.m l.length x.c r l)::HN g x.m x.A l.length x.c r l++R) w:=aB.lH f w hw;exact h1.conv λF hs=>by
  obtain⟨F1,F2,k1,k2,k3,k4⟩:=aY.1 hs;exact⟨F,⟨F1,F2,k1,k2,⟨x,k3⟩,k4⟩,λ_ h=>h⟩
theorem uV{E:Env}{f:FuncId}{args:Array Value}{g:Nat}{r:Int}{l:List dK}{Q:Ending→List aL→Prop}(h:∀x:Gh,Qd x.m l.length x.c r l→aK prog E f args (HN g x.m x.A l.length x.c r l) Q):aK prog E f args [cK g r l] Q:=by
 intro hds w hw;obtain⟨x,hs⟩:=hw.unpack (l:=λ(x:Gh)=>iE (Qd x.m l.length x.c r l)::HN g x.m x.A l.length x.c r l) Has.aN;have hp:=St.lH (H:=_) (R:=_) hs Has.aN;refine h x hp hds w (hs.conv λF hst=>?_);obtain⟨F1,F2,k1,k2,k3,k4⟩:=hst;exact⟨F2,by simpa using k4,λb hb=>(k1 b).2 (.inr hb)⟩
def L8(r:Int)(l:List dK)(q:dK):(Int×List dK)×Bool :=
 if q.key∈l.map dK.key then((r,l),true) else if 0<r then((r - 1,l),false) else((r,l++[q]),true)
section
variable (E:Env) (g:Nat) (r:Int) (l:List dK)
theorem Yg(q:dK)(hl:l.length≤1000000):G E 29 [pt g,.agg q.cs.toArray] [cK g r l] (cM (.bool (L8 r l q).2) [cK g (L8 r l q).1.1 (L8 r l q).1.2]):=by
 refine uV λx hf=>?_;have h2:=cK.mk (E:=E) (R:=[]) (g:=g) hf;rw[aAc] at h2;unfold L8;by_cases hq:q.key∈l.map dK.key
 ·rw[if_pos hq];refine aK.post (RQ E g x.m x.A l.length x.c r l q hq) ?_;rintro e H' ⟨rfl,rfl⟩;exact⟨_,h2,rfl,rfl⟩
 ·rw[if_neg hq];have hr:=hf.hr;by_cases h0:0<r
  ·rw[if_pos h0];refine aK.post (WA E g x.m x.A l.length x.c r l q hq ⟨h0,hr.2⟩) ?_;rintro e H' ⟨rfl,rfl⟩;have h2:=cK.mk (E:=E) (R:=[]) (g:=g) (x:=x) (r:=r - 1) (l:=l) ⟨hf.hn,hf.hc,hf.hm,by omega⟩;rw[aAc] at h2;exact⟨_,h2,rfl,rfl⟩
  ·rw[if_neg h0];refine aK.post (RC E g x.m x.A l.length x.c r l hf q hq o_ o_) ?_;rintro e H' ⟨m',A',c',rfl,k1,rfl⟩;have h3:=cK.mk (E:=E) (R:=[]) (g:=g) (x:=⟨m',A',c'⟩) (r:=r) (l:=l++[q]) (by rw[aAe];exact k1);rw[aAc,aAe] at h3;exact⟨_,h3,rfl,rfl⟩
theorem Pz(n:Int):G E 127 [pt g,.int .i64 n] [cK g r l] (cM (.tuple #[]) [cK g (dF n 0 255) l]):=by
 refine uV λx hf=>?_;refine aK.post (aK.dU (Hp:=[gt g x.m x.A l.length x.c r]) λM _=>SE M g x.m x.A l.length x.c r n) ?_;rintro e H' ⟨H1,⟨rfl,rfl⟩,rfl⟩;have h2:=cK.mk (E:=E) (R:=[]) (g:=g) (x:=x) (r:=dF n 0 255) (l:=l) ⟨hf.hn,hf.hc,hf.hm,by unfold dF;split<;>(try split)<;>omega⟩;rw[aAc] at h2;exact⟨_,h2,rfl,rfl⟩
theorem oB(hl:l.length≤1000000):G E 22 [pt g] [cK g r l] λe H'=>∃A c,(l.length≤c∧c≤maxLen)∧e=.returned (.slice A l.length c)∧H'=[own cP A l.length c l,cK g r l]:=by
 refine uV λx hf=>?_;refine aK.post (aK.dU (Hp:=[gt g x.m x.A l.length x.c r]) λM hE=>GV M g x.m x.A l.length x.c r l (Sub.own hE (.aM .aN)) o_) ?_;rintro e H' ⟨H1,⟨A',c',rfl,h1,rfl⟩,rfl⟩;have h2:=cK.mk (E:=E) (R:=[own cP A' l.length c' l]) (g:=g) hf;exact⟨_,aB.trans (aB.aV (.cons .aN (.cons (.aM .aN) (.cons (.aM .aN) (.cons .aN .nil))))) (aB.trans h2 (aB.aV (.cons (.aM .aN) (.cons .aN .nil)))),A',c',h1,rfl,rfl⟩
theorem Qz(hl:l.length≤1000000):G E 84 [pt g] [cK g r l] λe H'=>∃g2,e=.returned (pt g2)∧H'=[cK g2 r l,cK g r l]:=by
 refine uV λx hf=>?_;refine aK.post (VH E g x.m x.A l.length x.c r l hf o_) ?_;rintro e H' ⟨g',m',A',c',rfl,k1,rfl⟩;have h2:=cK.mk (E:=E) (R:=HN g x.m x.A l.length x.c r l) (g:=g') (x:=⟨m',A',c'⟩) k1;have h3:=cK.mk (E:=E) (R:=[cK g' r l]) (g:=g) hf;refine⟨[cK g' r l,cK g r l],aB.trans h2 (aB.trans (aB.aV (.cons (.aM .aN) (.cons (.aM .aN) (.cons (.aM .aN) (.cons .aN .nil))))) (aB.trans h3 (aB.aV (.cons (.aM .aN) (.cons .aN .nil))))),g',rfl,rfl⟩
end
end Go.Proofs.YtmilalkjbojciaaGreat.Sep
namespace Go.Proofs.YtmilalkjbojciaaGreat.Sep
open Go.RowKit Reg Oct
open Mem hiding Rd
def IQ(a b:bP):Int:=DC [sQ a.id b.id,sX a.ord b.ord]
def uZ(a b:bP):Bool:=if IQ a b≠0 then decide (IQ a b<0) else(!a.cD&&b.cD)
theorem KD(E:Env)(a b:bP):G E 210 [.agg a.cs.toArray,.agg b.cs.toArray] [] (cM (.bool (uZ a b)) []):=by
 have hk:IQ a b=DC [sQ ⟨a.id.rep,a.id.seq⟩ ⟨b.id.rep,b.id.seq⟩,sX a.ord b.ord]:=rfl;unfold uZ;rw[hk];by_cases h:DC [sQ ⟨a.id.rep,a.id.seq⟩ ⟨b.id.rep,b.id.seq⟩,sX a.ord b.ord]=0
 ·have hd:decide (DC [sQ ⟨a.id.rep,a.id.seq⟩ ⟨b.id.rep,b.id.seq⟩,sX a.ord b.ord]≠0)=false:=decide_eq_false (by rw[h];decide);rw[if_neg (by rw[h];decide)];refine t_ func210 ntmps210 ?_;repeat first|refine v_ ?_|intro
  refine rA (l_ [0,1,2,3,5,6,7,8] (g_ 4 (g_ 9 (g_ 10 (g_ 11 (n_ 12 .nil)))))) ?_;repeat first|refine v_ ?_|intro
  rcases aBh a.cD with hu|hu
  ·have hn:(!a.cD)=false:=by rw[hu];rfl
   repeat first|refine v_ ?_|intro
   exact aR rfl aF aA (⟨rJ (by rw[hu];rfl),rfl⟩)
  ·have hn:(!a.cD)=true:=by rw[hu];rfl
   repeat first|refine v_ ?_|intro
   exact aR rfl aF aA (⟨rJ (by rw[hu];rfl),rfl⟩)
 ·have hd:decide (DC [sQ ⟨a.id.rep,a.id.seq⟩ ⟨b.id.rep,b.id.seq⟩,sX a.ord b.ord]≠0)=true:=decide_eq_true h;rw[if_pos h];refine t_ func210 ntmps210 ?_;repeat first|refine v_ ?_|intro
  refine rA (l_ [0,1,2,3,5,6,7,8] (g_ 4 (g_ 9 (g_ 10 (g_ 11 (n_ 12 .nil)))))) ?_;repeat first|refine v_ ?_|intro
  exact B7
def LK(a b:dK):Int:=if uZ a.key b.key then -1 else if uZ b.key a.key then 1 else 0
theorem SD(E:Env)(a b:dK):G E 209 [.agg a.cs.toArray,.agg b.cs.toArray] [] (cM (.int .i64 (LK a b)) []):=by
 have l1:=λM=>KD M a.key b.key;have l2:=λM=>KD M b.key a.key;unfold LK;generalize uZ a.key b.key=x at *;generalize uZ b.key a.key=y at *;cases x with
 |true =>
  refine t_ func209 ntmps209 ?_;repeat first|refine v_ ?_|intro
  refine bK l1 ?_;repeat first|refine v_ ?_|intro
  exact B7
 |false =>
  cases y with
  |true =>
   refine t_ func209 ntmps209 ?_;repeat first|refine v_ ?_|intro
   refine bK l1 ?_;repeat first|refine v_ ?_|intro
   refine bK l2 ?_;repeat first|refine v_ ?_|intro
   exact B7
  |false =>
   refine t_ func209 ntmps209 ?_;repeat first|refine v_ ?_|intro
   refine bK l1 ?_;repeat first|refine v_ ?_|intro
   refine bK l2 ?_;repeat first|refine v_ ?_|intro
   exact B7
def qV(a:Nat):Nat→List dK→List dK
 |0,l=>l
 |j+1,l=>if a<j+1 then(match l[j+1]?,l[j]? with
  |some x,some y=>if LK x y<0 then qV a j ((l.set (j+1) y).set j x) else l
  |_,_=>l) else l
def BX(a:Nat):Nat→Nat→List dK→List dK
 |_,0,l=>l
 |i,k+1,l=>BX a (i+1) k (qV a i l)
def mB(a b:Nat)(l:List dK):List dK:=BX a (a+1) (b - (a+1)) l
theorem zQ(a:Nat):∀(j:Nat) (l:List dK),(qV a j l).length=l.length
 |0,l=>rfl
 |j+1,l=>by
  unfold qV;split
  ·split
   ·split
    ·rw[zQ a j];simp
    ·rfl
   ·rfl
  ·rfl
theorem Jg{a j:Nat}{l:List dK}(h:j≤a):qV a j l=l:=by
 cases j with
 |zero=>rfl
 |succ j=>unfold qV;rw[if_neg o_]
theorem Im{a j:Nat}{l:List dK}{x y:dK}(h:a<j+1)(hx:l[j+1]?=some x)(hy:l[j]?=some y):qV a (j+1) l=if LK x y<0 then qV a j ((l.set (j+1) y).set j x) else l:=by
 show(if a<j+1 then(match l[j+1]?,l[j]? with|some x,some y=>if LK x y<0 then qV a j ((l.set (j+1) y).set j x) else l|_,_=>l) else l)=_;rw[if_pos h,hx,hy]
theorem zN(a:Nat):∀(k i:Nat) (l:List dK),(BX a i k l).length=l.length
 |0,_,_=>rfl
 |k+1,i,l=>by show(BX a (i+1) k (qV a i l)).length=_;rw[zN a k,zQ]
section
variable {N:Nat} {E:Env} {F:Nat→Value} {H R:List aL} {Q:QF} {d z:Nat} {f:FuncId} {x:Operand} {cs vs':List Value} {ops:List Operand} {tys:Array TypeId} {ty:TypeId} {pos:String} {af:Array Edge} {Hp:List aL} {Q1:Ending→List aL→Prop}
theorem j6{os:List Oper}{todo:Td}{Hk:List aL}{gd:Option (Nat×Bool)}{i:Nat}(hi:nth os i=some ⟨some d,.call { callee:=.value x,args:=ops.toArray,argTypes:=tys },ty,pos,af,gd⟩)(hd:d<N)(hg:rE os N F true gd)(hx:ev F x=.func (.func f) #[] cs.toArray)(hv:AO F ops++cs=vs')(hk:xA f=true)(hp:cS Hp H R)
  (law:∀M,Sub E R M→aK prog M f vs'.toArray Hp Q1) (hQ:∀e H',Q1 e H'→∃v,e=.returned v∧∃H2,wK H' R H2∧aB E H2 Hk∧Dr prog N E z os Q Hk todo (pT F d v) H2):Dr prog N E z os Q Hk (.one i true todo) F H:=by
 obtain⟨fn,h1,h2,h3⟩:=iY hk;exact Dr.all (zL.go hi (by rintro k ⟨⟩;exact hd) hg (S.wB rfl hx rfl hv h1 h2 h3 hp law hQ))
end
theorem Ua{α:Type}{T:Ty α}{E:Env}{f:FuncId}{args:Array Value}{A:Option Addr}{n c:Nat}{l:List α}{R:List aL}{Q:Ending→List aL→Prop}(h:(n=0∨∃a,A=some a)→aK prog E f args (own T A n c l::R) Q):aK prog E f args (own T A n c l::R) Q:=λhd w hw=>by
 obtain⟨F,h1,_⟩:=hw.has Has.aN;refine h ?_ hd w hw;rcases h1.2 with⟨h0,_⟩|⟨g,_,hA,_⟩
 ·exact .inl h0
 ·exact .inr ⟨_,hA⟩
theorem VB{α:Type}{T:Ty α}{E:Env}{H:List aL}{ρ:Operand→Value}{o:Oper}{t:TypeId}{x i:Operand}{k:IntKind}{j:Int}{m n c:Nat}{A:Option Addr}(hA:∃a,A=some a)(ho:o.op=.indexAddr t x i)(hx:ρ x=.slice A n c)(hi:ρ i=.int k j)(ht:prog.underlying t=some (.slice T.tid))(hj:j.toNat=m)(h0:0≤j)(hm:m<n){q:Nat}(hq:m*T.size=q):qB prog E H ρ o (.pointer (some ((ad A).add q))):=by
 subst hq;obtain⟨a,rfl⟩:=hA;intro u hu;have hinf:=T.fW;cases hq:prog.info? T.tid with
 |none=>simp[hq] at hinf
 |some ti =>
  simp[hq] at hinf;exact V.indexAddr ho hx hi ht hq h0 o_ hj hinf.2.1 rfl
abbrev U2:Value:=.func (.func 209) #[] #[]
theorem Vk(E:Env)(A:Option Addr)(n c:Nat)(l:List dK)(hn:n≤1000000)(hln:l.length=n)(a b:Nat)(hab:a≤b)(hb:b≤n):G E 310 [.slice A n c,.int .i64 a,.int .i64 b,U2] [own cP A n c l] (cM (.tuple #[]) [own cP A n c (mB a b l)]):=by
 have kf:xA 209=true:=q_;unfold mB;obtain⟨lE,hE⟩:∃lE,BX a (a+1) (b - (a+1)) l=lE:=⟨_,rfl⟩
 rw[hE];have hmax:=fX;refine Ua λhA=>?_;refine t_ func310 ntmps310 ?_;repeat first|refine v_ ?_|intro
 refine C.loop (X:=Nat×List dK) (λx=>[(0,.slice A n c),(1,.int .i64 a),(2,.int .i64 b),(3,U2),(8,.int .i64 x.1)]) (λx=>[own cP A n c x.2])
  (λx=>a+1≤x.1∧(x.1≤b∨x.1=a+1)∧x.2.length=n∧BX a x.1 (b - x.1) x.2=lE) (λx=>b - x.1) (a+1,l) aD aA ⟨aAf _,.inr rfl,hln,hE⟩ ?_
 rintro⟨i,l1⟩ G ⟨h1,h2,h3,h4⟩;dsimp only at h1 h2 h3 h4⊢;by_cases hlt:i<b
 ·have e1:b - i=(b - (i+1))+1:=o_;rw[e1] at h4;have h4:BX a (i+1) (b - (i+1)) (qV a i l1)=lE:=h4;obtain⟨l2,hl2⟩:∃l2,qV a i l1=l2:=⟨_,rfl⟩
  have h5:l2.length=n:=by rw[←hl2,zQ,h3]
  rw[hl2] at h4;repeat first|refine v_ ?_|intro
  refine C.loop (X:=Nat×List dK) (λx=>[(0,.slice A n c),(1,.int .i64 a),(2,.int .i64 b),(3,U2),(8,.int .i64 i),(9,.int .i64 x.1)]) (λx=>[own cP A n c x.2])
   (λx=>a≤x.1∧x.1≤i∧x.2.length=n∧qV a x.1 x.2=l2) (λx=>x.1) (i,l1) aD aA ⟨by dsimp only;omega,aAf _,h3,hl2⟩ ?_
  rintro⟨j,l3⟩ G2 ⟨h6,h7,h8,h9⟩;dsimp only at h6 h7 h8 h9⊢;by_cases hja:a<j
  ·obtain⟨j,rfl⟩:∃m,j=m+1:=⟨j - 1,by omega⟩
   obtain⟨x,hx⟩:∃x,l3[j+1]?=some x:=⟨_,aAa o_⟩
   obtain⟨y,hy⟩:∃y,l3[j]?=some y:=⟨_,aAa o_⟩
   rw[Im hja hx hy] at h9;have by1:=λM=>SD M x y;have hjj:(((j+1:Nat):Int) - 1).toNat=j:=o_;have hy':l3[(((j+1:Nat):Int) - 1).toNat]?=some y:=by rw[hjj];exact hy
   have hy3:(l3.set (j+1) y)[j]?=some y:=by rw[aEq o_];exact hy
   have hy2:(l3.set (j+1) y)[(((j+1:Nat):Int) - 1).toNat]?=some y:=by rw[hjj,aEq o_];exact hy
   generalize LK x y=z at *;by_cases hz:z<0
   ·rw[if_pos hz] at h9;repeat first|refine v_ ?_|intro
    refine rA (l_ [0,1,2,3,4,5,6,7,8,9,10,11,12,13] (g_ 14 (l_ [15,16] .nil))) ?_;repeat first|refine v_ ?_|intro
    refine j6 rfl sD bA rfl rfl kf .nil (λM hE=>by1 M) ?_;rintro e H' ⟨rfl,rfl⟩;repeat first|refine v_ ?_|intro
    refine C.Kp 15 (l_ [0,1,2,3,4,5,6,7,8,9,10,11,12,13,14] (g_ 15 (n_ 16 (g_ 17 .nil)))) [own cP A n c l3] [] q_ q_ aA ?_;repeat (first|refine Dt.take rfl sD rfl bA Cw Cw ?_|refine Dt.kL rfl sD rfl q_ bA Cw ?_)
    refine Dt.We rfl (by rintro k ⟨⟩<;>decide) bA NO ?_;rintro _ _ ⟨rfl,rfl⟩;refine⟨aA,?_⟩;refine Dr.take rfl sD bA (VB (hA.resolve_left o_) rfl rfl rfl rfl hjj o_ o_ (T:=cP) rfl) ?_;repeat first|refine v_ ?_|intro
    simp only[hjj];exact⟨(j,(l3.set (j+1) y).set j x),aD,aA,⟨by dsimp only;omega,by dsimp only;omega,by simp[h8],h9⟩,by dsimp only;omega⟩
   ·rw[if_neg hz] at h9;subst h9;repeat first|refine v_ ?_|intro
    refine rA (l_ [0,1,2,3,4,5,6,7,8,9,10,11,12,13] (g_ 14 (l_ [15,16] .nil))) ?_;repeat first|refine v_ ?_|intro
    refine j6 rfl sD bA rfl rfl kf .nil (λM hE=>by1 M) ?_;rintro e H' ⟨rfl,rfl⟩;repeat first|refine v_ ?_|intro
    exact⟨(i+1,l3),aD,aA,⟨by dsimp only;omega,.inl (by dsimp only;omega),h5,h4⟩,by dsimp only;omega⟩
  ·rw[Jg o_] at h9;subst h9;repeat first|refine v_ ?_|intro
   refine rA (l_ [0,1,2,3,4,5,6,7,8,9,10,11,12,13] (g_ 14 (l_ [15,16] .nil))) ?_;repeat first|refine v_ ?_|intro
   exact⟨(i+1,l3),aD,aA,⟨by dsimp only;omega,.inl (by dsimp only;omega),h5,h4⟩,by dsimp only;omega⟩
 ·have hk0:b - i=0:=o_;rw[hk0] at h4;have h4:l1=lE:=h4;subst h4;repeat first|refine v_ ?_|intro
  exact e3_
theorem PZ(E:Env)(A:Option Addr)(n c:Nat)(l:List dK)(hn:n<20)(hln:l.length=n):G E 148 [.slice A n c] [own cP A n c l] (cM (.slice A n c) [own cP A n c (mB 0 n l)]):=by
 have HL:=λM=>Vk M A n c l o_ hln 0 n (aAh _) (aAf _);generalize mB 0 n l=l2 at *;have hmax:=fX;have stb:∀M,G M 268 [.slice A n c,.int .i64 n,U2] [own cP A n c l] (cM (.tuple #[]) [own cP A n c l2]):=λM=>by
  refine t_ func268 ntmps268 ?_;repeat first|refine qI ?_|intro
  refine C.loop (X:=Unit) (λ_=>[(0,.slice A n c),(1,.int .i64 n),(2,U2),(6,.int .i64 20),(7,.int .i64 0),(8,.int .i64 20)]) (λ_=>[own cP A n c l]) (λ_=>True) (λ_=>0) () aD aA trivial ?_;rintro⟨⟩ G -;repeat first|refine qI ?_|intro
  refine bK HL ?_;repeat first|refine qI ?_|intro
  refine C.loop (X:=Unit) (λ_=>[(0,.slice A n c),(1,.int .i64 n),(2,U2),(6,.int .i64 20)]) (λ_=>[own cP A n c l2]) (λ_=>True) (λ_=>0) () aD aA trivial ?_;rintro⟨⟩ G2 -;repeat first|refine qI ?_|intro
  exact e3_
 have sts:∀M,G M 208 [.slice A n c,U2] [own cP A n c l] (cM (.tuple #[]) [own cP A n c l2]):=λM=>by
  refine t_ func208 ntmps208 ?_;repeat first|refine qI ?_|intro
  refine bK stb ?_;repeat first|refine qI ?_|intro
  exact e3_
 refine t_ func148 ntmps148 ?_;repeat first|refine qI ?_|intro
 refine bK sts ?_;repeat first|refine qI ?_|intro
 exact B7
theorem ZU(E:Env)(g:Nat)(q:dK)(hb:gE E g q.cs)(x:dK):G E 146 [.agg x.cs.toArray,pt g] [] (cM (.bool (decide (x.key=q.key.other))) []):=by
 have oth:=λM=>TL (E:=M) q.key;obtain⟨k2,hk2⟩:∃k2,q.key.other=k2:=⟨_,rfl⟩
 rw[hk2] at oth⊢;refine t_ func146 ntmps146 ?_;repeat first|refine qI ?_|intro
 rename_i g2;refine rB (l_ [0,1,2,3] (g_ 4 (l_ [5,6] .nil))) ([aJ g2 79 _]) ?_;repeat first|refine qI ?_|intro
 refine eJ oth ?_;repeat first|refine qI ?_|intro
 exact B7
def EZ(rest:List dK)(s:List (bJ×Int)×List dK)(q:dK):List (bJ×Int)×List dK :=
 if q.key.cD||rest.any (λx=>decide (x.key=q.key.other)) then s else(yH s.1 q.key.id,s.2++[⟨⟨q.key.id,lO (yH s.1 q.key.id) q.key.id,q.key.cD⟩,q.bC⟩])
def sI:List dK→List (bJ×Int)×List dK→List dK
 | [],s=>s.2
 |q::l,s=>sI l (EZ l s q)
def FP(l:List dK):List dK:=mB 0 (sI l ([],[])).length (sI l ([],[]))
def Xa(i:Nat)(ks:List (bJ×Int)):Prop:=∀z∈ks,0≤z.2∧z.2≤i
theorem Jy{i:Nat}{ks:List (bJ×Int)}(h:Xa i ks)(k:bJ):0≤lO ks k∧lO ks k≤i:=by
 unfold lO;cases hf:eT ks k with
 |none=>exact⟨aCd _,by show(0:Int)≤i;omega⟩
 |some q=>obtain⟨q,v⟩:=q;exact h _ (aAi (wO hf))
theorem Ob{i:Nat}{ks:List (bJ×Int)}(h:Xa i ks)(k:bJ):Xa (i+1) (yH ks k):=by
 have hg:=Jy h k;intro z hz;unfold yH at hz;rcases aCr hz with hz|hz
 ·unfold iM at hz;cases hf:eT ks k with
  |none =>
   rw[hf] at hz;rcases aBg.1 hz with hz|hz
   ·have:=h z hz;omega
   ·rw[aAp.1 hz];exact⟨aCd _,by show(0:Int)≤_;omega⟩
  |some q=>rw[hf] at hz;have:=h z hz;omega
 ·rw[hz];exact⟨by show 0≤lO ks k+1;omega,by show lO ks k+1≤_;omega⟩
theorem EB{ks:List (bJ×Int)}{k:bJ}(h:eT ks k=none)(v:Int):eT (ks++[(k,v)]) k=some (ks.length,v):=by
 induction ks with
 |nil=>exact if_pos rfl
 |cons x ks ih =>
  unfold eT at h;split at h
  ·cases h
  ·rename_i hk;have h':eT ks k=none:=by
    cases hf:eT ks k with
    |none=>rfl
    |some z=>rw[hf] at h;cases h
   show(if k=x.1 then _ else _)=_;rw[if_neg hk];show(eT (ks++[(k,v)]) k).map _=_;rw[ih h'];rfl
theorem GN(ks:List (bJ×Int))(k:bJ):lO (iM ks k) k=lO ks k:=by
 unfold iM;cases hf:eT ks k with
 |none =>
  show lO (ks++[(k,0)]) k=_;unfold lO;rw[EB hf,hf];rfl
 |some z=>rfl
theorem Ky{ks:List (bJ×Int)}{k:bJ}{q:Nat}{v:Int}(h:eT ks k=some (q,v))(w:Int):eT (ks.set q (k,w)) k=some (q,w):=by
 induction ks generalizing q with
 |nil=>cases h
 |cons x ks ih =>
  unfold eT at h;split at h
  ·injection h with h
   injection h with h1 h2
   subst h1;exact if_pos rfl
  ·rename_i hk;cases hf:eT ks k with
   |none=>rw[hf] at h;cases h
   |some z =>
    obtain⟨q',v'⟩:=z;rw[hf] at h;injection h with h
    injection h with h1 h2
    subst h1 h2;show(if k=x.1 then _ else(eT (ks.set q' (k,w)) k).map _)=_;rw[if_neg hk,ih hf];rfl
theorem Mz(ks:List (bJ×Int))(k:bJ):lO (yH ks k) k=lO ks k+1:=by
 unfold yH;have h:eT (iM ks k) k=some (DA ks k,lO ks k):=by
  unfold iM DA lO;cases hf:eT ks k with
  |none=>exact EB hf 0
  |some z=>exact hf
 unfold lO;rw[Ky h];rfl
theorem Jc{l:List dK}{i:Nat}{q:dK}(h:l[i]?=some q)(s:List (bJ×Int)×List dK):sI (l.drop i) s=sI (l.drop (i+1)) (EZ (l.drop (i+1)) s q):=by
 obtain⟨hi,rfl⟩:=aAd.1 h;rw[aAm hi];rfl
theorem ZS(E:Env)(A:Option Addr)(n c:Nat)(l:List dK)(hr:Rd E cP A n c l)(hn:n<20):G E 82 [.slice A n c] [] λe H'=>∃B k,e=.returned (.slice B (FP l).length k)∧H'=[own cP B (FP l).length k (FP l)]:=by
 have kf:xA 146=true:=q_;have hln:=hr.len;have hcap:=hr.cap;have hmax:=fX;have hNl:∀s,mB 0 (sI l s).length (sI l s)=mB 0 (sI l s).length (sI l s):=λ_=>rfl;have hnp:(FP l).length=(sI l ([],[])).length:=by unfold FP mB;rw[zN]
 rw[hnp];unfold FP;generalize hG:sI l ([],[])=out at *;clear hNl hnp;refine t_ func82 ntmps82 ?_;repeat first|refine v_ ?_|refine Dr.two ?_ ?_|intro
 refine L.fQ sD (S.Nb rfl) ?_;rintro _ _ ⟨gm,rfl,rfl⟩;repeat first|refine v_ ?_|refine Dr.two ?_ ?_|intro
 refine C.scan (Y:=List (bJ×Int)×Option Addr×Nat×List dK) (l:=l) (n:=n) hln (λi y=>[(0,.slice A n c),(3,.map (some gm)),(4,.slice y.2.1 y.2.2.2.length y.2.2.1),(9,.slice A n c),(10,.int .i64 n),(11,.int .i64 i)])
  (λi y=>[QW gm y.1,own cP y.2.1 y.2.2.2.length y.2.2.1 y.2.2.2]) (λi y=>sI (l.drop i) (y.1,y.2.2.2)=out∧y.2.2.2.length≤i∧Xa i y.1) ([],none,0,[]) aD (by show aB E _ [QW gm [],own cP none 0 0 []];exact aB.trans (aB.nil cP) aA) ⟨hG,aAf _,λz hz=>(aAk hz).elim⟩ ?_ ?_
 ·rintro i ⟨ks,B,k,o⟩ q F hi hq ⟨h1,h2,h3⟩;dsimp only at h1 h2 h3⊢;rw[Jc hq] at h1;unfold EZ at h1;dsimp only at h1;have hJ:((i:Int)+1).toNat=i+1:=o_;have hfr:Rd E cP (if c=((i:Int)+1).toNat then A else A.map (λx=>x.add (((i:Int)+1).toNat*cP.size))) (n - ((i:Int)+1).toNat) (c - ((i:Int)+1).toNat) (l.drop (i+1)):=by
   have:=hr.from_ (k:=((i:Int)+1).toNat) o_;rw[hJ] at this⊢;exact this
  have kg:=Jy h3 q.key.id;repeat first|refine v_ ?_|refine Dr.two ?_ ?_|intro
  rename_i g6;refine cl sD sK aC (λM hE=>RS M _ _ _ (l.drop (i+1)) (hfr.sub hE) 146 [pt g6] (λx=>decide (x.key=q.key.other)) kf (λE2 R2 hE2 x=>ZU E2 g6 q ((gE.of hE aS).sub hE2) x)) ?_;rintro e H' ⟨rfl,rfl⟩;refine gk bG ?_;generalize (l.drop (i+1)).any (λx=>decide (x.key=q.key.other))=lost at *;have hmore:Xa (i+1) ks:=λz hz=>⟨(h3 z hz).1,by have:=(h3 z hz).2;omega⟩
  rcases aBh q.key.cD with hu|hu
  ·rw[if_pos (by rw[hu];rfl)] at h1;repeat first|refine v_ ?_|refine Dr.two ?_ ?_|intro
   exact⟨(ks,B,k,o),aD,aA,h1,by dsimp only;omega,hmore⟩
  cases lost with
  |true =>
   rw[if_pos (by rw[hu];rfl)] at h1;repeat first|refine v_ ?_|refine Dr.two ?_ ?_|intro
   exact⟨(ks,B,k,o),aD,aA,h1,by dsimp only;omega,hmore⟩
  |false =>
   rw[if_neg (by rw[hu];decide)] at h1;have hb:=Ob h3 q.key.id;have hke:=Oq ks q.key.id;have hge:=GN ks q.key.id;have hgb:=Mz ks q.key.id;have hbm:(iM ks q.key.id).set (DA ks q.key.id) (q.key.id,lO ks q.key.id+1)=yH ks q.key.id:=rfl;repeat ((fail_if_success (refine C.seq (x:=Code.region 8 _ _) ?_));first|refine Cx ?_|refine k_ ?_|intro _|refine Dr.two ?_ ?_)
   refine T.n ?_;refine C.seq ?_;refine C.BI (X:=Unit) (λ_=>[(0,.slice A n c),(3,.map (some gm)),(4,.slice B o.length k),(6,pt g6),(9,.slice A n c),(10,.int .i64 n),(11,.int .i64 i)]) (λ_=>[QW gm (yH ks q.key.id),aJ g6 79 q.cs,own cP B o.length k o]) (λ_=>True) ?_ ?_
   ·refine C.bL 8 (l_ [0,1,2,3] (.two 4 (n_ 5 (g_ 6 (n_ 7 (g_ 8 .nil)))) 6 (n_ 7 (g_ 4 (n_ 5 (g_ 8 .nil)))))) ([aJ g6 79 _]) q_ q_ aA ?_;repeat first|refine v_ ?_|intro
    refine Dr.two ?_ ?_
    ·refine zL.val rfl sD bA (Y.E7 (k:=q.key.id) rfl rfl rfl q_ aS) aA ?_;repeat first|refine v_ ?_|intro
     refine Dr.Aw rfl (by rintro k ⟨⟩<;>decide) bA (S.EI (k:=q.key.id) rfl rfl rfl q_ dH) ?_;rintro _ _ ⟨rfl,rfl⟩;refine⟨aA,?_⟩;repeat first|refine v_ ?_|intro
     refine Dr.WZ rfl (by rintro k ⟨⟩) bA (S.AN rfl rfl rfl rfl hke dH) ?_;rintro _ _ ⟨rfl,rfl⟩;dsimp only;rw[hbm];exact⟨(),aD,aA,trivial⟩
    ·refine zL.Aw rfl (by rintro k ⟨⟩<;>decide) bA (S.EI (k:=q.key.id) rfl rfl rfl q_ dH) ?_;rintro _ _ ⟨rfl,rfl⟩;refine⟨aA,?_⟩;repeat first|refine v_ ?_|intro
     refine Dr.val rfl sD bA (Y.E7 (k:=q.key.id) rfl rfl rfl q_ aS) aA ?_;rw[hge];repeat first|refine v_ ?_|intro
     refine Dr.WZ rfl (by rintro k ⟨⟩) bA (S.AN rfl rfl rfl rfl hke dH) ?_;rintro _ _ ⟨rfl,rfl⟩;dsimp only;rw[hbm];exact⟨(),aD,aA,trivial⟩
   ·rintro⟨⟩ G2 -;generalize yH ks q.key.id=ks2 at *;repeat first|refine v_ ?_|refine Dr.two ?_ ?_|intro
    refine L.val sD (Y.E7 (k:=q.key.id) rfl rfl rfl q_ aS) ?_;repeat first|refine v_ ?_|refine Dr.two ?_ ?_|intro
    refine L.fQ sD (S.QZ (T:=cP) (e1:=(⟨⟨q.key.id,lO ks2 q.key.id,q.key.cD⟩,q.bC⟩:dK)) rfl eS rfl FV (by rfl) sD) ?_;rintro _ _ ⟨_,rfl,rfl⟩;repeat first|refine v_ ?_|refine Dr.two ?_ ?_|intro
    rename_i B2 k2 hc1 hc2;refine⟨(ks2,B2,k2,o++[⟨⟨q.key.id,lO ks2 q.key.id,q.key.cD⟩,q.bC⟩]),?_⟩;dsimp only;rw[aAe,aDa];exact⟨aD,aA,h1,by omega,hb⟩
 ·rintro⟨ks,B,k,o⟩ F ⟨h1,h2,h3⟩;dsimp only at h1 h2 h3⊢;rw[show l.drop n=[] by rw[hln];exact aCy] at h1;have h1:o=out:=h1;subst h1;have by1:=λM=>PZ M B o.length k o o_ rfl;repeat first|refine v_ ?_|refine Dr.two ?_ ?_|intro
  refine bK by1 ?_;repeat first|refine v_ ?_|refine Dr.two ?_ ?_|intro
  exact jQ ⟨B,k,rfl,rfl⟩
def vJ:Ty (Sl cQ) where
 val x:=.slice x.A x.n x.c
 size:=1
 bytes:=24
 tid:=139
 zero:=.slice none 0 0
 hlen _:=rfl
 lJ a u h:=by simp[Value.cells] at h;subst h;rfl
 gL:=sD
 hzero:=rfl
 fW:=q_
 nR:=.inr ⟨q_,λ_=>rfl⟩
instance:lL vJ 24:=⟨rfl⟩
abbrev NP(s:Sl cQ):aL:=own eG s.A s.n s.c s.l
theorem Vw(E:Env)(A:Option Addr)(n c:Nat)(l:List aX)(hr:Rd E bE A n c l)(hok:∀c∈l,c.ok)(hn:n≤1000):G E 149 [.slice A n c,.int .i64 n] [] λe H'=>∃O k,∃ws:List (Sl cQ),ws.map Sl.l=(gH sY l).2.map (λo=>mU o true)∧e=.returned (.slice O ws.length k)∧H'=[own vJ O ws.length k ws,aO NP ws]:=by
 have hln:=hr.len;have hcap:=hr.cap;have hmax:=fX;have run:=λM hr=>BM M ⟨sY,none,0,0⟩ (Rd.nil _ _) pS A n c l hr hok o_;have hfit:=(mG pS hok).2;have hrl:=lF (b:=sY) (l:=l);dsimp only at run;refine t_ func149 ntmps149 ?_;repeat first|refine v_ ?_|intro
 refine dX run ?_;rintro e H' ⟨y,O,k,os,h1,h2,rfl,rfl⟩;rw[←h1] at hfit hrl⊢;have hol:os.length=n:=by rw[aAw] at hrl;omega
 repeat first|refine v_ ?_|intro
 refine C.scan (Y:=Option Addr×Nat×List (Sl cQ)) (l:=os) (n:=os.length) rfl (λi z=>[(1,.int .i64 n),(7,.slice z.1 z.2.2.length z.2.1),(16,.slice O os.length k),(17,.int .i64 os.length),(18,.int .i64 i)])
  (λi z=>[own rM O os.length k os,aO dM os,own vJ z.1 z.2.2.length z.2.1 z.2.2,aO NP z.2.2]) (λi z=>z.2.2.map Sl.l=(os.take i).map (λo=>mU o.d true)) (none,0,[]) aD (by show aB E _ [own rM O os.length k os,aO dM os,own vJ none 0 0 [],aO NP []];exact aB.trans (aB.nil vJ) (aB.trans (aB.kP NP) aA)) rfl ?_ ?_
 ·rintro i ⟨B,d,ws⟩ o F hi ho h3;dsimp only at h3⊢;have hm:=aAi ho;have hof:=hfit o.d (aFn.2 ⟨o,hm,rfl⟩);have hwl:ws.length≤1000:=by have:=congrArg List.length h3;rw[aAw,aAw,aAg] at this;omega
  have hg:decide ((i:Int)<(n:Int))=true:=decide_eq_true o_;have wn:=λM hr=>GL M o (decide ((i:Int)<(n:Int))) hr (by have:=hr.len;have:=hof.len;unfold Ov.d at this;dsimp only at this;omega);dsimp only[Ov.cs] at wn;repeat first|refine v_ ?_|intro
  refine cl sD sK aC (λM hE=>wn M (Bw.aO hE aS o hm)) ?_;rintro e H' ⟨Y,m,q,rfl,rfl⟩;rw[hg];repeat first|refine v_ ?_|intro
  refine L.fQ sD (S.cB (T:=vJ) (e:=(⟨Y,m,q,mU o.d true⟩:Sl cQ)) rfl rfl rfl rfl sD) ?_;rintro _ _ ⟨_,rfl,rfl⟩;repeat first|refine v_ ?_|intro
  rename_i B2 d2 hc1 hc2;refine⟨(B2,d2,ws++[⟨Y,m,q,mU o.d true⟩]),?_⟩;dsimp only;rw[aAe,aDa];exact⟨aD,aB.trans (aB.push (f:=NP) (x:=(⟨Y,m,q,mU o.d true⟩:Sl cQ)) aC) aA,by rw[aBk,h3,take_succ ho,aBk];rfl⟩
 ·rintro⟨B,d,ws⟩ F h3;dsimp only at h3⊢;rw[aAo] at h3;repeat first|refine v_ ?_|intro
  exact aR rfl aF aA (⟨B,d,ws,by rw[h3,List.map_map];rfl,rfl,rfl⟩)
def AZ(a:bJ):Nat→List cQ→List dK
 |_,[]=>[]
 |k,e::es=>⟨⟨a,(k:Int)+1,false⟩,e⟩::AZ a (k+1) es
def tW:List aX→List (List cQ)→List dK
 |c::l,w::ws=>AZ c.id 0 w++tW l ws
 |_,_=>[]
def GJ(l:List aX):List dK:=tW l ((gH sY l).2.map (λo=>mU o true))
def Ep(l:List aX):List dK:=mB 0 (GJ l).length (GJ l)
theorem Dj(a:bJ):∀(w:List cQ) (k:Nat),(AZ a k w).length=w.length
 | [],_=>rfl
 |e::w,k=>by show(AZ a (k+1) w).length+1=_;rw[Dj a w];rfl
theorem C.Vz{α:Type}{T:Ty α}{P:Program}{N:Nat}{E:Env}{cd:Code}{Q:QF}{F:Nat→Value}{H R:List aL}{A:Option Addr}{n c:Nat}{l:List α}(hh:Has (own T A n c l) H R)(h:n=l.length→C P N E cd Q F H):C P N E cd Q F H:=⟨λa w ha hw=>by
 obtain⟨_,h1,_⟩:=hw.has hh;exact(h h1.1).get a w ha hw⟩
theorem IX{a:bJ}{w:List cQ}{k:Nat}{e:cQ}(h:w[k]?=some e):AZ a k (w.drop k)=⟨⟨a,(k:Int)+1,false⟩,e⟩::AZ a (k+1) (w.drop (k+1)):=by
 obtain⟨hk,rfl⟩:=aAd.1 h;rw[aAm hk];rfl
theorem Fh{l:List aX}{W:List (List cQ)}{i:Nat}{c:aX}{w:List cQ}(h:l[i]?=some c)(h2:W[i]?=some w):tW (l.drop i) (W.drop i)=AZ c.id 0 w++tW (l.drop (i+1)) (W.drop (i+1)):=by
 obtain⟨hi,rfl⟩:=aAd.1 h;obtain⟨hj,rfl⟩:=aAd.1 h2;rw[aAm hi,aAm hj];rfl
theorem Ct{α:Type}{l:List α}{i:Nat}(h:i<l.length):(l.drop i).eraseIdx 0=l.drop (i+1):=by
 rw[aAm h];rfl
theorem R0(E:Env)(A:Option Addr)(n c:Nat)(l:List aX)(hr:Rd E bE A n c l)(hok:∀c∈l,c.ok)(hn:n≤1000)(hfew:(GJ l).length<20):G E 83 [.slice A n c] [] λe H'=>∃B k,e=.returned (.slice B (Ep l).length k)∧H'=[own cP B (Ep l).length k (Ep l)]:=by
 have hln:=hr.len;have hcap:=hr.cap;have hmax:=fX;have wnt:=λM hr=>Vw M A n c l hr hok hn;have hpl:(Ep l).length=(GJ l).length:=by unfold Ep mB;rw[zN]
 have hrl:=lF (b:=sY) (l:=l);rw[hpl];unfold Ep;have hR:[]++tW (l.drop 0) (((gH sY l).2.map (λo=>mU o true)).drop 0)=GJ l:=rfl;generalize GJ l=R at *;clear hpl;refine t_ func83 ntmps83 ?_;repeat first|refine v_ ?_|intro
 refine dX wnt ?_;rintro e H' ⟨O,q,ws,h1,rfl,rfl⟩;rw[←h1] at hR;have hwl:ws.length=n:=by have:=congrArg List.length h1;rw[aAw,aAw] at this;omega
 repeat first|refine v_ ?_|intro
 refine C.scan (Y:=Option Addr×Nat×List dK) (l:=ws) (n:=ws.length) rfl (λi z=>[(0,.slice A n c),(3,.slice z.1 z.2.2.length z.2.1),(11,.slice O ws.length q),(12,.int .i64 ws.length),(13,.int .i64 i)])
  (λi z=>[own vJ O ws.length q ws,aO NP (ws.drop i),own cP z.1 z.2.2.length z.2.1 z.2.2]) (λi z=>z.2.2++tW (l.drop i) ((ws.map Sl.l).drop i)=R) (none,0,[]) aD (by show aB E _ [own vJ O ws.length q ws,aO NP ws,own cP none 0 0 []];exact aB.trans (aB.nil cP) aA) hR ?_ ?_
 ·rintro i ⟨B,d,o⟩ s F hi hs h3;dsimp only at h3⊢;obtain⟨ch,hch⟩:∃ch,l[i]?=some ch:=⟨_,aAa o_⟩
  rw[Fh hch (show(ws.map Sl.l)[i]?=some s.l by rw[aBf,hs];rfl)] at h3;have hd0:(ws.drop i)[0]?=some s:=by rw[aCv];exact hs
  refine C.conv (H':=NP s::aO NP ((ws.drop i).eraseIdx 0)::[own vJ O ws.length q ws,own cP B o.length d o]) (aB.out (f:=NP) (.aM .aN) hd0) ?_;rw[Ct hi];generalize hT:tW (l.drop (i+1)) ((ws.map Sl.l).drop (i+1))=T at *;generalize ws.drop (i+1)=wr at *;obtain⟨Ya,m,b,w⟩:=s;dsimp only[NP] at h3⊢;refine C.Vz (T:=eG) (A:=Ya) (n:=m) (c:=b) (l:=w) .aN λhml=>?_;have hms:m≤1000:=by have:=congrArg List.length h3;rw[aAe,aAe,Dj] at this;omega
  repeat first|refine v_ ?_|intro
  refine C.scan (Y:=Option Addr×Nat×List dK) (l:=w) (n:=m) hml (λk z=>[(0,.slice A n c),(3,.slice z.1 z.2.2.length z.2.1),(4,.int .i64 i),(11,.slice O ws.length q),(12,.int .i64 ws.length),(13,.int .i64 i),(18,.slice Ya m b),(19,.int .i64 m),(20,.int .i64 k)])
   (λk z=>[own vJ O ws.length q ws,own eG Ya m b w,aO NP wr,own cP z.1 z.2.2.length z.2.1 z.2.2]) (λk z=>z.2.2++(AZ ch.id k (w.drop k)++T)=R) (B,d,o) aD aA h3 ?_ ?_
  ·rintro k ⟨B,d,o⟩ e F2 hk he h4;dsimp only at h4⊢;rw[IX he] at h4;have hol:o.length<20:=by have:=congrArg List.length h4;rw[aAe] at this;omega
   repeat first|refine v_ ?_|intro
   rename_i g7;refine rB (l_ [0,1,2,3,4,5,6,7,8,9,10] (g_ 11 (g_ 12 (n_ 13 .nil)))) ([aJ g7 77 _]) ?_;repeat first|refine v_ ?_|intro
   refine Dr.Aw rfl (by rintro k ⟨⟩<;>decide) bA (S.QZ (T:=cP) (e1:=(⟨⟨ch.id,(k:Int)+1,false⟩,e⟩:dK)) rfl eS rfl FV (by rfl) sD) ?_;rintro _ _ ⟨_,rfl,rfl⟩;refine⟨aA,?_⟩;repeat first|refine v_ ?_|intro
   rename_i B2 d2 hc1 hc2;refine⟨(B2,d2,o++[⟨⟨ch.id,(k:Int)+1,false⟩,e⟩]),?_⟩;dsimp only;rw[aAe,aDa];exact⟨aD,aA,by rw[←h4];simp⟩
  ·rintro⟨B,d,o⟩ F2 h4;dsimp only at h4⊢;rw[show w.drop m=[] by rw[hml];exact aCy] at h4;repeat first|refine v_ ?_|intro
   exact⟨(B,d,o),aD,aA,h4⟩
 ·rintro⟨B,d,o⟩ F h3;dsimp only at h3⊢;rw[show l.drop ws.length=[] by rw[hwl,hln];exact aCy,show tW [] ((ws.map Sl.l).drop ws.length)=[] from rfl,aAc] at h3;subst h3;have by1:=λM=>PZ M B o.length d o hfew rfl;repeat first|refine v_ ?_|intro
  refine bK by1 ?_;repeat first|refine v_ ?_|intro
  exact jQ ⟨B,d,rfl,rfl⟩
theorem QR(E:Env)(X:Option Addr)(m d:Nat)(q:List dK)(hq:Rd E cP X m d q)(hm:m<20)(A:Option Addr)(n c:Nat)(l:List aX)(hr:Rd E bE A n c l)(hok:∀c∈l,c.ok)(hn:n≤1000)(hfew:(GJ l).length<20):G E 20 [.slice X m d,.slice A n c] [] (cM (.bool (decide (FP q=Ep l))) []):=by
 have nt:=λM hq=>ZS M X m d q hq hm;have ex:=λM hr=>R0 M A n c l hr hok hn hfew;generalize FP q=u at *;generalize Ep l=v at *;refine t_ func20 ntmps20 ?_;repeat first|refine v_ ?_|intro
 refine dX nt ?_;rintro e H' ⟨B1,k1,rfl,rfl⟩;repeat first|refine v_ ?_|intro
 refine dX ex ?_;rintro e H' ⟨B2,k2,rfl,rfl⟩;repeat first|refine v_ ?_|intro
 refine DY (λM=>SH M _ _ _ _ _ _ u v) ?_;repeat first|refine v_ ?_|intro
 exact B7
end Go.Proofs.YtmilalkjbojciaaGreat.Sep
