/- Part AF: what it needs. No condition. -/
import Derived.Test.YtmilalkjbojciaaGreatOAA
import Derived.Test.YtmilalkjbojciaaGreatOAE
import Derived.Test.YtmilalkjbojciaaGreatOAD
import Derived.Test.YtmilalkjbojciaaGreatOAC
import Derived.Test.YtmilalkjbojciaaGreatOAB
import Derived.Lib.AppendZeros
set_option maxRecDepth 100000
set_option maxHeartbeats 8000000
open Go.Proofs.Tryz
namespace Go.Proofs.YtmilalkjbojciaaGreat.Sep
open Go.RowKit Reg
open Mem hiding Rd
class kQ(t:TypeId)(α:outParam Type)(T:outParam (Ty α)):Prop where
 tid:T.tid=t
class uU{α:Type}(T:Ty α)(z:outParam α):Prop where
 z:T.val z=T.zero
class lL{α:Type}(T:Ty α)(b:outParam Nat):Prop where
 b:T.bytes=b
class cL(t:TypeId)(z:outParam (List Value))(pl:outParam (List (Nat×Nat))):Prop where
 r:Rec prog t z pl
class Bj(t:TypeId)(z:outParam (List Value))(pl:outParam (List (Nat×Nat)))(sz:outParam Nat):Prop where
 r:Lu prog t z pl sz
class Bg(t:TypeId)(z:outParam (List Value)):Prop where
 z:((prog.info? t).bind (·.zero)).map (·.cells.toList)=some z
instance {t:TypeId}{z:List Value}{pl:List (Nat×Nat)}[h:cL t z pl]:Bg t z:=⟨h.r.zero⟩
class vI(t:TypeId)(xs ys:Array Value)(r:outParam Bool):Prop where
 e:WU prog t xs ys r
class QG(t:TypeId)(xs ys:Array Value)(r:outParam Bool):Prop where
 e:VP prog t xs ys r
noncomputable def xA(f:FuncId):Bool:=match prog.funcs[f]? with
 |some fn => !(fn.name == "runtime.NumGoroutine")&&fn.body.isSome
 |none=>false
theorem iY{f:FuncId}(h:xA f=true):∃fn,prog.funcs[f]?=some fn∧(fn.name == "runtime.NumGoroutine")=false∧fn.body.isNone=false:=by
 unfold xA at h;split at h
 ·rename_i fn hf;simp only[aAv,Bool.not_eq_true'] at h;exact⟨fn,hf,h.1,by cases hb:fn.body<;>simp_all⟩
 ·cases h
abbrev cM(v:Value)(H0:List aL):Ending→List aL→Prop:=λe H'=>e=.returned v∧H'=H0
abbrev G(E:Env)(f:FuncId)(vs:List Value)(H:List aL)(Q:Ending→List aL→Prop):Prop:=aK prog E f vs.toArray H Q
class vZ(f:FuncId)(vs:List Value)(v:outParam Value):Prop where
 t:∀E,G E f vs [] (cM v [])
class Us(f:FuncId)(vs:List Value)(α:outParam Type)(T:outParam (Ty α))(A:outParam (Option Addr))(n c:outParam Nat)(v:outParam (List α→Value)):Prop where
 t:∀E l,Rd E T A n c l→G E f vs [] (cM (v l) [])
inductive KV(F:Nat→Value):List Operand→List Value→Prop
 |nil:KV F [] []
 |cons {x:Operand} {v:Value} {l:List Operand} {vs:List Value} (h:ev F x=v) (t:KV F l vs):KV F (x::l) (v::vs)
theorem KV.eq{F:Nat→Value}{l:List Operand}{vs:List Value}(h:KV F l vs):AO F l=vs:=by
 induction h with
 |nil=>rfl
 |cons h _ ih=>rw[AO,h,ih]
section
variable {N:Nat} {E:Env} {F:Nat→Value} {H H' R:List aL} {o:Oper} {α:Type} {T:Ty α}
theorem S.Xm{f:FuncId}{ops:List Operand}{tys:Array TypeId}{vs:List Value}{v:Value}(ho:o.op=.call { callee:=.value (.func f),args:=ops.toArray,argTypes:=tys })(hvs:KV F ops vs)(hf:vZ f vs v)(hk:xA f=true) :
  gK prog N E F H o λr H1=>r=v∧H1=H:=by
 obtain⟨fn,h1,h2,h3⟩:=iY hk;refine S.call ho hvs.eq h1 h2 h3 (cS.nil (H:=H)) (λE' hE=>hf.t E') ?_;rintro e H' ⟨rfl,rfl⟩;exact⟨_,rfl,_,wK.nil,rfl,rfl⟩
theorem S.XP{f:FuncId}{ops:List Operand}{tys:Array TypeId}{vs:List Value}{A:Option Addr}{n c:Nat}{v:List α→Value}{l:List α}(ho:o.op=.call { callee:=.value (.func f),args:=ops.toArray,argTypes:=tys })(hvs:KV F ops vs)(hf:Us f vs α T A n c v)(hk:xA f=true)
  (hr:∀E',Sub E H E'→Rd E' T A n c l):gK prog N E F H o λr H1=>r=v l∧H1=H:=by
 obtain⟨fn,h1,h2,h3⟩:=iY hk;refine S.call ho hvs.eq h1 h2 h3 (cS.nil (H:=H)) (λE' hE=>hf.t E' l (hr E' hE)) ?_;rintro e H' ⟨rfl,rfl⟩;exact⟨_,rfl,_,wK.nil,rfl,rfl⟩
theorem S.bs0{t e:TypeId}(ho:o.op=.buildSlice t 0 #[])(ht:prog.underlying t=some (.slice e))(hT:kQ e α T)(hb:0*T.size≤2 ^ 24) :
  gK prog N E F H o λr H1=>∃g,r=.slice (some ⟨g,0,none⟩) 0 0∧H1=own T (some ⟨g,0,none⟩) 0 0 []::H :=
 S.pP (parts0:=[]) (l:=[]) ho rfl (by rw[hT.tid];exact ht) rfl hb
theorem S.QZ{t e:TypeId}{x:Operand}{e1:α}{v1:Value}(ho:o.op=.buildSlice t 1 #[(0,x)])(hx:ev F x=v1)(ht:prog.underlying t=some (.slice e))(hT:kQ e α T)(h1:T.val e1=v1)(hb:1*T.size≤2 ^ 24) :
  gK prog N E F H o λr H1=>∃g,r=.slice (some ⟨g,0,none⟩) 1 1∧H1=own T (some ⟨g,0,none⟩) 1 1 [e1]::H :=
 S.cB ho hx h1 (by rw[hT.tid];exact ht) hb
theorem S.j8{t e:TypeId}{x y:Operand}{e1 e2:α}{v1 v2:Value}(ho:o.op=.buildSlice t 2 #[(0,x),(1,y)])(hx:ev F x=v1)(hy:ev F y=v2)(ht:prog.underlying t=some (.slice e))(hT:kQ e α T)(h1:T.val e1=v1)(h2:T.val e2=v2)(hb:2*T.size≤2 ^ 24) :
  gK prog N E F H o λr H1=>∃g,r=.slice (some ⟨g,0,none⟩) 2 2∧H1=own T (some ⟨g,0,none⟩) 2 2 [e1,e2]::H :=
 S.xQ ho hx h1 hy h2 (by rw[hT.tid];exact ht) hb
theorem S.v5{t e:TypeId}{x y z:Operand}{e1 e2 e3:α}{v1 v2 v3:Value}(ho:o.op=.buildSlice t 3 #[(0,x),(1,y),(2,z)])(hx:ev F x=v1)(hy:ev F y=v2)(hz:ev F z=v3)(ht:prog.underlying t=some (.slice e))(hT:kQ e α T)(h1:T.val e1=v1)(h2:T.val e2=v2)(h3:T.val e3=v3)(hb:3*T.size≤2 ^ 24) :
  gK prog N E F H o λr H1=>∃g,r=.slice (some ⟨g,0,none⟩) 3 3∧H1=own T (some ⟨g,0,none⟩) 3 3 [e1,e2,e3]::H :=
 S.yT ho hx h1 hy h2 hz h3 (by rw[hT.tid];exact ht) hb
theorem S.y5{t e:TypeId}{x y:Operand}{k k2:IntKind}{i:Int}{z:α}{m:Nat}(ho:o.op=.makeSlice t x y)(hx:ev F x=.int k i)(hy:ev F y=.int k2 i)(hj:i.toNat=m)(h0:0≤i)(ht:prog.underlying t=some (.slice e))(hT:kQ e α T)(hz:uU T z){by_:Nat}(hb:T.bytes=by_)(hbig:by_*i≤281474976710656)(h63:i≤9223372036854775807) :
  gK prog N E F H o λr H1=>∃g,r=.slice (some ⟨g,0,none⟩) m m∧H1=own T (some ⟨g,0,none⟩) m m (List.replicate m z)::H :=
 S.Io ho hx hy hj h0 hz.z (by rw[hT.tid];exact ht) hb hbig h63
theorem V.Tt{P:Program}{ρ:Operand→Value}{f:FuncId}{ops:List Operand}{vs:List Value}{u:World}(hρ:ρ=ev F)(ho:o.op=.makeFunc (.func f) #[] ops.toArray)(hx:KV F ops vs):(execOp ρ o).run P u=.ok (.value (.func (.func f) #[] vs.toArray)) u:=by
 have h:(ops.toArray.map ρ)=vs.toArray:=by rw[hρ,←hx.eq,AB];simp
 simp[execOp,ho,Instr.makeFunc,h]
end
def gE(E:Env)(g:Nat)(cs:List Value):Prop:=∀i v,cs[i]?=some v→qP E ⟨g,i,none⟩ v
section
variable {E E':Env} {H R R':List aL} {g i:Nat} {cs:List Value} {v:Value} {ρ:Operand→Value} {o:Oper}
theorem gE.sub(h:gE E g cs)(hE:Sub E R E'):gE E' g cs:=λi v hv=>(h i v hv).sub hE
theorem gE.of{t:TypeId}(hE:Sub E R E')(h:Has (aJ g t cs) R R'):gE E' g cs:=λ_ _ hv=>qP.aJ hE h hv
theorem Cell.kb(h:gE E g cs)(hv:cs[i]?=some v):Cell E H ⟨g,i,none⟩ v:=Cell.kc (h i v hv)
theorem Y.Vp{P:Program}{t:TypeId}{x:Operand}{m:Nat}{vs:List Value}{d:TypeDesc}{ti:TypeInfo}(ho:o.op=.load t x)(hx:ρ x=.pointer (some ⟨g,i,none⟩))(ht:P.underlying t=some d)(hd:lT d=true)(hi:P.info? t=some ti)(hm:ti.size=m)(hb:gE E g cs)(hs:Fm cs i m vs):qB P E H ρ o (.agg vs.toArray) :=
 Y.xE ho hx ht hd hi (hm.trans hs.eq.1.symm) λw hw j u hu=>by rw[fB];exact Cell.kb (H:=H) hb (hs.eq.2 j u hu) w hw
end
structure Sl(α:Type) where
 A:Option Addr
 n:Nat
 c:Nat
 l:List α
class KL(t:TypeId)(α:outParam Type)(T:outParam (Ty α))(TS:outParam (Ty (Sl α))):Prop where
 tid:TS.tid=t
 val:∀s,TS.val s=.slice s.A s.n s.c
section
variable {α:Type} {T:Ty α} {TS:Ty (Sl α)} {N:Nat} {E:Env} {F:Nat→Value} {H:List aL} {o:Oper}
theorem S.j5{t e:TypeId}{x y:Operand}{A1 A2:Option Addr}{n1 c1 n2 c2:Nat}{l1 l2:List α}(ho:o.op=.buildSlice t 2 #[(0,x),(1,y)])(hx:ev F x=.slice A1 n1 c1)(hy:ev F y=.slice A2 n2 c2)(ht:prog.underlying t=some (.slice e))(hT:KL e α T TS)(_h1:kV E H T A1 n1 c1 l1)(_h2:kV E H T A2 n2 c2 l2)(hb:2*TS.size≤2 ^ 24) :
  gK prog N E F H o λr H1=>∃g,r=.slice (some ⟨g,0,none⟩) 2 2∧H1=own TS (some ⟨g,0,none⟩) 2 2 [⟨A1,n1,c1,l1⟩,⟨A2,n2,c2,l2⟩]::H :=
 S.xQ ho hx (hT.val _) hy (hT.val _) (by rw[hT.tid];exact ht) hb
theorem S.ZC{t e:TypeId}{x y z:Operand}{A1 A2 A3:Option Addr}{n1 c1 n2 c2 n3 c3:Nat}{l1 l2 l3:List α}(ho:o.op=.buildSlice t 3 #[(0,x),(1,y),(2,z)])(hx:ev F x=.slice A1 n1 c1)(hy:ev F y=.slice A2 n2 c2)(hz:ev F z=.slice A3 n3 c3)(ht:prog.underlying t=some (.slice e))(hT:KL e α T TS)(_h1:kV E H T A1 n1 c1 l1)(_h2:kV E H T A2 n2 c2 l2)(_h3:kV E H T A3 n3 c3 l3)(hb:3*TS.size≤2 ^ 24) :
  gK prog N E F H o λr H1=>∃g,r=.slice (some ⟨g,0,none⟩) 3 3∧H1=own TS (some ⟨g,0,none⟩) 3 3 [⟨A1,n1,c1,l1⟩,⟨A2,n2,c2,l2⟩,⟨A3,n3,c3,l3⟩]::H :=
 S.yT ho hx (hT.val _) hy (hT.val _) hz (hT.val _) (by rw[hT.tid];exact ht) hb
end
theorem V.cap{P:Program}{ρ:Operand→Value}{o:Oper}{u:World}{x:Operand}{t e:TypeId}{A:Option Addr}{n m:Nat}(ho:o.op=.call { callee:=.builtin .cap,args:=#[x],argTypes:=#[t] })(ht:P.underlying t=some (.slice e))(hx:ρ x=.slice A n m)(hn:m≤maxLen):(execOp ρ o).run P u=.ok (.value (.int .i64 m)) u:=by
 have h:IntKind.i64.wrap (m:Int)=m:=aAq _ (by unfold maxLen at hn;omega);simp[execOp,ho,resolve,hx,invoke,builtin,Builtin.cap_,run_underlying ht,goInt]
theorem S.WC{α:Type}{T:Ty α}{N:Nat}{E:Env}{F:Nat→Value}{H:List aL}{o:Oper}{s x:Operand}{t tn e:TypeId}{k kn:IntKind}{i:Int}{m:Nat}{z:α}(ho:o.op=.call { callee:=.builtin .append,args:=#[s,x],argTypes:=#[t,tn] })(hs:ev F s=.slice none 0 0)(hx:ev F x=.int k i)
  (ht:prog.underlying t=some (.slice e)) (htn:prog.underlying tn=some (.int kn)) (hT:kQ e α T) (hz:uU T z) (hj:i.toNat=m) (h0:0<i) {by_:Nat} (hb:T.bytes=by_) (hm:m≤140737488355328) (hbig:m*by_≤140737488355328) :
  gK prog N E F H o λr H1=>∃(A':Option Addr) (c':Nat),(m≤c'∧c'≤maxLen)∧r=.slice A' m c'∧H1=own T A' m c' (List.replicate m z)::H:=by
 obtain⟨j,rfl⟩:=aCf (show 0≤i by omega);rw[aAu] at hj;subst hj hb;intro a u ha hu Kw Q' hK;have hT:=hT.tid;subst hT;obtain⟨ti,hi,hzz,hsz,hbt⟩:=T.jA;have hrun:=Lib.run_append_nil_zeros (P:=prog) u t tn o.type T.tid ti T.zero k kn ht htn hi hzz j (by omega) (by rw[hsz];exact T.gL) (by omega) (by rw[hbt];omega);have hge:=grownCap_ge u j 0 T.tid;have hle:=grownCap_le_maxLen u j 0 T.tid (by unfold maxLen;omega);generalize grownCap u j 0 T.tid=cap at hrun hge hle;unfold Oper.wp;rw[ha.eval];have hx2:(execOp (ev F) o).run prog u=.ok (.value (.slice (some ⟨u.heap.size,0,none⟩) j cap)) (u.drew.alloc (.cells (Builtin.zeroCells T.zero.cells j++Builtin.zeroCells T.zero.cells (cap - j)) T.tid)):=by
  simp[execOp,ho,hs,hx,resolve,invoke,builtin,hrun]
 rw[hx2];refine hK _ _ _ ⟨some ⟨u.heap.size,0,none⟩,cap,⟨hge,hle⟩,rfl,rfl⟩ ?_;have hzc:∀j,(Builtin.zeroCells T.zero.cells j).toList=T.bT (List.replicate j z):=by
  intro j;rw[←nN T z hz.z j,←T.hzero];rfl
 have hsz:∀j,(Builtin.zeroCells T.zero.cells j).size=j*T.size:=λj=>by rw[size_zeroCells,T.hzero]
 refine hu.drew.grow (l:=[own T (some ⟨u.heap.size,0,none⟩) j cap (List.replicate j z)]) rfl rfl rfl (by simp) (λb hb=>aDu _ _ _ hb) (F1:=λb=>b=u.heap.size) ⟨_,λ_=>False,λb=>by simp,λb _ h=>h,⟨by simp,.inr ⟨u.heap.size,_,rfl,λb=>aDl,heap_alloc_new _ _,hge,hle,?_,?_⟩⟩,λb h=>h⟩ (λb hb=>by show u.heap.size≤b;omega)
 ·rw[Array.size_append,hsz,hsz,←aDb];congr 1;omega
 ·rw[Array.toList_append,hzc,aBj (by rw[←hzc,aDs,hsz])]
section
variable {Q:Value→List aL→Prop} {E:Env} {Hk:List aL} {X Y:Type}
theorem x0{v0:Value}{H0:List aL}(h:Q v0 H0):∀v H',(v=v0∧H'=H0)→Q v H':=by rintro _ _ ⟨rfl,rfl⟩;exact h
theorem x1{v0:X→Value}{H0:X→List aL}(h:∀g,Q (v0 g) (H0 g)):∀v H',(∃g,v=v0 g∧H'=H0 g)→Q v H':=by rintro _ _ ⟨g,rfl,rfl⟩;exact h g
theorem x2{p q:X→Y→Prop}{v0:X→Y→Value}{H0:X→Y→List aL}(h:∀a b,p a b→q a b→Q (v0 a b) (H0 a b)):∀v H',(∃a b,(p a b∧q a b)∧v=v0 a b∧H'=H0 a b)→Q v H':=by rintro _ _ ⟨a,b,⟨h1,h2⟩,rfl,rfl⟩;exact h a b h1 h2
theorem y0{v0:Value}{H0:List aL}(hc:aB E H0 Hk)(h:Q v0 H0):∀v H',(v=v0∧H'=H0)→aB E H' Hk∧Q v H':=by rintro _ _ ⟨rfl,rfl⟩;exact⟨hc,h⟩
theorem y1{v0:X→Value}{H0:X→List aL}(hc:∀g,aB E (H0 g) Hk)(h:∀g,Q (v0 g) (H0 g)):∀v H',(∃g,v=v0 g∧H'=H0 g)→aB E H' Hk∧Q v H':=by rintro _ _ ⟨g,rfl,rfl⟩;exact⟨hc g,h g⟩
theorem y2{p q:X→Y→Prop}{v0:X→Y→Value}{H0:X→Y→List aL}(hc:∀a b,aB E (H0 a b) Hk)(h:∀a b,p a b→q a b→Q (v0 a b) (H0 a b)):∀v H',(∃a b,(p a b∧q a b)∧v=v0 a b∧H'=H0 a b)→aB E H' Hk∧Q v H':=by rintro _ _ ⟨a,b,⟨h1,h2⟩,rfl,rfl⟩;exact⟨hc a b,h a b h1 h2⟩
end
theorem I7{F:Nat→Value}{l:List Operand}{vs:List Value}(h:KV F l vs:=by(iterate 24 first|exact KV.nil|(apply KV.cons;(· exact eS))|skip);first|done|fail):KV F l vs:=h
theorem YD{p:Prop}(h:p:=by infer_instance):p:=h
theorem FV{p:Prop}(h:p:=by infer_instance):p:=h
theorem l8{p:Prop}(h:p:=by infer_instance):p:=h
theorem Yo{α:Type}{T:Ty α}{b:Nat}(h:lL T b:=by infer_instance):T.bytes=b:=h.b
theorem sZ{t:TypeId}{z:List Value}(h:Bg t z:=by infer_instance):((prog.info? t).bind (·.zero)).map (·.cells.toList)=some z:=h.z
theorem ZH{t:TypeId}{z:List Value}{pl:List (Nat×Nat)}(h:cL t z pl:=by infer_instance):Rec prog t z pl:=h.r
theorem ZX{t:TypeId}{z:List Value}{pl:List (Nat×Nat)}{sz:Nat}(h:Bj t z pl sz:=by infer_instance):Lu prog t z pl sz:=h.r
theorem TD{t:TypeId}{xs ys:Array Value}{r:Bool}(h:vI t xs ys r:=by infer_instance):WU prog t xs ys r:=h.e
theorem Yc{t:TypeId}{xs ys:Array Value}{r:Bool}(h:QG t xs ys r:=by infer_instance):VP prog t xs ys r:=h.e
theorem H9{v w:Value}(h:v=w:=by first|rfl|(with_reducible exact PC _ nG nG)):v=w:=h
theorem Cw{P:Program}{E:Env}{H:List aL}{ρ:Operand→Value}{o:Oper}{v:Value}(h:qB P E H ρ o v:=by first|(intro _ _;first|(first|(apply V.move;exact rfl;exact eS)|(apply V.assign;exact rfl;exact eS)|(apply V.nilCheck;exact rfl;exact rfl)|(apply V.fieldAddr;exact rfl;exact rfl;exact rfl;exact rfl;exact rfl;decide;exact eS;exact Yi)|(apply V.extract;exact rfl;exact rfl;exact rfl)|(apply V.not;exact rfl;exact rfl)|(apply V.Xv;exact rfl;exact rfl;exact sW;exact eS)|(apply V.YI;exact rfl;exact rfl;exact sW;exact eS))|(first|(apply V.add;exact rfl;exact rfl;exact rfl;exact Ee)|(apply V.sub;exact rfl;exact rfl;exact rfl;exact Ee)|(apply V.mul;exact rfl;exact rfl;exact rfl;exact Ee)|(apply V.lss;exact rfl;exact rfl;exact rfl)|(apply V.leq;exact rfl;exact rfl;exact rfl)|(apply V.gtr;exact rfl;exact rfl;exact rfl)|(apply V.geq;exact rfl;exact rfl;exact rfl)|(apply V.eql;exact rfl;exact rfl;exact rfl))|(first|(apply V.neq;exact rfl;exact rfl;exact rfl)|(apply V.Z0;exact rfl;exact rfl;exact rfl;exact rfl)|(apply V.Zv;exact rfl;exact rfl;exact rfl;exact rfl)|(apply V.Z5;exact rfl;exact rfl;exact rfl;exact rfl)|(apply V.neqN;exact rfl;exact rfl;exact rfl;exact rfl)|(apply V.len;exact rfl;exact rfl;exact rfl;exact QC)|(apply V.conv;exact rfl;exact rfl;exact rfl;exact rfl;exact Ee)|(apply V.Y5;exact rfl;exact rfl;exact rfl;exact Ee))|(first|(apply V.shl;exact rfl;exact rfl;exact rfl;exact nG;exact Ee)|(apply V.shr;exact rfl;exact rfl;exact rfl;exact nG;exact Ee)|(apply V.quo;exact rfl;exact rfl;exact rfl;exact nG;exact ZR)|(apply V.rem;exact rfl;exact rfl;exact rfl;exact nG;exact ZM)|(apply V.Wc;exact rfl;decide;exact rfl;exact rfl;exact Ee)|(apply V.neg;exact rfl;exact rfl;exact Ee)|(apply V.Zk;exact rfl;exact rfl;exact rfl)|(apply V.Zq;exact rfl;exact rfl;exact rfl))|(first|(apply V.ZY;exact rfl;exact rfl;exact rfl;exact rfl)|(apply V.Zb;exact rfl;exact rfl;exact rfl;exact rfl)|(apply V.max;exact rfl;exact rfl;exact rfl)|(apply V.min;exact rfl;exact rfl;exact rfl)|(apply V.cap;exact rfl;exact rfl;exact rfl;exact QC)|(apply V.func1;exact rfl;exact eS)|(apply V.Tt;exact rfl;exact rfl;exact I7)|(apply V.U6;exact rfl;exact rfl;exact rfl;exact rfl;exact rfl;exact rfl;exact rfl;exact rfl;exact sJ;exact nG;exact nG;exact nD))|(first|(apply V.cat;exact rfl;exact rfl;exact rfl;decide)|(apply V.j0;exact rfl;exact eS;exact eS;exact Yc)|(apply V.neqR;exact rfl;exact eS;exact eS;exact Yc)|(apply V.ZE;exact rfl;exact eS;exact eS;exact TD)|(apply V.ZJ;exact rfl;exact eS;exact eS;exact TD)|(apply V.Hg;exact rfl;exact rfl;exact rfl;exact rfl;exact rfl;exact rfl;exact sJ;exact nG;exact nG;exact Yi)))|(first|(first|(apply Y.load;exact rfl;exact rfl;exact rfl;exact rfl;exact Yf)|(apply Y.indexAddr;exact rfl;exact rfl;exact rfl;exact qF;exact sJ;exact nG;exact nD;exact nO;exact nO)|(apply Y.Nt;exact rfl;exact rfl;exact qF;rotate_left;exact nO;rotate_right;exact nD;exact nO)|(apply Y.O6;exact rfl;exact rfl;exact rfl;exact rfl)|(apply Y.Si;exact rfl;exact rfl;exact rfl;exact rfl;exact rfl;exact rfl;exact aS;exact K6)|(apply Y.O5;exact rfl;exact rfl;exact qF;rotate_left;exact nO;rotate_right;exact nD;exact rfl;exact rfl;exact rfl;exact rfl;exact K6)|(apply Y.Ve;exact rfl;exact rfl;exact rfl;exact rfl;exact rfl;exact rfl;exact rfl)|(apply Y.fieldS;exact rfl;exact rfl;exact rfl;exact rfl;exact rfl;exact rfl;exact rfl;exact rfl;exact rfl;exact K6))|(first|(apply Y.len;exact rfl;exact rfl;exact qF;exact nO)|(apply Y.str;exact rfl;exact rfl;exact qF)|(apply Y.TG;exact rfl;exact rfl;exact rfl;exact qF;exact sJ;exact nG;exact nG;exact nO)|(apply Y.Se;exact rfl;exact rfl;exact rfl;exact qF;exact sJ;exact nG;exact nG;exact nO)|(apply Y.IV;exact rfl;exact rfl;exact rfl;exact rfl;exact qF;exact sJ;exact nG;exact sJ;exact nG;exact nG;exact nG;exact nO)|(apply Y.LX;exact rfl;exact rfl;exact rfl;exact rfl;exact qF;exact sJ;exact nG;exact sJ;exact nG;exact nG;exact nG;exact nO)|(apply Y.strLen;exact rfl;exact rfl;exact rfl;exact QC)|(apply Y.indexStr;exact rfl;exact rfl;exact rfl;exact rfl;exact sJ;exact nG;exact nD))|(first|(apply Y.load;exact rfl;exact rfl;exact rfl;exact rfl;(· exact(Cell.aJ aS nD)))|(apply Y.sliceFull;exact rfl;exact rfl;exact rfl;exact rfl;exact rfl;exact qF;exact sJ;exact nG;exact sJ;exact nG;exact nG;exact nG;exact nO)|(apply Y.load;exact rfl;exact rfl;exact rfl;exact rfl;(· exact(Cell.kb nD nO)))|(apply Y.Vp;exact rfl;exact rfl;exact rfl;exact rfl;exact rfl;exact rfl;exact nD;exact K6)|(apply Y.build;exact rfl;exact o7;exact ZH;exact Wo)|(apply Y.UN;exact rfl;exact o7;exact ZX;exact Wo)))):qB P E H ρ o v:=h
theorem Sy{P:Program}{N:Nat}{E:Env}{F:Nat→Value}{H:List aL}{o:Oper}{K:Value→List aL→Prop}(h:gK P N E F H o K:=by first|(first|(apply S.Zp;exact rfl;exact eS;exact YU)|(apply S.Nv;exact rfl;exact rfl;exact rfl;exact rfl;exact l9;exact(λ_ _=>dH);exact ZK;exact nO;exact Yo;exact nG;exact nG)|(apply S.KA;exact rfl;exact rfl;exact rfl;exact l9;exact(λ_ _=>dH);exact qF;exact ZK;exact nO;exact Yo;exact nG;exact nG)|(apply S.H4;exact rfl;exact rfl;exact rfl;exact qF;exact nO;exact Yo;exact nG;exact nG)|(apply S.bs0;exact rfl;exact rfl;exact FV;decide)|(apply S.j5;exact rfl;exact eS;exact eS;exact rfl;exact FV;exact qF;exact qF;decide)|(apply S.ZC;exact rfl;exact eS;exact eS;exact eS;exact rfl;exact FV;exact qF;exact qF;exact qF;decide)|(apply S.WC;exact rfl;exact rfl;exact rfl;exact rfl;exact rfl;exact FV;exact l8;exact sJ;exact nG;exact Yo;exact nG;exact nG))|(first|(apply S.QZ;exact rfl;exact eS;exact rfl;exact FV;exact H9;decide)|(apply S.j8;exact rfl;exact eS;exact eS;exact rfl;exact FV;exact H9;exact H9;decide)|(apply S.v5;exact rfl;exact eS;exact eS;exact eS;exact rfl;exact FV;exact H9;exact H9;exact H9;decide)|(apply S.Eo;exact rfl;exact rfl;exact eS;exact dH;rotate_left;exact nO;rotate_right;exact nD;exact H9;exact nO)|(apply S.Rv;exact rfl;exact rfl;exact eS;exact dH;exact nD;exact rfl;exact nD;(· intro x hx;simp[Value.cells] at hx;subst hx;rfl);exact rfl;exact rfl)|(apply S.storeF0K;exact rfl;exact rfl;exact eS;exact dH;exact nD;exact rfl;exact nD;(· intro x hx;simp[Value.cells] at hx;subst hx;rfl);exact rfl;exact rfl)|(apply S.Vq;exact rfl;exact sZ)|(apply S.y5;exact rfl;exact rfl;exact rfl;exact sJ;exact nG;exact rfl;exact FV;exact l8;exact Yo;exact nG;exact nG))|(first|(apply S.MN;exact rfl;exact rfl;exact eS;exact rfl;exact rfl;exact rfl;exact dH;exact W3)|(apply S.RE;exact rfl;exact rfl;exact rfl;exact nD;exact dH;exact qF;rotate_left;exact rfl;rotate_right;exact nD;exact nG;exact nD;exact rfl;exact QC)|(apply S.Rk;exact rfl;exact rfl;exact eS;exact nO;exact rfl;exact rfl;exact dH;exact Y4;exact TT))):gK P N E F H o K:=h
theorem NO{P:Program}{N:Nat}{E:Env}{F:Nat→Value}{H:List aL}{o:Oper}{K:Value→List aL→Prop}(h:gK P N E F H o K:=by first|(apply S.Xm;exact rfl;exact I7;exact YD;kernel_rfl)|(apply S.XP;exact rfl;exact I7;exact YD;kernel_rfl;(· intro E' hE;exact dB))|exact Sy|fail):gK P N E F H o K:=h
theorem w_{p q:Prop}(hq:q)(h:wA q→p:=by intro h;(first|(focus (apply L.val;decide;exact Cw))|refine C.seq ?_|refine C.region ?_|refine L.nil ?_|refine C.block ?_|refine C.exit ?_|refine C.skip ?_|refine C.ret ?_|(focus (apply L.on;exact rfl;decide;exact rfl;exact sW))|(focus (apply L.off;decide;exact rfl;decide;exact rfl;exact sW))|(focus (apply L.Sg;decide;exact rfl;decide;exact rfl))|(focus (apply C.Fx;exact rfl;exact sW))|(focus (apply C.GC;exact rfl;exact sW))|refine Dr.done ?_|refine FU.done ?_|(focus (apply FU.take;exact rfl;decide;exact bA;exact Cw))|(focus (apply Dr.take;exact rfl;decide;exact bA;exact Cw))|(focus (apply Dr.skip;exact rfl;decide;exact EG))|(focus (apply Dr.Ht;exact rfl;decide;exact EG))|with_reducible refine T.n ?_|with_reducible refine T.ret ?_|with_reducible refine T.exit ?_|with_reducible refine I.n ?_|with_reducible refine I.ret ?_|with_reducible refine I.tA ?_|with_reducible refine I.TE (by decide) ?_);(repeat (first|(focus (apply L.val;decide;exact Cw))|refine C.seq ?_|refine C.region ?_|refine L.nil ?_|refine C.block ?_|refine C.exit ?_|refine C.skip ?_|refine C.ret ?_|(focus (apply L.on;exact rfl;decide;exact rfl;exact sW))|(focus (apply L.off;decide;exact rfl;decide;exact rfl;exact sW))|(focus (apply L.Sg;decide;exact rfl;decide;exact rfl))|(focus (apply C.Fx;exact rfl;exact sW))|(focus (apply C.GC;exact rfl;exact sW))|refine Dr.done ?_|refine FU.done ?_|(focus (apply FU.take;exact rfl;decide;exact bA;exact Cw))|(focus (apply Dr.take;exact rfl;decide;exact bA;exact Cw))|(focus (apply Dr.skip;exact rfl;decide;exact EG))|(focus (apply Dr.Ht;exact rfl;decide;exact EG))|with_reducible refine T.n ?_|with_reducible refine T.ret ?_|with_reducible refine T.exit ?_|with_reducible refine I.n ?_|with_reducible refine I.ret ?_|with_reducible refine I.tA ?_|with_reducible refine I.TE (by decide) ?_));exact h.out):p:=h ⟨hq⟩
theorem Cx{p q:Prop}(hq:q)(h:wA q→p:=by intro h;(first|(focus (apply L.val;decide;exact Cw))|refine C.seq ?_|refine C.region ?_|refine L.nil ?_|refine C.block ?_|refine C.exit ?_|refine C.skip ?_|refine C.ret ?_|(focus (apply L.on;exact rfl;decide;exact rfl;exact sW))|(focus (apply L.off;decide;exact rfl;decide;exact rfl;exact sW))|(focus (apply L.Sg;decide;exact rfl;decide;exact rfl))|(focus (apply C.Fx;exact rfl;exact sW))|(focus (apply C.GC;exact rfl;exact sW))|refine Dr.done ?_|refine FU.done ?_|(focus (apply FU.take;exact rfl;decide;exact bA;exact Cw))|(focus (apply Dr.take;exact rfl;decide;exact bA;exact Cw))|(focus (apply Dr.skip;exact rfl;decide;exact EG))|(focus (apply Dr.Ht;exact rfl;decide;exact EG))|with_reducible refine T.n ?_|with_reducible refine T.ret ?_|with_reducible refine T.exit ?_|with_reducible refine I.n ?_|with_reducible refine I.ret ?_|with_reducible refine I.tA ?_|with_reducible refine I.TE (by decide) ?_);exact h.out):p:=h ⟨hq⟩
theorem k_{p q:Prop}(hq:q)(h:wA q→p:=by intro h;first|(apply L.fQ;decide;exact NO;(first|exact x0 h.out|exact x1 h.out|exact x2 h.out))|(apply L.pX;exact NO;(first|exact x0 h.out|exact x1 h.out|exact x2 h.out))|(apply Dr.WZ;exact rfl;(· rintro k ⟨⟩<;>decide);exact bA;exact NO;(first|exact x0 h.out|exact x1 h.out|exact x2 h.out))|(apply Dr.Iq;exact rfl;(· rintro k ⟨⟩<;>decide);exact bA;exact NO;(first|exact x0 h.out|exact x1 h.out|exact x2 h.out))|(apply zL.Aw;exact rfl;(· rintro k ⟨⟩<;>decide);exact bA;exact NO;(first|(refine y0 ?_ ?_;exact aA;exact h.out)|(refine y1 ?_ ?_;(· intro _;exact aA);exact h.out)|(refine y2 ?_ ?_;(· intro _ _;exact aA);exact h.out)))|(apply Dr.Aw;exact rfl;(· rintro k ⟨⟩<;>decide);exact bA;exact NO;(first|(refine y0 ?_ ?_;exact aA;exact h.out)|(refine y1 ?_ ?_;(· intro _;exact aA);exact h.out)|(refine y2 ?_ ?_;(· intro _ _;exact aA);exact h.out)))):p:=h ⟨hq⟩
theorem He{p q:Prop}(hq:q)(h:wA q→p:=by intro h;first|(apply L.fQ;decide;exact Sy;(first|exact x0 h.out|exact x1 h.out|exact x2 h.out))|(apply L.pX;exact Sy;(first|exact x0 h.out|exact x1 h.out|exact x2 h.out))|(apply Dr.WZ;exact rfl;(· rintro k ⟨⟩<;>decide);exact bA;exact Sy;(first|exact x0 h.out|exact x1 h.out|exact x2 h.out))|(apply Dr.Iq;exact rfl;(· rintro k ⟨⟩<;>decide);exact bA;exact Sy;(first|exact x0 h.out|exact x1 h.out|exact x2 h.out))|(apply zL.Aw;exact rfl;(· rintro k ⟨⟩<;>decide);exact bA;exact Sy;(first|(refine y0 ?_ ?_;exact aA;exact h.out)|(refine y1 ?_ ?_;(· intro _;exact aA);exact h.out)|(refine y2 ?_ ?_;(· intro _ _;exact aA);exact h.out)))|(apply Dr.Aw;exact rfl;(· rintro k ⟨⟩<;>decide);exact bA;exact Sy;(first|(refine y0 ?_ ?_;exact aA;exact h.out)|(refine y1 ?_ ?_;(· intro _;exact aA);exact h.out)|(refine y2 ?_ ?_;(· intro _ _;exact aA);exact h.out)))):p:=h ⟨hq⟩
theorem sK{f:FuncId}(h:xA f=true:=by kernel_rfl):xA f=true:=h
section
variable {P:Program} {N z:Nat} {E:Env} {F:Nat→Value} {H R:List aL} {Q:QF} {f:FuncId} {ops:List Operand} {tys:Array TypeId} {Hp:List aL} {Q1:Ending→List aL→Prop} {d:Nat} {ty:TypeId} {pos:String} {af:Array Edge}
theorem cl{os rest:List Oper}(hd:d<N)(hk:xA f=true)(hp:cS Hp H R)(law:∀E',Sub E R E'→aK prog E' f (AO F ops).toArray Hp Q1)(hQ:∀e H',Q1 e H'→∃v,e=.returned v∧∃H2,wK H' R H2∧L prog N E os Q rest (pT F d v) H2) :
  L prog N E os Q (⟨some d,.call { callee:=.value (.func f),args:=ops.toArray,argTypes:=tys },ty,pos,af,none⟩::rest) F H:=by
 obtain⟨fn,h1,h2,h3⟩:=iY hk;exact L.step hd (S.call rfl rfl h1 h2 h3 hp law hQ)
theorem yB{os:List Oper}{todo:Td}{Hk:List aL}{gd:Option (Nat×Bool)}{i:Nat}(hi:nth os i=some ⟨some d,.call { callee:=.value (.func f),args:=ops.toArray,argTypes:=tys },ty,pos,af,gd⟩)(hd:d<N)(hg:rE os N F true gd)(hk:xA f=true)(hp:cS Hp H R)
  (law:∀E',Sub E R E'→aK prog E' f (AO F ops).toArray Hp Q1) (hQ:∀e H',Q1 e H'→∃v,e=.returned v∧∃H2,wK H' R H2∧aB E H2 Hk∧Dr prog N E z os Q Hk todo (pT F d v) H2):zL prog N E z os Q Hk i todo F H:=by
 obtain⟨fn,h1,h2,h3⟩:=iY hk;exact zL.go hi (by rintro k ⟨⟩;exact hd) hg (S.call rfl rfl h1 h2 h3 hp law hQ)
theorem cg{os:List Oper}{todo:Td}{Hk:List aL}{gd:Option (Nat×Bool)}{i:Nat}(hi:nth os i=some ⟨some d,.call { callee:=.value (.func f),args:=ops.toArray,argTypes:=tys },ty,pos,af,gd⟩)(hd:d<N)(hg:rE os N F true gd)(hk:xA f=true)(hp:cS Hp H R)
  (law:∀E',Sub E R E'→aK prog E' f (AO F ops).toArray Hp Q1) (hQ:∀e H',Q1 e H'→∃v,e=.returned v∧∃H2,wK H' R H2∧aB E H2 Hk∧Dr prog N E z os Q Hk todo (pT F d v) H2):Dr prog N E z os Q Hk (.one i true todo) F H:=Dr.all (yB hi hd hg hk hp law hQ)
theorem gk{K:Value→List aL→Prop}{v:Value}{H' H2:List aL}(hc:wK H' R H2)(h:K v H2):∃v',Ending.returned v=.returned v'∧∃H2,wK H' R H2∧K v' H2:=⟨v,rfl,H2,hc,h⟩
theorem gd{K:Value→List aL→Prop}{Hk:List aL}{v:Value}{H' H2:List aL}(hc:wK H' R H2)(hv:aB E H2 Hk)(h:K v H2):∃v',Ending.returned v=.returned v'∧∃H2,wK H' R H2∧aB E H2 Hk∧K v' H2:=⟨v,rfl,H2,hc,hv,h⟩
end
theorem t_{P:Program}{N:Nat}{E:Env}{H:List aL}{f:FuncId}{fn:Func}{c:Code}{args:Array Value}{R:Ending→List aL→Prop}(hf:P.funcs[f]?=some fn)(hn:fn.ntmps=N)(h:C P N E c (gF P E fn R) (Jr args) H)(hb:fn.body=some c:=by rfl)(ha:args.size≤N:=by simp):aK P E f args H R:=DG hf hb hn ha h
theorem e1_{p:Prop}(h:p:=by exact aR rfl aF aA ⟨rfl,rfl⟩):p:=h
theorem e2_{p:Prop}(h:p:=by exact vT rfl aF aF aA ⟨rfl,rfl⟩):p:=h
theorem e3_{p:Prop}(h:p:=by exact gO rfl aA ⟨rfl,rfl⟩):p:=h
theorem e4_{p:Prop}(h:p:=by exact VL rfl aA ⟨rfl,rfl⟩):p:=h
theorem e5_{p:Prop}(h:p:=by exact cI rfl aF rfl rfl rfl aS rfl aA ⟨rfl,rfl⟩):p:=h
theorem e6_{p:Prop}(h:p:=by exact gS rfl aF rfl rfl rfl aS rfl aF aA ⟨rfl,rfl⟩):p:=h
theorem e7_{p:Prop}(h:p:=by apply cI;exact rfl;exact aF;exact rfl;exact rfl;exact rfl;exact aS;exact rfl;rotate_left;exact⟨rfl,rfl⟩;exact aA):p:=h
theorem e8_{p:Prop}(h:p:=by apply gS;exact rfl;exact aF;exact rfl;exact rfl;exact rfl;exact aS;exact rfl;exact aF;rotate_left;exact⟨rfl,rfl⟩;exact aA):p:=h
theorem BO{E E':Env}{R:List aL}{p:Prop}(hE:Sub E R E')(h:Sub E R E'→p:=by intro hE;first|exact dB|exact gE.of hE aS|(refine gE.sub ?_ hE;assumption)|(refine Rd.sub ?_ hE;assumption)|omega|assumption):p:=h hE
section
variable {N z:Nat} {E:Env} {F:Nat→Value} {H R:List aL} {Q:QF} {f:FuncId} {ops:List Operand} {tys:Array TypeId} {Hp:List aL} {Q1:Ending→List aL→Prop} {d:Nat} {ty:TypeId} {pos:String} {af:Array Edge} {os rest:List Oper} {vs:List Value}
theorem TP{S:Env→Prop}(law:∀E',S E'→aK prog E' f vs.toArray Hp Q1)(hd:d<N)(hk:xA f=true)(hv:AO F ops=vs)(hp:cS Hp H R)(hs:∀E',Sub E R E'→S E')(hQ:∀e H',Q1 e H'→∃v,e=.returned v∧∃H2,wK H' R H2∧L prog N E os Q rest (pT F d v) H2):L prog N E os Q (⟨some d,.call { callee:=.value (.func f),args:=ops.toArray,argTypes:=tys },ty,pos,af,none⟩::rest) F H:=by
 subst hv;exact cl hd hk hp (λE' hE=>law E' (hs E' hE)) hQ
theorem Tz{S:Env→Prop}{todo:Td}{Hk:List aL}{gd:Option (Nat×Bool)}{i:Nat}(law:∀E',S E'→aK prog E' f vs.toArray Hp Q1)(hi:nth os i=some ⟨some d,.call { callee:=.value (.func f),args:=ops.toArray,argTypes:=tys },ty,pos,af,gd⟩)(hd:d<N)(hg:rE os N F true gd)(hk:xA f=true)(hv:AO F ops=vs)(hp:cS Hp H R)(hs:∀E',Sub E R E'→S E')(hQ:∀e H',Q1 e H'→∃v,e=.returned v∧∃H2,wK H' R H2∧aB E H2 Hk∧Dr prog N E z os Q Hk todo (pT F d v) H2):Dr prog N E z os Q Hk (.one i true todo) F H:=by
 subst hv;exact cg hi hd hg hk hp (λE' hE=>law E' (hs E' hE)) hQ
end
theorem Sf{p:Env→Prop}(h:∀E',p E'):∀E',True→p E':=λE' _=>h E'
theorem Rr{p a b:Env→Prop}(h:∀E',a E'→b E'→p E'):∀E',(a E'∧b E')→p E':=λE' k=>h E' k.1 k.2
theorem Ql{p a b c:Env→Prop}(h:∀E',a E'→b E'→c E'→p E'):∀E',(a E'∧b E'∧c E')→p E':=λE' k=>h E' k.1 k.2.1 k.2.2
theorem bK{K p q:Prop}(law:K)(hq:q)(h:K→wA q→p:=by intro law h;apply TP (Sf law);decide;kernel_rfl;(· rfl);exact aC;exact λ_ _=>trivial;(· rintro e H' ⟨rfl,rfl⟩;exact gk bG h.out)):p:=h law ⟨hq⟩
theorem eV{K p q:Prop}(law:K)(hq:q)(h:K→wA q→p:=by intro law h;apply TP law;decide;kernel_rfl;(· rfl);exact aC;exact λ_ hE=>BO hE;(· rintro e H' ⟨rfl,rfl⟩;exact gk bG h.out)):p:=h law ⟨hq⟩
theorem DY{K p q:Prop}(law:K)(hq:q)(h:K→wA q→p:=by intro law h;apply TP (Rr law);decide;kernel_rfl;(· rfl);exact aC;exact λ_ hE=>⟨BO hE,BO hE⟩;(· rintro e H' ⟨rfl,rfl⟩;exact gk bG h.out)):p:=h law ⟨hq⟩
theorem c3_{K p q:Prop}(law:K)(hq:q)(h:K→wA q→p:=by intro law h;apply TP (Ql law);decide;kernel_rfl;(· rfl);exact aC;exact λ_ hE=>⟨BO hE,BO hE,BO hE⟩;(· rintro e H' ⟨rfl,rfl⟩;exact gk bG h.out)):p:=h law ⟨hq⟩
theorem bW{K p q:Prop}(law:K)(hq:q)(h:K→wA q→p:=by intro law h;apply TP (Sf law);decide;kernel_rfl;(· rfl);exact aC;exact λ_ _=>trivial;exact h.out):p:=h law ⟨hq⟩
theorem dX{K p q:Prop}(law:K)(hq:q)(h:K→wA q→p:=by intro law h;apply TP law;decide;kernel_rfl;(· rfl);exact aC;exact λ_ hE=>BO hE;exact h.out):p:=h law ⟨hq⟩
theorem C1{K p q:Prop}(law:K)(hq:q)(h:K→wA q→p:=by intro law h;apply TP (Rr law);decide;kernel_rfl;(· rfl);exact aC;exact λ_ hE=>⟨BO hE,BO hE⟩;exact h.out):p:=h law ⟨hq⟩
theorem y3_{K p q:Prop}(law:K)(hq:q)(h:K→wA q→p:=by intro law h;apply TP (Ql law);decide;kernel_rfl;(· rfl);exact aC;exact λ_ hE=>⟨BO hE,BO hE,BO hE⟩;exact h.out):p:=h law ⟨hq⟩
theorem eJ{K p q:Prop}(law:K)(hq:q)(h:K→wA q→p:=by intro law h;apply Tz (Sf law);(· rfl);decide;exact bA;kernel_rfl;(· rfl);exact aC;exact λ_ _=>trivial;(· rintro e H' ⟨rfl,rfl⟩;exact gd bG aA h.out)):p:=h law ⟨hq⟩
theorem Ib{K p q:Prop}(law:K)(hq:q)(h:K→wA q→p:=by intro law h;apply Tz law;(· rfl);decide;exact bA;kernel_rfl;(· rfl);exact aC;exact λ_ hE=>BO hE;(· rintro e H' ⟨rfl,rfl⟩;exact gd bG aA h.out)):p:=h law ⟨hq⟩
theorem Ju{K p q:Prop}(law:K)(hq:q)(h:K→wA q→p:=by intro law h;apply Tz (Rr law);(· rfl);decide;exact bA;kernel_rfl;(· rfl);exact aC;exact λ_ hE=>⟨BO hE,BO hE⟩;(· rintro e H' ⟨rfl,rfl⟩;exact gd bG aA h.out)):p:=h law ⟨hq⟩
theorem g3_{K p q:Prop}(law:K)(hq:q)(h:K→wA q→p:=by intro law h;apply Tz (Ql law);(· rfl);decide;exact bA;kernel_rfl;(· rfl);exact aC;exact λ_ hE=>⟨BO hE,BO hE,BO hE⟩;(· rintro e H' ⟨rfl,rfl⟩;exact gd bG aA h.out)):p:=h law ⟨hq⟩
theorem iO{K p q:Prop}(law:K)(hq:q)(h:K→wA q→p:=by intro law h;apply Tz (Sf law);(· rfl);decide;exact bA;kernel_rfl;(· rfl);exact aC;exact λ_ _=>trivial;exact h.out):p:=h law ⟨hq⟩
theorem C2{K p q:Prop}(law:K)(hq:q)(h:K→wA q→p:=by intro law h;apply Tz law;(· rfl);decide;exact bA;kernel_rfl;(· rfl);exact aC;exact λ_ hE=>BO hE;exact h.out):p:=h law ⟨hq⟩
theorem OW{K p q:Prop}(law:K)(hq:q)(h:K→wA q→p:=by intro law h;apply Tz (Rr law);(· rfl);decide;exact bA;kernel_rfl;(· rfl);exact aC;exact λ_ hE=>⟨BO hE,BO hE⟩;exact h.out):p:=h law ⟨hq⟩
theorem z3_{K p q:Prop}(law:K)(hq:q)(h:K→wA q→p:=by intro law h;apply Tz (Ql law);(· rfl);decide;exact bA;kernel_rfl;(· rfl);exact aC;exact λ_ hE=>⟨BO hE,BO hE,BO hE⟩;exact h.out):p:=h law ⟨hq⟩
abbrev n_(i:Nat)(t:Td):Td:=.one i false t
abbrev g_(i:Nat)(t:Td):Td:=.one i true t
section
variable {P:Program} {E:Env} {fn:Func} {R:Ending→List aL→Prop} {F:Nat→Value} {H H':List aL} {t u:Nat} {v v':Value}
theorem jQ(h:R (.returned v) H')(hr:fn.results=#[.tmp t]:=by rfl)(hv:F t=v:=by exact aF)(hc:aB E H H':=by exact aA):gF P E fn R .ret F H:=aR hr hv hc h
theorem Cz(h:R (.returned (.tuple #[v,v'])) H')(hr:fn.results=#[.tmp t,.tmp u]:=by rfl)(hv:F t=v:=by exact aF)(hv':F u=v':=by exact aF)(hc:aB E H H':=by exact aA):gF P E fn R .ret F H:=vT hr hv hv' hc h
end
theorem v_{p q:Prop}(hq:q)(h:wA q→p:=by intro h;first|exact w_ h.out|exact k_ h.out|(apply gd;exact bG;exact aA;exact h.out)|(apply gk;exact bG;exact h.out)):p:=h ⟨hq⟩
theorem aE{p q:Prop}(hq:q)(h:wA q→p:=by intro h;first|exact w_ h.out|exact He h.out|(apply gd;exact bG;exact aA;exact h.out)|(apply gk;exact bG;exact h.out)):p:=h ⟨hq⟩
def l_:List Nat→Td→Td
 | [],t=>t
 |i::l,t=>.one i false (l_ l t)
section
variable {P:Program} {N:Nat} {E:Env} {F:Nat→Value} {H:List aL} {Q:QF} {id:Nat} {l:List Oper}
theorem rA(todo:Td)(h:Dr P N E 100000 l Q H todo F H)(hm:P.follows .mixedOrders=true:=by kernel_rfl)(hchk:(Region.noSelect l.toArray&&Nat.beq todo.len l.length&&hU l 100000 (Array.replicate l.length false) todo)=true:=by kernel_rfl):C P N E (.region id l.toArray true) Q F H:=C.bL 100000 todo H hm hchk aB.refl h
theorem rB(todo:Td)(Hk:List aL)(h:Dr P N E 100000 l Q Hk todo F H)(hm:P.follows .mixedOrders=true:=by kernel_rfl)(hchk:(Region.noSelect l.toArray&&Nat.beq todo.len l.length&&hU l 100000 (Array.replicate l.length false) todo)=true:=by kernel_rfl)(hk:aB E H Hk:=by exact aA):C P N E (.region id l.toArray true) Q F H:=C.bL 100000 todo Hk hm hchk hk h
end
theorem fX:maxLen=9223372036854775807:=rfl
end Go.Proofs.YtmilalkjbojciaaGreat.Sep
