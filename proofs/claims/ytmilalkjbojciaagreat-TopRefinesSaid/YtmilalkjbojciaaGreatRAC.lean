/- Part AC: what it needs. No condition. -/
import Derived.Test.YtmilalkjbojciaaGreatRAA
import Derived.Test.YtmilalkjbojciaaGreatRAB
import Derived.Lib.AppendZeros
import Derived.RangeFuncRecord
set_option maxRecDepth 100000
set_option maxHeartbeats 8000000
open Go.Proofs.Tryz
namespace Go.Proofs.YtmilalkjbojciaaGreat.Sep
open Go.RowKit Reg
open Mem hiding Rd
class kQ(t:TypeId)(α:outParam Type)(T:outParam (Ty α)):Prop where
 tid:T.tid=t
class uU{α:Type}(T:Ty α)(z:outParam α):Prop where
 z:T.val z=T.zero
class lL{α:Type}(T:Ty α)(b:outParam Nat):Prop where
 b:T.bytes=b
class cL(t:TypeId)(z:outParam (List Value))(pl:outParam (List (Nat×Nat))):Prop where
 r:Rec prog t z pl
class Bj(t:TypeId)(z:outParam (List Value))(pl:outParam (List (Nat×Nat)))(sz:outParam Nat):Prop where
 r:Lu prog t z pl sz
class Bg(t:TypeId)(z:outParam (List Value)):Prop where
 z:((prog.info? t).bind (·.zero)).map (·.cells.toList)=some z
instance {t:TypeId}{z:List Value}{pl:List (Nat×Nat)}[h:cL t z pl]:Bg t z:=⟨h.r.zero⟩
class vI(t:TypeId)(xs ys:Array Value)(r:outParam Bool):Prop where
 e:WU prog t xs ys r
class QG(t:TypeId)(xs ys:Array Value)(r:outParam Bool):Prop where
 e:VP prog t xs ys r
noncomputable def xA(f:FuncId):Bool:=match prog.funcs[f]? with
 |some fn => !(fn.name == "runtime.NumGoroutine")&&fn.body.isSome
 |none=>false
theorem iY{f:FuncId}(h:xA f=true):∃fn,prog.funcs[f]?=some fn∧(fn.name == "runtime.NumGoroutine")=false∧fn.body.isNone=false:=by
 unfold xA at h;split at h
 ·rename_i fn hf;simp only[aAv,Bool.not_eq_true'] at h;exact⟨fn,hf,h.1,by cases hb:fn.body<;>simp_all⟩
 ·cases h
abbrev cM(v:Value)(H0:List aL):Ending→List aL→Prop:=λe H'=>e=.returned v∧H'=H0
abbrev G(E:Env)(f:FuncId)(vs:List Value)(H:List aL)(Q:Ending→List aL→Prop):Prop:=aK prog E f vs.toArray H Q
class vZ(f:FuncId)(vs:List Value)(v:outParam Value):Prop where
 t:∀E,G E f vs [] (cM v [])
class Us(f:FuncId)(vs:List Value)(α:outParam Type)(T:outParam (Ty α))(A:outParam (Option Addr))(n c:outParam Nat)(v:outParam (List α→Value)):Prop where
 t:∀E l,Rd E T A n c l→G E f vs [] (cM (v l) [])
inductive KV(F:Nat→Value):List Operand→List Value→Prop
 |nil:KV F [] []
 |cons {x:Operand} {v:Value} {l:List Operand} {vs:List Value} (h:ev F x=v) (t:KV F l vs):KV F (x::l) (v::vs)
theorem KV.eq{F:Nat→Value}{l:List Operand}{vs:List Value}(h:KV F l vs):AO F l=vs:=by
 induction h with
 |nil=>rfl
 |cons h _ ih=>rw[AO,h,ih]
section
variable {N:Nat} {E:Env} {F:Nat→Value} {H H' R:List aL} {o:Oper} {α:Type} {T:Ty α}
theorem S.Xm{f:FuncId}{ops:List Operand}{tys:Array TypeId}{vs:List Value}{v:Value}(ho:o.op=.call { callee:=.value (.func f),args:=ops.toArray,argTypes:=tys })(hvs:KV F ops vs)(hf:vZ f vs v)(hk:xA f=true) :
  gK prog N E F H o λr H1=>r=v∧H1=H:=by
 obtain⟨fn,h1,h2,h3⟩:=iY hk;refine S.call ho hvs.eq h1 h2 h3 (cS.nil (H:=H)) (λM hE=>hf.t M) ?_;rintro e H' ⟨rfl,rfl⟩;exact⟨_,rfl,_,wK.nil,rfl,rfl⟩
theorem S.XP{f:FuncId}{ops:List Operand}{tys:Array TypeId}{vs:List Value}{A:Option Addr}{n c:Nat}{v:List α→Value}{l:List α}(ho:o.op=.call { callee:=.value (.func f),args:=ops.toArray,argTypes:=tys })(hvs:KV F ops vs)(hf:Us f vs α T A n c v)(hk:xA f=true)
  (hr:∀M,Sub E H M→Rd M T A n c l):gK prog N E F H o λr H1=>r=v l∧H1=H:=by
 obtain⟨fn,h1,h2,h3⟩:=iY hk;refine S.call ho hvs.eq h1 h2 h3 (cS.nil (H:=H)) (λM hE=>hf.t M l (hr M hE)) ?_;rintro e H' ⟨rfl,rfl⟩;exact⟨_,rfl,_,wK.nil,rfl,rfl⟩
theorem S.bs0{t e:TypeId}(ho:o.op=.buildSlice t 0 #[])(ht:prog.underlying t=some (.slice e))(hT:kQ e α T)(hb:0*T.size≤2 ^ 24) :
  gK prog N E F H o λr H1=>∃g,r=.slice (some ⟨g,0,none⟩) 0 0∧H1=own T (some ⟨g,0,none⟩) 0 0 []::H :=
 S.pP (parts0:=[]) (l:=[]) ho rfl (by rw[hT.tid];exact ht) rfl hb
theorem S.QZ{t e:TypeId}{x:Operand}{e1:α}{v1:Value}(ho:o.op=.buildSlice t 1 #[(0,x)])(hx:ev F x=v1)(ht:prog.underlying t=some (.slice e))(hT:kQ e α T)(h1:T.val e1=v1)(hb:1*T.size≤2 ^ 24) :
  gK prog N E F H o λr H1=>∃g,r=.slice (some ⟨g,0,none⟩) 1 1∧H1=own T (some ⟨g,0,none⟩) 1 1 [e1]::H :=
 S.cB ho hx h1 (by rw[hT.tid];exact ht) hb
theorem S.j8{t e:TypeId}{x y:Operand}{e1 e2:α}{v1 v2:Value}(ho:o.op=.buildSlice t 2 #[(0,x),(1,y)])(hx:ev F x=v1)(hy:ev F y=v2)(ht:prog.underlying t=some (.slice e))(hT:kQ e α T)(h1:T.val e1=v1)(h2:T.val e2=v2)(hb:2*T.size≤2 ^ 24) :
  gK prog N E F H o λr H1=>∃g,r=.slice (some ⟨g,0,none⟩) 2 2∧H1=own T (some ⟨g,0,none⟩) 2 2 [e1,e2]::H :=
 S.xQ ho hx h1 hy h2 (by rw[hT.tid];exact ht) hb
theorem S.v5{t e:TypeId}{x y z:Operand}{e1 e2 e3:α}{v1 v2 v3:Value}(ho:o.op=.buildSlice t 3 #[(0,x),(1,y),(2,z)])(hx:ev F x=v1)(hy:ev F y=v2)(hz:ev F z=v3)(ht:prog.underlying t=some (.slice e))(hT:kQ e α T)(h1:T.val e1=v1)(h2:T.val e2=v2)(h3:T.val e3=v3)(hb:3*T.size≤2 ^ 24) :
  gK prog N E F H o λr H1=>∃g,r=.slice (some ⟨g,0,none⟩) 3 3∧H1=own T (some ⟨g,0,none⟩) 3 3 [e1,e2,e3]::H :=
 S.yT ho hx h1 hy h2 hz h3 (by rw[hT.tid];exact ht) hb
theorem S.YN{t e:TypeId}{x y:Operand}{k k2:IntKind}{i:Int}{z:α}{m:Nat}(ho:o.op=.makeSlice t x y)(hx:ev F x=.int k i)(hy:ev F y=.int k2 i)(hj:i.toNat=m)(h0:0≤i)(ht:prog.underlying t=some (.slice e))(hT:kQ e α T)(hz:uU T z){by_:Nat}(hb:T.bytes=by_)(hbig:by_*i≤281474976710656)(h63:i≤9223372036854775807) :
  gK prog N E F H o λr H1=>∃g,r=.slice (some ⟨g,0,none⟩) m m∧H1=own T (some ⟨g,0,none⟩) m m (List.replicate m z)::H :=
 S.Io ho hx hy hj h0 hz.z (by rw[hT.tid];exact ht) hb hbig h63
theorem V.Tt{P:Program}{ρ:Operand→Value}{f:FuncId}{ops:List Operand}{vs:List Value}{u:World}(hρ:ρ=ev F)(ho:o.op=.makeFunc (.func f) #[] ops.toArray)(hx:KV F ops vs):(execOp ρ o).run P u=.ok (.value (.func (.func f) #[] vs.toArray)) u:=by
 have h:(ops.toArray.map ρ)=vs.toArray:=by rw[hρ,←hx.eq,AB];simp
 simp[execOp,ho,Instr.makeFunc,h]
theorem V.aJq{P:Program}{ρ:Operand→Value}{x y:Operand}{t t':TypeId}{xs ys:Array Value}{r:Bool}{u:World}(ho:o.op=.binOp .neq t x y t')(hx:ρ x=.agg xs)(hy:ρ y=.agg ys)(h:VP P t xs ys r):(execOp ρ o).run P u=.ok (.value (.bool (!r))) u:=by
 have h1:=run_neq_struct (P:=P) u t xs ys;rw[h.run] at h1;simp[execOp,ho,hx,hy,run_eqGuard_agg u .neq t x y xs ys h.guard,h1]
end
def gE(E:Env)(g:Nat)(cs:List Value):Prop:=∀i v,cs[i]?=some v→qP E ⟨g,i,none⟩ v
section
variable {E M:Env} {H R R':List aL} {g i:Nat} {cs:List Value} {v:Value} {ρ:Operand→Value} {o:Oper}
theorem gE.sub(h:gE E g cs)(hE:Sub E R M):gE M g cs:=λi v hv=>(h i v hv).sub hE
theorem gE.of{t:TypeId}(hE:Sub E R M)(h:Has (aJ g t cs) R R'):gE M g cs:=λ_ _ hv=>qP.aJ hE h hv
theorem Cell.kb(h:gE E g cs)(hv:cs[i]?=some v):Cell E H ⟨g,i,none⟩ v:=Cell.kc (h i v hv)
theorem Y.Vp{P:Program}{t:TypeId}{x:Operand}{m:Nat}{vs:List Value}{d:TypeDesc}{ti:TypeInfo}(ho:o.op=.load t x)(hx:ρ x=.pointer (some ⟨g,i,none⟩))(ht:P.underlying t=some d)(hd:lT d=true)(hi:P.info? t=some ti)(hm:ti.size=m)(hb:gE E g cs)(hs:Fm cs i m vs):qB P E H ρ o (.agg vs.toArray) :=
 Y.xE ho hx ht hd hi (hm.trans hs.eq.1.symm) λw hw j u hu=>by rw[fB];exact Cell.kb (H:=H) hb (hs.eq.2 j u hu) w hw
end
structure Sl(α:Type) where
 A:Option Addr
 n:Nat
 c:Nat
 l:List α
class KL(t:TypeId)(α:outParam Type)(T:outParam (Ty α))(TS:outParam (Ty (Sl α))):Prop where
 tid:TS.tid=t
 val:∀s,TS.val s=.slice s.A s.n s.c
section
variable {α:Type} {T:Ty α} {TS:Ty (Sl α)} {N:Nat} {E:Env} {F:Nat→Value} {H:List aL} {o:Oper}
theorem S.j5{t e:TypeId}{x y:Operand}{A1 A2:Option Addr}{n1 c1 n2 c2:Nat}{l1 l2:List α}(ho:o.op=.buildSlice t 2 #[(0,x),(1,y)])(hx:ev F x=.slice A1 n1 c1)(hy:ev F y=.slice A2 n2 c2)(ht:prog.underlying t=some (.slice e))(hT:KL e α T TS)(_h1:kV E H T A1 n1 c1 l1)(_h2:kV E H T A2 n2 c2 l2)(hb:2*TS.size≤2 ^ 24) :
  gK prog N E F H o λr H1=>∃g,r=.slice (some ⟨g,0,none⟩) 2 2∧H1=own TS (some ⟨g,0,none⟩) 2 2 [⟨A1,n1,c1,l1⟩,⟨A2,n2,c2,l2⟩]::H :=
 S.xQ ho hx (hT.val _) hy (hT.val _) (by rw[hT.tid];exact ht) hb
theorem S.ZC{t e:TypeId}{x y z:Operand}{A1 A2 A3:Option Addr}{n1 c1 n2 c2 n3 c3:Nat}{l1 l2 l3:List α}(ho:o.op=.buildSlice t 3 #[(0,x),(1,y),(2,z)])(hx:ev F x=.slice A1 n1 c1)(hy:ev F y=.slice A2 n2 c2)(hz:ev F z=.slice A3 n3 c3)(ht:prog.underlying t=some (.slice e))(hT:KL e α T TS)(_h1:kV E H T A1 n1 c1 l1)(_h2:kV E H T A2 n2 c2 l2)(_h3:kV E H T A3 n3 c3 l3)(hb:3*TS.size≤2 ^ 24) :
  gK prog N E F H o λr H1=>∃g,r=.slice (some ⟨g,0,none⟩) 3 3∧H1=own TS (some ⟨g,0,none⟩) 3 3 [⟨A1,n1,c1,l1⟩,⟨A2,n2,c2,l2⟩,⟨A3,n3,c3,l3⟩]::H :=
 S.yT ho hx (hT.val _) hy (hT.val _) hz (hT.val _) (by rw[hT.tid];exact ht) hb
end
theorem V.cap{P:Program}{ρ:Operand→Value}{o:Oper}{u:World}{x:Operand}{t e:TypeId}{A:Option Addr}{n m:Nat}(ho:o.op=.call { callee:=.builtin .cap,args:=#[x],argTypes:=#[t] })(ht:P.underlying t=some (.slice e))(hx:ρ x=.slice A n m)(hn:m≤maxLen):(execOp ρ o).run P u=.ok (.value (.int .i64 m)) u:=by
 have h:IntKind.i64.wrap (m:Int)=m:=aAq _ (by unfold maxLen at hn;omega);simp[execOp,ho,resolve,hx,invoke,builtin,Builtin.cap_,run_underlying ht,goInt]
theorem S.WC{α:Type}{T:Ty α}{N:Nat}{E:Env}{F:Nat→Value}{H:List aL}{o:Oper}{s x:Operand}{t tn e:TypeId}{k kn:IntKind}{i:Int}{m:Nat}{z:α}(ho:o.op=.call { callee:=.builtin .append,args:=#[s,x],argTypes:=#[t,tn] })(hs:ev F s=.slice none 0 0)(hx:ev F x=.int k i)
  (ht:prog.underlying t=some (.slice e)) (htn:prog.underlying tn=some (.int kn)) (hT:kQ e α T) (hz:uU T z) (hj:i.toNat=m) (h0:0<i) {by_:Nat} (hb:T.bytes=by_) (hm:m≤140737488355328) (hbig:m*by_≤140737488355328) :
  gK prog N E F H o λr H1=>∃(A':Option Addr) (c':Nat),(m≤c'∧c'≤maxLen)∧r=.slice A' m c'∧H1=own T A' m c' (List.replicate m z)::H:=by
 obtain⟨j,rfl⟩:=aCf (show 0≤i by omega);rw[aAu] at hj;subst hj hb;intro a u ha hu Kw Q' hK;have hT:=hT.tid;subst hT;obtain⟨ti,hi,hzz,hsz,hbt⟩:=T.jA;have hrun:=Lib.run_append_nil_zeros (P:=prog) u t tn o.type T.tid ti T.zero k kn ht htn hi hzz j (by omega) (by rw[hsz];exact T.gL) (by omega) (by rw[hbt];omega);have hge:=grownCap_ge u j 0 T.tid;have hle:=grownCap_le_maxLen u j 0 T.tid (by unfold maxLen;omega);generalize grownCap u j 0 T.tid=cap at hrun hge hle;unfold Oper.wp;rw[ha.eval];have hx2:(execOp (ev F) o).run prog u=.ok (.value (.slice (some ⟨u.heap.size,0,none⟩) j cap)) (u.drew.alloc (.cells (Builtin.zeroCells T.zero.cells j++Builtin.zeroCells T.zero.cells (cap - j)) T.tid)):=by
  simp[execOp,ho,hs,hx,resolve,invoke,builtin,hrun]
 rw[hx2];refine hK _ _ _ ⟨some ⟨u.heap.size,0,none⟩,cap,⟨hge,hle⟩,rfl,rfl⟩ ?_;have hzc:∀j,(Builtin.zeroCells T.zero.cells j).toList=T.bT (List.replicate j z):=by
  intro j;rw[←nN T z hz.z j,←T.hzero];rfl
 have hsz:∀j,(Builtin.zeroCells T.zero.cells j).size=j*T.size:=λj=>by rw[size_zeroCells,T.hzero]
 refine hu.drew.grow (l:=[own T (some ⟨u.heap.size,0,none⟩) j cap (List.replicate j z)]) rfl rfl rfl (by simp) (λb hb=>aDu _ _ _ hb) (F1:=λb=>b=u.heap.size) ⟨_,λ_=>False,λb=>by simp,λb _ h=>h,⟨by simp,.inr ⟨u.heap.size,_,rfl,λb=>aDl,heap_alloc_new _ _,hge,hle,?_,?_⟩⟩,λb h=>h⟩ (λb hb=>by show u.heap.size≤b;omega)
 ·rw[Array.size_append,hsz,hsz,←aDb];congr 1;omega
 ·rw[Array.toList_append,hzc,aBj (by rw[←hzc,aDs,hsz])]
section
variable {Q:Value→List aL→Prop} {E:Env} {Hk:List aL} {X Y:Type}
theorem x0{v0:Value}{H0:List aL}(h:Q v0 H0):∀v H',(v=v0∧H'=H0)→Q v H':=by rintro _ _ ⟨rfl,rfl⟩;exact h
theorem x1{v0:X→Value}{H0:X→List aL}(h:∀g,Q (v0 g) (H0 g)):∀v H',(∃g,v=v0 g∧H'=H0 g)→Q v H':=by rintro _ _ ⟨g,rfl,rfl⟩;exact h g
theorem x2{p q:X→Y→Prop}{v0:X→Y→Value}{H0:X→Y→List aL}(h:∀a b,p a b→q a b→Q (v0 a b) (H0 a b)):∀v H',(∃a b,(p a b∧q a b)∧v=v0 a b∧H'=H0 a b)→Q v H':=by rintro _ _ ⟨a,b,⟨h1,h2⟩,rfl,rfl⟩;exact h a b h1 h2
theorem y0{v0:Value}{H0:List aL}(hc:aB E H0 Hk)(h:Q v0 H0):∀v H',(v=v0∧H'=H0)→aB E H' Hk∧Q v H':=by rintro _ _ ⟨rfl,rfl⟩;exact⟨hc,h⟩
theorem y1{v0:X→Value}{H0:X→List aL}(hc:∀g,aB E (H0 g) Hk)(h:∀g,Q (v0 g) (H0 g)):∀v H',(∃g,v=v0 g∧H'=H0 g)→aB E H' Hk∧Q v H':=by rintro _ _ ⟨g,rfl,rfl⟩;exact⟨hc g,h g⟩
theorem y2{p q:X→Y→Prop}{v0:X→Y→Value}{H0:X→Y→List aL}(hc:∀a b,aB E (H0 a b) Hk)(h:∀a b,p a b→q a b→Q (v0 a b) (H0 a b)):∀v H',(∃a b,(p a b∧q a b)∧v=v0 a b∧H'=H0 a b)→aB E H' Hk∧Q v H':=by rintro _ _ ⟨a,b,⟨h1,h2⟩,rfl,rfl⟩;exact⟨hc a b,h a b h1 h2⟩
end
theorem I7{F:Nat→Value}{l:List Operand}{vs:List Value}(h:KV F l vs:=by(iterate 24 first|exact KV.nil|(apply KV.cons;(· exact eS))|skip);first|done|fail):KV F l vs:=h
theorem YD{p:Prop}(h:p:=by infer_instance):p:=h
theorem FV{p:Prop}(h:p:=by infer_instance):p:=h
theorem l8{p:Prop}(h:p:=by infer_instance):p:=h
theorem Yo{α:Type}{T:Ty α}{b:Nat}(h:lL T b:=by infer_instance):T.bytes=b:=h.b
theorem sZ{t:TypeId}{z:List Value}(h:Bg t z:=by infer_instance):((prog.info? t).bind (·.zero)).map (·.cells.toList)=some z:=h.z
theorem ZH{t:TypeId}{z:List Value}{pl:List (Nat×Nat)}(h:cL t z pl:=by infer_instance):Rec prog t z pl:=h.r
theorem ZX{t:TypeId}{z:List Value}{pl:List (Nat×Nat)}{sz:Nat}(h:Bj t z pl sz:=by infer_instance):Lu prog t z pl sz:=h.r
theorem TD{t:TypeId}{xs ys:Array Value}{r:Bool}(h:vI t xs ys r:=by infer_instance):WU prog t xs ys r:=h.e
theorem Yc{t:TypeId}{xs ys:Array Value}{r:Bool}(h:QG t xs ys r:=by infer_instance):VP prog t xs ys r:=h.e
theorem H9{v w:Value}(h:v=w:=by first|rfl|(with_reducible exact PC _ nG nG)):v=w:=h
theorem Cw{P:Program}{E:Env}{H:List aL}{ρ:Operand→Value}{o:Oper}{v:Value}(h:qB P E H ρ o v:=by first|(intro _ _;first|(first|(apply V.move;exact rfl;exact eS)|(apply V.assign;exact rfl;exact eS)|(apply V.nilCheck;exact rfl;exact rfl)|(apply V.fieldAddr;exact rfl;exact rfl;exact rfl;exact rfl;exact rfl;decide;exact eS;exact Yi)|(apply V.extract;exact rfl;exact rfl;exact rfl)|(apply V.not;exact rfl;exact rfl)|(apply V.Xv;exact rfl;exact rfl;exact sW;exact eS)|(apply V.YI;exact rfl;exact rfl;exact sW;exact eS))|(first|(apply V.add;exact rfl;exact rfl;exact rfl;exact Ee)|(apply V.sub;exact rfl;exact rfl;exact rfl;exact Ee)|(apply V.mul;exact rfl;exact rfl;exact rfl;exact Ee)|(apply V.lss;exact rfl;exact rfl;exact rfl)|(apply V.leq;exact rfl;exact rfl;exact rfl)|(apply V.gtr;exact rfl;exact rfl;exact rfl)|(apply V.geq;exact rfl;exact rfl;exact rfl)|(apply V.eql;exact rfl;exact rfl;exact rfl))|(first|(apply V.neq;exact rfl;exact rfl;exact rfl)|(apply V.Z0;exact rfl;exact rfl;exact rfl;exact rfl)|(apply V.Zv;exact rfl;exact rfl;exact rfl;exact rfl)|(apply V.Z5;exact rfl;exact rfl;exact rfl;exact rfl)|(apply V.neqN;exact rfl;exact rfl;exact rfl;exact rfl)|(apply V.len;exact rfl;exact rfl;exact rfl;exact QC)|(apply V.conv;exact rfl;exact rfl;exact rfl;exact rfl;exact Ee)|(apply V.Y5;exact rfl;exact rfl;exact rfl;exact Ee))|(first|(apply V.shl;exact rfl;exact rfl;exact rfl;exact nG;exact Ee)|(apply V.shr;exact rfl;exact rfl;exact rfl;exact nG;exact Ee)|(apply V.quo;exact rfl;exact rfl;exact rfl;exact nG;exact ZR)|(apply V.rem;exact rfl;exact rfl;exact rfl;exact nG;exact ZM)|(apply V.Wc;exact rfl;decide;exact rfl;exact rfl;exact Ee)|(apply V.neg;exact rfl;exact rfl;exact Ee)|(apply V.Zk;exact rfl;exact rfl;exact rfl)|(apply V.Zq;exact rfl;exact rfl;exact rfl))|(first|(apply V.ZY;exact rfl;exact rfl;exact rfl;exact rfl)|(apply V.Zb;exact rfl;exact rfl;exact rfl;exact rfl)|(apply V.max;exact rfl;exact rfl;exact rfl)|(apply V.min;exact rfl;exact rfl;exact rfl)|(apply V.cap;exact rfl;exact rfl;exact rfl;exact QC)|(apply V.func1;exact rfl;exact eS)|(apply V.Tt;exact rfl;exact rfl;exact I7)|(apply V.U6;exact rfl;exact rfl;exact rfl;exact rfl;exact rfl;exact rfl;exact rfl;exact rfl;exact sJ;exact nG;exact nG;exact nD))|(first|(apply V.cat;exact rfl;exact rfl;exact rfl;decide)|(apply V.j0;exact rfl;exact eS;exact eS;exact Yc)|(apply V.aJq;exact rfl;exact eS;exact eS;exact Yc)|(apply V.ZE;exact rfl;exact eS;exact eS;exact TD)|(apply V.ZJ;exact rfl;exact eS;exact eS;exact TD)|(apply V.Hg;exact rfl;exact rfl;exact rfl;exact rfl;exact rfl;exact rfl;exact sJ;exact nG;exact nG;exact Yi)))|(first|(first|(apply Y.load;exact rfl;exact rfl;exact rfl;exact rfl;exact Yf)|(apply Y.indexAddr;exact rfl;exact rfl;exact rfl;exact qF;exact sJ;exact nG;exact nD;exact nO;exact nO)|(apply Y.Nt;exact rfl;exact rfl;exact qF;rotate_left;exact nO;rotate_right;exact nD;exact nO)|(apply Y.O6;exact rfl;exact rfl;exact rfl;exact rfl)|(apply Y.Si;exact rfl;exact rfl;exact rfl;exact rfl;exact rfl;exact rfl;exact aS;exact K6)|(apply Y.O5;exact rfl;exact rfl;exact qF;rotate_left;exact nO;rotate_right;exact nD;exact rfl;exact rfl;exact rfl;exact rfl;exact K6)|(apply Y.Ve;exact rfl;exact rfl;exact rfl;exact rfl;exact rfl;exact rfl;exact rfl)|(apply Y.fieldS;exact rfl;exact rfl;exact rfl;exact rfl;exact rfl;exact rfl;exact rfl;exact rfl;exact rfl;exact K6))|(first|(apply Y.len;exact rfl;exact rfl;exact qF;exact nO)|(apply Y.str;exact rfl;exact rfl;exact qF)|(apply Y.TG;exact rfl;exact rfl;exact rfl;exact qF;exact sJ;exact nG;exact nG;exact nO)|(apply Y.Se;exact rfl;exact rfl;exact rfl;exact qF;exact sJ;exact nG;exact nG;exact nO)|(apply Y.IV;exact rfl;exact rfl;exact rfl;exact rfl;exact qF;exact sJ;exact nG;exact sJ;exact nG;exact nG;exact nG;exact nO)|(apply Y.LX;exact rfl;exact rfl;exact rfl;exact rfl;exact qF;exact sJ;exact nG;exact sJ;exact nG;exact nG;exact nG;exact nO)|(apply Y.strLen;exact rfl;exact rfl;exact rfl;exact QC)|(apply Y.indexStr;exact rfl;exact rfl;exact rfl;exact rfl;exact sJ;exact nG;exact nD))|(first|(apply Y.load;exact rfl;exact rfl;exact rfl;exact rfl;(· exact(Cell.aJ aS nD)))|(apply Y.sliceFull;exact rfl;exact rfl;exact rfl;exact rfl;exact rfl;exact qF;exact sJ;exact nG;exact sJ;exact nG;exact nG;exact nG;exact nO)|(apply Y.load;exact rfl;exact rfl;exact rfl;exact rfl;(· exact(Cell.kb nD nO)))|(apply Y.Vp;exact rfl;exact rfl;exact rfl;exact rfl;exact rfl;exact rfl;exact nD;exact K6)|(apply Y.build;exact rfl;exact o7;exact ZH;exact Wo)|(apply Y.UN;exact rfl;exact o7;exact ZX;exact Wo)))):qB P E H ρ o v:=h
theorem Sy{P:Program}{N:Nat}{E:Env}{F:Nat→Value}{H:List aL}{o:Oper}{K:Value→List aL→Prop}(h:gK P N E F H o K:=by first|(first|(apply S.Zp;exact rfl;exact eS;exact YU)|(apply S.aIl;exact rfl;exact rfl;exact rfl;exact rfl;exact l9;exact(λ_ _=>dH);exact ZK;exact nO;exact Yo;exact nG;exact nG)|(apply S.KA;exact rfl;exact rfl;exact rfl;exact l9;exact(λ_ _=>dH);exact qF;exact ZK;exact nO;exact Yo;exact nG;exact nG)|(apply S.H4;exact rfl;exact rfl;exact rfl;exact qF;exact nO;exact Yo;exact nG;exact nG)|(apply S.bs0;exact rfl;exact rfl;exact FV;decide)|(apply S.j5;exact rfl;exact eS;exact eS;exact rfl;exact FV;exact qF;exact qF;decide)|(apply S.ZC;exact rfl;exact eS;exact eS;exact eS;exact rfl;exact FV;exact qF;exact qF;exact qF;decide)|(apply S.WC;exact rfl;exact rfl;exact rfl;exact rfl;exact rfl;exact FV;exact l8;exact sJ;exact nG;exact Yo;exact nG;exact nG))|(first|(apply S.QZ;exact rfl;exact eS;exact rfl;exact FV;exact H9;decide)|(apply S.j8;exact rfl;exact eS;exact eS;exact rfl;exact FV;exact H9;exact H9;decide)|(apply S.v5;exact rfl;exact eS;exact eS;exact eS;exact rfl;exact FV;exact H9;exact H9;exact H9;decide)|(apply S.Eo;exact rfl;exact rfl;exact eS;exact dH;rotate_left;exact nO;rotate_right;exact nD;exact H9;exact nO)|(apply S.Rv;exact rfl;exact rfl;exact eS;exact dH;exact nD;exact rfl;exact nD;(· intro x hx;simp[Value.cells] at hx;subst hx;rfl);exact rfl;exact rfl)|(apply S.storeF0K;exact rfl;exact rfl;exact eS;exact dH;exact nD;exact rfl;exact nD;(· intro x hx;simp[Value.cells] at hx;subst hx;rfl);exact rfl;exact rfl)|(apply S.Vq;exact rfl;exact sZ)|(apply S.YN;exact rfl;exact rfl;exact rfl;exact sJ;exact nG;exact rfl;exact FV;exact l8;exact Yo;exact nG;exact nG))|(first|(apply S.MN;exact rfl;exact rfl;exact eS;exact rfl;exact rfl;exact rfl;exact dH;exact W3)|(apply S.RE;exact rfl;exact rfl;exact rfl;exact nD;exact dH;exact qF;rotate_left;exact rfl;rotate_right;exact nD;exact nG;exact nD;exact rfl;exact QC)|(apply S.Rk;exact rfl;exact rfl;exact eS;exact nO;exact rfl;exact rfl;exact dH;exact Y4;exact TT))):gK P N E F H o K:=h
theorem NO{P:Program}{N:Nat}{E:Env}{F:Nat→Value}{H:List aL}{o:Oper}{K:Value→List aL→Prop}(h:gK P N E F H o K:=by first|(apply S.Xm;exact rfl;exact I7;exact YD;kernel_rfl)|(apply S.XP;exact rfl;exact I7;exact YD;kernel_rfl;(· intro M hE;exact dB))|exact Sy|fail):gK P N E F H o K:=h
theorem w_{p q:Prop}(hq:q)(h:wA q→p:=by intro h;(first|(focus (apply L.val;decide;exact Cw))|refine C.seq ?_|refine C.region ?_|refine L.nil ?_|refine C.block ?_|refine C.exit ?_|refine C.skip ?_|refine C.ret ?_|(focus (apply L.on;exact rfl;decide;exact rfl;exact sW))|(focus (apply L.off;decide;exact rfl;decide;exact rfl;exact sW))|(focus (apply L.Sg;decide;exact rfl;decide;exact rfl))|(focus (apply C.Fx;exact rfl;exact sW))|(focus (apply C.GC;exact rfl;exact sW))|refine Dr.done ?_|refine FU.done ?_|(focus (apply FU.take;exact rfl;decide;exact bA;exact Cw))|(focus (apply Dr.take;exact rfl;decide;exact bA;exact Cw))|(focus (apply Dr.skip;exact rfl;decide;exact EG))|(focus (apply Dr.Ht;exact rfl;decide;exact EG))|with_reducible refine T.n ?_|with_reducible refine T.ret ?_|with_reducible refine T.exit ?_|with_reducible refine I.n ?_|with_reducible refine I.ret ?_|with_reducible refine I.tA ?_|with_reducible refine I.TE (by decide) ?_);(repeat (first|(focus (apply L.val;decide;exact Cw))|refine C.seq ?_|refine C.region ?_|refine L.nil ?_|refine C.block ?_|refine C.exit ?_|refine C.skip ?_|refine C.ret ?_|(focus (apply L.on;exact rfl;decide;exact rfl;exact sW))|(focus (apply L.off;decide;exact rfl;decide;exact rfl;exact sW))|(focus (apply L.Sg;decide;exact rfl;decide;exact rfl))|(focus (apply C.Fx;exact rfl;exact sW))|(focus (apply C.GC;exact rfl;exact sW))|refine Dr.done ?_|refine FU.done ?_|(focus (apply FU.take;exact rfl;decide;exact bA;exact Cw))|(focus (apply Dr.take;exact rfl;decide;exact bA;exact Cw))|(focus (apply Dr.skip;exact rfl;decide;exact EG))|(focus (apply Dr.Ht;exact rfl;decide;exact EG))|with_reducible refine T.n ?_|with_reducible refine T.ret ?_|with_reducible refine T.exit ?_|with_reducible refine I.n ?_|with_reducible refine I.ret ?_|with_reducible refine I.tA ?_|with_reducible refine I.TE (by decide) ?_));exact h.out):p:=h ⟨hq⟩
theorem Cx{p q:Prop}(hq:q)(h:wA q→p:=by intro h;(first|(focus (apply L.val;decide;exact Cw))|refine C.seq ?_|refine C.region ?_|refine L.nil ?_|refine C.block ?_|refine C.exit ?_|refine C.skip ?_|refine C.ret ?_|(focus (apply L.on;exact rfl;decide;exact rfl;exact sW))|(focus (apply L.off;decide;exact rfl;decide;exact rfl;exact sW))|(focus (apply L.Sg;decide;exact rfl;decide;exact rfl))|(focus (apply C.Fx;exact rfl;exact sW))|(focus (apply C.GC;exact rfl;exact sW))|refine Dr.done ?_|refine FU.done ?_|(focus (apply FU.take;exact rfl;decide;exact bA;exact Cw))|(focus (apply Dr.take;exact rfl;decide;exact bA;exact Cw))|(focus (apply Dr.skip;exact rfl;decide;exact EG))|(focus (apply Dr.Ht;exact rfl;decide;exact EG))|with_reducible refine T.n ?_|with_reducible refine T.ret ?_|with_reducible refine T.exit ?_|with_reducible refine I.n ?_|with_reducible refine I.ret ?_|with_reducible refine I.tA ?_|with_reducible refine I.TE (by decide) ?_);exact h.out):p:=h ⟨hq⟩
theorem k_{p q:Prop}(hq:q)(h:wA q→p:=by intro h;first|(apply L.fQ;decide;exact NO;(first|exact x0 h.out|exact x1 h.out|exact x2 h.out))|(apply L.pX;exact NO;(first|exact x0 h.out|exact x1 h.out|exact x2 h.out))|(apply Dr.WZ;exact rfl;(· rintro k ⟨⟩<;>decide);exact bA;exact NO;(first|exact x0 h.out|exact x1 h.out|exact x2 h.out))|(apply Dr.Iq;exact rfl;(· rintro k ⟨⟩<;>decide);exact bA;exact NO;(first|exact x0 h.out|exact x1 h.out|exact x2 h.out))|(apply zL.Aw;exact rfl;(· rintro k ⟨⟩<;>decide);exact bA;exact NO;(first|(refine y0 ?_ ?_;exact aA;exact h.out)|(refine y1 ?_ ?_;(· intro _;exact aA);exact h.out)|(refine y2 ?_ ?_;(· intro _ _;exact aA);exact h.out)))|(apply Dr.Aw;exact rfl;(· rintro k ⟨⟩<;>decide);exact bA;exact NO;(first|(refine y0 ?_ ?_;exact aA;exact h.out)|(refine y1 ?_ ?_;(· intro _;exact aA);exact h.out)|(refine y2 ?_ ?_;(· intro _ _;exact aA);exact h.out)))):p:=h ⟨hq⟩
theorem He{p q:Prop}(hq:q)(h:wA q→p:=by intro h;first|(apply L.fQ;decide;exact Sy;(first|exact x0 h.out|exact x1 h.out|exact x2 h.out))|(apply L.pX;exact Sy;(first|exact x0 h.out|exact x1 h.out|exact x2 h.out))|(apply Dr.WZ;exact rfl;(· rintro k ⟨⟩<;>decide);exact bA;exact Sy;(first|exact x0 h.out|exact x1 h.out|exact x2 h.out))|(apply Dr.Iq;exact rfl;(· rintro k ⟨⟩<;>decide);exact bA;exact Sy;(first|exact x0 h.out|exact x1 h.out|exact x2 h.out))|(apply zL.Aw;exact rfl;(· rintro k ⟨⟩<;>decide);exact bA;exact Sy;(first|(refine y0 ?_ ?_;exact aA;exact h.out)|(refine y1 ?_ ?_;(· intro _;exact aA);exact h.out)|(refine y2 ?_ ?_;(· intro _ _;exact aA);exact h.out)))|(apply Dr.Aw;exact rfl;(· rintro k ⟨⟩<;>decide);exact bA;exact Sy;(first|(refine y0 ?_ ?_;exact aA;exact h.out)|(refine y1 ?_ ?_;(· intro _;exact aA);exact h.out)|(refine y2 ?_ ?_;(· intro _ _;exact aA);exact h.out)))):p:=h ⟨hq⟩
theorem sK{f:FuncId}(h:xA f=true:=by kernel_rfl):xA f=true:=h
section
variable {P:Program} {N z:Nat} {E:Env} {F:Nat→Value} {H R:List aL} {Q:QF} {f:FuncId} {ops:List Operand} {tys:Array TypeId} {Hp:List aL} {Q1:Ending→List aL→Prop} {d:Nat} {ty:TypeId} {pos:String} {af:Array Edge}
theorem cl{os rest:List Oper}(hd:d<N)(hk:xA f=true)(hp:cS Hp H R)(law:∀M,Sub E R M→aK prog M f (AO F ops).toArray Hp Q1)(hQ:∀e H',Q1 e H'→∃v,e=.returned v∧∃H2,wK H' R H2∧L prog N E os Q rest (pT F d v) H2) :
  L prog N E os Q (⟨some d,.call { callee:=.value (.func f),args:=ops.toArray,argTypes:=tys },ty,pos,af,none⟩::rest) F H:=by
 obtain⟨fn,h1,h2,h3⟩:=iY hk;exact L.step hd (S.call rfl rfl h1 h2 h3 hp law hQ)
theorem yB{os:List Oper}{todo:Td}{Hk:List aL}{gd:Option (Nat×Bool)}{i:Nat}(hi:nth os i=some ⟨some d,.call { callee:=.value (.func f),args:=ops.toArray,argTypes:=tys },ty,pos,af,gd⟩)(hd:d<N)(hg:rE os N F true gd)(hk:xA f=true)(hp:cS Hp H R)
  (law:∀M,Sub E R M→aK prog M f (AO F ops).toArray Hp Q1) (hQ:∀e H',Q1 e H'→∃v,e=.returned v∧∃H2,wK H' R H2∧aB E H2 Hk∧Dr prog N E z os Q Hk todo (pT F d v) H2):zL prog N E z os Q Hk i todo F H:=by
 obtain⟨fn,h1,h2,h3⟩:=iY hk;exact zL.go hi (by rintro k ⟨⟩;exact hd) hg (S.call rfl rfl h1 h2 h3 hp law hQ)
theorem cg{os:List Oper}{todo:Td}{Hk:List aL}{gd:Option (Nat×Bool)}{i:Nat}(hi:nth os i=some ⟨some d,.call { callee:=.value (.func f),args:=ops.toArray,argTypes:=tys },ty,pos,af,gd⟩)(hd:d<N)(hg:rE os N F true gd)(hk:xA f=true)(hp:cS Hp H R)
  (law:∀M,Sub E R M→aK prog M f (AO F ops).toArray Hp Q1) (hQ:∀e H',Q1 e H'→∃v,e=.returned v∧∃H2,wK H' R H2∧aB E H2 Hk∧Dr prog N E z os Q Hk todo (pT F d v) H2):Dr prog N E z os Q Hk (.one i true todo) F H:=Dr.all (yB hi hd hg hk hp law hQ)
theorem gk{K:Value→List aL→Prop}{v:Value}{H' H2:List aL}(hc:wK H' R H2)(h:K v H2):∃v',Ending.returned v=.returned v'∧∃H2,wK H' R H2∧K v' H2:=⟨v,rfl,H2,hc,h⟩
theorem gd{K:Value→List aL→Prop}{Hk:List aL}{v:Value}{H' H2:List aL}(hc:wK H' R H2)(hv:aB E H2 Hk)(h:K v H2):∃v',Ending.returned v=.returned v'∧∃H2,wK H' R H2∧aB E H2 Hk∧K v' H2:=⟨v,rfl,H2,hc,hv,h⟩
end
theorem t_{P:Program}{N:Nat}{E:Env}{H:List aL}{f:FuncId}{fn:Func}{c:Code}{args:Array Value}{R:Ending→List aL→Prop}(hf:P.funcs[f]?=some fn)(hn:fn.ntmps=N)(h:C P N E c (gF P E fn R) (Jr args) H)(hb:fn.body=some c:=by rfl)(ha:args.size≤N:=by simp):aK P E f args H R:=DG hf hb hn ha h
theorem B7{p:Prop}(h:p:=by exact aR rfl aF aA ⟨rfl,rfl⟩):p:=h
theorem Xs{p:Prop}(h:p:=by exact vT rfl aF aF aA ⟨rfl,rfl⟩):p:=h
theorem e3_{p:Prop}(h:p:=by exact gO rfl aA ⟨rfl,rfl⟩):p:=h
theorem e4_{p:Prop}(h:p:=by exact VL rfl aA ⟨rfl,rfl⟩):p:=h
theorem Kz{p:Prop}(h:p:=by exact cI rfl aF rfl rfl rfl aS rfl aA ⟨rfl,rfl⟩):p:=h
theorem Sa{p:Prop}(h:p:=by exact gS rfl aF rfl rfl rfl aS rfl aF aA ⟨rfl,rfl⟩):p:=h
theorem Iv{p:Prop}(h:p:=by apply cI;exact rfl;exact aF;exact rfl;exact rfl;exact rfl;exact aS;exact rfl;rotate_left;exact⟨rfl,rfl⟩;exact aA):p:=h
theorem Qv{p:Prop}(h:p:=by apply gS;exact rfl;exact aF;exact rfl;exact rfl;exact rfl;exact aS;exact rfl;exact aF;rotate_left;exact⟨rfl,rfl⟩;exact aA):p:=h
theorem BO{E M:Env}{R:List aL}{p:Prop}(hE:Sub E R M)(h:Sub E R M→p:=by intro hE;first|exact dB|exact gE.of hE aS|(refine gE.sub ?_ hE;assumption)|(refine Rd.sub ?_ hE;assumption)|omega|assumption):p:=h hE
section
variable {N z:Nat} {E:Env} {F:Nat→Value} {H R:List aL} {Q:QF} {f:FuncId} {ops:List Operand} {tys:Array TypeId} {Hp:List aL} {Q1:Ending→List aL→Prop} {d:Nat} {ty:TypeId} {pos:String} {af:Array Edge} {os rest:List Oper} {vs:List Value}
theorem TP{S:Env→Prop}(law:∀M,S M→aK prog M f vs.toArray Hp Q1)(hd:d<N)(hk:xA f=true)(hv:AO F ops=vs)(hp:cS Hp H R)(hs:∀M,Sub E R M→S M)(hQ:∀e H',Q1 e H'→∃v,e=.returned v∧∃H2,wK H' R H2∧L prog N E os Q rest (pT F d v) H2):L prog N E os Q (⟨some d,.call { callee:=.value (.func f),args:=ops.toArray,argTypes:=tys },ty,pos,af,none⟩::rest) F H:=by
 subst hv;exact cl hd hk hp (λM hE=>law M (hs M hE)) hQ
theorem Tz{S:Env→Prop}{todo:Td}{Hk:List aL}{gd:Option (Nat×Bool)}{i:Nat}(law:∀M,S M→aK prog M f vs.toArray Hp Q1)(hi:nth os i=some ⟨some d,.call { callee:=.value (.func f),args:=ops.toArray,argTypes:=tys },ty,pos,af,gd⟩)(hd:d<N)(hg:rE os N F true gd)(hk:xA f=true)(hv:AO F ops=vs)(hp:cS Hp H R)(hs:∀M,Sub E R M→S M)(hQ:∀e H',Q1 e H'→∃v,e=.returned v∧∃H2,wK H' R H2∧aB E H2 Hk∧Dr prog N E z os Q Hk todo (pT F d v) H2):Dr prog N E z os Q Hk (.one i true todo) F H:=by
 subst hv;exact cg hi hd hg hk hp (λM hE=>law M (hs M hE)) hQ
end
theorem Sf{p:Env→Prop}(h:∀M,p M):∀M,True→p M:=λM _=>h M
theorem Rr{p a b:Env→Prop}(h:∀M,a M→b M→p M):∀M,(a M∧b M)→p M:=λM k=>h M k.1 k.2
theorem Ql{p a b c:Env→Prop}(h:∀M,a M→b M→c M→p M):∀M,(a M∧b M∧c M)→p M:=λM k=>h M k.1 k.2.1 k.2.2
theorem bK{K p q:Prop}(law:K)(hq:q)(h:K→wA q→p:=by intro law h;apply TP (Sf law);decide;kernel_rfl;(· rfl);exact aC;exact λ_ _=>trivial;(· rintro e H' ⟨rfl,rfl⟩;exact gk bG h.out)):p:=h law ⟨hq⟩
theorem eV{K p q:Prop}(law:K)(hq:q)(h:K→wA q→p:=by intro law h;apply TP law;decide;kernel_rfl;(· rfl);exact aC;exact λ_ hE=>BO hE;(· rintro e H' ⟨rfl,rfl⟩;exact gk bG h.out)):p:=h law ⟨hq⟩
theorem DY{K p q:Prop}(law:K)(hq:q)(h:K→wA q→p:=by intro law h;apply TP (Rr law);decide;kernel_rfl;(· rfl);exact aC;exact λ_ hE=>⟨BO hE,BO hE⟩;(· rintro e H' ⟨rfl,rfl⟩;exact gk bG h.out)):p:=h law ⟨hq⟩
theorem c3_{K p q:Prop}(law:K)(hq:q)(h:K→wA q→p:=by intro law h;apply TP (Ql law);decide;kernel_rfl;(· rfl);exact aC;exact λ_ hE=>⟨BO hE,BO hE,BO hE⟩;(· rintro e H' ⟨rfl,rfl⟩;exact gk bG h.out)):p:=h law ⟨hq⟩
theorem bW{K p q:Prop}(law:K)(hq:q)(h:K→wA q→p:=by intro law h;apply TP (Sf law);decide;kernel_rfl;(· rfl);exact aC;exact λ_ _=>trivial;exact h.out):p:=h law ⟨hq⟩
theorem dX{K p q:Prop}(law:K)(hq:q)(h:K→wA q→p:=by intro law h;apply TP law;decide;kernel_rfl;(· rfl);exact aC;exact λ_ hE=>BO hE;exact h.out):p:=h law ⟨hq⟩
theorem C1{K p q:Prop}(law:K)(hq:q)(h:K→wA q→p:=by intro law h;apply TP (Rr law);decide;kernel_rfl;(· rfl);exact aC;exact λ_ hE=>⟨BO hE,BO hE⟩;exact h.out):p:=h law ⟨hq⟩
theorem y3_{K p q:Prop}(law:K)(hq:q)(h:K→wA q→p:=by intro law h;apply TP (Ql law);decide;kernel_rfl;(· rfl);exact aC;exact λ_ hE=>⟨BO hE,BO hE,BO hE⟩;exact h.out):p:=h law ⟨hq⟩
theorem eJ{K p q:Prop}(law:K)(hq:q)(h:K→wA q→p:=by intro law h;apply Tz (Sf law);(· rfl);decide;exact bA;kernel_rfl;(· rfl);exact aC;exact λ_ _=>trivial;(· rintro e H' ⟨rfl,rfl⟩;exact gd bG aA h.out)):p:=h law ⟨hq⟩
theorem Ib{K p q:Prop}(law:K)(hq:q)(h:K→wA q→p:=by intro law h;apply Tz law;(· rfl);decide;exact bA;kernel_rfl;(· rfl);exact aC;exact λ_ hE=>BO hE;(· rintro e H' ⟨rfl,rfl⟩;exact gd bG aA h.out)):p:=h law ⟨hq⟩
theorem Ju{K p q:Prop}(law:K)(hq:q)(h:K→wA q→p:=by intro law h;apply Tz (Rr law);(· rfl);decide;exact bA;kernel_rfl;(· rfl);exact aC;exact λ_ hE=>⟨BO hE,BO hE⟩;(· rintro e H' ⟨rfl,rfl⟩;exact gd bG aA h.out)):p:=h law ⟨hq⟩
theorem g3_{K p q:Prop}(law:K)(hq:q)(h:K→wA q→p:=by intro law h;apply Tz (Ql law);(· rfl);decide;exact bA;kernel_rfl;(· rfl);exact aC;exact λ_ hE=>⟨BO hE,BO hE,BO hE⟩;(· rintro e H' ⟨rfl,rfl⟩;exact gd bG aA h.out)):p:=h law ⟨hq⟩
theorem iO{K p q:Prop}(law:K)(hq:q)(h:K→wA q→p:=by intro law h;apply Tz (Sf law);(· rfl);decide;exact bA;kernel_rfl;(· rfl);exact aC;exact λ_ _=>trivial;exact h.out):p:=h law ⟨hq⟩
theorem C2{K p q:Prop}(law:K)(hq:q)(h:K→wA q→p:=by intro law h;apply Tz law;(· rfl);decide;exact bA;kernel_rfl;(· rfl);exact aC;exact λ_ hE=>BO hE;exact h.out):p:=h law ⟨hq⟩
theorem OW{K p q:Prop}(law:K)(hq:q)(h:K→wA q→p:=by intro law h;apply Tz (Rr law);(· rfl);decide;exact bA;kernel_rfl;(· rfl);exact aC;exact λ_ hE=>⟨BO hE,BO hE⟩;exact h.out):p:=h law ⟨hq⟩
theorem z3_{K p q:Prop}(law:K)(hq:q)(h:K→wA q→p:=by intro law h;apply Tz (Ql law);(· rfl);decide;exact bA;kernel_rfl;(· rfl);exact aC;exact λ_ hE=>⟨BO hE,BO hE,BO hE⟩;exact h.out):p:=h law ⟨hq⟩
abbrev n_(i:Nat)(t:Td):Td:=.one i false t
abbrev g_(i:Nat)(t:Td):Td:=.one i true t
section
variable {P:Program} {E:Env} {fn:Func} {R:Ending→List aL→Prop} {F:Nat→Value} {H H':List aL} {t u:Nat} {v v':Value}
theorem jQ(h:R (.returned v) H')(hr:fn.results=#[.tmp t]:=by rfl)(hv:F t=v:=by exact aF)(hc:aB E H H':=by exact aA):gF P E fn R .ret F H:=aR hr hv hc h
theorem Cz(h:R (.returned (.tuple #[v,v'])) H')(hr:fn.results=#[.tmp t,.tmp u]:=by rfl)(hv:F t=v:=by exact aF)(hv':F u=v':=by exact aF)(hc:aB E H H':=by exact aA):gF P E fn R .ret F H:=vT hr hv hv' hc h
end
theorem v_{p q:Prop}(hq:q)(h:wA q→p:=by intro h;first|exact w_ h.out|exact k_ h.out|(apply gd;exact bG;exact aA;exact h.out)|(apply gk;exact bG;exact h.out)):p:=h ⟨hq⟩
theorem aE{p q:Prop}(hq:q)(h:wA q→p:=by intro h;first|exact w_ h.out|exact He h.out|(apply gd;exact bG;exact aA;exact h.out)|(apply gk;exact bG;exact h.out)):p:=h ⟨hq⟩
def l_:List Nat→Td→Td
 | [],t=>t
 |i::l,t=>.one i false (l_ l t)
section
variable {P:Program} {N:Nat} {E:Env} {F:Nat→Value} {H:List aL} {Q:QF} {id:Nat} {l:List Oper}
theorem rA(todo:Td)(h:Dr P N E 100000 l Q H todo F H)(hm:P.follows .mixedOrders=true:=by kernel_rfl)(hchk:(Region.noSelect l.toArray&&Nat.beq todo.len l.length&&hU l 100000 (Array.replicate l.length false) todo)=true:=by kernel_rfl):C P N E (.region id l.toArray true) Q F H:=C.bL 100000 todo H hm hchk aB.refl h
theorem rB(todo:Td)(Hk:List aL)(h:Dr P N E 100000 l Q Hk todo F H)(hm:P.follows .mixedOrders=true:=by kernel_rfl)(hchk:(Region.noSelect l.toArray&&Nat.beq todo.len l.length&&hU l 100000 (Array.replicate l.length false) todo)=true:=by kernel_rfl)(hk:aB E H Hk:=by exact aA):C P N E (.region id l.toArray true) Q F H:=C.bL 100000 todo Hk hm hchk hk h
end
theorem fX:maxLen=9223372036854775807:=rfl
def dQ(x:Int):Prop := -9223372036854775808≤x∧x≤9223372036854775807
instance:kQ 5 UInt8 aU:=⟨rfl⟩
instance:uU aU Ey:=⟨rfl⟩
instance:lL aU 1:=⟨rfl⟩
structure bJ where
 rep:Int
 seq:Int
theorem bJ.eq_iff{x y:bJ}:x=y↔x.rep=y.rep∧x.seq=y.seq:=by
 cases x;cases y;simp
instance:DecidableEq bJ:=λ_ _=>decidable_of_iff _ bJ.eq_iff.symm
abbrev bJ.cs(x:bJ):List Value:=[.int .i64 x.rep,.int .i64 x.seq]
def bJ.ok(x:bJ):Prop:=dQ x.rep∧dQ x.seq
def fN:Ty bJ where
 val x:=.agg x.cs.toArray
 size:=2
 bytes:=16
 tid:=32
 zero:=.agg #[.int .i64 0,.int .i64 0]
 hlen _:=rfl
 lJ a u h:=by simp[Value.cells] at h;rcases h with rfl|rfl<;>rfl
 gL:=sD
 hzero:=rfl
 fW:=q_
 nR:=.inl ⟨q_,λ_=>⟨_,rfl⟩⟩
instance:kQ 32 bJ fN:=⟨rfl⟩
instance:lL fN 16:=⟨rfl⟩
instance:cL 32 [.int .i64 0,.int .i64 0] [(0,1),(1,1)]:=⟨⟨q_,q_⟩⟩
instance {a0 b0 a1 b1:Int}:vI 32 #[.int .i64 a0,.int .i64 a1] #[.int .i64 b0,.int .i64 b1] (decide ((⟨a0,a1⟩:bJ)=⟨b0,b1⟩)) where e:={
 ty:=⟨_,underlying32⟩
 guard:=q_
 val:=by
  have h:eqv prog 5 32 [.int .i64 a0,.int .i64 a1] [.int .i64 b0,.int .i64 b1]=some (decide (a0=b0)&&(decide (a1=b1)&&true)):=q_;rw[show(decide ((⟨a0,a1⟩:bJ)=⟨b0,b1⟩))=(decide (a0=b0)&&(decide (a1=b1)&&true)) by rw[aBz];simp[]];exact h }
structure aX where
 id:bJ
 time:Int
 kind:Int
 a:Int
 b:Int
 n:Int
 ref:bJ
theorem aX.eq_iff{x y:aX}:x=y↔x.id=y.id∧x.time=y.time∧x.kind=y.kind∧x.a=y.a∧x.b=y.b∧x.n=y.n∧x.ref=y.ref:=by
 cases x;cases y;simp
instance:DecidableEq aX:=λ_ _=>decidable_of_iff _ aX.eq_iff.symm
abbrev aX.cs(x:aX):List Value:=[.int .i64 x.id.rep,.int .i64 x.id.seq,.int .i64 x.time,.int .i64 x.kind,.int .i64 x.a,.int .i64 x.b,.int .i64 x.n,.int .i64 x.ref.rep,.int .i64 x.ref.seq]
def aX.ok(x:aX):Prop:=x.id.ok∧dQ x.time∧dQ x.kind∧dQ x.a∧dQ x.b∧dQ x.n∧x.ref.ok
def bE:Ty aX where
 val x:=.agg x.cs.toArray
 size:=9
 bytes:=72
 tid:=34
 zero:=.agg #[.int .i64 0,.int .i64 0,.int .i64 0,.int .i64 0,.int .i64 0,.int .i64 0,.int .i64 0,.int .i64 0,.int .i64 0]
 hlen _:=rfl
 lJ a u h:=by simp[Value.cells] at h;rcases h with rfl|rfl|rfl|rfl|rfl|rfl|rfl|rfl|rfl<;>rfl
 gL:=sD
 hzero:=rfl
 fW:=q_
 nR:=.inl ⟨q_,λ_=>⟨_,rfl⟩⟩
abbrev dO:aX:=⟨⟨0,0⟩,0,0,0,0,0,⟨0,0⟩⟩
instance:kQ 34 aX bE:=⟨rfl⟩
instance:uU bE dO:=⟨rfl⟩
instance:lL bE 72:=⟨rfl⟩
instance:cL 34 [.int .i64 0,.int .i64 0,.int .i64 0,.int .i64 0,.int .i64 0,.int .i64 0,.int .i64 0,.int .i64 0,.int .i64 0] [(0,2),(2,1),(3,1),(4,1),(5,1),(6,1),(7,2)]:=⟨⟨q_,q_⟩⟩
instance {a0 b0 a1 b1 a2 b2 a3 b3 a4 b4 a5 b5 a6 b6 a7 b7 a8 b8:Int}:vI 34 #[.int .i64 a0,.int .i64 a1,.int .i64 a2,.int .i64 a3,.int .i64 a4,.int .i64 a5,.int .i64 a6,.int .i64 a7,.int .i64 a8] #[.int .i64 b0,.int .i64 b1,.int .i64 b2,.int .i64 b3,.int .i64 b4,.int .i64 b5,.int .i64 b6,.int .i64 b7,.int .i64 b8] (decide ((⟨⟨a0,a1⟩,a2,a3,a4,a5,a6,⟨a7,a8⟩⟩:aX)=⟨⟨b0,b1⟩,b2,b3,b4,b5,b6,⟨b7,b8⟩⟩)) where e:={
 ty:=⟨_,underlying34⟩
 guard:=q_
 val:=by
  have h:eqv prog 5 34 [.int .i64 a0,.int .i64 a1,.int .i64 a2,.int .i64 a3,.int .i64 a4,.int .i64 a5,.int .i64 a6,.int .i64 a7,.int .i64 a8] [.int .i64 b0,.int .i64 b1,.int .i64 b2,.int .i64 b3,.int .i64 b4,.int .i64 b5,.int .i64 b6,.int .i64 b7,.int .i64 b8]=some (((decide (a0=b0)&&(decide (a1=b1)&&true)))&&(decide (a2=b2)&&(decide (a3=b3)&&(decide (a4=b4)&&(decide (a5=b5)&&(decide (a6=b6)&&(((decide (a7=b7)&&(decide (a8=b8)&&true)))&&true))))))):=q_;rw[show(decide ((⟨⟨a0,a1⟩,a2,a3,a4,a5,a6,⟨a7,a8⟩⟩:aX)=⟨⟨b0,b1⟩,b2,b3,b4,b5,b6,⟨b7,b8⟩⟩))=(((decide (a0=b0)&&(decide (a1=b1)&&true)))&&(decide (a2=b2)&&(decide (a3=b3)&&(decide (a4=b4)&&(decide (a5=b5)&&(decide (a6=b6)&&(((decide (a7=b7)&&(decide (a8=b8)&&true)))&&true))))))) by rw[aBz];simp[and_assoc]];exact h }
structure cQ where
 kind:Int
 a:Int
 n:Int
 ref:bJ
theorem cQ.eq_iff{x y:cQ}:x=y↔x.kind=y.kind∧x.a=y.a∧x.n=y.n∧x.ref=y.ref:=by
 cases x;cases y;simp
instance:DecidableEq cQ:=λ_ _=>decidable_of_iff _ cQ.eq_iff.symm
abbrev cQ.cs(x:cQ):List Value:=[.int .i64 x.kind,.int .i64 x.a,.int .i64 x.n,.int .i64 x.ref.rep,.int .i64 x.ref.seq]
def cQ.ok(x:cQ):Prop:=dQ x.kind∧dQ x.a∧dQ x.n∧x.ref.ok
def eG:Ty cQ where
 val x:=.agg x.cs.toArray
 size:=5
 bytes:=40
 tid:=77
 zero:=.agg #[.int .i64 0,.int .i64 0,.int .i64 0,.int .i64 0,.int .i64 0]
 hlen _:=rfl
 lJ a u h:=by simp[Value.cells] at h;rcases h with rfl|rfl|rfl|rfl|rfl<;>rfl
 gL:=sD
 hzero:=rfl
 fW:=q_
 nR:=.inl ⟨q_,λ_=>⟨_,rfl⟩⟩
abbrev zW:cQ:=⟨0,0,0,⟨0,0⟩⟩
instance:kQ 77 cQ eG:=⟨rfl⟩
instance:lL eG 40:=⟨rfl⟩
instance:cL 77 [.int .i64 0,.int .i64 0,.int .i64 0,.int .i64 0,.int .i64 0] [(0,1),(1,1),(2,1),(3,2)]:=⟨⟨q_,q_⟩⟩
instance {a0 b0 a1 b1 a2 b2 a3 b3 a4 b4:Int}:vI 77 #[.int .i64 a0,.int .i64 a1,.int .i64 a2,.int .i64 a3,.int .i64 a4] #[.int .i64 b0,.int .i64 b1,.int .i64 b2,.int .i64 b3,.int .i64 b4] (decide ((⟨a0,a1,a2,⟨a3,a4⟩⟩:cQ)=⟨b0,b1,b2,⟨b3,b4⟩⟩)) where e:={
 ty:=⟨_,underlying77⟩
 guard:=q_
 val:=by
  have h:eqv prog 5 77 [.int .i64 a0,.int .i64 a1,.int .i64 a2,.int .i64 a3,.int .i64 a4] [.int .i64 b0,.int .i64 b1,.int .i64 b2,.int .i64 b3,.int .i64 b4]=some (decide (a0=b0)&&(decide (a1=b1)&&(decide (a2=b2)&&(((decide (a3=b3)&&(decide (a4=b4)&&true)))&&true)))):=q_;rw[show(decide ((⟨a0,a1,a2,⟨a3,a4⟩⟩:cQ)=⟨b0,b1,b2,⟨b3,b4⟩⟩))=(decide (a0=b0)&&(decide (a1=b1)&&(decide (a2=b2)&&(((decide (a3=b3)&&(decide (a4=b4)&&true)))&&true)))) by rw[aBz];simp[]];exact h }
structure fU where
 bN:Int
 eF:Int
 dC:Int
 base:Int
 cap:Int
abbrev fU.cs(x:fU):List Value:=[.int .i64 x.bN,.int .i64 x.eF,.int .i64 x.dC,.int .i64 x.base,.int .i64 x.cap]
def fU.ok(x:fU):Prop:=dQ x.bN∧dQ x.eF∧dQ x.dC∧dQ x.base∧dQ x.cap
def Qh:Ty fU where
 val x:=.agg x.cs.toArray
 size:=5
 bytes:=40
 tid:=23
 zero:=.agg #[.int .i64 0,.int .i64 0,.int .i64 0,.int .i64 0,.int .i64 0]
 hlen _:=rfl
 lJ a u h:=by simp[Value.cells] at h;rcases h with rfl|rfl|rfl|rfl|rfl<;>rfl
 gL:=sD
 hzero:=rfl
 fW:=q_
 nR:=.inl ⟨q_,λ_=>⟨_,rfl⟩⟩
instance:cL 23 [.int .i64 0,.int .i64 0,.int .i64 0,.int .i64 0,.int .i64 0] [(0,1),(1,1),(2,1),(3,1),(4,1)]:=⟨⟨q_,q_⟩⟩
structure bH where
 ord:Int
 bC:cQ
 aW:Int
 last:Int
 cX:Bool
 gone:Bool
 back:Int
 cJ:Int
theorem bH.eq_iff{x y:bH}:x=y↔x.ord=y.ord∧x.bC=y.bC∧x.aW=y.aW∧x.last=y.last∧x.cX=y.cX∧x.gone=y.gone∧x.back=y.back∧x.cJ=y.cJ:=by
 cases x;cases y;simp
instance:DecidableEq bH:=λ_ _=>decidable_of_iff _ bH.eq_iff.symm
abbrev bH.cs(x:bH):List Value:=[.int .i64 x.ord,.int .i64 x.bC.kind,.int .i64 x.bC.a,.int .i64 x.bC.n,.int .i64 x.bC.ref.rep,.int .i64 x.bC.ref.seq,.int .i64 x.aW,.int .i64 x.last,.bool x.cX,.bool x.gone,.int .i64 x.back,.int .i64 x.cJ]
def bH.ok(x:bH):Prop:=dQ x.ord∧x.bC.ok∧dQ x.aW∧dQ x.last∧dQ x.back∧dQ x.cJ
def fH:Ty bH where
 val x:=.agg x.cs.toArray
 size:=12
 bytes:=88
 tid:=92
 zero:=.agg #[.int .i64 0,.int .i64 0,.int .i64 0,.int .i64 0,.int .i64 0,.int .i64 0,.int .i64 0,.int .i64 0,.bool false,.bool false,.int .i64 0,.int .i64 0]
 hlen _:=rfl
 lJ a u h:=by simp[Value.cells] at h;rcases h with rfl|rfl|rfl|rfl|rfl|rfl|rfl|rfl|rfl|rfl|rfl|rfl<;>rfl
 gL:=sD
 hzero:=rfl
 fW:=q_
 nR:=.inl ⟨q_,λ_=>⟨_,rfl⟩⟩
abbrev El:bH:=⟨0,⟨0,0,0,⟨0,0⟩⟩,0,0,false,false,0,0⟩
instance:kQ 92 bH fH:=⟨rfl⟩
instance:lL fH 88:=⟨rfl⟩
instance:cL 92 [.int .i64 0,.int .i64 0,.int .i64 0,.int .i64 0,.int .i64 0,.int .i64 0,.int .i64 0,.int .i64 0,.bool false,.bool false,.int .i64 0,.int .i64 0] [(0,1),(1,5),(6,1),(7,1),(8,1),(9,1),(10,1),(11,1)]:=⟨⟨q_,q_⟩⟩
instance {a0 b0 a1 b1 a2 b2 a3 b3 a4 b4 a5 b5 a6 b6 a7 b7 a10 b10 a11 b11:Int}{a8 b8 a9 b9:Bool}:vI 92 #[.int .i64 a0,.int .i64 a1,.int .i64 a2,.int .i64 a3,.int .i64 a4,.int .i64 a5,.int .i64 a6,.int .i64 a7,.bool a8,.bool a9,.int .i64 a10,.int .i64 a11] #[.int .i64 b0,.int .i64 b1,.int .i64 b2,.int .i64 b3,.int .i64 b4,.int .i64 b5,.int .i64 b6,.int .i64 b7,.bool b8,.bool b9,.int .i64 b10,.int .i64 b11] (decide ((⟨a0,⟨a1,a2,a3,⟨a4,a5⟩⟩,a6,a7,a8,a9,a10,a11⟩:bH)=⟨b0,⟨b1,b2,b3,⟨b4,b5⟩⟩,b6,b7,b8,b9,b10,b11⟩)) where e:={
 ty:=⟨_,underlying92⟩
 guard:=q_
 val:=by
  have h:eqv prog 5 92 [.int .i64 a0,.int .i64 a1,.int .i64 a2,.int .i64 a3,.int .i64 a4,.int .i64 a5,.int .i64 a6,.int .i64 a7,.bool a8,.bool a9,.int .i64 a10,.int .i64 a11] [.int .i64 b0,.int .i64 b1,.int .i64 b2,.int .i64 b3,.int .i64 b4,.int .i64 b5,.int .i64 b6,.int .i64 b7,.bool b8,.bool b9,.int .i64 b10,.int .i64 b11]=some (decide (a0=b0)&&(((decide (a1=b1)&&(decide (a2=b2)&&(decide (a3=b3)&&(((decide (a4=b4)&&(decide (a5=b5)&&true)))&&true)))))&&(decide (a6=b6)&&(decide (a7=b7)&&(decide (a8=b8)&&(decide (a9=b9)&&(decide (a10=b10)&&(decide (a11=b11)&&true)))))))):=q_;rw[show(decide ((⟨a0,⟨a1,a2,a3,⟨a4,a5⟩⟩,a6,a7,a8,a9,a10,a11⟩:bH)=⟨b0,⟨b1,b2,b3,⟨b4,b5⟩⟩,b6,b7,b8,b9,b10,b11⟩))=(decide (a0=b0)&&(((decide (a1=b1)&&(decide (a2=b2)&&(decide (a3=b3)&&(((decide (a4=b4)&&(decide (a5=b5)&&true)))&&true)))))&&(decide (a6=b6)&&(decide (a7=b7)&&(decide (a8=b8)&&(decide (a9=b9)&&(decide (a10=b10)&&(decide (a11=b11)&&true)))))))) by rw[aBz];simp[and_assoc]];exact h }
structure bP where
 id:bJ
 ord:Int
 cD:Bool
theorem bP.eq_iff{x y:bP}:x=y↔x.id=y.id∧x.ord=y.ord∧x.cD=y.cD:=by
 cases x;cases y;simp
instance:DecidableEq bP:=λ_ _=>decidable_of_iff _ bP.eq_iff.symm
abbrev bP.cs(x:bP):List Value:=[.int .i64 x.id.rep,.int .i64 x.id.seq,.int .i64 x.ord,.bool x.cD]
instance:cL 75 [.int .i64 0,.int .i64 0,.int .i64 0,.bool false] [(0,2),(2,1),(3,1)]:=⟨⟨q_,q_⟩⟩
instance {a0 b0 a1 b1 a2 b2:Int}{a3 b3:Bool}:vI 75 #[.int .i64 a0,.int .i64 a1,.int .i64 a2,.bool a3] #[.int .i64 b0,.int .i64 b1,.int .i64 b2,.bool b3] (decide ((⟨⟨a0,a1⟩,a2,a3⟩:bP)=⟨⟨b0,b1⟩,b2,b3⟩)) where e:={
 ty:=⟨_,underlying75⟩
 guard:=q_
 val:=by
  have h:eqv prog 5 75 [.int .i64 a0,.int .i64 a1,.int .i64 a2,.bool a3] [.int .i64 b0,.int .i64 b1,.int .i64 b2,.bool b3]=some (((decide (a0=b0)&&(decide (a1=b1)&&true)))&&(decide (a2=b2)&&(decide (a3=b3)&&true))):=q_;rw[show(decide ((⟨⟨a0,a1⟩,a2,a3⟩:bP)=⟨⟨b0,b1⟩,b2,b3⟩))=(((decide (a0=b0)&&(decide (a1=b1)&&true)))&&(decide (a2=b2)&&(decide (a3=b3)&&true))) by rw[aBz];simp[and_assoc]];exact h }
structure dK where
 key:bP
 bC:cQ
theorem dK.eq_iff{x y:dK}:x=y↔x.key=y.key∧x.bC=y.bC:=by
 cases x;cases y;simp
instance:DecidableEq dK:=λ_ _=>decidable_of_iff _ dK.eq_iff.symm
abbrev dK.cs(x:dK):List Value:=[.int .i64 x.key.id.rep,.int .i64 x.key.id.seq,.int .i64 x.key.ord,.bool x.key.cD,.int .i64 x.bC.kind,.int .i64 x.bC.a,.int .i64 x.bC.n,.int .i64 x.bC.ref.rep,.int .i64 x.bC.ref.seq]
def cP:Ty dK where
 val x:=.agg x.cs.toArray
 size:=9
 bytes:=72
 tid:=79
 zero:=.agg #[.int .i64 0,.int .i64 0,.int .i64 0,.bool false,.int .i64 0,.int .i64 0,.int .i64 0,.int .i64 0,.int .i64 0]
 hlen _:=rfl
 lJ a u h:=by simp[Value.cells] at h;rcases h with rfl|rfl|rfl|rfl|rfl|rfl|rfl|rfl|rfl<;>rfl
 gL:=sD
 hzero:=rfl
 fW:=q_
 nR:=.inl ⟨q_,λ_=>⟨_,rfl⟩⟩
abbrev wN:dK:=⟨⟨⟨0,0⟩,0,false⟩,⟨0,0,0,⟨0,0⟩⟩⟩
instance:kQ 79 dK cP:=⟨rfl⟩
instance:lL cP 72:=⟨rfl⟩
instance:cL 79 [.int .i64 0,.int .i64 0,.int .i64 0,.bool false,.int .i64 0,.int .i64 0,.int .i64 0,.int .i64 0,.int .i64 0] [(0,4),(4,5)]:=⟨⟨q_,q_⟩⟩
instance {a0 b0 a1 b1 a2 b2 a4 b4 a5 b5 a6 b6 a7 b7 a8 b8:Int}{a3 b3:Bool}:vI 79 #[.int .i64 a0,.int .i64 a1,.int .i64 a2,.bool a3,.int .i64 a4,.int .i64 a5,.int .i64 a6,.int .i64 a7,.int .i64 a8] #[.int .i64 b0,.int .i64 b1,.int .i64 b2,.bool b3,.int .i64 b4,.int .i64 b5,.int .i64 b6,.int .i64 b7,.int .i64 b8] (decide ((⟨⟨⟨a0,a1⟩,a2,a3⟩,⟨a4,a5,a6,⟨a7,a8⟩⟩⟩:dK)=⟨⟨⟨b0,b1⟩,b2,b3⟩,⟨b4,b5,b6,⟨b7,b8⟩⟩⟩)) where e:={
 ty:=⟨_,underlying79⟩
 guard:=q_
 val:=by
  have h:eqv prog 5 79 [.int .i64 a0,.int .i64 a1,.int .i64 a2,.bool a3,.int .i64 a4,.int .i64 a5,.int .i64 a6,.int .i64 a7,.int .i64 a8] [.int .i64 b0,.int .i64 b1,.int .i64 b2,.bool b3,.int .i64 b4,.int .i64 b5,.int .i64 b6,.int .i64 b7,.int .i64 b8]=some (((((decide (a0=b0)&&(decide (a1=b1)&&true)))&&(decide (a2=b2)&&(decide (a3=b3)&&true))))&&(((decide (a4=b4)&&(decide (a5=b5)&&(decide (a6=b6)&&(((decide (a7=b7)&&(decide (a8=b8)&&true)))&&true)))))&&true)):=q_;rw[show(decide ((⟨⟨⟨a0,a1⟩,a2,a3⟩,⟨a4,a5,a6,⟨a7,a8⟩⟩⟩:dK)=⟨⟨⟨b0,b1⟩,b2,b3⟩,⟨b4,b5,b6,⟨b7,b8⟩⟩⟩))=(((((decide (a0=b0)&&(decide (a1=b1)&&true)))&&(decide (a2=b2)&&(decide (a3=b3)&&true))))&&(((decide (a4=b4)&&(decide (a5=b5)&&(decide (a6=b6)&&(((decide (a7=b7)&&(decide (a8=b8)&&true)))&&true)))))&&true)) by rw[aBz];simp[and_assoc]];exact h }
structure pD where
 kind:Int
 c:aX
 id:bJ
 key:bP
 now:Int
theorem pD.eq_iff{x y:pD}:x=y↔x.kind=y.kind∧x.c=y.c∧x.id=y.id∧x.key=y.key∧x.now=y.now:=by
 cases x;cases y;simp
instance:DecidableEq pD:=λ_ _=>decidable_of_iff _ pD.eq_iff.symm
abbrev pD.cs(x:pD):List Value:=[.int .i64 x.kind,.int .i64 x.c.id.rep,.int .i64 x.c.id.seq,.int .i64 x.c.time,.int .i64 x.c.kind,.int .i64 x.c.a,.int .i64 x.c.b,.int .i64 x.c.n,.int .i64 x.c.ref.rep,.int .i64 x.c.ref.seq,.int .i64 x.id.rep,.int .i64 x.id.seq,.int .i64 x.key.id.rep,.int .i64 x.key.id.seq,.int .i64 x.key.ord,.bool x.key.cD,.int .i64 x.now]
def jE:Ty pD where
 val x:=.agg x.cs.toArray
 size:=17
 bytes:=136
 tid:=202
 zero:=.agg #[.int .i64 0,.int .i64 0,.int .i64 0,.int .i64 0,.int .i64 0,.int .i64 0,.int .i64 0,.int .i64 0,.int .i64 0,.int .i64 0,.int .i64 0,.int .i64 0,.int .i64 0,.int .i64 0,.int .i64 0,.bool false,.int .i64 0]
 hlen _:=rfl
 lJ a u h:=by simp[Value.cells] at h;rcases h with rfl|rfl|rfl|rfl|rfl|rfl|rfl|rfl|rfl|rfl|rfl|rfl|rfl|rfl|rfl|rfl|rfl<;>rfl
 gL:=sD
 hzero:=rfl
 fW:=q_
 nR:=.inl ⟨q_,λ_=>⟨_,rfl⟩⟩
abbrev QL:pD:=⟨0,⟨⟨0,0⟩,0,0,0,0,0,⟨0,0⟩⟩,⟨0,0⟩,⟨⟨0,0⟩,0,false⟩,0⟩
instance:kQ 202 pD jE:=⟨rfl⟩
instance:lL jE 136:=⟨rfl⟩
instance:cL 202 [.int .i64 0,.int .i64 0,.int .i64 0,.int .i64 0,.int .i64 0,.int .i64 0,.int .i64 0,.int .i64 0,.int .i64 0,.int .i64 0,.int .i64 0,.int .i64 0,.int .i64 0,.int .i64 0,.int .i64 0,.bool false,.int .i64 0] [(0,1),(1,9),(10,2),(12,4),(16,1)]:=⟨⟨q_,q_⟩⟩
instance {a0 b0 a1 b1 a2 b2 a3 b3 a4 b4 a5 b5 a6 b6 a7 b7 a8 b8 a9 b9 a10 b10 a11 b11 a12 b12 a13 b13 a14 b14 a16 b16:Int}{a15 b15:Bool}:vI 202 #[.int .i64 a0,.int .i64 a1,.int .i64 a2,.int .i64 a3,.int .i64 a4,.int .i64 a5,.int .i64 a6,.int .i64 a7,.int .i64 a8,.int .i64 a9,.int .i64 a10,.int .i64 a11,.int .i64 a12,.int .i64 a13,.int .i64 a14,.bool a15,.int .i64 a16] #[.int .i64 b0,.int .i64 b1,.int .i64 b2,.int .i64 b3,.int .i64 b4,.int .i64 b5,.int .i64 b6,.int .i64 b7,.int .i64 b8,.int .i64 b9,.int .i64 b10,.int .i64 b11,.int .i64 b12,.int .i64 b13,.int .i64 b14,.bool b15,.int .i64 b16] (decide ((⟨a0,⟨⟨a1,a2⟩,a3,a4,a5,a6,a7,⟨a8,a9⟩⟩,⟨a10,a11⟩,⟨⟨a12,a13⟩,a14,a15⟩,a16⟩:pD)=⟨b0,⟨⟨b1,b2⟩,b3,b4,b5,b6,b7,⟨b8,b9⟩⟩,⟨b10,b11⟩,⟨⟨b12,b13⟩,b14,b15⟩,b16⟩)) where e:={
 ty:=⟨_,underlying202⟩
 guard:=q_
 val:=by
  have h:eqv prog 5 202 [.int .i64 a0,.int .i64 a1,.int .i64 a2,.int .i64 a3,.int .i64 a4,.int .i64 a5,.int .i64 a6,.int .i64 a7,.int .i64 a8,.int .i64 a9,.int .i64 a10,.int .i64 a11,.int .i64 a12,.int .i64 a13,.int .i64 a14,.bool a15,.int .i64 a16] [.int .i64 b0,.int .i64 b1,.int .i64 b2,.int .i64 b3,.int .i64 b4,.int .i64 b5,.int .i64 b6,.int .i64 b7,.int .i64 b8,.int .i64 b9,.int .i64 b10,.int .i64 b11,.int .i64 b12,.int .i64 b13,.int .i64 b14,.bool b15,.int .i64 b16]=some (decide (a0=b0)&&(((((decide (a1=b1)&&(decide (a2=b2)&&true)))&&(decide (a3=b3)&&(decide (a4=b4)&&(decide (a5=b5)&&(decide (a6=b6)&&(decide (a7=b7)&&(((decide (a8=b8)&&(decide (a9=b9)&&true)))&&true))))))))&&(((decide (a10=b10)&&(decide (a11=b11)&&true)))&&(((((decide (a12=b12)&&(decide (a13=b13)&&true)))&&(decide (a14=b14)&&(decide (a15=b15)&&true))))&&(decide (a16=b16)&&true))))):=q_;rw[show(decide ((⟨a0,⟨⟨a1,a2⟩,a3,a4,a5,a6,a7,⟨a8,a9⟩⟩,⟨a10,a11⟩,⟨⟨a12,a13⟩,a14,a15⟩,a16⟩:pD)=⟨b0,⟨⟨b1,b2⟩,b3,b4,b5,b6,b7,⟨b8,b9⟩⟩,⟨b10,b11⟩,⟨⟨b12,b13⟩,b14,b15⟩,b16⟩))=(decide (a0=b0)&&(((((decide (a1=b1)&&(decide (a2=b2)&&true)))&&(decide (a3=b3)&&(decide (a4=b4)&&(decide (a5=b5)&&(decide (a6=b6)&&(decide (a7=b7)&&(((decide (a8=b8)&&(decide (a9=b9)&&true)))&&true))))))))&&(((decide (a10=b10)&&(decide (a11=b11)&&true)))&&(((((decide (a12=b12)&&(decide (a13=b13)&&true)))&&(decide (a14=b14)&&(decide (a15=b15)&&true))))&&(decide (a16=b16)&&true))))) by rw[aBz];simp[and_assoc]];exact h }
structure cH where
 kind:Int
 r:Int
 i:Int
 n:Int
 c:aX
theorem cH.eq_iff{x y:cH}:x=y↔x.kind=y.kind∧x.r=y.r∧x.i=y.i∧x.n=y.n∧x.c=y.c:=by
 cases x;cases y;simp
instance:DecidableEq cH:=λ_ _=>decidable_of_iff _ cH.eq_iff.symm
abbrev cH.cs(x:cH):List Value:=[.int .i64 x.kind,.int .i64 x.r,.int .i64 x.i,.int .i64 x.n,.int .i64 x.c.id.rep,.int .i64 x.c.id.seq,.int .i64 x.c.time,.int .i64 x.c.kind,.int .i64 x.c.a,.int .i64 x.c.b,.int .i64 x.c.n,.int .i64 x.c.ref.rep,.int .i64 x.c.ref.seq]
def cH.ok(x:cH):Prop:=dQ x.kind∧dQ x.r∧dQ x.i∧dQ x.n∧x.c.ok
def mX:Ty cH where
 val x:=.agg x.cs.toArray
 size:=13
 bytes:=104
 tid:=39
 zero:=.agg #[.int .i64 0,.int .i64 0,.int .i64 0,.int .i64 0,.int .i64 0,.int .i64 0,.int .i64 0,.int .i64 0,.int .i64 0,.int .i64 0,.int .i64 0,.int .i64 0,.int .i64 0]
 hlen _:=rfl
 lJ a u h:=by simp[Value.cells] at h;rcases h with rfl|rfl|rfl|rfl|rfl|rfl|rfl|rfl|rfl|rfl|rfl|rfl|rfl<;>rfl
 gL:=sD
 hzero:=rfl
 fW:=q_
 nR:=.inl ⟨q_,λ_=>⟨_,rfl⟩⟩
abbrev E0:cH:=⟨0,0,0,0,⟨⟨0,0⟩,0,0,0,0,0,⟨0,0⟩⟩⟩
instance:kQ 39 cH mX:=⟨rfl⟩
instance:cL 39 [.int .i64 0,.int .i64 0,.int .i64 0,.int .i64 0,.int .i64 0,.int .i64 0,.int .i64 0,.int .i64 0,.int .i64 0,.int .i64 0,.int .i64 0,.int .i64 0,.int .i64 0] [(0,1),(1,1),(2,1),(3,1),(4,9)]:=⟨⟨q_,q_⟩⟩
instance {a0 b0 a1 b1 a2 b2 a3 b3 a4 b4 a5 b5 a6 b6 a7 b7 a8 b8 a9 b9 a10 b10 a11 b11 a12 b12:Int}:vI 39 #[.int .i64 a0,.int .i64 a1,.int .i64 a2,.int .i64 a3,.int .i64 a4,.int .i64 a5,.int .i64 a6,.int .i64 a7,.int .i64 a8,.int .i64 a9,.int .i64 a10,.int .i64 a11,.int .i64 a12] #[.int .i64 b0,.int .i64 b1,.int .i64 b2,.int .i64 b3,.int .i64 b4,.int .i64 b5,.int .i64 b6,.int .i64 b7,.int .i64 b8,.int .i64 b9,.int .i64 b10,.int .i64 b11,.int .i64 b12] (decide ((⟨a0,a1,a2,a3,⟨⟨a4,a5⟩,a6,a7,a8,a9,a10,⟨a11,a12⟩⟩⟩:cH)=⟨b0,b1,b2,b3,⟨⟨b4,b5⟩,b6,b7,b8,b9,b10,⟨b11,b12⟩⟩⟩)) where e:={
 ty:=⟨_,underlying39⟩
 guard:=q_
 val:=by
  have h:eqv prog 5 39 [.int .i64 a0,.int .i64 a1,.int .i64 a2,.int .i64 a3,.int .i64 a4,.int .i64 a5,.int .i64 a6,.int .i64 a7,.int .i64 a8,.int .i64 a9,.int .i64 a10,.int .i64 a11,.int .i64 a12] [.int .i64 b0,.int .i64 b1,.int .i64 b2,.int .i64 b3,.int .i64 b4,.int .i64 b5,.int .i64 b6,.int .i64 b7,.int .i64 b8,.int .i64 b9,.int .i64 b10,.int .i64 b11,.int .i64 b12]=some (decide (a0=b0)&&(decide (a1=b1)&&(decide (a2=b2)&&(decide (a3=b3)&&(((((decide (a4=b4)&&(decide (a5=b5)&&true)))&&(decide (a6=b6)&&(decide (a7=b7)&&(decide (a8=b8)&&(decide (a9=b9)&&(decide (a10=b10)&&(((decide (a11=b11)&&(decide (a12=b12)&&true)))&&true))))))))&&true))))):=q_;rw[show(decide ((⟨a0,a1,a2,a3,⟨⟨a4,a5⟩,a6,a7,a8,a9,a10,⟨a11,a12⟩⟩⟩:cH)=⟨b0,b1,b2,b3,⟨⟨b4,b5⟩,b6,b7,b8,b9,b10,⟨b11,b12⟩⟩⟩))=(decide (a0=b0)&&(decide (a1=b1)&&(decide (a2=b2)&&(decide (a3=b3)&&(((((decide (a4=b4)&&(decide (a5=b5)&&true)))&&(decide (a6=b6)&&(decide (a7=b7)&&(decide (a8=b8)&&(decide (a9=b9)&&(decide (a10=b10)&&(((decide (a11=b11)&&(decide (a12=b12)&&true)))&&true))))))))&&true))))) by rw[aBz];simp[and_assoc]];exact h }
structure wM where
 code:Int
 n:Int
 m:Int
abbrev wM.cs(x:wM):List Value:=[.int .i64 x.code,.int .i64 x.n,.int .i64 x.m]
abbrev CQ:wM:=⟨0,0,0⟩
instance:cL 36 [.int .i64 0,.int .i64 0,.int .i64 0] [(0,1),(1,1),(2,1)]:=⟨⟨q_,q_⟩⟩
structure dD where
 id:bJ
 cC:Int
 item:Int
 iN:Int
 cost:Int
 state:Int
theorem dD.eq_iff{x y:dD}:x=y↔x.id=y.id∧x.cC=y.cC∧x.item=y.item∧x.iN=y.iN∧x.cost=y.cost∧x.state=y.state:=by
 cases x;cases y;simp
instance:DecidableEq dD:=λ_ _=>decidable_of_iff _ dD.eq_iff.symm
abbrev dD.cs(x:dD):List Value:=[.int .i64 x.id.rep,.int .i64 x.id.seq,.int .i64 x.cC,.int .i64 x.item,.int .i64 x.iN,.int .i64 x.cost,.int .i64 x.state]
def eB:Ty dD where
 val x:=.agg x.cs.toArray
 size:=7
 bytes:=56
 tid:=155
 zero:=.agg #[.int .i64 0,.int .i64 0,.int .i64 0,.int .i64 0,.int .i64 0,.int .i64 0,.int .i64 0]
 hlen _:=rfl
 lJ a u h:=by simp[Value.cells] at h;rcases h with rfl|rfl|rfl|rfl|rfl|rfl|rfl<;>rfl
 gL:=sD
 hzero:=rfl
 fW:=q_
 nR:=.inl ⟨q_,λ_=>⟨_,rfl⟩⟩
abbrev UI:dD:=⟨⟨0,0⟩,0,0,0,0,0⟩
instance:kQ 155 dD eB:=⟨rfl⟩
instance:uU eB UI:=⟨rfl⟩
instance:lL eB 56:=⟨rfl⟩
instance:cL 155 [.int .i64 0,.int .i64 0,.int .i64 0,.int .i64 0,.int .i64 0,.int .i64 0,.int .i64 0] [(0,2),(2,1),(3,1),(4,1),(5,1),(6,1)]:=⟨⟨q_,q_⟩⟩
instance {a0 b0 a1 b1 a2 b2 a3 b3 a4 b4 a5 b5 a6 b6:Int}:vI 155 #[.int .i64 a0,.int .i64 a1,.int .i64 a2,.int .i64 a3,.int .i64 a4,.int .i64 a5,.int .i64 a6] #[.int .i64 b0,.int .i64 b1,.int .i64 b2,.int .i64 b3,.int .i64 b4,.int .i64 b5,.int .i64 b6] (decide ((⟨⟨a0,a1⟩,a2,a3,a4,a5,a6⟩:dD)=⟨⟨b0,b1⟩,b2,b3,b4,b5,b6⟩)) where e:={
 ty:=⟨_,underlying155⟩
 guard:=q_
 val:=by
  have h:eqv prog 5 155 [.int .i64 a0,.int .i64 a1,.int .i64 a2,.int .i64 a3,.int .i64 a4,.int .i64 a5,.int .i64 a6] [.int .i64 b0,.int .i64 b1,.int .i64 b2,.int .i64 b3,.int .i64 b4,.int .i64 b5,.int .i64 b6]=some (((decide (a0=b0)&&(decide (a1=b1)&&true)))&&(decide (a2=b2)&&(decide (a3=b3)&&(decide (a4=b4)&&(decide (a5=b5)&&(decide (a6=b6)&&true)))))):=q_;rw[show(decide ((⟨⟨a0,a1⟩,a2,a3,a4,a5,a6⟩:dD)=⟨⟨b0,b1⟩,b2,b3,b4,b5,b6⟩))=(((decide (a0=b0)&&(decide (a1=b1)&&true)))&&(decide (a2=b2)&&(decide (a3=b3)&&(decide (a4=b4)&&(decide (a5=b5)&&(decide (a6=b6)&&true)))))) by rw[aBz];simp[and_assoc]];exact h }
structure fM where
 Ev:Int
 now:Int
 key:bP
 bC:cQ
abbrev fM.cs(x:fM):List Value:=[.int .i64 x.Ev,.int .i64 x.now,.int .i64 x.key.id.rep,.int .i64 x.key.id.seq,.int .i64 x.key.ord,.bool x.key.cD,.int .i64 x.bC.kind,.int .i64 x.bC.a,.int .i64 x.bC.n,.int .i64 x.bC.ref.rep,.int .i64 x.bC.ref.seq]
def mK:Ty fM where
 val x:=.agg x.cs.toArray
 size:=11
 bytes:=88
 tid:=81
 zero:=.agg #[.int .i64 0,.int .i64 0,.int .i64 0,.int .i64 0,.int .i64 0,.bool false,.int .i64 0,.int .i64 0,.int .i64 0,.int .i64 0,.int .i64 0]
 hlen _:=rfl
 lJ a u h:=by simp[Value.cells] at h;rcases h with rfl|rfl|rfl|rfl|rfl|rfl|rfl|rfl|rfl|rfl|rfl<;>rfl
 gL:=sD
 hzero:=rfl
 fW:=q_
 nR:=.inl ⟨q_,λ_=>⟨_,rfl⟩⟩
instance:kQ 81 fM mK:=⟨rfl⟩
instance:lL mK 88:=⟨rfl⟩
instance:cL 81 [.int .i64 0,.int .i64 0,.int .i64 0,.int .i64 0,.int .i64 0,.bool false,.int .i64 0,.int .i64 0,.int .i64 0,.int .i64 0,.int .i64 0] [(0,1),(1,1),(2,4),(6,5)]:=⟨⟨q_,q_⟩⟩
section
variable {P:Program} {N:Nat} {E:Env} {F:Nat→Value} {H:List aL} {Q:QF}
theorem C.cd{c:Operand}{x y:Code}{p:Prop}{i:Decidable p}(hc:ev F c=.bool (@decide p i))(hx:p→C P N E x Q F H)(hy:¬p→C P N E y Q F H):C P N E (.cond c x y) Q F H:=C.XE hc hx hy
theorem L.fT{ops rest:List Oper}{d:Nat}{op:Op}{ty:TypeId}{pos:String}{af:Array Edge}{j g:Nat}{p:Prop}{i:Decidable p}(hd:d<N)(hn:(nth ops j).bind (·.dst)=some g)(hg:g<N)(hv:F g=.bool (@decide p i))
  (h:p→L P N E ops Q (⟨some d,op,ty,pos,af,none⟩::rest) F H) (h':¬p→L P N E ops Q rest (pT F d undef) H):L P N E ops Q (⟨some d,op,ty,pos,af,some (j,true)⟩::rest) F H:=L.YQ hd hn hg hv h h'
end
theorem f_{p q r:Prop}(h1:q)(h2:r)(h:wA q→wA r→p:=by intro h1 h2;first|(apply C.cd;(· exact rfl);(· exact h1.out);(· exact h2.out))|(apply C.cond;(· exact rfl);(· exact h1.out);(· exact h2.out))|(apply L.fT;(· decide);(· exact rfl);(· decide);(· exact rfl);(· exact h1.out);(· exact h2.out))|(apply L.fF;(· decide);(· exact rfl);(· decide);(· exact rfl);(· exact h1.out);(· exact h2.out))|(apply L.fork;(· decide);(· exact rfl);(· decide);(· exact rfl);(· exact h1.out);(· exact h2.out))|fail):p:=h ⟨h1⟩ ⟨h2⟩
section
variable {P:Program} {N:Nat} {E:Env} {F:Nat→Value} {H:List aL} {Q:QF}
theorem C.scan{c:Code}{α Y:Type}{l:List α}{n:Nat}(hn:n=l.length)(S:Nat→Y→List (Nat×Value))(HX:Nat→Y→List aL)(R:Nat→Y→Prop)(y0:Y)(hF:nH F (S 0 y0))(hH:aB E H (HX 0 y0))(h0:R 0 y0)
  (round:∀i y x G,i<n→l[i]?=some x→R i y→C P N E c (oQ (λF' H'=>∃y',nH F' (S (i+1) y')∧aB E H' (HX (i+1) y')∧R (i+1) y') Q) (OQ (S i y) G) (HX i y))
  (last:∀y G,R n y→C P N E c (oQ (λ_ _=>False) Q) (OQ (S n y) G) (HX n y)):C P N E (.loop c) Q F H:=by
 refine C.loop (X:=Nat×Y) (λx=>S x.1 x.2) (λx=>HX x.1 x.2) (λx=>x.1≤n∧R x.1 x.2) (λx=>n - x.1) (0,y0) hF hH ⟨aAh _,h0⟩ ?_;rintro⟨i,y⟩ G ⟨hi,hr⟩;by_cases hlt:i<n
 ·refine(round i y (l[i]'o_) G hlt (aAa o_) hr).mono ?_;intro e F' H' h;cases e with
  |normal=>obtain⟨y',h1,h2,h3⟩:=h;exact⟨(i+1,y'),h1,h2,⟨hlt,h3⟩,by show n - (i+1)<n - i;omega⟩
  |ret=>exact h
  |exit id=>exact h
  |panic c=>exact h
 ·obtain rfl:i=n:=o_;refine(last y G hr).mono ?_;intro e F' H' h;cases e with
  |normal=>exact h.elim
  |ret=>exact h
  |exit id=>exact h
  |panic c=>exact h
end
theorem rJ{a b:Bool}(h:a=b:=by first|rfl|(exact(decide_eq_true o_).symm)|(exact(decide_eq_false o_).symm)|(exact decide_eq_true o_)|(exact decide_eq_false o_)|(rw[aBz];simp;done)|(rw[aBz];simp;omega)|(simp_all;done)):Ending.returned (.bool a)=.returned (.bool b):=by rw[h]
theorem NQ{k:IntKind}{a b:Int}(h:a=b:=by omega):Ending.returned (.int k a)=.returned (.int k b):=by rw[h]
structure Hd where
 A:Option Addr
 n:Nat
 c:Nat
def Au:Ty Int where
 val x:=.int .i64 x
 size:=1
 bytes:=8
 tid:=3
 zero:=.int .i64 0
 hlen _:=rfl
 lJ a u h:=by simp only[Value.cells,aAp] at h;subst h;rfl
 gL:=sD
 hzero:=rfl
 fW:=q_
 nR:=.inr ⟨q_,λ_=>rfl⟩
instance:kQ 3 Int Au:=⟨rfl⟩
def bJ.may(x:bJ):Bool:=decide (0≤x.rep∧x.rep≤3∧1≤x.seq∧x.seq≤65535)
theorem bJ.bY(x:bJ):x.may=true↔0≤x.rep∧x.rep≤3∧1≤x.seq∧x.seq≤65535:=by simp[bJ.may]
theorem dV(E:Env)(n lo hi:Int):G E 105 [.int .i64 n,.int .i64 lo,.int .i64 hi] [] (cM (.bool (decide (lo≤n∧n≤hi))) []):=by
 refine t_ func105 ntmps105 ?_;repeat' (first|refine w_ ?_|refine k_ ?_|refine f_ ?_ ?_|intro _)
 all_goals exact aR rfl aF aA ⟨rJ,rfl⟩
instance {n lo hi:Int}:vZ 105 [.int .i64 n,.int .i64 lo,.int .i64 hi] (.bool (decide (lo≤n∧n≤hi))):=⟨λE=>dV E n lo hi⟩
def dF(n lo hi:Int):Int:=if n<lo then lo else if hi<n then hi else n
theorem Dz(E:Env)(n lo hi:Int):G E 65 [.int .i64 n,.int .i64 lo,.int .i64 hi] [] (cM (.int .i64 (dF n lo hi)) []):=by
 unfold dF;refine t_ func65 ntmps65 ?_;repeat' (first|refine w_ ?_|refine k_ ?_|refine f_ ?_ ?_|intro _)
 all_goals exact aR rfl aF aA ⟨NQ (by simp[*]),rfl⟩
instance {n lo hi:Int}:vZ 65 [.int .i64 n,.int .i64 lo,.int .i64 hi] (.int .i64 (dF n lo hi)):=⟨λE=>Dz E n lo hi⟩
theorem X9(E:Env)(n:Int):G E 312 [.int .i64 n] [] (cM (.bool false) []):=by
 refine t_ func312 ntmps312 ?_;repeat first|refine v_ ?_|intro
 exact aR rfl aF aA (⟨rJ,rfl⟩)
instance {n:Int}:vZ 312 [.int .i64 n] (.bool false):=⟨λE=>X9 E n⟩
def sX(a b:Int):Int:=if a<b then -1 else if b<a then 1 else 0
theorem HR(E:Env)(a b:Int):G E 271 [.int .i64 a,.int .i64 b] [] (cM (.int .i64 (sX a b)) []):=by
 unfold sX;refine t_ func271 ntmps271 ?_;repeat' (first|refine w_ ?_|refine k_ ?_|refine f_ ?_ ?_|intro _)
 all_goals exact aR rfl aF aA ⟨NQ (by simp[*]),rfl⟩
instance {a b:Int}:vZ 271 [.int .i64 a,.int .i64 b] (.int .i64 (sX a b)):=⟨λE=>HR E a b⟩
def DC:List Int→Int
 | []=>0
 |x::l=>if x=0 then DC l else x
theorem QU{l:List Int}(h:∀x∈l,x=0):DC l=0:=by
 induction l with
 |nil=>rfl
 |cons x l ih=>rw[DC,if_pos (h x aBo)];exact ih λy hy=>h y (aBl _ hy)
theorem UO{l:List Int}{i:Nat}{x:Int}(hx:l[i]?=some x)(h0:x≠0)(h:∀j y,j<i→l[j]?=some y→y=0):DC l=x:=by
 induction l generalizing i with
 |nil=>cases hx
 |cons a l ih =>
  cases i with
  |zero=>injection hx with hx;subst hx;rw[DC,if_neg h0]
  |succ i =>
   rw[DC,if_pos (h 0 a o_ rfl)];exact ih (i:=i) hx λj y hj hy=>h (j+1) y o_ hy
theorem UL(E:Env)(A:Option Addr)(n c:Nat)(l:List Int)(hr:Rd E Au A n c l):G E 269 [.slice A n c] [] (cM (.int .i64 (DC l)) []):=by
 have hn:=hr.len;have hcap:=hr.cap;have hmax:=fX;refine t_ func269 ntmps269 ?_;repeat first|refine v_ ?_|intro
 refine C.scan (Y:=Unit) hn (λi _=>[(0,.slice A n c),(3,.int .i64 0),(6,.slice A n c),(7,.int .i64 n),(8,.int .i64 i)]) (λ_ _=>[]) (λi _=>∀j y,j<i→l[j]?=some y→y=0) () aD aB.refl (λj y hj=>by omega) ?_ ?_
 ·intro i _ x G hi hx hall;repeat first|refine v_ ?_|intro
  by_cases h0:x=0
  ·repeat first|refine v_ ?_|intro
   refine⟨(),aD,aB.refl,λj y hj hy=>?_⟩;by_cases hji:j=i
   ·subst hji;rw[hx] at hy;injection hy with hy;omega
   ·exact hall j y o_ hy
  ·repeat first|refine v_ ?_|intro
   exact aR rfl aF aA (⟨NQ (UO hx h0 hall).symm,rfl⟩)
 ·intro _ G hall;repeat first|refine v_ ?_|intro
  exact aR rfl aF aA (⟨NQ (QU λx hx=>by obtain⟨j,hj,rfl⟩:=aBm hx;exact hall j _ o_ (aAa hj)).symm,rfl⟩)
instance {A:Option Addr}{n c:Nat}:Us 269 [.slice A n c] Int Au A n c (λl=>.int .i64 (DC l)):=⟨λE l h=>UL E A n c l h⟩
theorem Gq(E:Env)(a b:Int):G E 160 [.agg #[.int .i64 a,.int .i64 b]] [] (cM (.bool (bJ.may ⟨a,b⟩)) []):=by
 unfold bJ.may;refine t_ func160 ntmps160 ?_;repeat' (first|refine w_ ?_|refine k_ ?_|refine f_ ?_ ?_|intro _)
 all_goals exact aR rfl aF aA ⟨rJ,rfl⟩
instance {a b:Int}:vZ 160 [.agg #[.int .i64 a,.int .i64 b]] (.bool (bJ.may ⟨a,b⟩)):=⟨λE=>Gq E a b⟩
def sQ(a b:bJ):Int:=DC [sX a.seq b.seq,sX a.rep b.rep]
theorem I3(E:Env)(a b c d:Int):G E 270 [.agg #[.int .i64 a,.int .i64 b],.agg #[.int .i64 c,.int .i64 d]] [] (cM (.int .i64 (sQ ⟨a,b⟩ ⟨c,d⟩)) []):=by
 refine t_ func270 ntmps270 ?_;repeat first|refine v_ ?_|intro
 refine rA (l_ [0,1,2,3,5,6,7,8] (g_ 4 (g_ 9 (g_ 10 (g_ 11 (n_ 12 .nil)))))) ?_;repeat first|refine v_ ?_|intro
 exact B7
instance {a b c d:Int}:vZ 270 [.agg #[.int .i64 a,.int .i64 b],.agg #[.int .i64 c,.int .i64 d]] (.int .i64 (sQ ⟨a,b⟩ ⟨c,d⟩)):=⟨λE=>I3 E a b c d⟩
theorem MG(E:Env)(a b c d:Int):G E 385 [.agg #[.int .i64 a,.int .i64 b],.agg #[.int .i64 c,.int .i64 d]] [] (cM (.bool (decide (sQ ⟨a,b⟩ ⟨c,d⟩<0))) []):=by
 refine t_ func385 ntmps385 ?_;repeat first|refine v_ ?_|intro
 exact B7
instance {a b c d:Int}:vZ 385 [.agg #[.int .i64 a,.int .i64 b],.agg #[.int .i64 c,.int .i64 d]] (.bool (decide (sQ ⟨a,b⟩ ⟨c,d⟩<0))):=⟨λE=>MG E a b c d⟩
theorem K9(E:Env)(r:Int):G E 157 [.int .i64 r] [] (cM (.bool (decide (0≤r∧r≤3))) []):=by
 refine t_ func157 ntmps157 ?_;repeat' (first|refine w_ ?_|refine k_ ?_|refine f_ ?_ ?_|intro _)
 all_goals exact aR rfl aF aA ⟨rJ,rfl⟩
instance {r:Int}:vZ 157 [.int .i64 r] (.bool (decide (0≤r∧r≤3))):=⟨λE=>K9 E r⟩
end Go.Proofs.YtmilalkjbojciaaGreat.Sep
namespace Go.Proofs.YtmilalkjbojciaaGreat.Sep
def place{α:Type}(p:α→Bool):List α→Int
 | [] => -1
 |x::l=>if p x then 0 else if place p l<0 then -1 else place p l+1
def behind{α:Type}(p:α→Bool):List α→Nat
 | []=>0
 |x::l=>if 0<behind p l then behind p l+1 else if p x then 1 else 0
theorem xM{α:Type}{p:α→Bool}{l:List α}{i:Nat}{x:α}(hx:l[i]?=some x)(hp:p x=true)(h:∀j y,j<i→l[j]?=some y→p y=false):place p l=i:=by
 induction l generalizing i with
 |nil=>cases hx
 |cons a l ih =>
  cases i with
  |zero=>injection hx with hx;subst hx;rw[place,if_pos hp];rfl
  |succ i =>
   rw[place,if_neg (by rw[h 0 a o_ rfl];decide),ih (i:=i) hx λj y hj hy=>h (j+1) y o_ hy,if_neg o_];omega
theorem rR{α:Type}{p:α→Bool}{l:List α}(h:∀x∈l,p x=false):place p l = -1:=by
 induction l with
 |nil=>rfl
 |cons a l ih=>rw[place,if_neg (by rw[h a aBo];decide),ih λx hx=>h x (aBl _ hx),if_pos sD]
theorem rC{α:Type}(p:α→Bool)(l:List α):(decide (0≤place p l))=l.any p:=by
 induction l with
 |nil=>rfl
 |cons a l ih =>
  rw[List.any_cons,place];by_cases h:p a=true
  ·rw[if_pos h,h];rfl
  ·rw[if_neg h];rw[show p a=false by simpa using h,Bool.false_or,←ih];rw[aBz];split<;>simp<;>omega
theorem gZ{α:Type}{p:α→Bool}{l:List α}(h:0≤place p l):(place p l).toNat<l.length∧∃x,l[(place p l).toNat]?=some x∧p x=true:=by
 induction l with
 |nil=>exact absurd h (by show ¬(0:Int) ≤ -1;decide)
 |cons a l ih =>
  by_cases hp:p a=true
  ·rw[place,if_pos hp];exact⟨by simp,a,rfl,hp⟩
  ·rw[place,if_neg hp] at h⊢;by_cases h0:place p l<0
   ·rw[if_pos h0] at h;omega
   ·rw[if_neg h0] at h⊢;obtain⟨h1,x,h2,h3⟩:=ih o_;have e:(place p l+1).toNat=(place p l).toNat+1:=o_;rw[e];exact⟨by simpa using h1,x,by simpa using h2,h3⟩
theorem Af{α:Type}{p:α→Bool}{l:List α}(h:∀x∈l,p x=false):behind p l=0:=by
 induction l with
 |nil=>rfl
 |cons a l ih=>rw[behind,ih λx hx=>h x (aBl _ hx),if_neg o_,if_neg (by rw[h a aBo];decide)]
theorem D4{α:Type}{p:α→Bool}{l:List α}{i:Nat}{x:α}(hx:l[i]?=some x)(hp:p x=true)(h:∀j y,i<j→l[j]?=some y→p y=false):behind p l=i+1:=by
 induction l generalizing i with
 |nil=>cases hx
 |cons a l ih =>
  cases i with
  |zero =>
   injection hx with hx
   subst hx;rw[behind,Af λy hy=>by obtain⟨j,hj,rfl⟩:=aBm hy;exact h (j+1) _ o_ (by simp),if_neg o_,if_pos hp]
  |succ i=>rw[behind,ih (i:=i) hx λj y hj hy=>h (j+1) y o_ hy,if_pos o_]
theorem AJ{α:Type}(p:α→Bool)(l:List α):behind p l≤l.length:=by
 induction l with
 |nil=>exact aAf _
 |cons a l ih=>rw[behind,aAs];split;omega;split<;>omega
theorem take_succ{α:Type}{l:List α}{i:Nat}{x:α}(hx:l[i]?=some x):l.take (i+1)=l.take i++[x]:=by
 obtain⟨h,rfl⟩:=aAd.1 hx;exact aAn h
theorem iX{α β:Type}{f:β→α→β}{z:β}{l:List α}{i:Nat}{x:α}(hx:l[i]?=some x):(l.take (i+1)).foldl f z=f ((l.take i).foldl f z) x:=by
 rw[take_succ hx,List.foldl_append];rfl
theorem BU{α:Type}{l:List α}{p:α→Prop}(h:∀j y,j<l.length→l[j]?=some y→p y):∀x∈l,p x:=by
 intro x hx;obtain⟨j,hj,rfl⟩:=aBm hx;exact h j _ hj (aAa hj)
end Go.Proofs.YtmilalkjbojciaaGreat.Sep
namespace Go.Proofs.YtmilalkjbojciaaGreat.Sep
open Go.RowKit Reg
open Mem hiding Rd
theorem cv{N:Nat}{E:Env}{F:Nat→Value}{H R:List aL}{Q:QF}{f:FuncId}{x:Operand}{cs vs':List Value}{ops:List Operand}{tys:Array TypeId}{Hp:List aL}{Q1:Ending→List aL→Prop}{d:Nat}{ty:TypeId}{pos:String}{af:Array Edge}{os rest:List Oper}
  (hd:d<N) (hx:ev F x=.func (.func f) #[] cs.toArray) (hv:AO F ops++cs=vs') (hk:xA f=true) (hp:cS Hp H R) (law:∀M,Sub E R M→aK prog M f vs'.toArray Hp Q1) (hQ:∀e H',Q1 e H'→∃v,e=.returned v∧∃H2,wK H' R H2∧L prog N E os Q rest (pT F d v) H2) :
  L prog N E os Q (⟨some d,.call { callee:=.value x,args:=ops.toArray,argTypes:=tys },ty,pos,af,none⟩::rest) F H:=by
 obtain⟨fn,h1,h2,h3⟩:=iY hk;exact L.step hd (S.wB rfl hx rfl hv h1 h2 h3 hp law hQ)
theorem Sub.trans{E M E2:Env}{R R':List aL}(h:Sub E R M)(k:Sub M R' E2):Sub E R E2:=by
 obtain⟨F,h1,h2⟩:=h.fr;refine⟨k.MH,λb hb=>⟨(k.rd b (h.rd b hb).1).1,(k.rd b (h.rd b hb).1).2.trans (h.rd b hb).2⟩,F,iJ h1 λb hb=>(k.rd b (h2 b hb)).2,λb hb=>(k.rd b (h2 b hb)).1⟩
section
variable (E:Env) (A:Option Addr) (n c:Nat)
theorem KM(l:List aX)(hr:Rd E bE A n c l)(f:FuncId)(cs:List Value)(p:aX→Bool)(hk:xA f=true)(hp:∀M R,Sub E R M→∀x:aX,G M f (.agg x.cs.toArray::cs) [] (cM (.bool (p x)) [])) :
  G E 230 [.slice A n c,.func (.func f) #[] cs.toArray] [] (cM (.int .i64 (place p l)) []):=by
 have hn:=hr.len;have hcap:=hr.cap;have hmax:=fX;refine t_ func230 ntmps230 ?_;repeat first|refine v_ ?_|intro
 refine C.scan (Y:=Unit) hn (λi _=>[(0,.slice A n c),(1,.func (.func f) #[] cs.toArray),(7,.int .i64 n),(8,.int .i64 i)]) (λ_ _=>[]) (λi _=>∀j y,j<i→l[j]?=some y→p y=false) () aD aB.refl (λj y hj=>by omega) ?_ ?_
 ·intro i _ x G hi hx hall;repeat first|refine v_ ?_|intro
  refine cv sD rfl rfl hk aC (λM hE=>hp M _ hE x) ?_;rintro r H' ⟨rfl,rfl⟩;refine gk bG ?_;cases hpx:p x
  ·repeat first|refine v_ ?_|intro
   refine⟨(),aD,aB.refl,λj y hj hy=>?_⟩;by_cases hji:j=i
   ·subst hji;rw[hx] at hy;injection hy with hy;subst hy;exact hpx
   ·exact hall j y o_ hy
  ·repeat first|refine v_ ?_|intro
   exact aR rfl aF aA (⟨NQ (xM hx hpx hall).symm,rfl⟩)
 ·intro _ G hall;repeat first|refine v_ ?_|intro
  exact aR rfl aF aA (⟨NQ (rR (BU λj y hj hy=>hall j y o_ hy)).symm,rfl⟩)
theorem SA(l:List dK)(hr:Rd E cP A n c l)(f:FuncId)(cs:List Value)(p:dK→Bool)(hk:xA f=true)(hp:∀M R,Sub E R M→∀x:dK,G M f (.agg x.cs.toArray::cs) [] (cM (.bool (p x)) [])) :
  G E 207 [.slice A n c,.func (.func f) #[] cs.toArray] [] (cM (.int .i64 (place p l)) []):=by
 have hn:=hr.len;have hcap:=hr.cap;have hmax:=fX;refine t_ func207 ntmps207 ?_;repeat first|refine v_ ?_|intro
 refine C.scan (Y:=Unit) hn (λi _=>[(0,.slice A n c),(1,.func (.func f) #[] cs.toArray),(7,.int .i64 n),(8,.int .i64 i)]) (λ_ _=>[]) (λi _=>∀j y,j<i→l[j]?=some y→p y=false) () aD aB.refl (λj y hj=>by omega) ?_ ?_
 ·intro i _ x G hi hx hall;repeat first|refine v_ ?_|intro
  refine cv sD rfl rfl hk aC (λM hE=>hp M _ hE x) ?_;rintro r H' ⟨rfl,rfl⟩;refine gk bG ?_;cases hpx:p x
  ·repeat first|refine v_ ?_|intro
   refine⟨(),aD,aB.refl,λj y hj hy=>?_⟩;by_cases hji:j=i
   ·subst hji;rw[hx] at hy;injection hy with hy;subst hy;exact hpx
   ·exact hall j y o_ hy
  ·repeat first|refine v_ ?_|intro
   exact aR rfl aF aA (⟨NQ (xM hx hpx hall).symm,rfl⟩)
 ·intro _ G hall;repeat first|refine v_ ?_|intro
  exact aR rfl aF aA (⟨NQ (rR (BU λj y hj hy=>hall j y o_ hy)).symm,rfl⟩)
theorem RY(l:List dD)(hr:Rd E eB A n c l)(f:FuncId)(cs:List Value)(p:dD→Bool)(hk:xA f=true)(hp:∀M R,Sub E R M→∀x:dD,G M f (.agg x.cs.toArray::cs) [] (cM (.bool (p x)) [])) :
  G E 383 [.slice A n c,.func (.func f) #[] cs.toArray] [] (cM (.int .i64 (place p l)) []):=by
 have hn:=hr.len;have hcap:=hr.cap;have hmax:=fX;refine t_ func383 ntmps383 ?_;repeat first|refine v_ ?_|intro
 refine C.scan (Y:=Unit) hn (λi _=>[(0,.slice A n c),(1,.func (.func f) #[] cs.toArray),(7,.int .i64 n),(8,.int .i64 i)]) (λ_ _=>[]) (λi _=>∀j y,j<i→l[j]?=some y→p y=false) () aD aB.refl (λj y hj=>by omega) ?_ ?_
 ·intro i _ x G hi hx hall;repeat first|refine v_ ?_|intro
  refine cv sD rfl rfl hk aC (λM hE=>hp M _ hE x) ?_;rintro r H' ⟨rfl,rfl⟩;refine gk bG ?_;cases hpx:p x
  ·repeat first|refine v_ ?_|intro
   refine⟨(),aD,aB.refl,λj y hj hy=>?_⟩;by_cases hji:j=i
   ·subst hji;rw[hx] at hy;injection hy with hy;subst hy;exact hpx
   ·exact hall j y o_ hy
  ·repeat first|refine v_ ?_|intro
   exact aR rfl aF aA (⟨NQ (xM hx hpx hall).symm,rfl⟩)
 ·intro _ G hall;repeat first|refine v_ ?_|intro
  exact aR rfl aF aA (⟨NQ (rR (BU λj y hj hy=>hall j y o_ hy)).symm,rfl⟩)
theorem RS(l:List dK)(hr:Rd E cP A n c l)(f:FuncId)(cs:List Value)(p:dK→Bool)(hk:xA f=true)(hp:∀M R,Sub E R M→∀x:dK,G M f (.agg x.cs.toArray::cs) [] (cM (.bool (p x)) [])) :
  G E 145 [.slice A n c,.func (.func f) #[] cs.toArray] [] (cM (.bool (l.any p)) []):=by
 refine t_ func145 ntmps145 ?_;repeat first|refine v_ ?_|intro
 refine cl sD sK aC (λM hE=>SA M A n c l dB f cs p hk λE2 R hE2=>hp E2 _ (hE.trans hE2)) ?_;rintro r H' ⟨rfl,rfl⟩;repeat first|refine v_ ?_|intro
 exact aR rfl aF aA (⟨by rw[←rC],rfl⟩)
theorem xN(l:List aX)(hr:Rd E bE A n c l)(hl:n≤1000000):G E 75 [.slice A n c] [] λe H'=>∃B k,(n≤k∧k≤maxLen)∧e=.returned (.slice B n k)∧H'=[own bE B n k l]:=by
 refine t_ func75 ntmps75 ?_;cases A with
 |none =>
  obtain⟨rfl,rfl⟩:=hr.none;repeat first|refine v_ ?_|intro
  exact aR rfl aF (aB.oR bE none) ⟨none,0,⟨aAf _,aAh _⟩,rfl,rfl⟩
 |some a =>
  repeat first|refine v_ ?_|intro
  rename_i B k h1 h2;exact jQ ⟨_,_,⟨h1,h2⟩,rfl,rfl⟩
theorem FN(l:List dD)(hr:Rd E eB A n c l)(hl:n≤1000000):G E 164 [.slice A n c] [] λe H'=>∃B k,(n≤k∧k≤maxLen)∧e=.returned (.slice B n k)∧H'=[own eB B n k l]:=by
 refine t_ func164 ntmps164 ?_;cases A with
 |none =>
  obtain⟨rfl,rfl⟩:=hr.none;repeat first|refine v_ ?_|intro
  exact aR rfl aF (aB.oR eB none) ⟨none,0,⟨aAf _,aAh _⟩,rfl,rfl⟩
 |some a =>
  repeat first|refine v_ ?_|intro
  rename_i B k h1 h2;exact jQ ⟨_,_,⟨h1,h2⟩,rfl,rfl⟩
theorem RV(l:List cQ)(hr:Rd E eG A n c l)(hl:n≤1000000):G E 232 [.slice A n c] [] λe H'=>∃B k,(n≤k∧k≤maxLen)∧e=.returned (.slice B n k)∧H'=[own eG B n k l]:=by
 refine t_ func232 ntmps232 ?_;cases A with
 |none =>
  obtain⟨rfl,rfl⟩:=hr.none;repeat first|refine v_ ?_|intro
  exact aR rfl aF (aB.oR eG none) ⟨none,0,⟨aAf _,aAh _⟩,rfl,rfl⟩
 |some a =>
  repeat first|refine v_ ?_|intro
  rename_i B k h1 h2;exact jQ ⟨_,_,⟨h1,h2⟩,rfl,rfl⟩
variable (B:Option Addr) (m d:Nat)
theorem Sp(l k:List aX)(hr:Rd E bE A n c l)(hs:Rd E bE B m d k):G E 80 [.slice A n c,.slice B m d] [] (cM (.bool (decide (l=k))) []):=by
 have hn:=hr.len;have hcap:=hr.cap;have hm:=hs.len;have hcap2:=hs.cap;have hmax:=fX;refine t_ func80 ntmps80 ?_;by_cases hnm:n=m
 ·repeat first|refine v_ ?_|intro
  refine C.scan (Y:=Unit) hn (λi _=>[(0,.slice A n c),(1,.slice B m d),(12,.int .i64 n),(13,.int .i64 i)]) (λ_ _=>[]) (λi _=>l.take i=k.take i) () aD aB.refl rfl ?_ ?_
  ·intro i _ x G hi hx hall;have hy:k[i]?=some k[i]:=aAa o_;generalize k[i]=y at hy;repeat first|refine v_ ?_|intro
   refine rA (l_ [0,1,2,3,4,5,6,7,8] .nil) ?_;repeat first|refine v_ ?_|intro
   by_cases hxy:x=y
   ·subst hxy;have hd:(!decide (x=x))=false:=by simp
    repeat first|refine v_ ?_|intro
    exact⟨(),aD,aB.refl,by rw[take_succ hx,take_succ hy,hall]⟩
   ·have hd:(!decide (x=y))=true:=by simp[hxy]
    repeat first|refine v_ ?_|intro
    exact aR rfl aF aA (⟨rJ (by rw[eq_comm,decide_eq_false_iff_not];rintro rfl;rw[hx] at hy;injection hy with hy;exact hxy hy),rfl⟩)
  ·intro _ G hall;repeat first|refine v_ ?_|intro
   exact aR rfl aF aA (⟨rJ (by rw[eq_comm,decide_eq_true_iff];rwa [hn,aAo,←hn,hnm,hm,aAo] at hall),rfl⟩)
 ·repeat first|refine v_ ?_|intro
  exact aR rfl aF aA (⟨rJ (by rw[eq_comm,decide_eq_false_iff_not];rintro rfl;omega),rfl⟩)
theorem SH(l k:List dK)(hr:Rd E cP A n c l)(hs:Rd E cP B m d k):G E 81 [.slice A n c,.slice B m d] [] (cM (.bool (decide (l=k))) []):=by
 have hn:=hr.len;have hcap:=hr.cap;have hm:=hs.len;have hcap2:=hs.cap;have hmax:=fX;refine t_ func81 ntmps81 ?_;by_cases hnm:n=m
 ·repeat first|refine v_ ?_|intro
  refine C.scan (Y:=Unit) hn (λi _=>[(0,.slice A n c),(1,.slice B m d),(12,.int .i64 n),(13,.int .i64 i)]) (λ_ _=>[]) (λi _=>l.take i=k.take i) () aD aB.refl rfl ?_ ?_
  ·intro i _ x G hi hx hall;have hy:k[i]?=some k[i]:=aAa o_;generalize k[i]=y at hy;repeat first|refine v_ ?_|intro
   refine rA (l_ [0,1,2,3,4,5,6,7,8] .nil) ?_;repeat first|refine v_ ?_|intro
   by_cases hxy:x=y
   ·subst hxy;have hd:(!decide (x=x))=false:=by simp
    repeat first|refine v_ ?_|intro
    exact⟨(),aD,aB.refl,by rw[take_succ hx,take_succ hy,hall]⟩
   ·have hd:(!decide (x=y))=true:=by simp[hxy]
    repeat first|refine v_ ?_|intro
    exact aR rfl aF aA (⟨rJ (by rw[eq_comm,decide_eq_false_iff_not];rintro rfl;rw[hx] at hy;injection hy with hy;exact hxy hy),rfl⟩)
  ·intro _ G hall;repeat first|refine v_ ?_|intro
   exact aR rfl aF aA (⟨rJ (by rw[eq_comm,decide_eq_true_iff];rwa [hn,aAo,←hn,hnm,hm,aAo] at hall),rfl⟩)
 ·repeat first|refine v_ ?_|intro
  exact aR rfl aF aA (⟨rJ (by rw[eq_comm,decide_eq_false_iff_not];rintro rfl;omega),rfl⟩)
end
structure V4 where
 a:Int
 b:Int
 c:Int
 d:Int
abbrev V4.cs(v:V4):List Value:=[.int .i64 v.a,.int .i64 v.b,.int .i64 v.c,.int .i64 v.d]
abbrev FR:V4:=⟨0,0,0,0⟩
def V4.get(v:V4)(i:Int):Int:=if i=0 then v.a else if i=1 then v.b else if i=2 then v.c else v.d
def V4.set(v:V4)(i x:Int):V4:=if i=0 then { v with a:=x } else if i=1 then { v with b:=x } else if i=2 then { v with c:=x } else { v with d:=x }
def V4.ok(v:V4):Prop:=(0≤v.a∧v.a<9223372036854775807)∧(0≤v.b∧v.b<9223372036854775807)∧(0≤v.c∧v.c<9223372036854775807)∧(0≤v.d∧v.d<9223372036854775807)
instance:Bg 98 [.int .i64 0,.int .i64 0,.int .i64 0,.int .i64 0]:=⟨q_⟩
theorem four{r:Int}(h:0≤r∧r≤3):r=0∨r=1∨r=2∨r=3:=o_
def vK(v:V4)(r:Int):bJ:=if 0≤r∧r≤3 then(if 65535≤v.get r then⟨0,0⟩ else⟨r,v.get r+1⟩) else⟨0,0⟩
theorem nY(E:Env)(v:V4)(r:Int)(hv:v.ok):G E 95 [.agg v.cs.toArray,.int .i64 r] [] (cM (.agg (vK v r).cs.toArray) []):=by
 unfold V4.ok at hv;unfold vK;refine t_ func95 ntmps95 ?_;by_cases h:0≤r∧r≤3
 ·rw[if_pos h];rcases four h with rfl|rfl|rfl|rfl
  ·rw[show v.get 0=v.a from rfl];by_cases hk:65535≤v.a
   ·rw[if_pos hk];repeat first|refine v_ ?_|intro
    exact Kz
   ·rw[if_neg hk];repeat first|refine v_ ?_|intro
    exact Kz
  ·rw[show v.get 1=v.b from rfl];by_cases hk:65535≤v.b
   ·rw[if_pos hk];repeat first|refine v_ ?_|intro
    exact Kz
   ·rw[if_neg hk];repeat first|refine v_ ?_|intro
    exact Kz
  ·rw[show v.get 2=v.c from rfl];by_cases hk:65535≤v.c
   ·rw[if_pos hk];repeat first|refine v_ ?_|intro
    exact Kz
   ·rw[if_neg hk];repeat first|refine v_ ?_|intro
    exact Kz
  ·rw[show v.get 3=v.d from rfl];by_cases hk:65535≤v.d
   ·rw[if_pos hk];repeat first|refine v_ ?_|intro
    exact Kz
   ·rw[if_neg hk];repeat first|refine v_ ?_|intro
    exact Kz
 ·rw[if_neg h];repeat first|refine v_ ?_|intro
  exact Kz
def yN(v:V4)(a:bJ):Bool:=decide ((0≤a.rep∧a.rep≤3)∧1≤a.seq∧a.seq≤v.get a.rep)
theorem Ok(E:Env)(v:V4)(r s:Int):G E 299 [.agg v.cs.toArray,.agg #[.int .i64 r,.int .i64 s]] [] (cM (.bool (yN v ⟨r,s⟩)) []):=by
 unfold yN;dsimp only;refine t_ func299 ntmps299 ?_;by_cases h:0≤r∧r≤3
 ·rcases four h with rfl|rfl|rfl|rfl
  ·rw[show v.get 0=v.a from rfl];by_cases hs:1≤s
   ·by_cases hk:s≤v.a
    ·repeat first|refine v_ ?_|intro
     refine rA (l_ [0,1] (g_ 2 (l_ [3,4,5,6,7,8,9,10,11,12,13,14,15,16,17] .nil))) ?_;repeat first|refine v_ ?_|intro
     exact aR rfl aF aA (⟨rJ,rfl⟩)
    ·repeat first|refine v_ ?_|intro
     refine rA (l_ [0,1] (g_ 2 (l_ [3,4,5,6,7,8,9,10,11,12,13,14,15,16,17] .nil))) ?_;repeat first|refine v_ ?_|intro
     exact aR rfl aF aA (⟨rJ,rfl⟩)
   ·repeat first|refine v_ ?_|intro
    refine rA (l_ [0,1] (g_ 2 (l_ [3,4,5,6,7,8,9,10,11,12,13,14,15,16,17] .nil))) ?_;repeat first|refine v_ ?_|intro
    exact aR rfl aF aA (⟨rJ,rfl⟩)
  ·rw[show v.get 1=v.b from rfl];by_cases hs:1≤s
   ·by_cases hk:s≤v.b
    ·repeat first|refine v_ ?_|intro
     refine rA (l_ [0,1] (g_ 2 (l_ [3,4,5,6,7,8,9,10,11,12,13,14,15,16,17] .nil))) ?_;repeat first|refine v_ ?_|intro
     exact aR rfl aF aA (⟨rJ,rfl⟩)
    ·repeat first|refine v_ ?_|intro
     refine rA (l_ [0,1] (g_ 2 (l_ [3,4,5,6,7,8,9,10,11,12,13,14,15,16,17] .nil))) ?_;repeat first|refine v_ ?_|intro
     exact aR rfl aF aA (⟨rJ,rfl⟩)
   ·repeat first|refine v_ ?_|intro
    refine rA (l_ [0,1] (g_ 2 (l_ [3,4,5,6,7,8,9,10,11,12,13,14,15,16,17] .nil))) ?_;repeat first|refine v_ ?_|intro
    exact aR rfl aF aA (⟨rJ,rfl⟩)
  ·rw[show v.get 2=v.c from rfl];by_cases hs:1≤s
   ·by_cases hk:s≤v.c
    ·repeat first|refine v_ ?_|intro
     refine rA (l_ [0,1] (g_ 2 (l_ [3,4,5,6,7,8,9,10,11,12,13,14,15,16,17] .nil))) ?_;repeat first|refine v_ ?_|intro
     exact aR rfl aF aA (⟨rJ,rfl⟩)
    ·repeat first|refine v_ ?_|intro
     refine rA (l_ [0,1] (g_ 2 (l_ [3,4,5,6,7,8,9,10,11,12,13,14,15,16,17] .nil))) ?_;repeat first|refine v_ ?_|intro
     exact aR rfl aF aA (⟨rJ,rfl⟩)
   ·repeat first|refine v_ ?_|intro
    refine rA (l_ [0,1] (g_ 2 (l_ [3,4,5,6,7,8,9,10,11,12,13,14,15,16,17] .nil))) ?_;repeat first|refine v_ ?_|intro
    exact aR rfl aF aA (⟨rJ,rfl⟩)
  ·rw[show v.get 3=v.d from rfl];by_cases hs:1≤s
   ·by_cases hk:s≤v.d
    ·repeat first|refine v_ ?_|intro
     refine rA (l_ [0,1] (g_ 2 (l_ [3,4,5,6,7,8,9,10,11,12,13,14,15,16,17] .nil))) ?_;repeat first|refine v_ ?_|intro
     exact aR rfl aF aA (⟨rJ,rfl⟩)
    ·repeat first|refine v_ ?_|intro
     refine rA (l_ [0,1] (g_ 2 (l_ [3,4,5,6,7,8,9,10,11,12,13,14,15,16,17] .nil))) ?_;repeat first|refine v_ ?_|intro
     exact aR rfl aF aA (⟨rJ,rfl⟩)
   ·repeat first|refine v_ ?_|intro
    refine rA (l_ [0,1] (g_ 2 (l_ [3,4,5,6,7,8,9,10,11,12,13,14,15,16,17] .nil))) ?_;repeat first|refine v_ ?_|intro
    exact aR rfl aF aA (⟨rJ,rfl⟩)
 ·repeat first|refine v_ ?_|intro
  refine rA (l_ [0,1] (g_ 2 (l_ [3,4,5,6,7,8,9,10,11,12,13,14,15,16,17] .nil))) ?_;repeat first|refine v_ ?_|intro
  exact aR rfl aF aA (⟨rJ,rfl⟩)
instance {v:V4}{r s:Int}:vZ 299 [.agg #[.int .i64 v.a,.int .i64 v.b,.int .i64 v.c,.int .i64 v.d],.agg #[.int .i64 r,.int .i64 s]] (.bool (yN v ⟨r,s⟩)):=⟨λE=>Ok E v r s⟩
def Tu(v:V4)(c:aX):V4:=if 0≤c.id.rep∧c.id.rep≤3 then v.set c.id.rep (max (v.get c.id.rep) c.id.seq) else v
def L0(l:List aX):V4:=l.foldl Tu FR
theorem RJ(E:Env)(A:Option Addr)(n c:Nat)(l:List aX)(hr:Rd E bE A n c l):G E 158 [.slice A n c] [] (cM (.agg (L0 l).cs.toArray) []):=by
 have hn:=hr.len;have hcap:=hr.cap;have hmax:=fX;refine t_ func158 ntmps158 ?_;repeat first|refine v_ ?_|intro
 rename_i g2 g3;refine C.scan (Y:=V4) hn (λi _=>[(0,.slice A n c),(2,.pointer (some ⟨g2,0,none⟩)),(3,.pointer (some ⟨g3,0,none⟩)),(7,.slice A n c),(8,.int .i64 n),(9,.int .i64 i)]) (λ_ v=>[aJ g2 98 FR.cs,aJ g3 98 v.cs]) (λi v=>v=(l.take i).foldl Tu FR) FR aD aA rfl ?_ ?_
 ·intro i v x G hi hx hv;have hf:=iX (f:=Tu) (z:=FR) hx;rw[←hv] at hf;by_cases h:0≤x.id.rep∧x.id.rep≤3
  ·rw[Tu,if_pos h] at hf;rcases four h with h|h|h|h
   ·rw[h] at hf;change _=(⟨max v.a x.id.seq,v.b,v.c,v.d⟩:V4) at hf;repeat first|refine v_ ?_|intro
    rw[h];repeat first|refine v_ ?_|intro
    refine C.bL 9 (l_ [0,1,2,3,4,5,6,7,8] (g_ 9 .nil)) _ q_ q_ aB.refl ?_;repeat first|refine v_ ?_|intro
    exact⟨⟨_,_,_,_⟩,aD,aA,hf.symm⟩
   ·rw[h] at hf;change _=(⟨v.a,max v.b x.id.seq,v.c,v.d⟩:V4) at hf;repeat first|refine v_ ?_|intro
    rw[h];repeat first|refine v_ ?_|intro
    refine C.bL 9 (l_ [0,1,2,3,4,5,6,7,8] (g_ 9 .nil)) _ q_ q_ aB.refl ?_;repeat first|refine v_ ?_|intro
    exact⟨⟨_,_,_,_⟩,aD,aA,hf.symm⟩
   ·rw[h] at hf;change _=(⟨v.a,v.b,max v.c x.id.seq,v.d⟩:V4) at hf;repeat first|refine v_ ?_|intro
    rw[h];repeat first|refine v_ ?_|intro
    refine C.bL 9 (l_ [0,1,2,3,4,5,6,7,8] (g_ 9 .nil)) _ q_ q_ aB.refl ?_;repeat first|refine v_ ?_|intro
    exact⟨⟨_,_,_,_⟩,aD,aA,hf.symm⟩
   ·rw[h] at hf;change _=(⟨v.a,v.b,v.c,max v.d x.id.seq⟩:V4) at hf;repeat first|refine v_ ?_|intro
    rw[h];repeat first|refine v_ ?_|intro
    refine C.bL 9 (l_ [0,1,2,3,4,5,6,7,8] (g_ 9 .nil)) _ q_ q_ aB.refl ?_;repeat first|refine v_ ?_|intro
    exact⟨⟨_,_,_,_⟩,aD,aA,hf.symm⟩
  ·rw[Tu,if_neg h] at hf;repeat first|refine v_ ?_|intro
   exact⟨v,aD,aA,hf.symm⟩
 ·intro v G hv;rw[hn,aAo] at hv;change v=L0 l at hv;subst hv;repeat first|refine v_ ?_|intro
  exact Kz
theorem Mc(E:Env)(v:V4)(A:Option Addr)(n c:Nat)(l:List aX)(hr:Rd E bE A n c l)(hn9:n≤100000):G E 253 [.agg v.cs.toArray,.slice A n c] [] λe H'=>∃B k d,k≤n∧e=.returned (.slice B k d)∧H'=[own bE B k d (l.filter λx => !yN v x.id)]:=by
 have hn:=hr.len;have hcap:=hr.cap;have hmax:=fX;refine t_ func253 ntmps253 ?_;repeat first|refine v_ ?_|intro
 rename_i g2;refine C.scan (Y:=Hd) hn (λi s=>[(1,.slice A n c),(2,.pointer (some ⟨g2,0,none⟩)),(4,.slice none 0 0),(5,.slice s.A s.n s.c),(8,.slice A n c),(9,.int .i64 n),(10,.int .i64 i)]) (λi s=>[own bE s.A s.n s.c ((l.take i).filter λx => !yN v x.id),aJ g2 98 v.cs]) (λi s=>s.n≤i) ⟨none,0,0⟩ aD (aB.oR bE none) (aAf _) ?_ ?_
 ·rintro i ⟨B,k,d⟩ x G hi hx hk;dsimp only at hk⊢;have ht:=take_succ hx;cases hh:yN v x.id with
  |true =>
   have hb:(!yN v x.id)=false:=by rw[hh];rfl
   have hf:(l.take (i+1)).filter (λx => !yN v x.id)=(l.take i).filter λx => !yN v x.id:=by rw[ht,List.filter_append];simp[hh]
   repeat first|refine v_ ?_|intro
   exact⟨⟨B,k,d⟩,aD,by dsimp only;rw[hf];exact aA,by show k≤i+1;omega⟩
  |false =>
   have hb:(!yN v x.id)=true:=by rw[hh];rfl
   have hf:(l.take (i+1)).filter (λx => !yN v x.id)=(l.take i).filter (λx => !yN v x.id)++[x]:=by rw[ht,List.filter_append];simp[hh]
   repeat first|refine v_ ?_|intro
   rename_i B' d' h1 h2;exact⟨⟨B',k+1,d'⟩,aD,by dsimp only;rw[hf];exact aA,by show k+1≤i+1;omega⟩
 ·rintro⟨B,k,d⟩ G hk;dsimp only at hk⊢;rw[hn,aAo,←hn];repeat first|refine v_ ?_|intro
  exact jQ ⟨B,k,d,hk,rfl,rfl⟩
def iP(a b:aX):Int:=DC [sX a.time b.time,sX a.id.rep b.id.rep,sX a.id.seq b.id.seq]
theorem JB(E:Env)(x y:aX):G E 382 [.agg x.cs.toArray,.agg y.cs.toArray] [] (cM (.int .i64 (iP x y)) []):=by
 refine t_ func382 ntmps382 ?_;repeat first|refine v_ ?_|intro
 refine rA (l_ [0,1,2,3,5,6,7,8,9,10,12,13,14,15,16,17] (g_ 4 (g_ 11 (g_ 18 (g_ 19 (g_ 20 (n_ 21 .nil))))))) ?_;repeat first|refine v_ ?_|intro
 exact B7
theorem Dm(E:Env)(x y:aX):G E 372 [.agg x.cs.toArray,.agg y.cs.toArray] [] (cM (.bool (decide (iP x y<0))) []):=by
 refine t_ func372 ntmps372 ?_;repeat first|refine v_ ?_|intro
 refine bK (λM=>JB M x y) ?_;repeat first|refine v_ ?_|intro
 exact B7
def bI(l:List aX)(a:bJ):Int:=place (λc=>decide (c.id=a)) l
theorem VS(E:Env)(g:Nat)(a:bJ)(h:gE E g a.cs)(x:aX):G E 231 [.agg x.cs.toArray,.pointer (some ⟨g,0,none⟩)] [] (cM (.bool (decide (x.id=a))) []):=by
 refine t_ func231 ntmps231 ?_;repeat first|refine v_ ?_|intro
 exact B7
theorem M0(E:Env)(A:Option Addr)(n c:Nat)(l:List aX)(hr:Rd E bE A n c l)(r s:Int):G E 172 [.slice A n c,.agg #[.int .i64 r,.int .i64 s]] [] (cM (.int .i64 (bI l ⟨r,s⟩)) []):=by
 refine t_ func172 ntmps172 ?_;repeat first|refine v_ ?_|intro
 rename_i g;refine cl sD sK aC (λM hE=>KM M A n c l dB 231 [_] _ sK λE2 R2 hE2 x=>VS E2 g ⟨r,s⟩ ((gE.of hE aS).sub hE2) x) ?_;rintro r H' ⟨rfl,rfl⟩;repeat first|refine v_ ?_|intro
 exact B7
instance {A:Option Addr}{n c:Nat}{r s:Int}:Us 172 [.slice A n c,.agg #[.int .i64 r,.int .i64 s]] aX bE A n c (λl=>.int .i64 (bI l ⟨r,s⟩)):=⟨λE l h=>M0 E A n c l h r s⟩
def Ti:Ty (Sl aX) where
 val x:=.slice x.A x.n x.c
 size:=1
 bytes:=24
 tid:=24
 zero:=.slice none 0 0
 hlen _:=rfl
 lJ a u h:=by simp[Value.cells] at h;subst h;rfl
 gL:=sD
 hzero:=rfl
 fW:=q_
 nR:=.inr ⟨q_,λ_=>rfl⟩
instance:KL 24 aX bE Ti:=⟨rfl,λ_=>rfl⟩
theorem Ml(E:Env)(m:Nat)(hm:m≤1000000):G E 216 [.slice none 0 0,.int .i64 m] [] λe H'=>∃B d,d≤maxLen∧e=.returned (.slice B 0 d)∧H'=[own bE B 0 d []]:=by
 have hnil:Rd E bE none 0 0 []:=Rd.nil _ _;have h0m:0≤maxLen:=sD;refine t_ func216 ntmps216 ?_;by_cases h:m=0
 ·subst h;repeat first|refine v_ ?_|intro
  exact aR rfl aF (aB.oR bE none) ⟨_,_,h0m,rfl,rfl⟩
 ·repeat first|refine v_ ?_|intro
  exact aR rfl aF (aB.FF (k:=0) (aAh _) dT.aN) ⟨_,_,by assumption,rfl,rfl⟩
theorem zJ(E:Env)(A:Option Addr)(n c:Nat)(ss:List (Sl aX))(hr:Rd E Ti A n c ss)(hs:∀s∈ss,Rd E bE s.A s.n s.c s.l)(hm:(ss.flatMap (·.l)).length≤100000):G E 159 [.slice A n c] [] λe H'=>∃B d,((ss.flatMap (·.l)).length≤d∧d≤maxLen)∧e=.returned (.slice B (ss.flatMap (·.l)).length d)∧H'=[own bE B (ss.flatMap (·.l)).length d (ss.flatMap (·.l))]:=by
 have hn:=hr.len;have hcap:=hr.cap;have hmax:=fX;have hstep:∀ {i:Nat} {x:Sl aX},ss[i]?=some x→(ss.take (i+1)).flatMap (·.l)=(ss.take i).flatMap (·.l)++x.l∧((ss.take i).flatMap (·.l)).length+x.n≤100000∧((ss.take (i+1)).flatMap (·.l)).length=((ss.take i).flatMap (·.l)).length+x.n:=by
  intro i x hx;have e:(ss.take (i+1)).flatMap (·.l)=(ss.take i).flatMap (·.l)++x.l:=by rw[take_succ hx,aDz];simp
  have e2:((ss.take (i+1)).flatMap (·.l)).length=((ss.take i).flatMap (·.l)).length+x.n:=by
   rw[e,aAe,(hs x (aAi hx)).len]
  refine⟨e,?_,e2⟩;have h3:ss=ss.take (i+1)++ss.drop (i+1):=(aAx _ _).symm;have h4:(ss.flatMap (·.l)).length=((ss.take (i+1)).flatMap (·.l)).length+((ss.drop (i+1)).flatMap (·.l)).length:=by
   conv=>lhs;rw[h3,aDz,aAe]
  omega
 refine t_ func159 ntmps159 ?_;repeat ((fail_if_success (refine C.seq (x:=Code.region 2 _ _) ?_));first|refine Cx ?_|refine k_ ?_|intro _|refine Dr.two ?_ ?_)
 refine C.BI (X:=Unit) (λ_=>[(0,.slice A n c),(2,.slice none 0 0),(3,.int .i64 (ss.flatMap (·.l)).length)]) (λ_=>[]) (λ_=>True) ?_ ?_
 ·repeat first|refine v_ ?_|intro
  refine C.scan (Y:=Unit) hn (λi _=>[(0,.slice A n c),(2,.slice none 0 0),(3,.int .i64 ((ss.take i).flatMap (·.l)).length),(9,.slice A n c),(10,.int .i64 n),(11,.int .i64 i)]) (λ_ _=>[]) (λ_ _=>True) () aD aB.refl trivial ?_ ?_
  ·intro i _ x G hi hx _;obtain⟨h1,h2,h3⟩:=hstep hx;have hx2:=hs x (aAi hx);repeat first|refine v_ ?_|intro
   refine⟨(),?_,aB.refl,trivial⟩;rw[h3];exact aD
  ·intro _ G _;rw[hn,aAo,←hn];repeat first|refine v_ ?_|intro
   exact⟨(),aD,aB.refl,trivial⟩
 intro _ G _;generalize hk:(ss.flatMap (·.l)).length=k at hm⊢;repeat first|refine v_ ?_|intro
 refine bW (λM=>Ml M k (by omega)) ?_;rintro e H' ⟨B,d,hd,rfl,rfl⟩;repeat first|refine v_ ?_|intro
 refine C.scan (Y:=Hd) hn (λi s=>[(0,.slice A n c),(2,.slice none 0 0),(6,.slice s.A s.n s.c),(25,.slice A n c),(26,.int .i64 n),(27,.int .i64 i)]) (λi s=>[own bE s.A s.n s.c ((ss.take i).flatMap (·.l))]) (λi s=>s.n=((ss.take i).flatMap (·.l)).length∧s.n≤s.c∧s.c≤maxLen) ⟨B,0,d⟩ aD aB.refl ⟨rfl,aAh _,hd⟩ ?_ ?_
 ·rintro i ⟨B,m,d⟩ x G hi hx ⟨hm2,hd⟩;dsimp only at hm2 hd⊢;obtain⟨h1,h2,h3⟩:=hstep hx;have hx2:=hs x (aAi hx);repeat first|refine v_ ?_|intro
  rename_i B' d' g1 g2;exact⟨⟨B',m+x.n,d'⟩,aD,by dsimp only;rw[h1];exact aA,by dsimp only;omega,g1,g2⟩
 ·rintro⟨B,m,d⟩ G ⟨hm2,hd⟩;dsimp only at hm2 hd⊢;rw[hn,aAo,←hn] at *;obtain rfl:m=k:=o_;repeat first|refine v_ ?_|intro
  exact jQ ⟨_,_,hd,rfl,rfl⟩
def T7:Ty (Sl dD) where
 val x:=.slice x.A x.n x.c
 size:=1
 bytes:=24
 tid:=43
 zero:=.slice none 0 0
 hlen _:=rfl
 lJ a u h:=by simp[Value.cells] at h;subst h;rfl
 gL:=sD
 hzero:=rfl
 fW:=q_
 nR:=.inr ⟨q_,λ_=>rfl⟩
instance:KL 43 dD eB T7:=⟨rfl,λ_=>rfl⟩
theorem L9(E:Env)(m:Nat)(hm:m≤1000000):G E 391 [.slice none 0 0,.int .i64 m] [] λe H'=>∃B d,d≤maxLen∧e=.returned (.slice B 0 d)∧H'=[own eB B 0 d []]:=by
 have hnil:Rd E eB none 0 0 []:=Rd.nil _ _;have h0m:0≤maxLen:=sD;refine t_ func391 ntmps391 ?_;by_cases h:m=0
 ·subst h;repeat first|refine v_ ?_|intro
  exact aR rfl aF (aB.oR eB none) ⟨_,_,h0m,rfl,rfl⟩
 ·repeat first|refine v_ ?_|intro
  exact aR rfl aF (aB.FF (k:=0) (aAh _) dT.aN) ⟨_,_,by assumption,rfl,rfl⟩
theorem PK(E:Env)(A:Option Addr)(n c:Nat)(ss:List (Sl dD))(hr:Rd E T7 A n c ss)(hs:∀s∈ss,Rd E eB s.A s.n s.c s.l)(hm:(ss.flatMap (·.l)).length≤100000):G E 386 [.slice A n c] [] λe H'=>∃B d,((ss.flatMap (·.l)).length≤d∧d≤maxLen)∧e=.returned (.slice B (ss.flatMap (·.l)).length d)∧H'=[own eB B (ss.flatMap (·.l)).length d (ss.flatMap (·.l))]:=by
 have hn:=hr.len;have hcap:=hr.cap;have hmax:=fX;have hstep:∀ {i:Nat} {x:Sl dD},ss[i]?=some x→(ss.take (i+1)).flatMap (·.l)=(ss.take i).flatMap (·.l)++x.l∧((ss.take i).flatMap (·.l)).length+x.n≤100000∧((ss.take (i+1)).flatMap (·.l)).length=((ss.take i).flatMap (·.l)).length+x.n:=by
  intro i x hx;have e:(ss.take (i+1)).flatMap (·.l)=(ss.take i).flatMap (·.l)++x.l:=by rw[take_succ hx,aDz];simp
  have e2:((ss.take (i+1)).flatMap (·.l)).length=((ss.take i).flatMap (·.l)).length+x.n:=by
   rw[e,aAe,(hs x (aAi hx)).len]
  refine⟨e,?_,e2⟩;have h3:ss=ss.take (i+1)++ss.drop (i+1):=(aAx _ _).symm;have h4:(ss.flatMap (·.l)).length=((ss.take (i+1)).flatMap (·.l)).length+((ss.drop (i+1)).flatMap (·.l)).length:=by
   conv=>lhs;rw[h3,aDz,aAe]
  omega
 refine t_ func386 ntmps386 ?_;repeat ((fail_if_success (refine C.seq (x:=Code.region 2 _ _) ?_));first|refine Cx ?_|refine k_ ?_|intro _|refine Dr.two ?_ ?_)
 refine C.BI (X:=Unit) (λ_=>[(0,.slice A n c),(2,.slice none 0 0),(3,.int .i64 (ss.flatMap (·.l)).length)]) (λ_=>[]) (λ_=>True) ?_ ?_
 ·repeat first|refine v_ ?_|intro
  refine C.scan (Y:=Unit) hn (λi _=>[(0,.slice A n c),(2,.slice none 0 0),(3,.int .i64 ((ss.take i).flatMap (·.l)).length),(9,.slice A n c),(10,.int .i64 n),(11,.int .i64 i)]) (λ_ _=>[]) (λ_ _=>True) () aD aB.refl trivial ?_ ?_
  ·intro i _ x G hi hx _;obtain⟨h1,h2,h3⟩:=hstep hx;have hx2:=hs x (aAi hx);repeat first|refine v_ ?_|intro
   refine⟨(),?_,aB.refl,trivial⟩;rw[h3];exact aD
  ·intro _ G _;rw[hn,aAo,←hn];repeat first|refine v_ ?_|intro
   exact⟨(),aD,aB.refl,trivial⟩
 intro _ G _;generalize hk:(ss.flatMap (·.l)).length=k at hm⊢;repeat first|refine v_ ?_|intro
 refine bW (λM=>L9 M k (by omega)) ?_;rintro e H' ⟨B,d,hd,rfl,rfl⟩;repeat first|refine v_ ?_|intro
 refine C.scan (Y:=Hd) hn (λi s=>[(0,.slice A n c),(2,.slice none 0 0),(6,.slice s.A s.n s.c),(25,.slice A n c),(26,.int .i64 n),(27,.int .i64 i)]) (λi s=>[own eB s.A s.n s.c ((ss.take i).flatMap (·.l))]) (λi s=>s.n=((ss.take i).flatMap (·.l)).length∧s.n≤s.c∧s.c≤maxLen) ⟨B,0,d⟩ aD aB.refl ⟨rfl,aAh _,hd⟩ ?_ ?_
 ·rintro i ⟨B,m,d⟩ x G hi hx ⟨hm2,hd⟩;dsimp only at hm2 hd⊢;obtain⟨h1,h2,h3⟩:=hstep hx;have hx2:=hs x (aAi hx);repeat first|refine v_ ?_|intro
  rename_i B' d' g1 g2;exact⟨⟨B',m+x.n,d'⟩,aD,by dsimp only;rw[h1];exact aA,by dsimp only;omega,g1,g2⟩
 ·rintro⟨B,m,d⟩ G ⟨hm2,hd⟩;dsimp only at hm2 hd⊢;rw[hn,aAo,←hn] at *;obtain rfl:m=k:=o_;repeat first|refine v_ ?_|intro
  exact jQ ⟨_,_,hd,rfl,rfl⟩
def mD(l:List aX)(i:Int):List aX:=if 0≤i∧i<l.length then l.take i.toNat++l.drop (i.toNat+1) else l
theorem GD(E:Env)(A:Option Addr)(n c:Nat)(l:List aX)(i:Int)(hr:Rd E bE A n c l)(hm:n≤100000):G E 346 [.slice A n c,.int .i64 i] [] λe H'=>∃B d,((mD l i).length≤d∧d≤maxLen)∧e=.returned (.slice B (mD l i).length d)∧H'=[own bE B (mD l i).length d (mD l i)]:=by
 have hn:=hr.len;have hcap:=hr.cap;have hmax:=fX;unfold mD;refine t_ func346 ntmps346 ?_;by_cases h:0≤i∧i<n
 ·rw[if_pos o_];obtain⟨j,rfl⟩:=aCf h.1;rw[aAu];have h1:Rd E bE A j c (l.take j):=hr.upto o_ o_ (aAf _);have h2:=hr.from_ (k:=j+1) o_;have ha:IntKind.i64.wrap ((j:Int)+1)=((j+1:Nat):Int):=by rw[aAq _ o_];omega
  have e:[(⟨A,j,c,l.take j⟩:Sl aX),⟨if c=j+1 then A else A.map (·.add ((j+1)*bE.size)),n - (j+1),c - (j+1),l.drop (j+1)⟩].flatMap (·.l)=l.take j++l.drop (j+1):=by simp
  repeat first|refine v_ ?_|intro
  refine rA (l_ [0,1,2,3,4,5,6] (g_ 7 (g_ 8 (n_ 9 .nil)))) ?_;repeat first|refine v_ ?_|intro
  refine cg rfl sD bA sK aC (λM hE=>zJ M _ _ _ _ dB (by intro s hs;simp at hs;rcases hs with rfl|rfl;exact h1.sub hE;exact h2.sub hE) (by rw[e,aAe,aAg,aBd];omega)) ?_;rw[e];rintro r H' ⟨B,d,hd,rfl,rfl⟩;repeat first|refine v_ ?_|intro
  exact jQ ⟨_,_,hd,rfl,rfl⟩
 ·rw[if_neg o_];have hb:i<0∨n≤i:=o_;rcases hb with hb|hb
  ·repeat first|refine v_ ?_|intro
   refine dX (λM h1=>xN M A n c l h1 (by omega)) ?_;rw[hn];rintro r H' ⟨B,d,hd,rfl,rfl⟩;repeat first|refine v_ ?_|intro
   exact jQ ⟨_,_,hd,rfl,rfl⟩
  ·have h0:¬i<0:=o_;repeat first|refine v_ ?_|intro
   refine dX (λM h1=>xN M A n c l h1 (by omega)) ?_;rw[hn];rintro r H' ⟨B,d,hd,rfl,rfl⟩;repeat first|refine v_ ?_|intro
   exact jQ ⟨_,_,hd,rfl,rfl⟩
end Go.Proofs.YtmilalkjbojciaaGreat.Sep
namespace Go.Proofs.YtmilalkjbojciaaGreat.Sep
open Go.RowKit Mem Reg
abbrev fz(r:Option Nat):Fence:={ Fence.wide with round:=r }
theorem wS{r:Option Nat}{n:Nat}{P:Program}{f:FuncId}{args:Array Value}{w:World}{R:Ending→World→Prop}(h:Calls P f args w R):CallsIn (fz r) n P f args w R:=(callsIn_wide (n:=n)).2 h
theorem qC{n:Nat}{P:Program}{f:FuncId}{args:Array Value}{w:World}{R:Ending→World→Prop}(h:CallsIn (fz none) n P f args w R):Calls P f args w R:=(callsIn_wide (n:=n)).1 h
theorem LH{r:Option Nat}{n:Nat}{P:Program}{row:String}{args:Array Value}{w:World}{R:Value→World→Prop}(h:Rows P row args w R):RowsIn (fz r) n P row args w R :=
 λc cs _=>let ⟨v,w',h1,h2⟩:=h c cs;⟨v,w',h1,stepsIn_wide.2 h2⟩
theorem Cs{r:Option Nat}{n:Nat}{P:Program}{o:Oper}{a:Act}{w:World}{K:Act→World→Prop}{Q:Exit→Act→World→Prop}(hd:∀c,o.op≠.defer c)(h:o.wp P a w K Q):o.wpIn (fz r) n P a w K Q:=by
 refine⟨λ_ _=>trivial,?_⟩;have hs:o.semAt (fz r).round a.eval=execOp a.eval o:=by
  cases r with
  |none=>rfl
  |some l=>exact Oper.semAt_some l _ _ hd
 rw[hs];unfold Oper.wp at h;have hdep:∀(p:Prop),((fz r).depth.isSome=true→p):=λp hh=>by cases hh
 generalize (execOp a.eval o).run P w=res at h⊢;cases res with
 |ok x w' =>
  cases x with
  |value v=>exact h
  |skip=>exact h
  |defer d=>exact h
  |enter f args=>exact⟨hdep _,(wS h).mono λe w'' hq=>by cases e<;>exact hq⟩
  |row row args=>exact⟨hdep _,LH h⟩
  |round=>exact h.elim
  |_=>exact h.elim
 |halt e w'=>cases e<;>first|exact h|exact h.elim
structure CI(r:Option Nat)(P:Program)(N:Nat)(E:Env)(c:Code)(Q:QF)(F:Nat→Value)(H:List aL):Prop where
 get:∀a w,qX E N F a→St E H w→c.wpIn (fz r) 0 P (lift N E Q) a w
structure LI(r:Option Nat)(P:Program)(N:Nat)(E:Env)(ops:List Oper)(Q:QF)(l:List Oper)(F:Nat→Value)(H:List aL):Prop where
 get:∀a w,qX E N F a→St E H w→wpListIn (fz r) 0 P ops.toArray (lift N E Q) l a w
section
variable {r:Option Nat} {P:Program} {N:Nat} {E:Env} {Q:QF} {F:Nat→Value} {H H' R:List aL}
theorem LI.nil{ops:List Oper}(h:Q .normal F H):LI r P N E ops Q [] F H:=⟨λ_ _ ha hw=>⟨F,H,ha,hw,h⟩⟩
theorem LI.fQ{ops rest:List Oper}{d:Nat}{op:Op}{ty:TypeId}{pos:String}{af:Array Edge}{K:Value→List aL→Prop}(hd:d<N)(hdf:∀c,op≠.defer c)
  (h:gK P N E F H ⟨some d,op,ty,pos,af,none⟩ K) (hk:∀v H',K v H'→LI r P N E ops Q rest (pT F d v) H'):LI r P N E ops Q (⟨some d,op,ty,pos,af,none⟩::rest) F H:=by
 refine⟨λa w ha hw=>?_⟩;refine wpListIn_plain rfl λK' hK=>?_;exact Cs hdf (h a w ha hw _ _ λv H' u' hq hu'=>hK _ _ ((hk v H' hq).get _ u' (ha.put hd v) hu'))
theorem CI.seq{x y:Code}(h:CI r P N E x (oQ (λF H=>CI r P N E y Q F H) Q) F H):CI r P N E (.seq x y) Q F H:=by
 refine⟨λa w ha hw=>wpIn_seq (wpIn_mono (h.get a w ha hw) ?_)⟩;intro e a w hq;cases e with
 |normal=>obtain⟨F,H,h1,h2,h3⟩:=hq;exact CI.get h3 a w h1 h2
 |ret=>exact hq
 |exit id=>exact hq
 |panic c=>exact hq
 |_=>exact hq.elim
theorem CI.block{id:Nat}{c:Code}(h:CI r P N E c (Tg id Q) F H):CI r P N E (.block id c) Q F H:=by
 refine⟨λa w ha hw=>wpIn_block (wpIn_mono (h.get a w ha hw) ?_)⟩;intro e a w hq;cases e with
 |exit id' =>
  obtain⟨F,H,h1,h2,h3⟩:=hq;simp only[Exit.inBlock,Tg] at *;split at h3
  ·rw[if_pos ‹_›];exact⟨F,H,h1,h2,h3⟩
  ·rw[if_neg ‹_›];exact⟨F,H,h1,h2,h3⟩
 |normal=>exact hq
 |ret=>exact hq
 |panic c=>exact hq
 |_=>exact hq.elim
theorem CI.exit{id:Nat}(h:Q (.exit id) F H):CI r P N E (.exit id) Q F H:=⟨λ_ _ ha hw=>wpIn_exit ⟨F,H,ha,hw,h⟩⟩
theorem CI.skip(h:Q .normal F H):CI r P N E .skip Q F H:=⟨λ_ _ ha hw=>wpIn_skip ⟨F,H,ha,hw,h⟩⟩
theorem CI.ret(h:Q .ret F H):CI r P N E .ret Q F H:=⟨λ_ _ ha hw=>wpIn_ret ⟨F,H,ha,hw,h⟩⟩
theorem CI.cond{c:Operand}{x y:Code}{b:Bool}(hc:ev F c=.bool b)(hx:b=true→CI r P N E x Q F H)(hy:b=false→CI r P N E y Q F H):CI r P N E (.cond c x y) Q F H :=
 ⟨λa w ha hw=>wpIn_cond_split (by rw[ha.eval];exact hc) (λh=>(hx h).get a w ha hw) (λh=>(hy h).get a w ha hw)⟩
theorem CI.region{id:Nat}{l:List Oper}(h:LI r P N E l Q l F H):CI r P N E (.region id l.toArray false) Q F H:=⟨λa w ha hw=>wpIn_region_lit (h.get a w ha hw)⟩
theorem CI.loop{c:Code}{X:Type}(S:X→List (Nat×Value))(HX:X→List aL)(R:X→Prop)(μ:X→Nat)(x0:X)(hF:nH F (S x0))(hH:aB E H (HX x0))(h0:R x0)
  (round:∀x G,R x→CI r P N E c (oQ (λF' H'=>∃x',nH F' (S x')∧aB E H' (HX x')∧R x'∧μ x'<μ x) Q) (OQ (S x) G) (HX x)):CI r P N E (.loop c) Q F H:=by
 refine⟨λa w ha hw=>?_⟩
 let p:Act→World→Nat→Prop:=λa w m=>∃x F,qX E N F a∧nH F (S x)∧St E (HX x) w∧R x∧μ x=m
 refine wpIn_loop (λa w=>∃m,p a w m) (λa w=>low (p a w)) ⟨_,x0,F,ha,hF,hH w hw,h0,rfl⟩ ?_;intro a w hI;obtain⟨⟨x,F,hr,hS,hw,hR,hx⟩,_⟩:=yD hI;have h:=round x F hR;rw[oH hS] at h;refine wpIn_mono (h.get a w hr hw) ?_;intro e a' w' hq;cases e with
 |normal =>
  obtain⟨F',H',h1,h2,x',h3,h4,h5,h6⟩:=hq;have hp:p a' w' (μ x'):=⟨x',F',h1,h3,h4 w' h2,h5,rfl⟩
  refine⟨⟨_,hp⟩,?_⟩;refine Nat.lt_of_le_of_lt ((yD (p:=p a' w') ⟨_,hp⟩).2 _ hp) ?_;rw[←hx];exact h6
 |ret=>exact hq
 |exit id=>exact hq
 |panic c=>exact hq
 |_=>exact hq.elim
theorem X8{f:FuncId}{fn:Func}{c:Code}{args:Array Value}{W:Ending→List aL→Prop}(hf:P.funcs[f]?=some fn)(hb:fn.body=some c)(hn:fn.ntmps=N)(ha:args.size≤N)
  (h:CI none P N E c (gF P E fn W) (Jr args) H):aK P E f args H W:=by
 intro hds w hw;refine qC (n:=0) (callsIn_of_wp hf hb trivial ?_);have hr:qX E N (Jr args) { tmps:=args++Array.replicate (fn.ntmps - args.size) undef,defers:=[] }:=by
  refine⟨hds.symm,by simp;omega,λi=>?_⟩;simp only[Jr,Fl,aBb,aEe,aBy,aEo,aDt];split
  ·rfl
  ·rename_i h;rw[aCu o_];split<;>rfl
 refine wpIn_mono (h.get _ w hr hw) ?_;intro e a w hq;cases e with
 |normal=>obtain⟨F,H,hr,hw,v,H',h1,h2,h3⟩:=hq;exact⟨hr.defers.trans hds,v,by rw[pV hr];exact h1 w hw,H',h2 w hw,h3⟩
 |ret=>obtain⟨F,H,hr,hw,v,H',h1,h2,h3⟩:=hq;exact⟨hr.defers.trans hds,v,by rw[pV hr];exact h1 w hw,H',h2 w hw,h3⟩
 |exit id=>obtain⟨_,_,_,_,h⟩:=hq;exact h.elim
 |panic c=>obtain⟨h0,H,h2,h3⟩:=hq;exact⟨h0.trans hds,H,h2,h3⟩
 |_=>exact hq.elim
def Ps(P:Program)(E:Env)(l:Nat)(vs:List Value)(H:List aL)(Q:Ending→List aL→Prop):Prop :=
 E.ds=[]→∀w,St E H w→∃f tmps assign body,(Instr.yield l vs.toArray).run P w=.ok (.round l f tmps assign body) w∧RoundIn (fz none) 0 P l f tmps assign body w λe w'=>∃H',St E H' w'∧Q e H'
theorem LI.yield{ops rest:List Oper}{l:Nat}{x:Operand}{xs:List Operand}{tys:Array TypeId}{vs:List Value}{Hp:List aL}{Q1:Ending→List aL→Prop}{d:Nat}{ty:TypeId}{pos:String}{af:Array Edge}
  (hd:d<N) (hx:ev F x=.func (.yield l) #[] #[]) (hv:KV F xs vs) (hp:cS Hp H R) (law:∀M,Sub E R M→Ps P M l vs Hp Q1)
  (hQ:∀e H',Q1 e H'→∃v,e=.returned v∧∃H2,wK H' R H2∧LI none P N E ops Q rest (pT F d v) H2) :
  LI none P N E ops Q (⟨some d,.call { callee:=.value x,args:=xs.toArray,argTypes:=tys },ty,pos,af,none⟩::rest) F H:=by
 refine⟨λa u ha hu=>?_⟩;refine wpListIn_plain rfl λK' hK=>?_;refine⟨λ_ _=>trivial,?_⟩;obtain⟨M,hds,hE,hst,hback⟩:=(hu.aV hp).enter;obtain⟨f,tmps,assign,body,hy,hround⟩:=law M hE hds u hst;have hr:(Oper.semAt (fz none).round a.eval ⟨some d,.call { callee:=.value x,args:=xs.toArray,argTypes:=tys },ty,pos,af,none⟩).run P u=.ok (.round l f tmps assign body) u:=by
  rw[show(fz none).round=none from rfl,Oper.semAt_none];have hargs:(xs.toArray.map (ev F))=vs.toArray:=by rw[←hv.eq,AB];simp
  rw[ha.eval];simp[execOp,resolve,hx,Deferred.ofValue,invoke,hargs,hy]
 rw[hr];refine⟨λhh=>(by cases hh),hround.mono ?_⟩;rintro e w' ⟨H',h3,h4⟩;obtain⟨v,rfl,H2,hcat,h5⟩:=hQ e H' h4;exact hK _ _ (h5.get _ w' (ha.put hd v) (by rw[hcat.eq];exact hback H' w' h3))
theorem LI.val{ops rest:List Oper}{d:Nat}{op:Op}{ty:TypeId}{pos:String}{af:Array Edge}{v:Value}(hd:d<N)(hdf:∀c,op≠.defer c)(hr:qB P E H (ev F) ⟨some d,op,ty,pos,af,none⟩ v)(h:LI r P N E ops Q rest (pT F d v) H) :
  LI r P N E ops Q (⟨some d,op,ty,pos,af,none⟩::rest) F H:=by
 refine⟨λa w ha hw=>wpListIn_plain rfl λK' hK=>Cs hdf ?_⟩;unfold Oper.wp;rw[ha.eval,hr w hw];exact hK _ _ (h.get _ w (ha.put hd v) hw)
theorem LI.pX{ops rest:List Oper}{op:Op}{ty:TypeId}{pos:String}{af:Array Edge}{K:Value→List aL→Prop}(hdf:∀c,op≠.defer c)
  (h:gK P N E F H ⟨none,op,ty,pos,af,none⟩ K) (hk:∀v H',K v H'→LI r P N E ops Q rest F H'):LI r P N E ops Q (⟨none,op,ty,pos,af,none⟩::rest) F H :=
 ⟨λa w ha hw=>wpListIn_plain rfl λ_ hK=>Cs hdf (h a w ha hw _ _ λv H' u' hq hu'=>hK _ _ ((hk v H' hq).get _ u' ha hu'))⟩
theorem CI.Fx{c:Operand}{x y:Code}{b:Bool}(hc:ev F c=.bool b)(hb:b=true)(hx:CI r P N E x Q F H):CI r P N E (.cond c x y) Q F H:=CI.cond hc (λ_=>hx) (λh=>by rw[hb] at h;cases h)
theorem CI.GC{c:Operand}{x y:Code}{b:Bool}(hc:ev F c=.bool b)(hb:b=false)(hy:CI r P N E y Q F H):CI r P N E (.cond c x y) Q F H:=CI.cond hc (λh=>by rw[hb] at h;cases h) (λ_=>hy)
end
theorem Zo{op:Op}(h:∀c,op≠.defer c:=by intro c h;cases h):∀c,op≠.defer c:=h
theorem HI{p q:Prop}(hq:q)(h:wA q→p:=by intro h;(first|refine CI.seq ?_|refine CI.block ?_|refine CI.exit ?_|refine CI.skip ?_|refine CI.ret ?_|refine CI.region ?_|refine LI.nil ?_|(focus (apply LI.val;(· decide);(· exact Zo);(· exact Cw)))|(focus (apply CI.Fx;(· exact rfl);(· exact sW)))|(focus (apply CI.GC;(· exact rfl);(· exact sW)))|with_reducible refine T.n ?_|with_reducible refine T.ret ?_|with_reducible refine T.exit ?_|with_reducible refine I.n ?_|with_reducible refine I.ret ?_|with_reducible refine I.tA ?_|with_reducible refine I.TE sD ?_);exact h.out):p:=h ⟨hq⟩
theorem HC{p q:Prop}(hq:q)(h:wA q→p:=by intro h;first|(apply LI.fQ;(· decide);(· exact Zo);(· exact NO);(first|exact x0 h.out|exact x1 h.out|exact x2 h.out))|(apply LI.pX;(· exact Zo);(· exact NO);(first|exact x0 h.out|exact x1 h.out|exact x2 h.out))):p:=h ⟨hq⟩
section
variable {r:Option Nat} {N:Nat} {E:Env} {Q:QF} {F:Nat→Value} {H R:List aL}
theorem Zz{f:FuncId}{xs:List Operand}{tys:Array TypeId}{Hp:List aL}{Q1:Ending→List aL→Prop}{d:Nat}{ty:TypeId}{pos:String}{af:Array Edge}{os rest:List Oper}(hd:d<N)(hk:xA f=true)(hp:cS Hp H R)(law:∀M,Sub E R M→aK prog M f (AO F xs).toArray Hp Q1)
  (hQ:∀e H',Q1 e H'→∃v,e=.returned v∧∃H2,wK H' R H2∧LI r prog N E os Q rest (pT F d v) H2) :
  LI r prog N E os Q (⟨some d,.call { callee:=.value (.func f),args:=xs.toArray,argTypes:=tys },ty,pos,af,none⟩::rest) F H:=by
 obtain⟨fn,h1,h2,h3⟩:=iY hk;refine LI.fQ hd (by intro c h;cases h) (S.call rfl rfl h1 h2 h3 hp law hQ) λv H' h=>h
end
def By(l:Nat)(r:Loop):aL where
 holds F w:=(∀b,F b↔b=l)∧w.heap[l]?=some (.loop r)
 loc h hk:=⟨h.1,(hk _ ((h.1 _).2 rfl)).trans h.2⟩
 lt h hb:=by rw[(h.1 _).1 hb];exact(aBv.1 h.2).1
def vD(D:Nat):aL where
 holds F w:=(∀b,F b↔b=D)∧w.heap[D]?=some (.deferred (some []))
 loc h hk:=⟨h.1,(hk _ ((h.1 _).2 rfl)).trans h.2⟩
 lt h hb:=by rw[(h.1 _).1 hb];exact(aBv.1 h.2).1
def I0(l:List aL):aL:=⟨cT l,iJ,mP⟩
section
variable {E:Env} {H R:List aL} {w:World}
theorem St.I0{l:List aL}:St E (I0 l::R) w↔St E (l++R) w:=by
 constructor
 ·exact λh=>h.conv λF ⟨F1,F2,h1,h2,h3,h4⟩=>⟨F,aY.2 ⟨F1,F2,h1,h2,h3,h4⟩,λ_ h=>h⟩
 ·intro h;refine h.conv λF hs=>?_;obtain⟨F1,F2,h1,h2,h3,h4⟩:=aY.1 hs;exact⟨F,⟨F1,F2,h1,h2,h3,h4⟩,λ_ h=>h⟩
theorem St.lp{l:Nat}{r:Loop}(h:St E (By l r::R) w):w.heap[l]?=some (.loop r):=by
 obtain⟨F,h1,_⟩:=h.has Has.aN;exact h1.2
theorem St.df{D:Nat}(h:St E (vD D::R) w):w.heap[D]?=some (.deferred (some [])):=by
 obtain⟨F,h1,_⟩:=h.has Has.aN;exact h1.2
theorem St.Ft{l:Nat}{r r':Loop}(h:St E (By l r::R) w):St E (By l r'::R) (w.putObj l (.loop r')):=by
 have hl:=(aBv.1 h.lp).1;refine h.jX (a:=By l r) (l:=[By l r']) dT.aN rfl rfl rfl (by simp) (G:=λb=>b=l) (λb _ hb=>World.putObj_heap_other hb) λF1 h1=>?_;exact⟨F1,⟨F1,λ_=>False,λb=>by simp,λ_ _ h=>h,⟨h1.1,World.putObj_heap_same hl⟩,λ_ h=>h⟩,λb hb=>.inl hb,λb _ hb=>(h1.1 b).2 hb⟩
theorem St.Ho{l:Nat}{r:Loop}{o:Obj}(h:St E (By l r::R) w):St E R (w.putObj l o):=by
 refine(h.jX (a:=By l r) (l:=[]) dT.aN rfl rfl rfl (by simp) (G:=λb=>b=l) (λb _ hb=>World.putObj_heap_other hb) λF1 h1=>?_);exact⟨λ_=>False,λ_ h=>h,λb hb=>hb.elim,λb _ hb=>(h1.1 b).2 hb⟩
theorem St.UE{D:Nat}{o:Obj}(h:St E (vD D::R) w):St E R (w.putObj D o):=by
 refine(h.jX (a:=vD D) (l:=[]) dT.aN rfl rfl rfl (by simp) (G:=λb=>b=D) (λb _ hb=>World.putObj_heap_other hb) λF1 h1=>?_);exact⟨λ_=>False,λ_ h=>h,λb hb=>hb.elim,λb _ hb=>(h1.1 b).2 hb⟩
theorem St.newObj{a:aL}{o:Obj}(h:St E H w)(ha:∀F,(∀b,F b↔b=w.heap.size)→(w.alloc o).heap[w.heap.size]?=some o→a.holds F (w.alloc o)):St E (a::H) (w.alloc o) :=
 h.grow (l:=[a]) rfl rfl rfl (by simp) (λb hb=>aDu _ _ _ hb) (F1:=λb=>b=w.heap.size) ⟨_,λ_=>False,λb=>by simp,λ_ _ h=>h,ha _ (λ_=>aDl) (World.alloc_heap_new w o),λ_ h=>h⟩ (λb hb=>by omega)
theorem St.swap{a:aL}{l:List aL}(h:St E (a::l++R) w):St E (l++a::R) w:=h.conv λF hs=>by
 obtain⟨F1,F2,h1,h2,h3,h4⟩:=hs;obtain⟨G1,G2,g1,g2,g3,g4⟩:=aY.1 h4;refine⟨F,aY.2 ⟨G1,λb=>F1 b∨G2 b,λb=>by rw[h1 b,g1 b];constructor<;>(rintro(h|h|h)<;>simp[h]),?_,g3,F1,G2,λ_=>aDl,λb hb hg=>h2 b hb ((g1 b).2 (.inr hg)),h3,g4⟩,λ_ h=>h⟩;rintro b hb (hf|hg)
 ·exact h2 b hf ((g1 b).2 (.inl hb))
 ·exact g2 b hb hg
theorem St.qH{a:aL}{l:List aL}(h:St E (l++a::R) w):St E (a::l++R) w:=h.conv λF hs=>by
 obtain⟨G1,K,h1,h2,g3,F1,G2,k1,k2,h3,g4⟩:=aY.1 hs;refine⟨F,⟨F1,λb=>G1 b∨G2 b,λb=>by rw[h1 b,k1 b];constructor<;>(rintro(h|h|h)<;>simp[h]),?_,h3,aY.2 ⟨G1,G2,λ_=>aDl,λb hb hg=>h2 b hb ((k1 b).2 (.inr hg)),g3,g4⟩⟩,λ_ h=>h⟩;rintro b hb (hf|hg)
 ·exact h2 b hf ((k1 b).2 (.inl hb))
 ·exact k2 b hb hg
end
def Env.jU(E:Env)(ds:List Deferred):Env:={ E with ds:=ds }
theorem St.jU{E:Env}{ds:List Deferred}{H:List aL}{w:World}(h:St E H w):St (E.jU ds) H w:=⟨h.os,h.tape,h.output,h.size,h.MH,h.lB,h.fp⟩
theorem St.JC{E:Env}{ds:List Deferred}{H:List aL}{w:World}(h:St (E.jU ds) H w):St E H w:=⟨h.os,h.tape,h.output,h.size,h.MH,h.lB,h.fp⟩
def QX(F:Nat→Value):List Nat→List Value→Nat→Value
 |p::ps,v::vs=>QX (pT F p v) ps vs
 |_,_=>F
theorem qX.QX{E:Env}{N:Nat}:∀ {ps:List Nat} {vs:List Value} {F:Nat→Value} {t:Array Value},(∀p∈ps,p<N)→qX E N F { tmps:=t,defers:=E.ds } →
  qX E N (QX F ps vs) { tmps:=(ps.zip vs).foldl (λt (p,v)=>t.setIfInBounds p v) t,defers:=E.ds }
 | [],_,_,_,_,h=>by cases ‹List Value› <;> exact h
 |p::ps,[],_,_,_,h=>h
 |p::ps,v::vs,F,t,hp,h=>by
  have h1:=h.put (hp p aBo) v;exact qX.QX (vs:=vs) (λq hq=>hp q (aBl _ hq)) h1
structure WJ(P:Program)(N:Nat)(E:Env)(c:Code)(Qw:Exit→Act→World→Prop)(F:Nat→Value)(H:List aL):Prop where
 get:∀a w,qX E N F a→St E H w→c.wpIn (fz none) 0 P Qw a w
section
variable {P:Program} {N:Nat} {E:Env} {Qw:Exit→Act→World→Prop} {F:Nat→Value} {H R:List aL}
theorem WJ.yR{x y:Code}(h:C P N E x (oQ (λF H=>WJ P N E y Qw F H) (λ_ _ _=>False)) F H):WJ P N E (.seq x y) Qw F H:=by
 refine⟨λa w ha hw=>wpIn_seq (wpIn_mono ((wpIn_wide (n:=0)).2 (h.get a w ha hw)) ?_)⟩;intro e a w hq;cases e with
 |normal=>obtain⟨F,H,h1,h2,h3⟩:=hq;exact WJ.get h3 a w h1 h2
 |ret=>obtain⟨_,_,_,_,h⟩:=hq;exact h.elim
 |exit id=>obtain⟨_,_,_,_,h⟩:=hq;exact h.elim
 |panic c=>obtain⟨_,_,_,h⟩:=hq;exact h.elim
 |_=>exact hq.elim
theorem WJ.seq{x y:Code}(h:WJ P N E x (Exit.then (λa w=>y.wpIn (fz none) 0 P Qw a w) Qw) F H):WJ P N E (.seq x y) Qw F H:=⟨λa w ha hw=>wpIn_seq (h.get a w ha hw)⟩
structure Cv(E:Env)(H J:List aL):Prop where
 c:aB E H J
def ZF(id:Nat)(E:Env)(J X:List aL):QF
 | .normal,_,H=>Cv E H J
 | .exit id',_,H=>id'=id∧aB E H X
 |_,_,_=>False
theorem WJ.rf{α Y:Type}{g:Operand}{ps:List Nat}{assign body tail:Code}{id gf:Nat}{lb:List Value}{xs:List α}(enc:α→List Value)(JP JX:Nat→List aL)(S:Nat→Y→List (Nat×Value))(JA:Nat→Y→List aL){Hit Hd:List aL}{Hs:Nat→List aL}
  (hds:E.ds=[]) (hg:ev F g=.func (.func gf) #[] lb.toArray) (hk:∃fn,P.funcs[gf]?=some fn∧(fn.name == "runtime.NumGoroutine")=false∧fn.body.isNone=false) (hps:∀x,(enc x).length=ps.length) (hN:∀p∈ps,p<N) (hH:aB E H (JP 0++Hit))
  (iter:∀M R' l (J X:Nat→aL),Sub E R' M→(∀E2 R2 i x,Sub M R2 E2→xs[i]?=some x→Ps P E2 l (enc x) [J i] (λe H'=>(e=.returned (.bool true)∧H'=[J (i+1)])∨(e=.returned (.bool false)∧H'=[X i]))) →
   aK P M gf (.func (.yield l) #[] #[]::lb).toArray (J 0::Hit) (λe H'=>(∃v,e=.returned v)∧(H'=J xs.length::Hd∨∃i,i<xs.length∧H'=X i::Hs i)))
  (hassign:∀E2 R3 l i x,Sub E R3 E2→E2.ds=[]→xs[i]?=some x→CI (some l) P N E2 assign (oQ (λF' H'=>∃y,nH F' (S i y)∧aB E2 H' (JA i y)) (λ_ _ _=>False)) (QX F ps (enc x)) (JP i))
  (hbody:∀E2 R3 l i x y G,Sub E R3 E2→E2.ds=[]→xs[i]?=some x→CI (some l) P N E2 body (ZF id E2 (JP (i+1)) (JX i)) (OQ (S i y) G) (JA i y))
  (hdone:∀D,WJ P N (E.jU [{ target:=.collected D,args:=#[] }]) tail Qw F (vD D::(JP xs.length++Hd)))
  (hstop:∀D i,i<xs.length→WJ P N (E.jU [{ target:=.collected D,args:=#[] }]) tail Qw F (vD D::(JX i++Hs i))) :
  WJ P N E (.block id (.rangeFunc g ps.toArray assign body)) (Exit.then (λa w=>tail.wpIn (fz none) 0 P Qw a w) Qw) F H:=by
 refine⟨λa w ha hw=>wpIn_block (wpIn_rangeFunc ?_)⟩;intro fn _;have had:a.defers=[]:=ha.defers.trans hds;obtain⟨rec,hrec⟩:∃rec:LoopState→Option Code→Loop,rec=λst pe=>{ state:=st,pending:=pe,fn,tmps:=a.tmps,params:=ps.toArray,assign,body,defers:=w.heap.size }:=⟨_,rfl⟩
 obtain⟨W0,hW0⟩:∃W0,w.alloc (.deferred (some []))=W0:=⟨_,rfl⟩
 obtain⟨W1,hW1⟩:∃W1,W0.alloc (.loop (rec .ready none))=W1:=⟨_,rfl⟩
 have hz:W0.heap.size=w.heap.size+1:=by rw[←hW0];simp
 have hs0:St E (vD w.heap.size::(JP 0++Hit)) W0:=by
  rw[←hW0];exact(hH w hw).newObj λF' h1 h2=>⟨h1,h2⟩
 have hs1:St E (By (w.heap.size+1) (rec .ready none)::vD w.heap.size::(JP 0++Hit)) W1:=by
  rw[←hW1];exact hs0.newObj λF' h1 h2=>⟨λb=>by rw[h1 b,hz],by rw[hz] at h2;exact h2⟩
 let J:Nat→aL:=λi=>I0 (By (w.heap.size+1) (rec .ready none)::JP i)
 let X:Nat→aL:=λi=>I0 (By (w.heap.size+1) (rec .done (some (.exit id)))::JX i)
 have hs2:St E ((J 0::Hit)++[vD w.heap.size]) W1:=by
  have h1:St E (By (w.heap.size+1) (rec .ready none)::(JP 0++Hit)++[vD w.heap.size]) W1:=by
   have:=St.swap (l:=By (w.heap.size+1) (rec .ready none)::(JP 0++Hit)) (a:=vD w.heap.size) (R:=[]) (E:=E) (w:=W1) (by
    have h2:=St.qH (l:=[By (w.heap.size+1) (rec .ready none)]) (a:=vD w.heap.size) (R:=JP 0++Hit) (E:=E) (w:=W1) hs1;simpa using h2)
   simpa using this
  refine St.I0.2 ?_;simpa using h1
 obtain⟨M,hds',hE,hst,hback⟩:=hs2.enter;obtain⟨gn,hf1,hf2,hf3⟩:=hk;refine⟨w.heap.size+1,[{ target:=.collected w.heap.size,args:=#[] }],W1,{ target:=.fn (.func gf) lb.toArray,args:=#[.func (.yield (w.heap.size+1)) #[] #[]] },W1,gf,
  #[.func (.yield (w.heap.size+1)) #[] #[]]++lb.toArray,W1,?_,?_,λ_ _=>trivial,?_,λhh=>(by cases hh),?_⟩
 ·rw[←hW1,←hW0,hrec];exact run_enterLoop_outer _ _ _ _ _
 ·rw[ha.eval];simp only[resolve,hg];simp[go_sem,ev]
 ·have h1:¬gn.name = "runtime.NumGoroutine" := by simpa using hf2
  have h2:¬gn.body=none:=by intro h;rw[h] at hf3;cases hf3
  simp[invoke,callFunc,hf1,h1,h2]
 ·have hargs : #[.func (.yield (w.heap.size+1)) #[] #[]]++lb.toArray=(Value.func (.yield (w.heap.size+1)) #[] #[]::lb).toArray:=by simp
  rw[hargs];refine wS ((iter M [vD w.heap.size] (w.heap.size+1) J X hE ?_ hds' W1 hst).mono ?_)
  ·intro E2 R2 i x hE2 hx hd2 W hW;have hW':St E2 (By (w.heap.size+1) (rec .ready none)::JP i++[]) W:=by simpa using St.I0.1 hW
   have hy:=run_yield (P:=P) (args:=(enc x).toArray) (St.lp hW') (by rw[hrec];simp[hps]);rw[hrec] at hy;refine⟨fn,_,assign,body,hy,roundIn_of_wpIn trivial ?_⟩;obtain⟨E4,hd4,hE4,hst4,hback4⟩:=(St.swap hW').enter;have hr4:qX E4 N (QX F ps (enc x)) { tmps:=(ps.toArray.zip (enc x).toArray).foldl (λtmps (t,a)=>tmps.setIfInBounds t a) a.tmps,defers:=[] }:=by
    have h1:=qX.QX (E:=E4) (vs:=enc x) (F:=F) (t:=a.tmps) hN ⟨rfl,ha.size,ha.get⟩;rw[hd4] at h1;simpa using h1
   refine wpIn_mono ((hassign E4 _ (w.heap.size+1) i x ((hE.trans hE2).trans hE4) hd4 hx).get _ W hr4 hst4) ?_;intro e a1 w1 hq;cases e with
   |normal =>
    obtain⟨F1,H1,h1,h2,y,h3,h4⟩:=hq;have h6:=St.qH (hback4 _ _ (h4 w1 h2));refine⟨_,run_beginRound h6.lp (by rw[hrec]),?_⟩;obtain⟨E5,hd5,hE5,hst5,hback5⟩:=(St.swap (h6.Ft (r':={ rec .ready none with state:=.busy }))).enter;have hB:=hbody E5 _ (w.heap.size+1) i x y F1 ((hE.trans hE2).trans hE5) hd5 hx;rw[oH h3] at hB;refine wpIn_mono (hB.get _ _ ⟨h1.defers.trans (hd4.trans hd5.symm),h1.size,h1.get⟩ hst5) ?_;intro e a2 w2 hq2;cases e with
    |normal =>
     obtain⟨F2,H2,_,k2,k3⟩:=hq2;have k4:=St.qH (hback5 _ _ (k3.c w2 k2));refine⟨_,_,run_endRound none k4.lp,[J (i+1)],St.I0.2 ?_,.inl ⟨rfl,rfl⟩⟩;have k5:=k4.Ft (r':=rec .ready none);rw[hrec] at k5⊢;exact k5
    |exit id' =>
     obtain⟨F2,H2,_,k2,rfl,k3⟩:=hq2;have k4:=St.qH (hback5 _ _ (k3 w2 k2));refine⟨_,_,run_endRound _ k4.lp,[X i],St.I0.2 ?_,.inr ⟨rfl,rfl⟩⟩;have k5:=k4.Ft (r':=rec .done (some (.exit id')));rw[hrec] at k5⊢;exact k5
    |ret=>obtain⟨_,_,_,_,h⟩:=hq2;exact h.elim
    |panic c=>obtain⟨_,_,_,h⟩:=hq2;exact h.elim
    |_=>exact hq2.elim
   |ret=>obtain⟨_,_,_,_,h⟩:=hq;exact h.elim
   |exit id=>obtain⟨_,_,_,_,h⟩:=hq;exact h.elim
   |panic c=>obtain⟨_,_,_,h⟩:=hq;exact h.elim
   |_=>exact hq.elim
  ·rintro e w3 ⟨H',h1,⟨v,rfl⟩,h2⟩;have h3:=hback _ _ h1;have hpn:∀st pe,(rec st pe).pending=pe:=λ_ _=>by rw[hrec]
   rcases h2 with rfl|⟨i,hi,rfl⟩
   ·have h4:St E (By (w.heap.size+1) (rec .ready none)::(JP xs.length++Hd++[vD w.heap.size])) w3:=by simpa using St.I0.1 h3
    have h5:=run_endLoop (P:=P) h4.lp (by rw[hrec];simp);rw[hpn] at h5;refine⟨none,_,h5,?_⟩;have h6:∀o,St (E.jU [{ target:=.collected w.heap.size,args:=#[] }]) (vD w.heap.size::(JP xs.length++Hd)) (w3.putObj (w.heap.size+1) o):=λo=>by simpa using(St.qH (R:=[]) (h4.Ho (o:=o))).jU
    exact(hdone w.heap.size).get _ _ ⟨by simp[had,Env.jU],ha.size,ha.get⟩ (h6 _)
   ·have h4:St E (By (w.heap.size+1) (rec .done (some (.exit id)))::(JX i++Hs i++[vD w.heap.size])) w3:=by simpa using St.I0.1 h3
    have h5:=run_endLoop (P:=P) h4.lp (by rw[hrec];simp);rw[hpn] at h5;refine⟨some (.exit id),_,h5,?_⟩;refine wpIn_exit ?_;show(if id=id then _ else _);rw[if_pos rfl];have h6:∀o,St (E.jU [{ target:=.collected w.heap.size,args:=#[] }]) (vD w.heap.size::(JX i++Hs i)) (w3.putObj (w.heap.size+1) o):=λo=>by simpa using(St.qH (R:=[]) (h4.Ho (o:=o))).jU
    exact(hstop w.heap.size i hi).get _ _ ⟨by simp[had,Env.jU],ha.size,ha.get⟩ (h6 _)
def Ym(P:Program)(E:Env)(fn:Func)(W:Ending→List aL→Prop)(D:Nat):QF
 | .normal,F,H | .ret,F,H=>∃H1,Has (vD D) H H1∧gF P E fn W .ret F H1
 |_,_,_=>False
theorem WJ.ZB{fn:Func}{tail:Code}{D:Nat}{W:Ending→List aL→Prop}(h:C P N (E.jU [{ target:=.collected D,args:=#[] }]) tail (Ym P E fn W D) F H) :
  WJ P N (E.jU [{ target:=.collected D,args:=#[] }]) tail (bodyPostM (fz none) 0 P fn λe w'=>∃H',St E H' w'∧W e H') F H:=by
 refine⟨λa w ha hw=>wpIn_mono ((wpIn_wide (n:=0)).2 (h.get a w ha hw)) ?_⟩;have fin:∀(F:Nat→Value) (H:List aL) (a:Act) (w:World),qX (E.jU [{ target:=.collected D,args:=#[] }]) N F a→St (E.jU [{ target:=.collected D,args:=#[] }]) H w→(∃H1,Has (vD D) H H1∧gF P E fn W .ret F H1) →
   LeavesInM (fz none) 0 P fn a.tmps (λe w'=>∃H',St E H' w'∧W e H') a.defers .returning w:=by
  rintro F H a w hr hs ⟨H1,hh,v,H',k1,k2,k3⟩;rw[hr.defers];have hs2:St E (vD D::H1) w:=(hs.weaken (l:=[vD D]) (.cons hh .nil)).JC.conv (λF h=>⟨F,h,λ_ h=>h⟩) |> λ_=>by
   have:=hs.JC.aV (l:=[vD D]) (.cons hh .nil);simpa using this
  have hs3:=hs2.UE (o:=.deferred none);refine⟨by simp,.inl ⟨D,_,rfl,run_takeDeferred hs2.df,v,?_,H',k2 _ hs3,k3⟩⟩;rw[pV hr];exact k1 _ hs3
 intro e a w hq;cases e with
 |normal=>obtain⟨F,H,hr,hs,hp⟩:=hq;exact fin F H a w hr hs hp
 |ret=>obtain⟨F,H,hr,hs,hp⟩:=hq;exact fin F H a w hr hs hp
 |exit id=>obtain⟨_,_,_,_,h⟩:=hq;exact h.elim
 |panic c=>obtain⟨_,_,_,h⟩:=hq;exact h.elim
 |_=>exact hq.elim
theorem Ww{f:FuncId}{fn:Func}{c:Code}{args:Array Value}{W:Ending→List aL→Prop}(hf:P.funcs[f]?=some fn)(hb:fn.body=some c)(hn:fn.ntmps=N)(ha:args.size≤N)
  (h:E.ds=[]→WJ P N E c (bodyPostM (fz none) 0 P fn λe w'=>∃H',St E H' w'∧W e H') (Jr args) H):aK P E f args H W:=by
 intro hds w hw;refine qC (n:=0) (callsIn_of_wp_marks hf hb trivial ((h hds).get _ w ?_ hw));refine⟨hds.symm,by simp;omega,λi=>?_⟩;simp only[Jr,Fl,aBb,aEe,aBy,aEo,aDt];split
 ·rfl
 ·rename_i h;rw[aCu o_];split<;>rfl
theorem St.lH{p:Prop}{w:World}(h:St E H w)(hh:Has (iE p) H R):p:=by
 obtain⟨F,h1,_⟩:=h.has hh;exact h1.1
theorem aB.lH{p:Prop}(hp:p):aB E H (iE p::H):=λ_ hw=>hw.conv λF h=>⟨F,⟨λ_=>False,F,λb=>by simp,λ_ h=>h.elim,⟨hp,λ_ h=>h⟩,h⟩,λ_ h=>h⟩
theorem WJ.fact{c:Code}{p:Prop}(hh:Has (iE p) H R)(h:p→WJ P N E c Qw F H):WJ P N E c Qw F H:=⟨λa w ha hw=>(h (hw.lH hh)).get a w ha hw⟩
theorem CI.fact{r:Option Nat}{Q:QF}{c:Code}{p:Prop}(hh:Has (iE p) H R)(h:p→CI r P N E c Q F H):CI r P N E c Q F H:=⟨λa w ha hw=>(h (hw.lH hh)).get a w ha hw⟩
end
end Go.Proofs.YtmilalkjbojciaaGreat.Sep
