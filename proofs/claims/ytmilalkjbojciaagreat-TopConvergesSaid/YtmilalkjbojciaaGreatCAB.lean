/- Part AB: what it needs. No condition. -/
import Derived.Test.YtmilalkjbojciaaGreatCAA
set_option linter.all false
set_option maxRecDepth 100000
set_option maxHeartbeats 8000000
open Go.Proofs.Tryz
namespace Go.Proofs.YtmilalkjbojciaaGreat.Sep
variable{A:n!}{D:Nat}{E:Env}{F:Nat->p!}{H Hk Hp:List aG}{K:p!->List aG->Prop}{N:Nat}{P:t!}{W:Ending->List aG->Prop}{a:List Oper}{c:Code}{e:q!}{f:FuncId}{g i j:Nat}{k:IntKind}{m:Nat}{o:Oper}{q:Prop}{t t':q!}{u:World}{v:p!}{vs:List p!}{x y:r!}{ys:Array p!}{z:List p!}{α:Type}{l:List α}{ρ:r!->p!}
section
open Go.RowKit Reg
open Mem hiding Rd
def bH:Ty UInt8 where
 val b:=.int .u8 (b.toNat:Int)
 size:=1
 bytes:=1
 tid:=5
 zero:=.int .u8 0
 hlen _:=rfl
 kL a u h:=by simp only[Value.cells,eM] at h;subst h;rfl
 fZ:=sD
 hzero:=rfl
 lF:=q_
 mQ:=.inr ⟨q_,λ_=>rfl⟩
def aMc(x:Int)(a:0<=x)(b:x<256):bH.val (UInt8.ofNat x.toNat)=.int .u8 x:=by
 have e:((x.toNat % 256:Nat):Int)=x:=o_;simp[bH,e]
def Y.str{n c:Nat}{l:o!}(ho:o.op=.convert 70 9 x)(hx:ρ x=.slice A n c)(h:eE E H bH A n c l):gM prog E H ρ o (.string (DT l)):=by
 intro u hu;have⟨h0,h1,h2,h3⟩:=h u hu;have hr:Mem.Rd DI u u.heap.size A n c l:=by
  refine⟨h0,h1,h2,?_,λhn=>?_⟩
  ·rw[DI.mH,<-h0]
  ·rcases h3 with h3|⟨ad,e,hc⟩
   ·omega
   ·have hl:0<(bH.cE l).length:=by rw[bH.mH,<-h0];exact Is hn bH.fZ
    have:=I1 _ _ (hc 0 _ (bS hl));exact⟨ad,e,by rwa [Bg] at this,hc⟩
 exact V.convert ho hx (aNh hr)
def KJ:UInt8:=0
section
variable {P:t!} {E:Env} {F:Nat->p!} {H H' R:List aG}
def H6{t:Nat}{ty b:q!}{cs:List p!}{d:TypeDesc}{a:TypeInfo}(i:F t=.pointer (some ⟨g,0,none⟩))(h:P.underlying ty=some d)(e:lY d=true)(hi:P.info? ty=some a)(hb:Has (aE g b cs) H R)(f:a.size=cs.length){w:World}(j:St E H w) :
  (asAddr (F t)).run P w=.ok ⟨g,0,none⟩ w/\(loadVar ty ⟨g,0,none⟩).run P w=.ok (.agg cs.toArray) w:=by
 have c:Cells E H ⟨g,0,none⟩ cs:=Cells.aE hb rfl;rw[i];exact⟨by simp[asAddr],UU (u:=w) h e hi f (c w j)⟩
def eP{a:Func}{Q:Ending->List aG->Prop}{t:Nat}{ty c:q!}{cs:List p!}{d:TypeDesc}{b:TypeInfo}(l:a.results=#[.cell t ty])(n:F t=.pointer (some ⟨g,0,none⟩))(m:P.underlying ty=some d)(j:lY d=true)(hi:P.info? ty=some b)(hb:Has (aE g c cs) H R)(k:b.size=cs.length)
  (i:aB E H H') (h:Q (.returned (.agg cs.toArray)) H'):mB P E a Q .ret F H:=by
 refine⟨.agg cs.toArray,H',λw o=>?_,i,h⟩;have⟨e,f⟩:=H6 n m j hi hb k o;simp[vU,l,e,f]
def mL{a:Func}{Q:Ending->List aG->Prop}{t u:Nat}{ty c:q!}{cs:List p!}{d:TypeDesc}{b:TypeInfo}(l:a.results=#[.cell t ty,.tmp u])(o:F t=.pointer (some ⟨g,0,none⟩))(m:P.underlying ty=some d)(j:lY d=true)(hi:P.info? ty=some b)(hb:Has (aE g c cs) H R)(k:b.size=cs.length)
  (n:F u=v) (i:aB E H H') (h:Q (.returned (.tuple #[.agg cs.toArray,v])) H'):mB P E a Q .ret F H:=by
 refine⟨.tuple #[.agg cs.toArray,v],H',λw p=>?_,i,h⟩;subst n;have⟨e,f⟩:=H6 o m j hi hb k p;simp[vU,l,e,f]
end
def CV(P:t!)(t:q!)(x:p!)(xs:List p!):Prop:=match P.underlying t with
 |some (.struct _)=>x=.agg xs.toArray
 |_=>xs=[x]
def Mc(P:t!)(ask:q!->List p!->List p!->Option Bool)(xs ys:List p!):List Field->Option Bool
 | []=>some true
 |f::d=>if f.name = "_" then none else match P.info? f.type with
  |none=>none
  |some c=>match ask f.type ((xs.drop f.offset).take c.size) ((ys.drop f.offset).take c.size),Mc P ask xs ys d with
   |some a,some b=>some (a&&b)
   |_,_=>none
def eqv(P:t!):Nat->q!->List p!->List p!->Option Bool
 |0,_,_,_=>none
 |d+1,t,xs,c=>match P.underlying t with
  |some (.int _)=>match xs,c with
   | [.int k a],[.int f b]=>if k=f then some (decide (a=b)) else none
   |_,_=>none
  |some .bool=>match xs,c with
   | [.bool a],[.bool b]=>some (decide (a=b))
   |_,_=>none
  |some (.struct e)=>if P.stoodInHeld t then none else Mc P (eqv P d) xs c e.toList
  |_=>none
section
variable {P:t!}
def Th{xs xF ys:List p!}{off d:Nat}{ti:TypeInfo}{r:Bool}(hi:P.info? t=some ti)(hs:(xs.drop off).take ti.size=xF)(h:eqv P d t xF ys=some r\/eqv P d t ys xF=some r)(u:World) :
  ∃x,(part t xs.toArray off).run P u=.ok x u/\CV P t x xF:=by
 cases d with
 |zero=>simp[eqv] at h
 |succ d =>
  have one:∀v,xF=[v]->xs[off]?=some v:=by
   intro v hv;rw[hv] at hs;cases hq:xs.drop off with
   |nil=>rw[hq] at hs;simp at hs
   |cons a l =>
    rw[hq] at hs;cases hz:ti.size with
    |zero=>rw[hz] at hs;simp at hs
    |succ n =>
     rw[hz,E7] at hs;injection hs with h1 _
     have h2:(xs.drop off)[0]?=some a:=by grind
     grind
  cases ht:P.underlying t with
  |none=>simp[eqv,ht] at h
  |some D =>
   have sng:(∀fs,D≠.struct fs)->∃v,xF=[v]:=by
    intro hD;unfold eqv at h;grind
   by_cases hD:∃fs,D=.struct fs
   ·obtain⟨fs,rfl⟩:=hD;refine⟨.agg xF.toArray,?_,by simp[CV,ht]⟩;simp only[part,isAgg,sizeOf,typeInfo,iE,run_underlying ht,iO];simp[hi,<-hs,List.extract_eq_take_drop]
   ·have⟨v,hv⟩:=sng (λfs e=>hD ⟨fs,e⟩);have h1:=one v hv;unfold eqv at h;rw[ht] at h;refine⟨v,?_,?_⟩
    ·cases D<;>simp only[or_self,reduceCtorEq] at h
     all_goals first
      |exact i! ⟨_,rfl⟩ hD
      |simp[part,isAgg,run_underlying ht,h1]
    ·unfold CV;rw[ht];cases D<;>first|exact i! ⟨_,rfl⟩ hD|exact hv
def ZJ(d:Nat):∀(k:Nat) (t:q!) (j m:List p!) (r:Bool) (x y:p!) (u:World),eqv P d t j m=some r->CV P t x j->CV P t y m->(Op.equalIn (d+k) t x y).run P u=.ok r u:=by
 induction d with
 |zero=>intro k t j m r x y u h;simp[eqv] at h
 |succ d H =>
  intro k t j m r x y u h c e;rw[Nat.add_right_comm];unfold eqv at h;unfold CV at c e;cases g:P.underlying t with
  |none=>simp[g] at h
  |some D =>
   rw[g] at h c e;cases D<;>simp only[reduceCtorEq] at h
   case bool =>
    split at h
    ·injection c with c _;injection e with e _;subst c e;injection h with h;rw[run_equalIn_bool _ g,<-h];rename_i a b;cases a<;>cases b<;>rfl
    ·cases h
   case int =>
    split at h
    ·split at h
     ·rename_i B;subst B;injection c with c _;injection e with e _;subst c e;injection h with h;rw[run_equalIn_int _ _ _ _ _ _ _ g,<-h];rfl
     ·cases h
    ·cases h
   case struct fs =>
    split at h
    ·cases h
    ·rename_i F;simp only at c e;subst c e;have i:P.fieldsOf t=fs:=by simp[Program.fieldsOf,g]
     rw[run_equalIn_struct _ _ _ _ _ (by grind) (by grind),i];generalize fs.toList=l at h;clear g i;induction l generalizing r u with
     |nil =>
      injection h with h;rw[<-h];simp[Op.eqFields]
     |cons f l p =>
      unfold Mc at h;split at h
      ·cases h
      ·rename_i E;split at h
       ·cases h
       ·rename_i J q;split at h
        ·rename_i a b n hb;injection h with h;have⟨K,w,s⟩:=Th q rfl (.inl n) u;have⟨M,z,v⟩:=Th q rfl (.inr n) u;have A:=H k _ _ _ _ _ _ u n s v;simp only[Op.eqFields,ne_eq,E,not_false_eq_true,if_true,iE,w,z,A,iO];cases a
         ·simp only[xP] at h;rw[<-h];simp
         ·simp only[uC] at h;subst h;simpa using p _ u hb
        ·cases h
structure Es(P:Program)(t:TypeId)(xs ys:Array Value)(r:Bool):Prop where
 ty:∃fs,P.underlying t=some (.struct fs)
 guard:P.eqGuardType P.depth t=false
 val:eqv P 5 t xs.toList ys.toList=some r
def Es.run{xs:Array p!}{r:Bool}(h:Es P t xs ys r)(u:World):(Op.equalIn 10000 t (.agg xs) (.agg ys)).run P u=.ok r u:=by
 have⟨b,a⟩:=h.ty;exact ZJ 5 9995 t _ _ _ _ _ u h.val (by simp[CV,a]) (by simp[CV,a])
variable {ρ:r!->p!} {o:Oper} {u:World}
def V.ZC{xs:Array p!}{r:Bool}(b:o.op=.binOp .eql t x y t')(c:ρ x=.agg xs)(d:ρ y=.agg ys)(h:Es P t xs ys r):(execOp ρ o).run P u=.ok (.value (.bool r)) u:=by
 have a:=run_eql_struct (P:=P) u t xs ys;rw[h.run] at a;simp[execOp,b,c,d,run_eqGuard_agg u .eql t x y xs ys h.guard,a]
def V.aMi{xs:Array p!}{r:Bool}(b:o.op=.binOp .neq t x y t')(c:ρ x=.agg xs)(d:ρ y=.agg ys)(h:Es P t xs ys r):(execOp ρ o).run P u=.ok (.value (.bool (!r))) u:=by
 have a:=run_neq_struct (P:=P) u t xs ys;rw[h.run] at a;simp[execOp,b,c,d,run_eqGuard_agg u .neq t x y xs ys h.guard,a]
end
structure zF(P:Program)(t:TypeId)(xs ys:Array Value)(r:Bool):Prop where
 guard:P.eqGuardType P.depth t=false
 run:∀u,(Op.equalIn 10000 t (.agg xs) (.agg ys)).run P u=.ok r u
section
variable {P:t!} {ρ:r!->p!} {o:Oper} {u:World}
def V.ZH{xs:Array p!}{r:Bool}(b:o.op=.binOp .eql t x y t')(c:ρ x=.agg xs)(d:ρ y=.agg ys)(h:zF P t xs ys r):(execOp ρ o).run P u=.ok (.value (.bool r)) u:=by
 have a:=run_eql_struct (P:=P) u t xs ys;rw[h.run] at a;simp[execOp,b,c,d,run_eqGuard_agg u .eql t x y xs ys h.guard,a]
def Hm{xs:Array p!}(a:P.underlying e=some (.int k))(h:xs[i]?=some v):(part e xs i).run P u=.ok v u:=by
 simp[part,isAgg,run_underlying a,h]
def zF.four(F:P.underlying t=some (.array 4 e))(j:P.underlying e=some (.int .i64))(i:(P.info? e).map (·.size)=some 1)(D:P.eqGuardType P.depth t=false){l m n p r s v b3:Int} :
  zF P t #[a! l,a! m,a! n,a! p] #[a! r,a! s,a! v,a! b3] (decide (l=r)&&(decide (m=s)&&(decide (n=v)&&decide (p=b3)))):=by
 have⟨k,w,i⟩:∃k,P.info? e=some k/\k.size=1:=by
  cases h:P.info? e with
  |none=>rw[h] at i;cases i
  |some k=>rw[h] at i;injection i with i;exact⟨k,rfl,i⟩
 refine⟨D,λu=>?_⟩;rw[show(10000:Nat)=9999+1 from rfl,run_equalIn_array u 9999 _ _ F w];have B:P.cellsOf e=1:=by simp[Program.cellsOf,w,i]
 rw[B];have E:List.range 4=[0,1,2,3]:=rfl;rw[E];have q:∀(a b:Int) (u:World),(Op.equalIn 9999 e (a! a) (a! b)).run P u=.ok (a == b) u:=λa b u=>run_equalIn_int u 9998 e .i64 .i64 a b j;have H:∀(c d f g:Int) (u:World),(part e #[a! c,a! d,a! f,a! g] 0).run P u=.ok (a! c) u:=λ_ _ _ _ u=>Hm j rfl;have J:∀(c d f g:Int) (u:World),(part e #[a! c,a! d,a! f,a! g] 1).run P u=.ok (a! d) u:=λ_ _ _ _ u=>Hm j rfl;have K:∀(c d f g:Int) (u:World),(part e #[a! c,a! d,a! f,a! g] 2).run P u=.ok (a! f) u:=λ_ _ _ _ u=>Hm j rfl;have M:∀(c d f g:Int) (u:World),(part e #[a! c,a! d,a! f,a! g] 3).run P u=.ok (a! g) u:=λ_ _ _ _ u=>Hm j rfl;simp only[Op.eqItems,iE,Iu,wI,show 2*1=2 from rfl,show 3*1=3 from rfl,H,q,iO];by_cases x:l=r<;>by_cases y:m=s<;>by_cases z:n=v<;>by_cases A:p=b3<;>simp[x,y,z,A,J,K,M,q]
end
def zF.eight(ht:P.underlying t=some (.array 8 e))(he:P.underlying e=some (.int .i64))(K:(P.info? e).map (·.size)=some 1)(hg:P.eqGuardType P.depth t=false){k l m n o r s w x y z b3 b4 A B D:Int} :
  zF P t #[a! k,a! l,a! m,a! n,a! o,a! r,a! s,a! w] #[a! x,a! y,a! z,a! b3,a! b4,a! A,a! B,a! D] (decide (k=x)&&(decide (l=y)&&(decide (m=z)&&(decide (n=b3)&&(decide (o=b4)&&(decide (r=A)&&(decide (s=B)&&(decide (w=D))))))))):=by
 have⟨R,hi,K⟩:∃R,P.info? e=some R/\R.size=1:=by
  cases h:P.info? e with
  |none=>rw[h] at K;cases K
  |some R=>rw[h] at K;injection K with K;exact⟨R,rfl,K⟩
 refine⟨hg,λu=>?_⟩;rw[show(10000:Nat)=9999+1 from rfl,run_equalIn_array u 9999 _ _ ht hi];have hc:P.cellsOf e=1:=by simp[Program.cellsOf,hi,K]
 rw[hc];have hr:List.range 8=[0,1,2,3,4,5,6,7]:=rfl;rw[hr];have q:∀(a b:Int) (u:World),(Op.equalIn 9999 e (a! a) (a! b)).run P u=.ok (a == b) u:=λa b u=>run_equalIn_int u 9998 e .i64 .i64 a b he;have p:∀(Z c1 c2 c3 c4 c5 c6 c7:Int) (i:Nat) (v:p!) (u:World),(#[a! Z,a! c1,a! c2,a! c3,a! c4,a! c5,a! c6,a! c7]:Array p!)[i]?=some v->(part e #[a! Z,a! c1,a! c2,a! c3,a! c4,a! c5,a! c6,a! c7] i).run P u=.ok v u:=λ_ _ _ _ _ _ _ _ i v u h=>Hm he h;have U:=λu=>p k l m n o r s w 0 _ u rfl;have W:=λu=>p x y z b3 b4 A B D 0 _ u rfl;have c:=λu=>p k l m n o r s w 1 _ u rfl;have f:=λu=>p x y z b3 b4 A B D 1 _ u rfl;have d:=λu=>p k l m n o r s w 2 _ u rfl;have j:=λu=>p x y z b3 b4 A B D 2 _ u rfl;have g:=λu=>p k l m n o r s w 3 _ u rfl;have F:=λu=>p x y z b3 b4 A B D 3 _ u rfl;have E:=λu=>p k l m n o r s w 4 _ u rfl;have J:=λu=>p x y z b3 b4 A B D 4 _ u rfl;have H:=λu=>p k l m n o r s w 5 _ u rfl;have N:=λu=>p x y z b3 b4 A B D 5 _ u rfl;have M:=λu=>p k l m n o r s w 6 _ u rfl;have Q:=λu=>p x y z b3 b4 A B D 6 _ u rfl;have O:=λu=>p k l m n o r s w 7 _ u rfl;have X:=λu=>p x y z b3 b4 A B D 7 _ u rfl;simp only[Op.eqItems,iE,Nat.mul_one,U,W,iO];by_cases h0:k=x
 case neg=>simp[h0,q]
 subst h0;by_cases h1:l=y;case neg=>simp[h1,q,c,f]
 subst h1;by_cases h2:m=z;case neg=>simp[h2,q,c,f,d,j]
 subst h2;by_cases h3:n=b3;case neg=>simp[h3,q,c,f,d,j,g,F]
 subst h3;by_cases h4:o=b4;case neg=>simp[h4,q,c,f,d,j,g,F,E,J]
 subst h4;by_cases h5:r=A;case neg=>simp[h5,q,c,f,d,j,g,F,E,J,H,N]
 subst h5;by_cases h6:s=B;case neg=>simp[h6,q,c,f,d,j,g,F,E,J,H,N,M,Q]
 subst h6;by_cases h7:w=D;case neg=>simp[h7,q,c,f,d,j,g,F,E,J,H,N,M,Q,O,X]
 subst h7;simp[q,c,d,g,E,H,M,O]
def V.v7{d:r!->p!}{i:r!}{q:Nat}{j:Int}{len:Nat}{f:TypeInfo}{b:Addr}(n:o.op=.indexAddr t x i)(s:d x=.pointer (some ⟨g,q,none⟩))(hi:d i=.int k j)(r:P.underlying t=some (.array len e))(c:P.info? e=some f)(p:f.size=1)(l:j.toNat=m)(h:0<=j)(v:m<len)(hb:(⟨g,q,none⟩:Addr).add m=b):(execOp d o).run P u=.ok (.value (.pointer (some b))) u:=by
 subst l hb;have a:j<len:=o_;simp[execOp,n,s,hi,Instr.indexAt,asIntOf,run_underlying r,Instr.sureAddr,h,a,sizeOf,typeInfo,c,p]
def BV(T:Ty α)(e:α)(j:Nat)(v:p!)(e':α):Prop:=j+v.cells.size<=T.size/\(T.enc e).take j++v.cells.toList++(T.enc e).drop (j+v.cells.size)=T.enc e'
def BV.NQ{T:Ty α}{e e':α}(a:v.cells=#[v])(b:j<T.size)(h:(T.enc e).take j++[v]++(T.enc e).drop (j+1)=T.enc e'):BV T e j v e':=by
 refine⟨by rw[a];exact b,?_⟩;rw[a];exact h
section
variable {α:Type} {T:Ty α} {N:Nat} {E:Env} {F:Nat->p!} {H H' R:List aG} {o:Oper} {A:n!} {n c:Nat} {l:List α}
def S.aHw{q k:Nat}{e e':α}{b:TypeInfo}(h:o.op=.store t x y)(s:ev F x=.pointer (some (((ad A).add q).add j)))(u:ev F y=v)(m:eQ (own T A n c l) [own T A n c (l.set k e')] H H')
  (a:BV T e j v e') (i:q=k*T.size) (g:l[k]?=some e) (f:∀x∈v.cells.toList,x.oneCell'=true)
  (hi:prog.info? t=some b) (p:v.cells.size=b.size):dF prog N E F H o λr d=>r=undef/\d=H':=by
 subst i;exact S.VC (T:=T) (q:=k*T.size+j) h s u (Cj _ _ _) f hi p rfl g a.1 a.2 m ⟨rfl,rfl⟩
def S.Ds{j:Func}{cs:List p!}{i:List r!}{y:Array q!}{m:List p!}{z:Ending->List aG->Prop}(ho:o.op=.call { callee:=.value x,args:=i.toArray,argTypes:=y })(hx:ev F x=.func (.func f) #[] cs.toArray)(w:mI F i=vs)(t:vs++cs=m)
  (r:P.funcs[f]?=some j) (g:(j.name == "runtime.NumGoroutine")=false) (b:j.body.isNone=false)
  (hp:fJ Hp H R) (h:∀M,Sub E R M->aF P M f m.toArray Hp z) (Z:∀e H',z e H'->∃v,e=.returned v/\∃p,kE H' R p/\K v p):dF P N E F H o K:=by
 subst w t;intro a u ha hu Kw Q' X;have⟨M,q,W,s,d⟩:=(hu.cC hp).enter;unfold Oper.wp;have hr:(execOp a.eval o).run P u=.ok (.enter f (mI F i++cs).toArray) u:=by
  have D:¬j.name = "runtime.NumGoroutine" := by simpa using g
  have J:¬j.body=none:=by intro h;rw[h] at b;cases b
  rw[ha.eval,FQ];simp[execOp,ho,resolve,hx,Deferred.ofValue,invoke,callFunc,r,D,J]
 rw[hr];refine(h M W q u s).mono ?_;rintro e B ⟨H',O,Q⟩;obtain⟨v,rfl,p,k,U⟩:=Z e H' Q;exact X v _ B U (by rw[k.eq];exact d H' B O)
end
class pH(t:TypeId)(α:outParam Type)(T:outParam (Ty α)):Prop where
 tid:T.tid=t
class Et{α:Type}(T:Ty α)(z:outParam α):Prop where
 z:T.val z=T.zero
class pR{α:Type}(T:Ty α)(b:outParam Nat):Prop where
 b:T.bytes=b
class iB(t:TypeId)(z:outParam (List Value))(pl:outParam (List (Nat×Nat))):Prop where
 r:Rec prog t z pl
class GR(t:TypeId)(z:outParam (List Value))(pl:outParam (List (Nat×Nat)))(sz:outParam Nat):Prop where
 r:FD prog t z pl sz
class zH(t:TypeId)(z:outParam (List Value)):Prop where
 z:((prog.info? t).bind (·.zero)).map (·.cells.toList)=some z
instance {t:q!}{z:List p!}{a:List (Nat×Nat)}[h:iB t z a]:zH t z:=⟨h.r.zero⟩
class AZ(t:TypeId)(xs ys:Array Value)(r:outParam Bool):Prop where
 e:Es prog t xs ys r
class LW(t:TypeId)(xs ys:Array Value)(r:outParam Bool):Prop where
 e:zF prog t xs ys r
noncomputable def jT(f:FuncId):Bool:=match prog.funcs[f]? with
 |some fn => !(fn.name == "runtime.NumGoroutine")&&fn.body.isSome
 |none=>false
def AK(h:jT f=true):∃fn,prog.funcs[f]?=some fn/\(fn.name == "runtime.NumGoroutine")=false/\fn.body.isNone=false:=by
 unfold jT at h;split at h
 ·rename_i fn a;simp only[fI,Ic] at h;exact⟨fn,a,h.1,by cases hb:fn.body<;>simp_all⟩
 ·cases h
abbrev bL(v:p!)(a:List aG):Ending->List aG->Prop:=λe H'=>e=.returned v/\H'=a
abbrev G(E:Env)(f:FuncId)(vs:List p!)(H:List aG)(Q:Ending->List aG->Prop):Prop:=aF prog E f vs.toArray H Q
class uD(f:FuncId)(vs:List Value)(v:outParam Value):Prop where
 t:∀E,G E f vs [] (bL v [])
class LV(f:FuncId)(vs:List Value)(α:outParam Type)(T:outParam (Ty α))(A:outParam (Option Addr))(n c:outParam Nat)(v:outParam (List α->Value)):Prop where
 t:∀E l,Rd E T A n c l->G E f vs [] (bL (v l) [])
inductive vG(F:Nat->Value):List Operand->List Value->Prop
 |nil:vG F [] []
 |cons {x:Operand} {v:Value} {l:List Operand} {vs:List Value} (h:ev F x=v) (t:vG F l vs):vG F (x::l) (v::vs)
def vG.eq{l:List r!}(h:vG F l vs):mI F l=vs:=by
 induction h with
 |nil=>rfl
 |cons h _ a=>rw[mI,h,a]
section
variable {N:Nat} {E:Env} {F:Nat->p!} {H H' R:List aG} {o:Oper} {α:Type} {T:Ty α}
def S.Zu{ops:List r!}{tys:Array q!}(n:o.op=.call { callee:=.value (.func f),args:=ops.toArray,argTypes:=tys })(a:vG F ops vs)(k:uD f vs v)(m:jT f=true) :
  dF prog N E F H o λr b=>r=v/\b=H:=by
 have⟨fn,c,h,j⟩:=AK m;refine S.call n a.eq c h j (fJ.nil (H:=H)) (λM p=>k.t M) ?_;rintro e H' ⟨rfl,rfl⟩;exact⟨_,rfl,_,kE.nil,rfl,rfl⟩
def S.Zv{ops:List r!}{tys:Array q!}{n c:Nat}{v:List α->p!}{l:List α}(s:o.op=.call { callee:=.value (.func f),args:=ops.toArray,argTypes:=tys })(a:vG F ops vs)(p:LV f vs α T A n c v)(q:jT f=true)
  (w:∀M,Sub E H M->Rd M T A n c l):dF prog N E F H o λr b=>r=v l/\b=H:=by
 have⟨fn,h,j,k⟩:=AK q;refine S.call s a.eq h j k (fJ.nil (H:=H)) (λM m=>p.t M l (w M m)) ?_;rintro e H' ⟨rfl,rfl⟩;exact⟨_,rfl,_,kE.nil,rfl,rfl⟩
def S.XZ(c:o.op=.buildSlice t 0 #[])(h:prog.underlying t=some (.slice e))(b:pH e α T)(hb:0*T.size<=2 ^ 24) :
  dF prog N E F H o λr a=>∃g,r=.slice (some ⟨g,0,none⟩) 0 0/\a=own T (some ⟨g,0,none⟩) 0 0 []::H :=
 S.JB (parts0:=[]) (l:=[]) c rfl (by rw[b.tid];exact h) rfl hb
def S.Af{e1:α}{a:p!}(j:o.op=.buildSlice t 1 #[(0,x)])(m:ev F x=a)(k:prog.underlying t=some (.slice e))(h:pH e α T)(c:T.val e1=a)(hb:1*T.size<=2 ^ 24) :
  dF prog N E F H o λr b=>∃g,r=.slice (some ⟨g,0,none⟩) 1 1/\b=own T (some ⟨g,0,none⟩) 1 1 [e1]::H :=
 S.pY j m c (by rw[h.tid];exact k) hb
def S.QD{e1 e2:α}{a b:p!}(m:o.op=.buildSlice t 2 #[(0,x),(1,y)])(p:ev F x=a)(q:ev F y=b)(n:prog.underlying t=some (.slice e))(k:pH e α T)(h:T.val e1=a)(j:T.val e2=b)(hb:2*T.size<=2 ^ 24) :
  dF prog N E F H o λr c=>∃g,r=.slice (some ⟨g,0,none⟩) 2 2/\c=own T (some ⟨g,0,none⟩) 2 2 [e1,e2]::H :=
 S.QG m p h q j (by rw[k.tid];exact n) hb
def S.Xa{z:r!}{e1 e2 a:α}{b c h:p!}(q:o.op=.buildSlice t 3 #[(0,x),(1,y),(2,z)])(w:ev F x=b)(A:ev F y=c)(B:ev F z=h)(s:prog.underlying t=some (.slice e))(p:pH e α T)(k:T.val e1=b)(m:T.val e2=c)(n:T.val a=h)(hb:3*T.size<=2 ^ 24) :
  dF prog N E F H o λr j=>∃g,r=.slice (some ⟨g,0,none⟩) 3 3/\j=own T (some ⟨g,0,none⟩) 3 3 [e1,e2,a]::H :=
 S.QH q w k A m B n (by rw[p.tid];exact s) hb
def S.mk4{k2:IntKind}{i:Int}{z:α}(p:o.op=.makeSlice t x y)(s:ev F x=.int k i)(w:ev F y=.int k2 i)(n:i.toNat=m)(h:0<=i)(q:prog.underlying t=some (.slice e))(j:pH e α T)(A:Et T z){by_:Nat}(hb:T.bytes=by_)(a:by_*i<=281474976710656)(b:i<=9223372036854775807) :
  dF prog N E F H o λr c=>∃g,r=.slice (some ⟨g,0,none⟩) m m/\c=own T (some ⟨g,0,none⟩) m m (List.replicate m z)::H :=
 S.aPw p s w n h A.z (by rw[j.tid];exact q) hb a b
def V.Ri{ops:List r!}(a:ρ=ev F)(b:o.op=.makeFunc (.func f) #[] ops.toArray)(c:vG F ops vs):(execOp ρ o).run P u=.ok (.value (.func (.func f) #[] vs.toArray)) u:=by
 have h:(ops.toArray.map ρ)=vs.toArray:=by rw[a,<-c.eq,FQ];simp
 simp[execOp,b,Instr.makeFunc,h]
def V.aPj{xs:Array p!}{r:Bool}(b:o.op=.binOp .neq t x y t')(c:ρ x=.agg xs)(e:ρ y=.agg ys)(h:zF P t xs ys r):(execOp ρ o).run P u=.ok (.value (.bool (!r))) u:=by
 have a:=run_neq_struct (P:=P) u t xs ys;rw[h.run] at a;simp[execOp,b,c,e,run_eqGuard_agg u .neq t x y xs ys h.guard,a]
end
def gX(E:Env)(g:Nat)(cs:List p!):Prop:=∀i v,cs[i]?=some v->wD E ⟨g,i,none⟩ v
section
variable {E M:Env} {H R R':List aG} {g i:Nat} {cs:List p!} {v:p!} {ρ:r!->p!} {o:Oper}
def gX.sub(h:gX E g cs)(a:Sub E R M):gX M g cs:=λi v b=>(h i v b).sub a
def gX.of(a:Sub E R M)(h:Has (aE g t cs) R R'):gX M g cs:=λ_ _ b=>wD.aE a h b
def Cell.kb(h:gX E g cs)(a:cs[i]?=some v):Cell E H ⟨g,i,none⟩ v:=Cell.kc (h i v a)
def Y.aBx{d:TypeDesc}{b:TypeInfo}(h:o.op=.load t x)(q:ρ x=.pointer (some ⟨g,i,none⟩))(k:P.underlying t=some d)(c:lY d=true)(hi:P.info? t=some b)(e:b.size=m)(hb:gX E g cs)(a:rU cs i m vs):gM P E H ρ o (.agg vs.toArray) :=
 Y.HU h q k c hi (e.trans a.eq.1.symm) λw p j u n=>by rw[uJ];exact Cell.kb (H:=H) hb (a.eq.2 j u n) w p
end
structure Sl(α:Type) where
 A:Option Addr
 n:Nat
 c:Nat
 l:List α
class Ih(t:TypeId)(α:outParam Type)(T:outParam (Ty α))(TS:outParam (Ty (Sl α))):Prop where
 tid:TS.tid=t
 val:∀s,TS.val s=.slice s.A s.n s.c
section
variable {α:Type} {T:Ty α} {TS:Ty (Sl α)} {N:Nat} {E:Env} {F:Nat->p!} {H:List aG} {o:Oper}
def S.Xc{a b:n!}{k c h:Nat}{n l2:List α}(q:o.op=.buildSlice t 2 #[(0,x),(1,y)])(w:ev F x=.slice a k c)(A:ev F y=.slice b m h)(s:prog.underlying t=some (.slice e))(j:Ih e α T TS)(_h1:eE E H T a k c n)(_h2:eE E H T b m h l2)(hb:2*TS.size<=2 ^ 24) :
  dF prog N E F H o λr p=>∃g,r=.slice (some ⟨g,0,none⟩) 2 2/\p=own TS (some ⟨g,0,none⟩) 2 2 [⟨a,k,c,n⟩,⟨b,m,h,l2⟩]::H :=
 S.QG q w (j.val _) A (j.val _) (by rw[j.tid];exact s) hb
def S.Xd{z:r!}{b c h:n!}{n p k q:Nat}{s l2 w:List α}(B:o.op=.buildSlice t 3 #[(0,x),(1,y),(2,z)])(J:ev F x=.slice b n j)(K:ev F y=.slice c p k)(O:ev F z=.slice h q m)(D:prog.underlying t=some (.slice e))(a:Ih e α T TS)(_h1:eE E H T b n j s)(_h2:eE E H T c p k l2)(_h3:eE E H T h q m w)(hb:3*TS.size<=2 ^ 24) :
  dF prog N E F H o λr A=>∃g,r=.slice (some ⟨g,0,none⟩) 3 3/\A=own TS (some ⟨g,0,none⟩) 3 3 [⟨b,n,j,s⟩,⟨c,p,k,l2⟩,⟨h,q,m,w⟩]::H :=
 S.QH B J (a.val _) K (a.val _) O (a.val _) (by rw[a.tid];exact D) hb
end
def V.cap{n:Nat}(b:o.op=.call { callee:=.builtin .cap,args:=#[x],argTypes:=#[t] })(c:P.underlying t=some (.slice e))(j:ρ x=.slice A n m)(a:m<=maxLen):(execOp ρ o).run P u=.ok (.value (a! m)) u:=by
 have h:IntKind.i64.wrap (m:Int)=m:=dY _ (by unfold maxLen at a;omega);simp[execOp,b,resolve,j,invoke,builtin,Builtin.cap_,run_underlying c,goInt]
def S.aSg{T:Ty α}{s:r!}{O:q!}{kn:IntKind}{i:Int}{z:α}(ho:o.op=.call { callee:=.builtin .append,args:=#[s,x],argTypes:=#[t,O] })(hs:ev F s=.slice none 0 0)(hx:ev F x=.int k i)
  (ht:prog.underlying t=some (.slice e)) (D:prog.underlying O=some (.int kn)) (A:pH e α T) (hz:Et T z) (Z:i.toNat=m) (h0:0<i) {by_:Nat} (hb:T.bytes=by_) (hm:m<=140737488355328) (W:m*by_<=140737488355328) :
  dF prog N E F H o λr H1=>∃(U:n!) (y:Nat),(m<=y/\y<=maxLen)/\r=.slice U m y/\H1=own T U m y (List.replicate m z)::H:=by
 obtain⟨j,rfl⟩:=zI (show 0<=i by omega);rw[jK] at Z;subst Z hb;intro a u ha hu Kw Q' hK;have A:=A.tid;subst A;have⟨ti,hi,K,c,B⟩:=T.sG;have n:=Lib.run_append_nil_zeros (P:=prog) u t O o.type T.tid ti T.zero k kn ht D hi K j o_ (by rw[c];exact T.fZ) o_ (by rw[B];omega);have p:=grownCap_ge u j 0 T.tid;have q:=grownCap_le_maxLen u j 0 T.tid (by unfold maxLen;omega);generalize grownCap u j 0 T.tid=cap at n p q;unfold Oper.wp;rw[ha.eval];have J:(execOp (ev F) o).run prog u=.ok (.value (.slice (some ⟨u.heap.size,0,none⟩) j cap)) (u.drew.alloc (.cells (Builtin.zeroCells T.zero.cells j++Builtin.zeroCells T.zero.cells (cap - j)) T.tid)):=by
  simp[execOp,ho,hs,hx,resolve,invoke,builtin,n]
 rw[J];refine hK _ _ _ ⟨some ⟨u.heap.size,0,none⟩,cap,⟨p,q⟩,rfl,rfl⟩ ?_;have w:∀j,(Builtin.zeroCells T.zero.cells j).toList=T.cE (List.replicate j z):=by
  intro j;rw[<-J6 T z hz.z j,<-T.hzero];rfl
 have c:∀j,(Builtin.zeroCells T.zero.cells j).size=j*T.size:=λj=>by rw[size_zeroCells,T.hzero]
 refine hu.drew.grow (l:=[own T (some ⟨u.heap.size,0,none⟩) j cap (List.replicate j z)]) rfl rfl rfl s_ (λb hb=>CT _ _ _ hb) (F1:=λb=>b=u.heap.size) ⟨_,λ_=>False,λb=>by simp,λb _ h=>h,⟨s_,.inr ⟨u.heap.size,_,rfl,λb=>oB,heap_alloc_new _ _,p,q,?_,?_⟩⟩,λb h=>h⟩ (λb hb=>by show u.heap.size<=b;omega)
 ·rw[Array.size_append,c,c,<-tL];congr 1;omega
 ·rw[Array.toList_append,w,qT (by rw[<-w,Db,c])]
section
variable {Q:p!->List aG->Prop} {E:Env} {Hk:List aG} {X Y:Type}
def x0{b:p!}{a:List aG}(h:Q b a):∀v H',(v=b/\H'=a)->Q v H':=by rintro _ _ ⟨rfl,rfl⟩;exact h
def x1{b:X->p!}{a:X->List aG}(h:∀g,Q (b g) (a g)):∀v H',(∃g,v=b g/\H'=a g)->Q v H':=by rintro _ _ ⟨g,rfl,rfl⟩;exact h g
def x2{p q:X->Y->Prop}{e:X->Y->p!}{c:X->Y->List aG}(h:∀a b,p a b->q a b->Q (e a b) (c a b)):∀v H',(∃a b,(p a b/\q a b)/\v=e a b/\H'=c a b)->Q v H':=by rintro _ _ ⟨a,b,⟨j,k⟩,rfl,rfl⟩;exact h a b j k
def y0{b:p!}{a:List aG}(c:aB E a Hk)(h:Q b a):∀v H',(v=b/\H'=a)->aB E H' Hk/\Q v H':=by rintro _ _ ⟨rfl,rfl⟩;exact⟨c,h⟩
def y1{b:X->p!}{a:X->List aG}(c:∀g,aB E (a g) Hk)(h:∀g,Q (b g) (a g)):∀v H',(∃g,v=b g/\H'=a g)->aB E H' Hk/\Q v H':=by rintro _ _ ⟨g,rfl,rfl⟩;exact⟨c g,h g⟩
def y2{p q:X->Y->Prop}{e:X->Y->p!}{c:X->Y->List aG}(m:∀a b,aB E (c a b) Hk)(h:∀a b,p a b->q a b->Q (e a b) (c a b)):∀v H',(∃a b,(p a b/\q a b)/\v=e a b/\H'=c a b)->aB E H' Hk/\Q v H':=by rintro _ _ ⟨a,b,⟨j,k⟩,rfl,rfl⟩;exact⟨m a b,h a b j k⟩
end
def ER{l:List r!}(h:vG F l vs:=by(iterate 24 first|exact vG.nil|(apply vG.cons;(· exact cQ))|skip);first|done|fail):vG F l vs:=h
def Ub{p:Prop}(h:p:=by infer_instance):p:=h
def rH{p:Prop}(h:p:=by infer_instance):p:=h
def Ug{p:Prop}(h:p:=by infer_instance):p:=h
def H7{T:Ty α}{b:Nat}(h:pR T b:=by infer_instance):T.bytes=b:=h.b
def sZ(h:zH t z:=by infer_instance):((prog.info? t).bind (·.zero)).map (·.cells.toList)=some z:=h.z
def aKz{pl:List (Nat×Nat)}(h:iB t z pl:=by infer_instance):Rec prog t z pl:=h.r
def aAl{pl:List (Nat×Nat)}{sz:Nat}(h:GR t z pl sz:=by infer_instance):FD prog t z pl sz:=h.r
def Kg{xs:Array p!}{r:Bool}(h:AZ t xs ys r:=by infer_instance):Es prog t xs ys r:=h.e
def UZ{xs:Array p!}{r:Bool}(h:LW t xs ys r:=by infer_instance):zF prog t xs ys r:=h.e
def ET{w:p!}(h:v=w:=by first|rfl|(with_reducible exact aMc _ eZ eZ)):v=w:=h
def kP(h:gM P E H ρ o v:=by first|(intro _ _;first|(first|(apply V.move;exact rfl;exact cQ)|(apply V.assign;exact rfl;exact cQ)|(apply V.nilCheck;exact rfl;exact rfl)|(apply V.fieldAddr;exact rfl;exact rfl;exact rfl;exact rfl;exact rfl;decide;exact cQ;exact UX)|(apply V.extract;exact rfl;exact rfl;exact rfl)|(apply V.not;exact rfl;exact rfl)|(apply V.aFs;exact rfl;exact rfl;exact rG;exact cQ)|(apply V.aLm;exact rfl;exact rfl;exact rG;exact cQ))|(first|(apply V.add;exact rfl;exact rfl;exact rfl;exact CH)|(apply V.sub;exact rfl;exact rfl;exact rfl;exact CH)|(apply V.mul;exact rfl;exact rfl;exact rfl;exact CH)|(apply V.lss;exact rfl;exact rfl;exact rfl)|(apply V.leq;exact rfl;exact rfl;exact rfl)|(apply V.gtr;exact rfl;exact rfl;exact rfl)|(apply V.geq;exact rfl;exact rfl;exact rfl)|(apply V.eql;exact rfl;exact rfl;exact rfl))|(first|(apply V.neq;exact rfl;exact rfl;exact rfl)|(apply V.aFy;exact rfl;exact rfl;exact rfl;exact rfl)|(apply V.ZG;exact rfl;exact rfl;exact rfl;exact rfl)|(apply V.ZF;exact rfl;exact rfl;exact rfl;exact rfl)|(apply V.neqN;exact rfl;exact rfl;exact rfl;exact rfl)|(apply V.len;exact rfl;exact rfl;exact rfl;exact H8)|(apply V.conv;exact rfl;exact rfl;exact rfl;exact rfl;exact CH)|(apply V.aNw;exact rfl;exact rfl;exact rfl;exact CH))|(first|(apply V.shl;exact rfl;exact rfl;exact rfl;exact eZ;exact CH)|(apply V.shr;exact rfl;exact rfl;exact rfl;exact eZ;exact CH)|(apply V.quo;exact rfl;exact rfl;exact rfl;exact eZ;exact aNr)|(apply V.rem;exact rfl;exact rfl;exact rfl;exact eZ;exact aNx)|(apply V.XU;exact rfl;decide;exact rfl;exact rfl;exact CH)|(apply V.neg;exact rfl;exact rfl;exact CH)|(apply V.ZI;exact rfl;exact rfl;exact rfl)|(apply V.aFh;exact rfl;exact rfl;exact rfl))|(first|(apply V.ZD;exact rfl;exact rfl;exact rfl;exact rfl)|(apply V.aQt;exact rfl;exact rfl;exact rfl;exact rfl)|(apply V.max;exact rfl;exact rfl;exact rfl)|(apply V.min;exact rfl;exact rfl;exact rfl)|(apply V.cap;exact rfl;exact rfl;exact rfl;exact H8)|(apply V.func1;exact rfl;exact cQ)|(apply V.Ri;exact rfl;exact rfl;exact ER)|(apply V.v5;exact rfl;exact rfl;exact rfl;exact rfl;exact rfl;exact rfl;exact rfl;exact rfl;exact sJ;exact eZ;exact eZ;exact mT))|(first|(apply V.cat;exact rfl;exact rfl;exact rfl;decide)|(apply V.ZH;exact rfl;exact cQ;exact cQ;exact UZ)|(apply V.aPj;exact rfl;exact cQ;exact cQ;exact UZ)|(apply V.ZC;exact rfl;exact cQ;exact cQ;exact Kg)|(apply V.aMi;exact rfl;exact cQ;exact cQ;exact Kg)|(apply V.v7;exact rfl;exact rfl;exact rfl;exact rfl;exact rfl;exact rfl;exact sJ;exact eZ;exact eZ;exact UX)))|(first|(first|(apply Y.load;exact rfl;exact rfl;exact rfl;exact rfl;exact aOi)|(apply Y.indexAddr;exact rfl;exact rfl;exact rfl;exact pC;exact sJ;exact eZ;exact mT;exact lU;exact lU)|(apply Y.Se;exact rfl;exact rfl;exact pC;rotate_left;exact lU;rotate_right;exact mT;exact lU)|(apply Y.aEe;exact rfl;exact rfl;exact rfl;exact rfl)|(apply Y.aEk;exact rfl;exact rfl;exact rfl;exact rfl;exact rfl;exact rfl;exact aV;exact F9)|(apply Y.aMw;exact rfl;exact rfl;exact pC;rotate_left;exact lU;rotate_right;exact mT;exact rfl;exact rfl;exact rfl;exact rfl;exact F9)|(apply Y.ZV;exact rfl;exact rfl;exact rfl;exact rfl;exact rfl;exact rfl;exact rfl)|(apply Y.fieldS;exact rfl;exact rfl;exact rfl;exact rfl;exact rfl;exact rfl;exact rfl;exact rfl;exact rfl;exact F9))|(first|(apply Y.len;exact rfl;exact rfl;exact pC;exact lU)|(apply Y.str;exact rfl;exact rfl;exact pC)|(apply Y.aPk;exact rfl;exact rfl;exact rfl;exact pC;exact sJ;exact eZ;exact eZ;exact lU)|(apply Y.aQr;exact rfl;exact rfl;exact rfl;exact pC;exact sJ;exact eZ;exact eZ;exact lU)|(apply Y.aOk;exact rfl;exact rfl;exact rfl;exact rfl;exact pC;exact sJ;exact eZ;exact sJ;exact eZ;exact eZ;exact eZ;exact lU)|(apply Y.aLg;exact rfl;exact rfl;exact rfl;exact rfl;exact pC;exact sJ;exact eZ;exact sJ;exact eZ;exact eZ;exact eZ;exact lU)|(apply Y.strLen;exact rfl;exact rfl;exact rfl;exact H8)|(apply Y.indexStr;exact rfl;exact rfl;exact rfl;exact rfl;exact sJ;exact eZ;exact mT))|(first|(apply Y.load;exact rfl;exact rfl;exact rfl;exact rfl;(· exact(Cell.aE aV mT)))|(apply Y.sliceFull;exact rfl;exact rfl;exact rfl;exact rfl;exact rfl;exact pC;exact sJ;exact eZ;exact sJ;exact eZ;exact eZ;exact eZ;exact lU)|(apply Y.load;exact rfl;exact rfl;exact rfl;exact rfl;(· exact(Cell.kb mT lU)))|(apply Y.aBx;exact rfl;exact rfl;exact rfl;exact rfl;exact rfl;exact rfl;exact mT;exact F9)|(apply Y.build;exact rfl;exact Ue;exact aKz;exact Ua)|(apply Y.Xe;exact rfl;exact Ue;exact aAl;exact Ua)))):gM P E H ρ o v:=h
def CJ(h:dF P N E F H o K:=by first|(first|(apply S.XX;exact rfl;exact cQ;exact UY)|(apply S.Ws;exact rfl;exact rfl;exact rfl;exact rfl;exact Uc;exact(λ_ _=>gR);exact OI;exact lU;exact H7;exact eZ;exact eZ)|(apply S.Pw;exact rfl;exact rfl;exact rfl;exact Uc;exact(λ_ _=>gR);exact pC;exact OI;exact lU;exact H7;exact eZ;exact eZ)|(apply S.Ww;exact rfl;exact rfl;exact rfl;exact pC;exact lU;exact H7;exact eZ;exact eZ)|(apply S.XZ;exact rfl;exact rfl;exact rH;decide)|(apply S.Xc;exact rfl;exact cQ;exact cQ;exact rfl;exact rH;exact pC;exact pC;decide)|(apply S.Xd;exact rfl;exact cQ;exact cQ;exact cQ;exact rfl;exact rH;exact pC;exact pC;exact pC;decide)|(apply S.aSg;exact rfl;exact rfl;exact rfl;exact rfl;exact rfl;exact rH;exact Ug;exact sJ;exact eZ;exact H7;exact eZ;exact eZ))|(first|(apply S.Af;exact rfl;exact cQ;exact rfl;exact rH;exact ET;decide)|(apply S.QD;exact rfl;exact cQ;exact cQ;exact rfl;exact rH;exact ET;exact ET;decide)|(apply S.Xa;exact rfl;exact cQ;exact cQ;exact cQ;exact rfl;exact rH;exact ET;exact ET;exact ET;decide)|(apply S.aBz;exact rfl;exact rfl;exact cQ;exact gR;rotate_left;exact lU;rotate_right;exact mT;exact ET;exact lU)|(apply S.aHw;exact rfl;exact rfl;exact cQ;exact gR;exact mT;exact rfl;exact mT;(· intro x hx;simp[Value.cells] at hx;subst hx;rfl);exact rfl;exact rfl)|(apply S.storeF0K;exact rfl;exact rfl;exact cQ;exact gR;exact mT;exact rfl;exact mT;(· intro x hx;simp[Value.cells] at hx;subst hx;rfl);exact rfl;exact rfl)|(apply S.Wd;exact rfl;exact sZ)|(apply S.mk4;exact rfl;exact rfl;exact rfl;exact sJ;exact eZ;exact rfl;exact rH;exact Ug;exact H7;exact eZ;exact eZ))|(first|(apply S.aNm;exact rfl;exact rfl;exact cQ;exact rfl;exact rfl;exact rfl;exact gR;exact Ud)|(apply S.YV;exact rfl;exact rfl;exact rfl;exact mT;exact gR;exact pC;rotate_left;exact rfl;rotate_right;exact mT;exact eZ;exact mT;exact rfl;exact H8)|(apply S.aMo;exact rfl;exact rfl;exact cQ;exact lU;exact rfl;exact rfl;exact gR;exact OH;exact Uf))):dF P N E F H o K:=h
def uY(h:dF P N E F H o K:=by first|(apply S.Zu;exact rfl;exact ER;exact Ub;kernel_rfl)|(apply S.Zv;exact rfl;exact ER;exact Ub;kernel_rfl;(· intro M hE;exact bK))|exact CJ|fail):dF P N E F H o K:=h
def w_{p:Prop}(hq:q)(h:kD q->p:=by intro h;(first|(focus (apply L.val;decide;exact kP))|refine C.seq ?_|refine C.region ?_|refine L.nil ?_|refine C.block ?_|refine C.exit ?_|refine C.skip ?_|refine C.ret ?_|(focus (apply L.on;exact rfl;decide;exact rfl;exact rG))|(focus (apply L.off;decide;exact rfl;decide;exact rfl;exact rG))|(focus (apply L.KK;decide;exact rfl;decide;exact rfl))|(focus (apply C.G0;exact rfl;exact rG))|(focus (apply C.Gz;exact rfl;exact rG))|refine Dr.done ?_|refine qP.done ?_|(focus (apply qP.take;exact rfl;decide;exact bB;exact kP))|(focus (apply Dr.take;exact rfl;decide;exact bB;exact kP))|(focus (apply Dr.skip;exact rfl;decide;exact F7))|(focus (apply Dr.Mt;exact rfl;decide;exact F7))|with_reducible refine T.n ?_|with_reducible refine T.ret ?_|with_reducible refine T.exit ?_|with_reducible refine I.n ?_|with_reducible refine I.ret ?_|with_reducible refine I.iI ?_|with_reducible refine I.J8 (by decide) ?_);(repeat (first|(focus (apply L.val;decide;exact kP))|refine C.seq ?_|refine C.region ?_|refine L.nil ?_|refine C.block ?_|refine C.exit ?_|refine C.skip ?_|refine C.ret ?_|(focus (apply L.on;exact rfl;decide;exact rfl;exact rG))|(focus (apply L.off;decide;exact rfl;decide;exact rfl;exact rG))|(focus (apply L.KK;decide;exact rfl;decide;exact rfl))|(focus (apply C.G0;exact rfl;exact rG))|(focus (apply C.Gz;exact rfl;exact rG))|refine Dr.done ?_|refine qP.done ?_|(focus (apply qP.take;exact rfl;decide;exact bB;exact kP))|(focus (apply Dr.take;exact rfl;decide;exact bB;exact kP))|(focus (apply Dr.skip;exact rfl;decide;exact F7))|(focus (apply Dr.Mt;exact rfl;decide;exact F7))|with_reducible refine T.n ?_|with_reducible refine T.ret ?_|with_reducible refine T.exit ?_|with_reducible refine I.n ?_|with_reducible refine I.ret ?_|with_reducible refine I.iI ?_|with_reducible refine I.J8 (by decide) ?_));exact h.out):p:=h ⟨hq⟩
def mV{p:Prop}(hq:q)(h:kD q->p:=by intro h;(first|(focus (apply L.val;decide;exact kP))|refine C.seq ?_|refine C.region ?_|refine L.nil ?_|refine C.block ?_|refine C.exit ?_|refine C.skip ?_|refine C.ret ?_|(focus (apply L.on;exact rfl;decide;exact rfl;exact rG))|(focus (apply L.off;decide;exact rfl;decide;exact rfl;exact rG))|(focus (apply L.KK;decide;exact rfl;decide;exact rfl))|(focus (apply C.G0;exact rfl;exact rG))|(focus (apply C.Gz;exact rfl;exact rG))|refine Dr.done ?_|refine qP.done ?_|(focus (apply qP.take;exact rfl;decide;exact bB;exact kP))|(focus (apply Dr.take;exact rfl;decide;exact bB;exact kP))|(focus (apply Dr.skip;exact rfl;decide;exact F7))|(focus (apply Dr.Mt;exact rfl;decide;exact F7))|with_reducible refine T.n ?_|with_reducible refine T.ret ?_|with_reducible refine T.exit ?_|with_reducible refine I.n ?_|with_reducible refine I.ret ?_|with_reducible refine I.iI ?_|with_reducible refine I.J8 (by decide) ?_);exact h.out):p:=h ⟨hq⟩
def k_{p:Prop}(hq:q)(h:kD q->p:=by intro h;first|(apply L.lI;decide;exact uY;(first|exact x0 h.out|exact x1 h.out|exact x2 h.out))|(apply L.DR;exact uY;(first|exact x0 h.out|exact x1 h.out|exact x2 h.out))|(apply Dr.FX;exact rfl;(· rintro k ⟨⟩<;>decide);exact bB;exact uY;(first|exact x0 h.out|exact x1 h.out|exact x2 h.out))|(apply Dr.D5;exact rfl;(· rintro k ⟨⟩<;>decide);exact bB;exact uY;(first|exact x0 h.out|exact x1 h.out|exact x2 h.out))|(apply lJ.mK;exact rfl;(· rintro k ⟨⟩<;>decide);exact bB;exact uY;(first|(refine y0 ?_ ?_;exact aC;exact h.out)|(refine y1 ?_ ?_;(· intro _;exact aC);exact h.out)|(refine y2 ?_ ?_;(· intro _ _;exact aC);exact h.out)))|(apply Dr.mK;exact rfl;(· rintro k ⟨⟩<;>decide);exact bB;exact uY;(first|(refine y0 ?_ ?_;exact aC;exact h.out)|(refine y1 ?_ ?_;(· intro _;exact aC);exact h.out)|(refine y2 ?_ ?_;(· intro _ _;exact aC);exact h.out)))):p:=h ⟨hq⟩
def tU{p:Prop}(hq:q)(h:kD q->p:=by intro h;first|(apply L.lI;decide;exact CJ;(first|exact x0 h.out|exact x1 h.out|exact x2 h.out))|(apply L.DR;exact CJ;(first|exact x0 h.out|exact x1 h.out|exact x2 h.out))|(apply Dr.FX;exact rfl;(· rintro k ⟨⟩<;>decide);exact bB;exact CJ;(first|exact x0 h.out|exact x1 h.out|exact x2 h.out))|(apply Dr.D5;exact rfl;(· rintro k ⟨⟩<;>decide);exact bB;exact CJ;(first|exact x0 h.out|exact x1 h.out|exact x2 h.out))|(apply lJ.mK;exact rfl;(· rintro k ⟨⟩<;>decide);exact bB;exact CJ;(first|(refine y0 ?_ ?_;exact aC;exact h.out)|(refine y1 ?_ ?_;(· intro _;exact aC);exact h.out)|(refine y2 ?_ ?_;(· intro _ _;exact aC);exact h.out)))|(apply Dr.mK;exact rfl;(· rintro k ⟨⟩<;>decide);exact bB;exact CJ;(first|(refine y0 ?_ ?_;exact aC;exact h.out)|(refine y1 ?_ ?_;(· intro _;exact aC);exact h.out)|(refine y2 ?_ ?_;(· intro _ _;exact aC);exact h.out)))):p:=h ⟨hq⟩
def sK(h:jT f=true:=by kernel_rfl):jT f=true:=h
section
variable {P:t!} {N z:Nat} {E:Env} {F:Nat->p!} {H R:List aG} {Q:QF} {f:FuncId} {ops:List r!} {tys:Array q!} {Hp:List aG} {Q1:Ending->List aG->Prop} {d:Nat} {ty:q!} {pos:String} {af:Array Edge}
def cl{os rest:List Oper}(m:d<N)(n:jT f=true)(p:fJ Hp H R)(a:∀M,Sub E R M->aF prog M f (mI F ops).toArray Hp Q1)(k:∀e H',Q1 e H'->∃v,e=.returned v/\∃b,kE H' R b/\L prog N E os Q rest (gK F d v) b) :
  L prog N E os Q (⟨some d,.call { callee:=.value (.func f),args:=ops.toArray,argTypes:=tys },ty,pos,af,none⟩::rest) F H:=by
 have⟨fn,c,h,j⟩:=AK n;exact L.step m (S.call rfl rfl c h j p a k)
def lC{os:List Oper}{a:Td}{gd:Option (Nat×Bool)}(hi:nth os i=some ⟨some d,.call { callee:=.value (.func f),args:=ops.toArray,argTypes:=tys },ty,pos,af,gd⟩)(p:d<N)(q:gV os N F true gd)(r:jT f=true)(s:fJ Hp H R)
  (c:∀M,Sub E R M->aF prog M f (mI F ops).toArray Hp Q1) (n:∀e H',Q1 e H'->∃v,e=.returned v/\∃b,kE H' R b/\aB E b Hk/\Dr prog N E z os Q Hk a (gK F d v) b):lJ prog N E z os Q Hk i a F H:=by
 have⟨fn,h,j,m⟩:=AK r;exact lJ.go hi (by rintro k ⟨⟩;exact p) q (S.call rfl rfl h j m s c n)
def cg{os:List Oper}{a:Td}{gd:Option (Nat×Bool)}(hi:nth os i=some ⟨some d,.call { callee:=.value (.func f),args:=ops.toArray,argTypes:=tys },ty,pos,af,gd⟩)(j:d<N)(k:gV os N F true gd)(m:jT f=true)(n:fJ Hp H R)
  (c:∀M,Sub E R M->aF prog M f (mI F ops).toArray Hp Q1) (h:∀e H',Q1 e H'->∃v,e=.returned v/\∃b,kE H' R b/\aB E b Hk/\Dr prog N E z os Q Hk a (gK F d v) b):Dr prog N E z os Q Hk (.one i true a) F H:=Dr.all (lC hi j k m n c h)
def gk{H' a:List aG}(b:kE H' R a)(h:K v a):∃v',Ending.returned v=.returned v'/\∃a,kE H' R a/\K v' a:=⟨v,rfl,a,b,h⟩
def gd{H' a:List aG}(b:kE H' R a)(c:aB E a Hk)(h:K v a):∃v',Ending.returned v=.returned v'/\∃a,kE H' R a/\aB E a Hk/\K v' a:=⟨v,rfl,a,b,c,h⟩
end
def t_{fn:Func}{args:Array p!}{R:Ending->List aG->Prop}(hf:P.funcs[f]?=some fn)(hn:fn.ntmps=N)(h:C P N E c (mB P E fn R) (vO args) H)(hb:fn.body=some c:=by rfl)(ha:args.size<=N:=by simp):aF P E f args H R:=fH hf hb hn ha h
def aS{p:Prop}(h:p:=by exact aX rfl aJ aC ⟨rfl,rfl⟩):p:=h
def mZ{p:Prop}(h:p:=by exact uX rfl aJ aJ aC ⟨rfl,rfl⟩):p:=h
def vK{p:Prop}(h:p:=by exact gG rfl aC ⟨rfl,rfl⟩):p:=h
def e4_{p:Prop}(h:p:=by exact Hy rfl aC ⟨rfl,rfl⟩):p:=h
def gE{p:Prop}(h:p:=by exact eP rfl aJ rfl rfl rfl aV rfl aC ⟨rfl,rfl⟩):p:=h
def lO{p:Prop}(h:p:=by exact mL rfl aJ rfl rfl rfl aV rfl aJ aC ⟨rfl,rfl⟩):p:=h
def wR{p:Prop}(h:p:=by apply eP;exact rfl;exact aJ;exact rfl;exact rfl;exact rfl;exact aV;exact rfl;rotate_left;exact⟨rfl,rfl⟩;exact aC):p:=h
def lD{p:Prop}(h:p:=by apply mL;exact rfl;exact aJ;exact rfl;exact rfl;exact rfl;exact aV;exact rfl;exact aJ;rotate_left;exact⟨rfl,rfl⟩;exact aC):p:=h
def nH{M:Env}{R:List aG}{p:Prop}(hE:Sub E R M)(h:Sub E R M->p:=by intro hE;first|exact bK|exact gX.of hE aV|(refine gX.sub ?_ hE;assumption)|(refine Rd.sub ?_ hE;assumption)|omega|assumption):p:=h hE
section
variable {N z:Nat} {E:Env} {F:Nat->p!} {H R:List aG} {Q:QF} {f:FuncId} {ops:List r!} {tys:Array q!} {Hp:List aG} {Q1:Ending->List aG->Prop} {d:Nat} {ty:q!} {pos:String} {af:Array Edge} {os rest:List Oper} {vs:List p!}
def Cp{S:Env->Prop}(a:∀M,S M->aF prog M f vs.toArray Hp Q1)(j:d<N)(k:jT f=true)(p:mI F ops=vs)(m:fJ Hp H R)(n:∀M,Sub E R M->S M)(h:∀e H',Q1 e H'->∃v,e=.returned v/\∃b,kE H' R b/\L prog N E os Q rest (gK F d v) b):L prog N E os Q (⟨some d,.call { callee:=.value (.func f),args:=ops.toArray,argTypes:=tys },ty,pos,af,none⟩::rest) F H:=by
 subst p;exact cl j k m (λM c=>a M (n M c)) h
def Cn{S:Env->Prop}{a:Td}{gd:Option (Nat×Bool)}(c:∀M,S M->aF prog M f vs.toArray Hp Q1)(hi:nth os i=some ⟨some d,.call { callee:=.value (.func f),args:=ops.toArray,argTypes:=tys },ty,pos,af,gd⟩)(k:d<N)(m:gV os N F true gd)(n:jT f=true)(r:mI F ops=vs)(p:fJ Hp H R)(q:∀M,Sub E R M->S M)(j:∀e H',Q1 e H'->∃v,e=.returned v/\∃b,kE H' R b/\aB E b Hk/\Dr prog N E z os Q Hk a (gK F d v) b):Dr prog N E z os Q Hk (.one i true a) F H:=by
 subst r;exact cg hi k m n p (λM h=>c M (q M h)) j
end
def J3{p:Env->Prop}(h:∀M,p M):∀M,True->p M:=λM _=>h M
def J4{p a b:Env->Prop}(h:∀M,a M->b M->p M):∀M,(a M/\b M)->p M:=λM k=>h M k.1 k.2
def J5{p a b c:Env->Prop}(h:∀M,a M->b M->c M->p M):∀M,(a M/\b M/\c M)->p M:=λM k=>h M k.1 k.2.1 k.2.2
def aP{K p:Prop}(law:K)(hq:q)(h:K->kD q->p:=by intro law h;apply Cp (J3 law);decide;kernel_rfl;(· rfl);exact aH;exact λ_ _=>trivial;(· rintro e H' ⟨rfl,rfl⟩;exact gk bU h.out)):p:=h law ⟨hq⟩
def cV{K p:Prop}(law:K)(hq:q)(h:K->kD q->p:=by intro law h;apply Cp law;decide;kernel_rfl;(· rfl);exact aH;exact λ_ hE=>nH hE;(· rintro e H' ⟨rfl,rfl⟩;exact gk bU h.out)):p:=h law ⟨hq⟩
def oE{K p:Prop}(law:K)(hq:q)(h:K->kD q->p:=by intro law h;apply Cp (J4 law);decide;kernel_rfl;(· rfl);exact aH;exact λ_ hE=>⟨nH hE,nH hE⟩;(· rintro e H' ⟨rfl,rfl⟩;exact gk bU h.out)):p:=h law ⟨hq⟩
def c3_{K p:Prop}(law:K)(hq:q)(h:K->kD q->p:=by intro law h;apply Cp (J5 law);decide;kernel_rfl;(· rfl);exact aH;exact λ_ hE=>⟨nH hE,nH hE,nH hE⟩;(· rintro e H' ⟨rfl,rfl⟩;exact gk bU h.out)):p:=h law ⟨hq⟩
def aU{K p:Prop}(law:K)(hq:q)(h:K->kD q->p:=by intro law h;apply Cp (J3 law);decide;kernel_rfl;(· rfl);exact aH;exact λ_ _=>trivial;exact h.out):p:=h law ⟨hq⟩
def cU{K p:Prop}(law:K)(hq:q)(h:K->kD q->p:=by intro law h;apply Cp law;decide;kernel_rfl;(· rfl);exact aH;exact λ_ hE=>nH hE;exact h.out):p:=h law ⟨hq⟩
def rO{K p:Prop}(law:K)(hq:q)(h:K->kD q->p:=by intro law h;apply Cp (J4 law);decide;kernel_rfl;(· rfl);exact aH;exact λ_ hE=>⟨nH hE,nH hE⟩;exact h.out):p:=h law ⟨hq⟩
def y3_{K p:Prop}(law:K)(hq:q)(h:K->kD q->p:=by intro law h;apply Cp (J5 law);decide;kernel_rfl;(· rfl);exact aH;exact λ_ hE=>⟨nH hE,nH hE,nH hE⟩;exact h.out):p:=h law ⟨hq⟩
def cP{K p:Prop}(law:K)(hq:q)(h:K->kD q->p:=by intro law h;apply Cn (J3 law);(· rfl);decide;exact bB;kernel_rfl;(· rfl);exact aH;exact λ_ _=>trivial;(· rintro e H' ⟨rfl,rfl⟩;exact gd bU aC h.out)):p:=h law ⟨hq⟩
def uO{K p:Prop}(law:K)(hq:q)(h:K->kD q->p:=by intro law h;apply Cn law;(· rfl);decide;exact bB;kernel_rfl;(· rfl);exact aH;exact λ_ hE=>nH hE;(· rintro e H' ⟨rfl,rfl⟩;exact gd bU aC h.out)):p:=h law ⟨hq⟩
def vN{K p:Prop}(law:K)(hq:q)(h:K->kD q->p:=by intro law h;apply Cn (J4 law);(· rfl);decide;exact bB;kernel_rfl;(· rfl);exact aH;exact λ_ hE=>⟨nH hE,nH hE⟩;(· rintro e H' ⟨rfl,rfl⟩;exact gd bU aC h.out)):p:=h law ⟨hq⟩
def g3_{K p:Prop}(law:K)(hq:q)(h:K->kD q->p:=by intro law h;apply Cn (J5 law);(· rfl);decide;exact bB;kernel_rfl;(· rfl);exact aH;exact λ_ hE=>⟨nH hE,nH hE,nH hE⟩;(· rintro e H' ⟨rfl,rfl⟩;exact gd bU aC h.out)):p:=h law ⟨hq⟩
def eI{K p:Prop}(law:K)(hq:q)(h:K->kD q->p:=by intro law h;apply Cn (J3 law);(· rfl);decide;exact bB;kernel_rfl;(· rfl);exact aH;exact λ_ _=>trivial;exact h.out):p:=h law ⟨hq⟩
def AV{K p:Prop}(law:K)(hq:q)(h:K->kD q->p:=by intro law h;apply Cn law;(· rfl);decide;exact bB;kernel_rfl;(· rfl);exact aH;exact λ_ hE=>nH hE;exact h.out):p:=h law ⟨hq⟩
def Da{K p:Prop}(law:K)(hq:q)(h:K->kD q->p:=by intro law h;apply Cn (J4 law);(· rfl);decide;exact bB;kernel_rfl;(· rfl);exact aH;exact λ_ hE=>⟨nH hE,nH hE⟩;exact h.out):p:=h law ⟨hq⟩
def z3_{K p:Prop}(law:K)(hq:q)(h:K->kD q->p:=by intro law h;apply Cn (J5 law);(· rfl);decide;exact bB;kernel_rfl;(· rfl);exact aH;exact λ_ hE=>⟨nH hE,nH hE,nH hE⟩;exact h.out):p:=h law ⟨hq⟩
abbrev n_(i:Nat)(t:Td):Td:=.one i false t
abbrev g_(i:Nat)(t:Td):Td:=.one i true t
section
variable {P:t!} {E:Env} {fn:Func} {R:Ending->List aG->Prop} {F:Nat->p!} {H H':List aG} {t u:Nat} {v v':p!}
def dS(h:R (.returned v) H')(hr:fn.results=#[.tmp t]:=by rfl)(hv:F t=v:=by exact aJ)(hc:aB E H H':=by exact aC):mB P E fn R .ret F H:=aX hr hv hc h
def oN(h:R (.returned (.tuple #[v,v'])) H')(hr:fn.results=#[.tmp t,.tmp u]:=by rfl)(hv:F t=v:=by exact aJ)(hv':F u=v':=by exact aJ)(hc:aB E H H':=by exact aC):mB P E fn R .ret F H:=uX hr hv hv' hc h
end
def v_{p:Prop}(hq:q)(h:kD q->p:=by intro h;first|exact w_ h.out|exact k_ h.out|(apply gd;exact bU;exact aC;exact h.out)|(apply gk;exact bU;exact h.out)):p:=h ⟨hq⟩
theorem xE_{α:Sort _}{p:α->Prop}{T:Prop}(h:∀a,p a->T):(∃a,p a)->T:=λ⟨a,b⟩=>h a b
theorem xA_{a b T:Prop}(h:a->b->T):a/\b->T:=λ⟨x,y⟩=>h x y
theorem b_{p:Prop}(hq:q)(h:kD q->p:=by intro h;intro e H';(repeat first|rintro ⟨rfl,rfl⟩|with_reducible refine xE_ λzz0=>?_|with_reducible refine xA_ λzz0=>?_);(repeat first|refine v_ ?_|intro zz0);(repeat revert zz0);exact h.out):p:=h ⟨hq⟩
theorem a_{p:Prop}(hq:q)(h:kD q->p:=by intro h;(repeat first|refine v_ ?_|intro zz0);(repeat revert zz0);exact h.out):p:=h ⟨hq⟩
theorem u_{K p:Prop}(law:K)(hq:q)(h:K->kD q->p:=by intro l h;refine aU l ?_;exact b_ h.out):p:=h law ⟨hq⟩
theorem C_{K p:Prop}(law:K)(hq:q)(h:K->kD q->p:=by intro l h;refine cU l ?_;exact b_ h.out):p:=h law ⟨hq⟩
theorem B_{K p:Prop}(law:K)(hq:q)(h:K->kD q->p:=by intro l h;refine eI l ?_;exact b_ h.out):p:=h law ⟨hq⟩
theorem r_{K p:Prop}(law:K)(hq:q)(h:K->kD q->p:=by intro l h;refine aP l ?_;exact a_ h.out):p:=h law ⟨hq⟩
theorem y_{K p:Prop}(law:K)(hq:q)(h:K->kD q->p:=by intro l h;refine cP l ?_;exact a_ h.out):p:=h law ⟨hq⟩
theorem z_{K p:Prop}(law:K)(hq:q)(h:K->kD q->p:=by intro l h;refine cV l ?_;exact a_ h.out):p:=h law ⟨hq⟩
theorem F_{K p:Prop}(law:K)(hq:q)(h:K->kD q->p:=by intro l h;refine oE l ?_;exact a_ h.out):p:=h law ⟨hq⟩
theorem p_{K L p:Prop}(hf:K)(hn:L)(hq:q)(h:K->L->kD q->p:=by intro f n h;refine t_ f n ?_;exact a_ h.out):p:=h hf hn ⟨hq⟩
theorem E_{K p:Prop}(law:K)(hq:q)(h:K->kD q->p:=by intro l h;refine uO l ?_;exact a_ h.out):p:=h law ⟨hq⟩
theorem H_{K p:Prop}(law:K)(hq:q)(h:K->kD q->p:=by intro l h;refine vN l ?_;exact a_ h.out):p:=h law ⟨hq⟩
def aA{p:Prop}(hq:q)(h:kD q->p:=by intro h;first|exact w_ h.out|exact tU h.out|(apply gd;exact bU;exact aC;exact h.out)|(apply gk;exact bU;exact h.out)):p:=h ⟨hq⟩
theorem e_{p:Prop}(hq:q)(h:kD q->p:=by intro h;intro e H';(repeat first|rintro ⟨rfl,rfl⟩|with_reducible refine xE_ λzz0=>?_|with_reducible refine xA_ λzz0=>?_);(repeat first|refine aA ?_|intro zz0);(repeat revert zz0);exact h.out):p:=h ⟨hq⟩
theorem c_{p:Prop}(hq:q)(h:kD q->p:=by intro h;(repeat first|refine aA ?_|intro zz0);(repeat revert zz0);exact h.out):p:=h ⟨hq⟩
theorem A_{K p:Prop}(law:K)(hq:q)(h:K->kD q->p:=by intro l h;refine aP l ?_;exact c_ h.out):p:=h law ⟨hq⟩
theorem G_{K p:Prop}(law:K)(hq:q)(h:K->kD q->p:=by intro l h;refine cP l ?_;exact c_ h.out):p:=h law ⟨hq⟩
theorem x_{K L p:Prop}(hf:K)(hn:L)(hq:q)(h:K->L->kD q->p:=by intro f n h;refine t_ f n ?_;exact c_ h.out):p:=h hf hn ⟨hq⟩
def l_:List Nat->Td->Td
 | [],t=>t
 |i::l,t=>.one i false (l_ l t)
section
variable {P:t!} {N:Nat} {E:Env} {F:Nat->p!} {H:List aG} {Q:QF} {id:Nat} {l:List Oper}
def rA(todo:Td)(h:Dr P N E 100000 l Q H todo F H)(hm:P.follows .mixedOrders=true:=by kernel_rfl)(hchk:(Region.noSelect l.toArray&&Nat.beq todo.len l.length&&dH l 100000 (Array.replicate l.length false) todo)=true:=by kernel_rfl):C P N E (.region id l.toArray true) Q F H:=C.fL 100000 todo H hm hchk aB.refl h
def rB(todo:Td)(Hk:List aG)(h:Dr P N E 100000 l Q Hk todo F H)(hm:P.follows .mixedOrders=true:=by kernel_rfl)(hchk:(Region.noSelect l.toArray&&Nat.beq todo.len l.length&&dH l 100000 (Array.replicate l.length false) todo)=true:=by kernel_rfl)(hk:aB E H Hk:=by exact aC):C P N E (.region id l.toArray true) Q F H:=C.fL 100000 todo Hk hm hchk hk h
end
def cS:maxLen=9223372036854775807:=rfl
def bQ(x:Int):Prop := -9223372036854775808<=x/\x<=9223372036854775807
instance:pH 5 UInt8 bH:=⟨rfl⟩
instance:Et bH KJ:=⟨rfl⟩
instance:pR bH 1:=⟨rfl⟩
structure aL where
 rep:Int
 seq:Int
def aL.eq_iff{x y:aL}:x=y↔x.rep=y.rep/\x.seq=y.seq:=by
 cases x;cases y;simp
instance:DecidableEq aL:=λ_ _=>decidable_of_iff _ aL.eq_iff.symm
abbrev aL.cs(x:aL):List p!:=[a! x.rep,a! x.seq]
def aL.ok(x:aL):Prop:=bQ x.rep/\bQ x.seq
def gJ:Ty aL where
 val x:=.agg x.cs.toArray
 size:=2
 bytes:=16
 tid:=32
 zero:=.agg #[a! 0,a! 0]
 hlen _:=rfl
 kL a u h:=by simp[Value.cells] at h;rcases h with rfl|rfl<;>rfl
 fZ:=sD
 hzero:=rfl
 lF:=q_
 mQ:=.inl ⟨q_,λ_=>⟨_,rfl⟩⟩
instance:pH 32 aL gJ:=⟨rfl⟩
instance:pR gJ 16:=⟨rfl⟩
instance:iB 32 [a! 0,a! 0] [(0,1),(1,1)]:=⟨⟨q_,q_⟩⟩
instance {a c b d:Int}:AZ 32 #[a! a,a! b] #[a! c,a! d] (decide ((⟨a,b⟩:aL)=⟨c,d⟩)) where e:={
 ty:=⟨_,underlying32⟩
 guard:=q_
 val:=by
  have h:eqv prog 5 32 [a! a,a! b] [a! c,a! d]=some (decide (a=c)&&(decide (b=d)&&true)):=q_;rw[show(decide ((⟨a,b⟩:aL)=⟨c,d⟩))=(decide (a=c)&&(decide (b=d)&&true)) by rw[uB];simp[]];exact h }
structure aI where
 id:aL
 time:Int
 kind:Int
 a:Int
 b:Int
 n:Int
 ref:aL
def aI.eq_iff{x y:aI}:x=y↔x.id=y.id/\x.time=y.time/\x.kind=y.kind/\x.a=y.a/\x.b=y.b/\x.n=y.n/\x.ref=y.ref:=by
 cases x;cases y;simp
instance:DecidableEq aI:=λ_ _=>decidable_of_iff _ aI.eq_iff.symm
abbrev aI.cs(x:aI):List p!:=[a! x.id.rep,a! x.id.seq,a! x.time,a! x.kind,a! x.a,a! x.b,a! x.n,a! x.ref.rep,a! x.ref.seq]
def aI.ok(x:aI):Prop:=x.id.ok/\bQ x.time/\bQ x.kind/\bQ x.a/\bQ x.b/\bQ x.n/\x.ref.ok
def bO:Ty aI where
 val x:=.agg x.cs.toArray
 size:=9
 bytes:=72
 tid:=34
 zero:=.agg #[a! 0,a! 0,a! 0,a! 0,a! 0,a! 0,a! 0,a! 0,a! 0]
 hlen _:=rfl
 kL a u h:=by simp[Value.cells] at h;rcases h with rfl|rfl|rfl|rfl|rfl|rfl|rfl|rfl|rfl<;>rfl
 fZ:=sD
 hzero:=rfl
 lF:=q_
 mQ:=.inl ⟨q_,λ_=>⟨_,rfl⟩⟩
abbrev kU:aI:=⟨⟨0,0⟩,0,0,0,0,0,⟨0,0⟩⟩
instance:pH 34 aI bO:=⟨rfl⟩
instance:Et bO kU:=⟨rfl⟩
instance:pR bO 72:=⟨rfl⟩
instance:iB 34 [a! 0,a! 0,a! 0,a! 0,a! 0,a! 0,a! 0,a! 0,a! 0] [(0,2),(2,1),(3,1),(4,1),(5,1),(6,1),(7,2)]:=⟨⟨q_,q_⟩⟩
instance {a l b m c n d b3 f b4 g o i p j q k r:Int}:AZ 34 #[a! a,a! b,a! c,a! d,a! f,a! g,a! i,a! j,a! k] #[a! l,a! m,a! n,a! b3,a! b4,a! o,a! p,a! q,a! r] (decide ((⟨⟨a,b⟩,c,d,f,g,i,⟨j,k⟩⟩:aI)=⟨⟨l,m⟩,n,b3,b4,o,p,⟨q,r⟩⟩)) where e:={
 ty:=⟨_,underlying34⟩
 guard:=q_
 val:=by
  have h:eqv prog 5 34 [a! a,a! b,a! c,a! d,a! f,a! g,a! i,a! j,a! k] [a! l,a! m,a! n,a! b3,a! b4,a! o,a! p,a! q,a! r]=some (((decide (a=l)&&(decide (b=m)&&true)))&&(decide (c=n)&&(decide (d=b3)&&(decide (f=b4)&&(decide (g=o)&&(decide (i=p)&&(((decide (j=q)&&(decide (k=r)&&true)))&&true))))))):=q_;rw[show(decide ((⟨⟨a,b⟩,c,d,f,g,i,⟨j,k⟩⟩:aI)=⟨⟨l,m⟩,n,b3,b4,o,p,⟨q,r⟩⟩))=(((decide (a=l)&&(decide (b=m)&&true)))&&(decide (c=n)&&(decide (d=b3)&&(decide (f=b4)&&(decide (g=o)&&(decide (i=p)&&(((decide (j=q)&&(decide (k=r)&&true)))&&true))))))) by rw[uB];simp[and_assoc]];exact h }
structure bE where
 kind:Int
 a:Int
 n:Int
 ref:aL
def bE.eq_iff{x y:bE}:x=y↔x.kind=y.kind/\x.a=y.a/\x.n=y.n/\x.ref=y.ref:=by
 cases x;cases y;simp
instance:DecidableEq bE:=λ_ _=>decidable_of_iff _ bE.eq_iff.symm
abbrev bE.cs(x:bE):List p!:=[a! x.kind,a! x.a,a! x.n,a! x.ref.rep,a! x.ref.seq]
def bE.ok(x:bE):Prop:=bQ x.kind/\bQ x.a/\bQ x.n/\x.ref.ok
def eT:Ty bE where
 val x:=.agg x.cs.toArray
 size:=5
 bytes:=40
 tid:=77
 zero:=.agg #[a! 0,a! 0,a! 0,a! 0,a! 0]
 hlen _:=rfl
 kL a u h:=by simp[Value.cells] at h;rcases h with rfl|rfl|rfl|rfl|rfl<;>rfl
 fZ:=sD
 hzero:=rfl
 lF:=q_
 mQ:=.inl ⟨q_,λ_=>⟨_,rfl⟩⟩
abbrev FM:bE:=⟨0,0,0,⟨0,0⟩⟩
instance:pH 77 bE eT:=⟨rfl⟩
instance:pR eT 40:=⟨rfl⟩
instance:iB 77 [a! 0,a! 0,a! 0,a! 0,a! 0] [(0,1),(1,1),(2,1),(3,2)]:=⟨⟨q_,q_⟩⟩
instance {a g b i c j d b3 f b4:Int}:AZ 77 #[a! a,a! b,a! c,a! d,a! f] #[a! g,a! i,a! j,a! b3,a! b4] (decide ((⟨a,b,c,⟨d,f⟩⟩:bE)=⟨g,i,j,⟨b3,b4⟩⟩)) where e:={
 ty:=⟨_,underlying77⟩
 guard:=q_
 val:=by
  have h:eqv prog 5 77 [a! a,a! b,a! c,a! d,a! f] [a! g,a! i,a! j,a! b3,a! b4]=some (decide (a=g)&&(decide (b=i)&&(decide (c=j)&&(((decide (d=b3)&&(decide (f=b4)&&true)))&&true)))):=q_;rw[show(decide ((⟨a,b,c,⟨d,f⟩⟩:bE)=⟨g,i,j,⟨b3,b4⟩⟩))=(decide (a=g)&&(decide (b=i)&&(decide (c=j)&&(((decide (d=b3)&&(decide (f=b4)&&true)))&&true)))) by rw[uB];simp[]];exact h }
structure bW where
 eD:Int
 nI:Int
 cO:Int
 base:Int
 cap:Int
abbrev bW.cs(x:bW):List p!:=[a! x.eD,a! x.nI,a! x.cO,a! x.base,a! x.cap]
def bW.ok(x:bW):Prop:=bQ x.eD/\bQ x.nI/\bQ x.cO/\bQ x.base/\bQ x.cap
def JG:Ty bW where
 val x:=.agg x.cs.toArray
 size:=5
 bytes:=40
 tid:=23
 zero:=.agg #[a! 0,a! 0,a! 0,a! 0,a! 0]
 hlen _:=rfl
 kL a u h:=by simp[Value.cells] at h;rcases h with rfl|rfl|rfl|rfl|rfl<;>rfl
 fZ:=sD
 hzero:=rfl
 lF:=q_
 mQ:=.inl ⟨q_,λ_=>⟨_,rfl⟩⟩
instance:iB 23 [a! 0,a! 0,a! 0,a! 0,a! 0] [(0,1),(1,1),(2,1),(3,1),(4,1)]:=⟨⟨q_,q_⟩⟩
structure aN where
 ord:Int
 bD:bE
 bI:Int
 last:Int
 dN:Bool
 gone:Bool
 back:Int
 iY:Int
def aN.eq_iff{x y:aN}:x=y↔x.ord=y.ord/\x.bD=y.bD/\x.bI=y.bI/\x.last=y.last/\x.dN=y.dN/\x.gone=y.gone/\x.back=y.back/\x.iY=y.iY:=by
 cases x;cases y;simp
instance:DecidableEq aN:=λ_ _=>decidable_of_iff _ aN.eq_iff.symm
abbrev aN.cs(x:aN):List p!:=[a! x.ord,a! x.bD.kind,a! x.bD.a,a! x.bD.n,a! x.bD.ref.rep,a! x.bD.ref.seq,a! x.bI,a! x.last,.bool x.dN,.bool x.gone,a! x.back,a! x.iY]
def aN.ok(x:aN):Prop:=bQ x.ord/\x.bD.ok/\bQ x.bI/\bQ x.last/\bQ x.back/\bQ x.iY
def gI:Ty aN where
 val x:=.agg x.cs.toArray
 size:=12
 bytes:=88
 tid:=92
 zero:=.agg #[a! 0,a! 0,a! 0,a! 0,a! 0,a! 0,a! 0,a! 0,.bool false,.bool false,a! 0,a! 0]
 hlen _:=rfl
 kL a u h:=by simp[Value.cells] at h;rcases h with rfl|rfl|rfl|rfl|rfl|rfl|rfl|rfl|rfl|rfl|rfl|rfl<;>rfl
 fZ:=sD
 hzero:=rfl
 lF:=q_
 mQ:=.inl ⟨q_,λ_=>⟨_,rfl⟩⟩
abbrev JU:aN:=⟨0,⟨0,0,0,⟨0,0⟩⟩,0,0,false,false,0,0⟩
instance:pH 92 aN gI:=⟨rfl⟩
instance:pR gI 88:=⟨rfl⟩
instance:iB 92 [a! 0,a! 0,a! 0,a! 0,a! 0,a! 0,a! 0,a! 0,.bool false,.bool false,a! 0,a! 0] [(0,1),(1,5),(6,1),(7,1),(8,1),(9,1),(10,1),(11,1)]:=⟨⟨q_,q_⟩⟩
instance {f q g r i s j b3 k b4 l t m u n v a c b d:Int}{o w p x:Bool}:AZ 92 #[a! f,a! g,a! i,a! j,a! k,a! l,a! m,a! n,.bool o,.bool p,a! a,a! b] #[a! q,a! r,a! s,a! b3,a! b4,a! t,a! u,a! v,.bool w,.bool x,a! c,a! d] (decide ((⟨f,⟨g,i,j,⟨k,l⟩⟩,m,n,o,p,a,b⟩:aN)=⟨q,⟨r,s,b3,⟨b4,t⟩⟩,u,v,w,x,c,d⟩)) where e:={
 ty:=⟨_,underlying92⟩
 guard:=q_
 val:=by
  have h:eqv prog 5 92 [a! f,a! g,a! i,a! j,a! k,a! l,a! m,a! n,.bool o,.bool p,a! a,a! b] [a! q,a! r,a! s,a! b3,a! b4,a! t,a! u,a! v,.bool w,.bool x,a! c,a! d]=some (decide (f=q)&&(((decide (g=r)&&(decide (i=s)&&(decide (j=b3)&&(((decide (k=b4)&&(decide (l=t)&&true)))&&true)))))&&(decide (m=u)&&(decide (n=v)&&(decide (o=w)&&(decide (p=x)&&(decide (a=c)&&(decide (b=d)&&true)))))))):=q_;rw[show(decide ((⟨f,⟨g,i,j,⟨k,l⟩⟩,m,n,o,p,a,b⟩:aN)=⟨q,⟨r,s,b3,⟨b4,t⟩⟩,u,v,w,x,c,d⟩))=(decide (f=q)&&(((decide (g=r)&&(decide (i=s)&&(decide (j=b3)&&(((decide (k=b4)&&(decide (l=t)&&true)))&&true)))))&&(decide (m=u)&&(decide (n=v)&&(decide (o=w)&&(decide (p=x)&&(decide (a=c)&&(decide (b=d)&&true)))))))) by rw[uB];simp[and_assoc]];exact h }
structure bV where
 id:aL
 ord:Int
 cJ:Bool
def bV.eq_iff{x y:bV}:x=y↔x.id=y.id/\x.ord=y.ord/\x.cJ=y.cJ:=by
 cases x;cases y;simp
instance:DecidableEq bV:=λ_ _=>decidable_of_iff _ bV.eq_iff.symm
abbrev bV.cs(x:bV):List p!:=[a! x.id.rep,a! x.id.seq,a! x.ord,.bool x.cJ]
def qY:Ty bV where
 val x:=.agg x.cs.toArray
 size:=4
 bytes:=32
 tid:=75
 zero:=.agg #[a! 0,a! 0,a! 0,.bool false]
 hlen _:=rfl
 kL a u h:=by simp[Value.cells] at h;rcases h with rfl|rfl|rfl|rfl<;>rfl
 fZ:=sD
 hzero:=rfl
 lF:=q_
 mQ:=.inl ⟨q_,λ_=>⟨_,rfl⟩⟩
instance:pR qY 32:=⟨rfl⟩
instance:iB 75 [a! 0,a! 0,a! 0,.bool false] [(0,2),(2,1),(3,1)]:=⟨⟨q_,q_⟩⟩
instance {a f b g c i:Int}{d b3:Bool}:AZ 75 #[a! a,a! b,a! c,.bool d] #[a! f,a! g,a! i,.bool b3] (decide ((⟨⟨a,b⟩,c,d⟩:bV)=⟨⟨f,g⟩,i,b3⟩)) where e:={
 ty:=⟨_,underlying75⟩
 guard:=q_
 val:=by
  have h:eqv prog 5 75 [a! a,a! b,a! c,.bool d] [a! f,a! g,a! i,.bool b3]=some (((decide (a=f)&&(decide (b=g)&&true)))&&(decide (c=i)&&(decide (d=b3)&&true))):=q_;rw[show(decide ((⟨⟨a,b⟩,c,d⟩:bV)=⟨⟨f,g⟩,i,b3⟩))=(((decide (a=f)&&(decide (b=g)&&true)))&&(decide (c=i)&&(decide (d=b3)&&true))) by rw[uB];simp[and_assoc]];exact h }
structure aM where
 key:bV
 bD:bE
def aM.eq_iff{x y:aM}:x=y↔x.key=y.key/\x.bD=y.bD:=by
 cases x;cases y;simp
instance:DecidableEq aM:=λ_ _=>decidable_of_iff _ aM.eq_iff.symm
abbrev aM.cs(x:aM):List p!:=[a! x.key.id.rep,a! x.key.id.seq,a! x.key.ord,.bool x.key.cJ,a! x.bD.kind,a! x.bD.a,a! x.bD.n,a! x.bD.ref.rep,a! x.bD.ref.seq]
def cF:Ty aM where
 val x:=.agg x.cs.toArray
 size:=9
 bytes:=72
 tid:=79
 zero:=.agg #[a! 0,a! 0,a! 0,.bool false,a! 0,a! 0,a! 0,a! 0,a! 0]
 hlen _:=rfl
 kL a u h:=by simp[Value.cells] at h;rcases h with rfl|rfl|rfl|rfl|rfl|rfl|rfl|rfl|rfl<;>rfl
 fZ:=sD
 hzero:=rfl
 lF:=q_
 mQ:=.inl ⟨q_,λ_=>⟨_,rfl⟩⟩
abbrev Hx:aM:=⟨⟨⟨0,0⟩,0,false⟩,⟨0,0,0,⟨0,0⟩⟩⟩
instance:pH 79 aM cF:=⟨rfl⟩
instance:pR cF 72:=⟨rfl⟩
instance:iB 79 [a! 0,a! 0,a! 0,.bool false,a! 0,a! 0,a! 0,a! 0,a! 0] [(0,4),(4,5)]:=⟨⟨q_,q_⟩⟩
instance {a l b m c n f b4 g o i p j q k r:Int}{d b3:Bool}:AZ 79 #[a! a,a! b,a! c,.bool d,a! f,a! g,a! i,a! j,a! k] #[a! l,a! m,a! n,.bool b3,a! b4,a! o,a! p,a! q,a! r] (decide ((⟨⟨⟨a,b⟩,c,d⟩,⟨f,g,i,⟨j,k⟩⟩⟩:aM)=⟨⟨⟨l,m⟩,n,b3⟩,⟨b4,o,p,⟨q,r⟩⟩⟩)) where e:={
 ty:=⟨_,underlying79⟩
 guard:=q_
 val:=by
  have h:eqv prog 5 79 [a! a,a! b,a! c,.bool d,a! f,a! g,a! i,a! j,a! k] [a! l,a! m,a! n,.bool b3,a! b4,a! o,a! p,a! q,a! r]=some (((((decide (a=l)&&(decide (b=m)&&true)))&&(decide (c=n)&&(decide (d=b3)&&true))))&&(((decide (f=b4)&&(decide (g=o)&&(decide (i=p)&&(((decide (j=q)&&(decide (k=r)&&true)))&&true)))))&&true)):=q_;rw[show(decide ((⟨⟨⟨a,b⟩,c,d⟩,⟨f,g,i,⟨j,k⟩⟩⟩:aM)=⟨⟨⟨l,m⟩,n,b3⟩,⟨b4,o,p,⟨q,r⟩⟩⟩))=(((((decide (a=l)&&(decide (b=m)&&true)))&&(decide (c=n)&&(decide (d=b3)&&true))))&&(((decide (f=b4)&&(decide (g=o)&&(decide (i=p)&&(((decide (j=q)&&(decide (k=r)&&true)))&&true)))))&&true)) by rw[uB];simp[and_assoc]];exact h }
structure fQ where
 kind:Int
 c:aI
 id:aL
 key:bV
 now:Int
def fQ.eq_iff{x y:fQ}:x=y↔x.kind=y.kind/\x.c=y.c/\x.id=y.id/\x.key=y.key/\x.now=y.now:=by
 cases x;cases y;simp
instance:DecidableEq fQ:=λ_ _=>decidable_of_iff _ fQ.eq_iff.symm
abbrev fQ.cs(x:fQ):List p!:=[a! x.kind,a! x.c.id.rep,a! x.c.id.seq,a! x.c.time,a! x.c.kind,a! x.c.a,a! x.c.b,a! x.c.n,a! x.c.ref.rep,a! x.c.ref.seq,a! x.id.rep,a! x.id.seq,a! x.key.id.rep,a! x.key.id.seq,a! x.key.ord,.bool x.key.cJ,a! x.now]
def jC:Ty fQ where
 val x:=.agg x.cs.toArray
 size:=17
 bytes:=136
 tid:=202
 zero:=.agg #[a! 0,a! 0,a! 0,a! 0,a! 0,a! 0,a! 0,a! 0,a! 0,a! 0,a! 0,a! 0,a! 0,a! 0,a! 0,.bool false,a! 0]
 hlen _:=rfl
 kL a u h:=by simp[Value.cells] at h;rcases h with rfl|rfl|rfl|rfl|rfl|rfl|rfl|rfl|rfl|rfl|rfl|rfl|rfl|rfl|rfl|rfl|rfl<;>rfl
 fZ:=sD
 hzero:=rfl
 lF:=q_
 mQ:=.inl ⟨q_,λ_=>⟨_,rfl⟩⟩
abbrev T1:fQ:=⟨0,⟨⟨0,0⟩,0,0,0,0,0,⟨0,0⟩⟩,⟨0,0⟩,⟨⟨0,0⟩,0,false⟩,0⟩
instance:pH 202 fQ jC:=⟨rfl⟩
instance:pR jC 136:=⟨rfl⟩
instance:iB 202 [a! 0,a! 0,a! 0,a! 0,a! 0,a! 0,a! 0,a! 0,a! 0,a! 0,a! 0,a! 0,a! 0,a! 0,a! 0,.bool false,a! 0] [(0,1),(1,9),(10,2),(12,4),(16,1)]:=⟨⟨q_,q_⟩⟩
instance {q A r B s D t b3 u b4 v E w F x H y J z K a j b k c l d m f n i p:Int}{g o:Bool}:AZ 202 #[a! q,a! r,a! s,a! t,a! u,a! v,a! w,a! x,a! y,a! z,a! a,a! b,a! c,a! d,a! f,.bool g,a! i] #[a! A,a! B,a! D,a! b3,a! b4,a! E,a! F,a! H,a! J,a! K,a! j,a! k,a! l,a! m,a! n,.bool o,a! p] (decide ((⟨q,⟨⟨r,s⟩,t,u,v,w,x,⟨y,z⟩⟩,⟨a,b⟩,⟨⟨c,d⟩,f,g⟩,i⟩:fQ)=⟨A,⟨⟨B,D⟩,b3,b4,E,F,H,⟨J,K⟩⟩,⟨j,k⟩,⟨⟨l,m⟩,n,o⟩,p⟩)) where e:={
 ty:=⟨_,underlying202⟩
 guard:=q_
 val:=by
  have h:eqv prog 5 202 [a! q,a! r,a! s,a! t,a! u,a! v,a! w,a! x,a! y,a! z,a! a,a! b,a! c,a! d,a! f,.bool g,a! i] [a! A,a! B,a! D,a! b3,a! b4,a! E,a! F,a! H,a! J,a! K,a! j,a! k,a! l,a! m,a! n,.bool o,a! p]=some (decide (q=A)&&(((((decide (r=B)&&(decide (s=D)&&true)))&&(decide (t=b3)&&(decide (u=b4)&&(decide (v=E)&&(decide (w=F)&&(decide (x=H)&&(((decide (y=J)&&(decide (z=K)&&true)))&&true))))))))&&(((decide (a=j)&&(decide (b=k)&&true)))&&(((((decide (c=l)&&(decide (d=m)&&true)))&&(decide (f=n)&&(decide (g=o)&&true))))&&(decide (i=p)&&true))))):=q_;rw[show(decide ((⟨q,⟨⟨r,s⟩,t,u,v,w,x,⟨y,z⟩⟩,⟨a,b⟩,⟨⟨c,d⟩,f,g⟩,i⟩:fQ)=⟨A,⟨⟨B,D⟩,b3,b4,E,F,H,⟨J,K⟩⟩,⟨j,k⟩,⟨⟨l,m⟩,n,o⟩,p⟩))=(decide (q=A)&&(((((decide (r=B)&&(decide (s=D)&&true)))&&(decide (t=b3)&&(decide (u=b4)&&(decide (v=E)&&(decide (w=F)&&(decide (x=H)&&(((decide (y=J)&&(decide (z=K)&&true)))&&true))))))))&&(((decide (a=j)&&(decide (b=k)&&true)))&&(((((decide (c=l)&&(decide (d=m)&&true)))&&(decide (f=n)&&(decide (g=o)&&true))))&&(decide (i=p)&&true))))) by rw[uB];simp[and_assoc]];exact h }
structure cK where
 kind:Int
 r:Int
 i:Int
 n:Int
 c:aI
def cK.eq_iff{x y:cK}:x=y↔x.kind=y.kind/\x.r=y.r/\x.i=y.i/\x.n=y.n/\x.c=y.c:=by
 cases x;cases y;simp
instance:DecidableEq cK:=λ_ _=>decidable_of_iff _ cK.eq_iff.symm
abbrev cK.cs(x:cK):List p!:=[a! x.kind,a! x.r,a! x.i,a! x.n,a! x.c.id.rep,a! x.c.id.seq,a! x.c.time,a! x.c.kind,a! x.c.a,a! x.c.b,a! x.c.n,a! x.c.ref.rep,a! x.c.ref.seq]
def cK.ok(x:cK):Prop:=bQ x.kind/\bQ x.r/\bQ x.i/\bQ x.n/\x.c.ok
def nK:Ty cK where
 val x:=.agg x.cs.toArray
 size:=13
 bytes:=104
 tid:=39
 zero:=.agg #[a! 0,a! 0,a! 0,a! 0,a! 0,a! 0,a! 0,a! 0,a! 0,a! 0,a! 0,a! 0,a! 0]
 hlen _:=rfl
 kL a u h:=by simp[Value.cells] at h;rcases h with rfl|rfl|rfl|rfl|rfl|rfl|rfl|rfl|rfl|rfl|rfl|rfl|rfl<;>rfl
 fZ:=sD
 hzero:=rfl
 lF:=q_
 mQ:=.inl ⟨q_,λ_=>⟨_,rfl⟩⟩
abbrev Ky:cK:=⟨0,0,0,0,⟨⟨0,0⟩,0,0,0,0,0,⟨0,0⟩⟩⟩
instance:pH 39 cK nK:=⟨rfl⟩
instance:iB 39 [a! 0,a! 0,a! 0,a! 0,a! 0,a! 0,a! 0,a! 0,a! 0,a! 0,a! 0,a! 0,a! 0] [(0,1),(1,1),(2,1),(3,1),(4,9)]:=⟨⟨q_,q_⟩⟩
instance {i s j t k u l b3 m b4 n v o w p x q y r z a d b f c g:Int}:AZ 39 #[a! i,a! j,a! k,a! l,a! m,a! n,a! o,a! p,a! q,a! r,a! a,a! b,a! c] #[a! s,a! t,a! u,a! b3,a! b4,a! v,a! w,a! x,a! y,a! z,a! d,a! f,a! g] (decide ((⟨i,j,k,l,⟨⟨m,n⟩,o,p,q,r,a,⟨b,c⟩⟩⟩:cK)=⟨s,t,u,b3,⟨⟨b4,v⟩,w,x,y,z,d,⟨f,g⟩⟩⟩)) where e:={
 ty:=⟨_,underlying39⟩
 guard:=q_
 val:=by
  have h:eqv prog 5 39 [a! i,a! j,a! k,a! l,a! m,a! n,a! o,a! p,a! q,a! r,a! a,a! b,a! c] [a! s,a! t,a! u,a! b3,a! b4,a! v,a! w,a! x,a! y,a! z,a! d,a! f,a! g]=some (decide (i=s)&&(decide (j=t)&&(decide (k=u)&&(decide (l=b3)&&(((((decide (m=b4)&&(decide (n=v)&&true)))&&(decide (o=w)&&(decide (p=x)&&(decide (q=y)&&(decide (r=z)&&(decide (a=d)&&(((decide (b=f)&&(decide (c=g)&&true)))&&true))))))))&&true))))):=q_;rw[show(decide ((⟨i,j,k,l,⟨⟨m,n⟩,o,p,q,r,a,⟨b,c⟩⟩⟩:cK)=⟨s,t,u,b3,⟨⟨b4,v⟩,w,x,y,z,d,⟨f,g⟩⟩⟩))=(decide (i=s)&&(decide (j=t)&&(decide (k=u)&&(decide (l=b3)&&(((((decide (m=b4)&&(decide (n=v)&&true)))&&(decide (o=w)&&(decide (p=x)&&(decide (q=y)&&(decide (r=z)&&(decide (a=d)&&(((decide (b=f)&&(decide (c=g)&&true)))&&true))))))))&&true))))) by rw[uB];simp[and_assoc]];exact h }
structure iX where
 code:Int
 n:Int
 m:Int
abbrev iX.cs(x:iX):List p!:=[a! x.code,a! x.n,a! x.m]
abbrev Gq:iX:=⟨0,0,0⟩
instance:iB 36 [a! 0,a! 0,a! 0] [(0,1),(1,1),(2,1)]:=⟨⟨q_,q_⟩⟩
structure dM where
 id:aL
 dX:Int
 item:Int
 dL:Int
 cost:Int
 state:Int
def dM.eq_iff{x y:dM}:x=y↔x.id=y.id/\x.dX=y.dX/\x.item=y.item/\x.dL=y.dL/\x.cost=y.cost/\x.state=y.state:=by
 cases x;cases y;simp
instance:DecidableEq dM:=λ_ _=>decidable_of_iff _ dM.eq_iff.symm
abbrev dM.cs(x:dM):List p!:=[a! x.id.rep,a! x.id.seq,a! x.dX,a! x.item,a! x.dL,a! x.cost,a! x.state]
def eS:Ty dM where
 val x:=.agg x.cs.toArray
 size:=7
 bytes:=56
 tid:=155
 zero:=.agg #[a! 0,a! 0,a! 0,a! 0,a! 0,a! 0,a! 0]
 hlen _:=rfl
 kL a u h:=by simp[Value.cells] at h;rcases h with rfl|rfl|rfl|rfl|rfl|rfl|rfl<;>rfl
 fZ:=sD
 hzero:=rfl
 lF:=q_
 mQ:=.inl ⟨q_,λ_=>⟨_,rfl⟩⟩
abbrev aGx:dM:=⟨⟨0,0⟩,0,0,0,0,0⟩
instance:pH 155 dM eS:=⟨rfl⟩
instance:Et eS aGx:=⟨rfl⟩
instance:pR eS 56:=⟨rfl⟩
instance:iB 155 [a! 0,a! 0,a! 0,a! 0,a! 0,a! 0,a! 0] [(0,2),(2,1),(3,1),(4,1),(5,1),(6,1)]:=⟨⟨q_,q_⟩⟩
instance {a j b k c l d b3 f b4 g m i n:Int}:AZ 155 #[a! a,a! b,a! c,a! d,a! f,a! g,a! i] #[a! j,a! k,a! l,a! b3,a! b4,a! m,a! n] (decide ((⟨⟨a,b⟩,c,d,f,g,i⟩:dM)=⟨⟨j,k⟩,l,b3,b4,m,n⟩)) where e:={
 ty:=⟨_,underlying155⟩
 guard:=q_
 val:=by
  have h:eqv prog 5 155 [a! a,a! b,a! c,a! d,a! f,a! g,a! i] [a! j,a! k,a! l,a! b3,a! b4,a! m,a! n]=some (((decide (a=j)&&(decide (b=k)&&true)))&&(decide (c=l)&&(decide (d=b3)&&(decide (f=b4)&&(decide (g=m)&&(decide (i=n)&&true)))))):=q_;rw[show(decide ((⟨⟨a,b⟩,c,d,f,g,i⟩:dM)=⟨⟨j,k⟩,l,b3,b4,m,n⟩))=(((decide (a=j)&&(decide (b=k)&&true)))&&(decide (c=l)&&(decide (d=b3)&&(decide (f=b4)&&(decide (g=m)&&(decide (i=n)&&true)))))) by rw[uB];simp[and_assoc]];exact h }
structure nO where
 aPi:Int
 now:Int
 key:bV
 bD:bE
abbrev nO.cs(x:nO):List p!:=[a! x.aPi,a! x.now,a! x.key.id.rep,a! x.key.id.seq,a! x.key.ord,.bool x.key.cJ,a! x.bD.kind,a! x.bD.a,a! x.bD.n,a! x.bD.ref.rep,a! x.bD.ref.seq]
def sV:Ty nO where
 val x:=.agg x.cs.toArray
 size:=11
 bytes:=88
 tid:=81
 zero:=.agg #[a! 0,a! 0,a! 0,a! 0,a! 0,.bool false,a! 0,a! 0,a! 0,a! 0,a! 0]
 hlen _:=rfl
 kL a u h:=by simp[Value.cells] at h;rcases h with rfl|rfl|rfl|rfl|rfl|rfl|rfl|rfl|rfl|rfl|rfl<;>rfl
 fZ:=sD
 hzero:=rfl
 lF:=q_
 mQ:=.inl ⟨q_,λ_=>⟨_,rfl⟩⟩
instance:pH 81 nO sV:=⟨rfl⟩
instance:pR sV 88:=⟨rfl⟩
instance:iB 81 [a! 0,a! 0,a! 0,a! 0,a! 0,.bool false,a! 0,a! 0,a! 0,a! 0,a! 0] [(0,1),(1,1),(2,4),(6,5)]:=⟨⟨q_,q_⟩⟩
section
variable {P:t!} {N:Nat} {E:Env} {F:Nat->p!} {H:List aG} {Q:QF}
def C.cd{c:r!}{x y:Code}{p:Prop}{i:Decidable p}(a:ev F c=.bool (@decide p i))(b:p->C P N E x Q F H)(d:¬p->C P N E y Q F H):C P N E (.cond c x y) Q F H:=C.YS a b d
def L.fT{b:List Oper}{d:Nat}{f:Op}{ty:q!}{c:String}{e:Array Edge}{p:Prop}{i:Decidable p}(l:d<N)(n:(nth b j).bind (·.dst)=some g)(m:g<N)(o:F g=.bool (@decide p i))
  (h:p->L P N E b Q (⟨some d,f,ty,c,e,none⟩::a) F H) (k:¬p->L P N E b Q a (gK F d undef) H):L P N E b Q (⟨some d,f,ty,c,e,some (j,true)⟩::a) F H:=L.Zo l n m o h k
end
def f_{p r:Prop}(h1:q)(h2:r)(h:kD q->kD r->p:=by intro h1 h2;first|(apply C.cd;(· exact rfl);(· exact h1.out);(· exact h2.out))|(apply C.cond;(· exact rfl);(· exact h1.out);(· exact h2.out))|(apply L.fT;(· decide);(· exact rfl);(· decide);(· exact rfl);(· exact h1.out);(· exact h2.out))|(apply L.fF;(· decide);(· exact rfl);(· decide);(· exact rfl);(· exact h1.out);(· exact h2.out))|(apply L.fork;(· decide);(· exact rfl);(· decide);(· exact rfl);(· exact h1.out);(· exact h2.out))|fail):p:=h ⟨h1⟩ ⟨h2⟩
section
variable {P:t!} {N:Nat} {E:Env} {F:Nat->p!} {H:List aG} {Q:QF}
theorem C.scan{Y:Type}{n:Nat}(hn:n=l.length)(S:Nat->Y->List (Nat×p!))(HX:Nat->Y->List aG)(R:Nat->Y->Prop)(y0:Y)(hF:rP F (S 0 y0))(hH:aB E H (HX 0 y0))(h0:R 0 y0)
  (round:∀i y x G,i<n->l[i]?=some x->R i y->C P N E c (vB (λF' H'=>∃y',rP F' (S (i+1) y')/\aB E H' (HX (i+1) y')/\R (i+1) y') Q) (AQ (S i y) G) (HX i y))
  (last:∀y G,R n y->C P N E c (vB (λ_ _=>False) Q) (AQ (S n y) G) (HX n y)):C P N E (.loop c) Q F H:=by
 refine C.loop (X:=Nat×Y) (λx=>S x.1 x.2) (λx=>HX x.1 x.2) (λx=>x.1<=n/\R x.1 x.2) (λx=>n - x.1) (0,y0) hF hH ⟨bY _,h0⟩ ?_;rintro⟨i,y⟩ G ⟨hi,hr⟩;by_cases hlt:i<n
 ·refine(round i y (l[i]'o_) G hlt (bS o_) hr).mono ?_;intro e F' H' h;cases e with
  |normal=>have⟨y',h1,h2,h3⟩:=h;exact⟨(i+1,y'),h1,h2,⟨hlt,h3⟩,by show n - (i+1)<n - i;omega⟩
  |ret=>exact h
  |exit id=>exact h
  |panic c=>exact h
 ·obtain rfl:i=n:=o_;refine(last y G hr).mono ?_;intro e F' H' h;cases e with
  |normal=>exact h.elim
  |ret=>exact h
  |exit id=>exact h
  |panic c=>exact h
end
def iK{a b:Bool}(h:a=b:=by first|rfl|(exact(d! o_).symm)|(exact(e! o_).symm)|(exact d! o_)|(exact e! o_)|(rw[uB];simp;done)|(rw[uB];simp;omega)|(simp_all;done)):Ending.returned (.bool a)=.returned (.bool b):=by rw[h]
def yW{a b:Int}(h:a=b:=by omega):Ending.returned (.int k a)=.returned (.int k b):=by rw[h]
structure Hd where
 A:Option Addr
 n:Nat
 c:Nat
def yI:Ty Int where
 val x:=a! x
 size:=1
 bytes:=8
 tid:=3
 zero:=a! 0
 hlen _:=rfl
 kL a u h:=by simp only[Value.cells,eM] at h;subst h;rfl
 fZ:=sD
 hzero:=rfl
 lF:=q_
 mQ:=.inr ⟨q_,λ_=>rfl⟩
instance:pH 3 Int yI:=⟨rfl⟩
def aL.may(x:aL):Bool:=decide (0<=x.rep/\x.rep<=3/\1<=x.seq/\x.seq<=65535)
theorem aL.eY(x:aL):x.may=true↔0<=x.rep/\x.rep<=3/\1<=x.seq/\x.seq<=65535:=by simp[aL.may]
def lS(E:Env)(n lo hi:Int):G E 105 [a! n,a! lo,a! hi] [] (bL (.bool (decide (lo<=n/\n<=hi))) []):=by
 refine t_ func105 ntmps105 ?_;repeat' (first|refine w_ ?_|refine k_ ?_|refine f_ ?_ ?_|intro _)
 all_goals exact aX rfl aJ aC ⟨iK,rfl⟩
instance {n lo hi:Int}:uD 105 [a! n,a! lo,a! hi] (.bool (decide (lo<=n/\n<=hi))):=⟨λE=>lS E n lo hi⟩
def fC(n lo hi:Int):Int:=if n<lo then lo else if hi<n then hi else n
def QT(E:Env)(n lo hi:Int):G E 65 [a! n,a! lo,a! hi] [] (bL (a! (fC n lo hi)) []):=by
 unfold fC;refine t_ func65 ntmps65 ?_;repeat' (first|refine w_ ?_|refine k_ ?_|refine f_ ?_ ?_|intro _)
 all_goals exact aX rfl aJ aC ⟨yW (by simp[*]),rfl⟩
instance {n lo hi:Int}:uD 65 [a! n,a! lo,a! hi] (a! (fC n lo hi)):=⟨λE=>QT E n lo hi⟩
def x7(E:Env)(n:Int):G E 312 [a! n] [] (bL (.bool false) []):=by
 refine p_ func312 ntmps312 ?_
 exact aX rfl aJ aC (⟨iK,rfl⟩)
instance {n:Int}:uD 312 [a! n] (.bool false):=⟨λE=>x7 E n⟩
def nR(a b:Int):Int:=if a<b then -1 else if b<a then 1 else 0
def YR(E:Env)(a b:Int):G E 271 [a! a,a! b] [] (bL (a! (nR a b)) []):=by
 unfold nR;refine t_ func271 ntmps271 ?_;repeat' (first|refine w_ ?_|refine k_ ?_|refine f_ ?_ ?_|intro _)
 all_goals exact aX rfl aJ aC ⟨yW (by simp[*]),rfl⟩
instance {a b:Int}:uD 271 [a! a,a! b] (a! (nR a b)):=⟨λE=>YR E a b⟩
def oM:List Int->Int
 | []=>0
 |x::l=>if x=0 then oM l else x
def aMf{l:List Int}(h:∀x∈l,x=0):oM l=0:=by
 induction l with
 |nil=>rfl
 |cons x l b=>rw[oM,c! (h x jW)];exact b λy a=>h y (kF _ a)
def aEq{l:List Int}{x:Int}(b:l[i]?=some x)(c:x≠0)(h:∀j y,j<i->l[j]?=some y->y=0):oM l=x:=by
 induction l generalizing i with
 |nil=>cases b
 |cons a l e =>
  cases i with
  |zero=>injection b with b;subst b;rw[oM,b! c]
  |succ i =>
   rw[oM,c! (h 0 a o_ rfl)];exact e (i:=i) b λj y f d=>h (j+1) y o_ d
def aAs(E:Env)(A:n!)(n c:Nat)(l:List Int)(k:Rd E yI A n c l):G E 269 [.slice A n c] [] (bL (a! (oM l)) []):=by
 have o:=k.len;have g:=k.cap;have h:=cS;refine p_ func269 ntmps269 ?_;refine C.scan (Y:=Unit) o (λi _=>[(0,.slice A n c),(3,a! 0),(6,.slice A n c),(7,a! n),(8,a! i)]) (λ_ _=>[]) (λi _=>∀j y,j<i->l[j]?=some y->y=0) () aK aB.refl (λj y e=>by omega) ?_ ?_
 ·intro i _ x G p b a;refine a_ ?_;by_cases m:x=0
  ·refine a_ ?_;refine⟨(),aK,aB.refl,λj y e d=>?_⟩;by_cases f:j=i
   ·subst f;rw[b] at d;injection d with d;omega
   ·exact a j y o_ d
  ·refine a_ ?_;exact aX rfl aJ aC (⟨yW (aEq b m a).symm,rfl⟩)
 ·intro _ G a;refine a_ ?_;exact aX rfl aJ aC (⟨yW (aMf λx b=>by obtain⟨j,e,rfl⟩:=oV b;exact a j _ o_ (bS e)).symm,rfl⟩)
instance {A:n!}{n c:Nat}:LV 269 [.slice A n c] Int yI A n c (λl=>a! (oM l)):=⟨λE l h=>aAs E A n c l h⟩
def R5(E:Env)(a b:Int):G E 160 [.agg #[a! a,a! b]] [] (bL (.bool (aL.may ⟨a,b⟩)) []):=by
 unfold aL.may;refine t_ func160 ntmps160 ?_;repeat' (first|refine w_ ?_|refine k_ ?_|refine f_ ?_ ?_|intro _)
 all_goals exact aX rfl aJ aC ⟨iK,rfl⟩
instance {a b:Int}:uD 160 [.agg #[a! a,a! b]] (.bool (aL.may ⟨a,b⟩)):=⟨λE=>R5 E a b⟩
def sE(a b:aL):Int:=oM [nR a.seq b.seq,nR a.rep b.rep]
def v8(E:Env)(a b c d:Int):G E 270 [.agg #[a! a,a! b],.agg #[a! c,a! d]] [] (bL (a! (sE ⟨a,b⟩ ⟨c,d⟩)) []):=by
 refine p_ func270 ntmps270 ?_;intros
 refine rA (l_ [0,1,2,3,5,6,7,8] (g_ 4 (g_ 9 (g_ 10 (g_ 11 (n_ 12 .nil)))))) (a_ ?_);intros
 exact aS
instance {a b c d:Int}:uD 270 [.agg #[a! a,a! b],.agg #[a! c,a! d]] (a! (sE ⟨a,b⟩ ⟨c,d⟩)):=⟨λE=>v8 E a b c d⟩
def u6(E:Env)(a b c d:Int):G E 385 [.agg #[a! a,a! b],.agg #[a! c,a! d]] [] (bL (.bool (decide (sE ⟨a,b⟩ ⟨c,d⟩<0))) []):=by
 refine p_ func385 ntmps385 ?_;intros
 exact aS
instance {a b c d:Int}:uD 385 [.agg #[a! a,a! b],.agg #[a! c,a! d]] (.bool (decide (sE ⟨a,b⟩ ⟨c,d⟩<0))):=⟨λE=>u6 E a b c d⟩
def aMd(E:Env)(r:Int):G E 157 [a! r] [] (bL (.bool (decide (0<=r/\r<=3))) []):=by
 refine t_ func157 ntmps157 ?_;repeat' (first|refine w_ ?_|refine k_ ?_|refine f_ ?_ ?_|intro _)
 all_goals exact aX rfl aJ aC ⟨iK,rfl⟩
instance {r:Int}:uD 157 [a! r] (.bool (decide (0<=r/\r<=3))):=⟨λE=>aMd E r⟩
end
section
def place(p:α->Bool):List α->Int
 | [] => -1
 |x::l=>if p x then 0 else if place p l<0 then -1 else place p l+1
def behind(p:α->Bool):List α->Nat
 | []=>0
 |x::l=>if 0<behind p l then behind p l+1 else if p x then 1 else 0
def Ho{p:α->Bool}{x:α}(b:l[i]?=some x)(c:p x=true)(h:∀j y,j<i->l[j]?=some y->p y=false):place p l=i:=by
 induction l generalizing i with
 |nil=>cases b
 |cons a l e =>
  cases i with
  |zero=>injection b with b;subst b;rw[place,c! c];rfl
  |succ i =>
   rw[place,b! (by rw[h 0 a o_ rfl];decide),e (i:=i) b λj y f d=>h (j+1) y o_ d,b! o_];omega
def KQ{p:α->Bool}(h:∀x∈l,p x=false):place p l = -1:=by
 induction l with
 |nil=>rfl
 |cons a l c=>rw[place,b! (by grind),c λx b=>h x (kF _ b),c! sD]
theorem Hn(p:α->Bool)(l:List α):(decide (0<=place p l))=l.any p:=by
 induction l with
 |nil=>rfl
 |cons a l b =>
  grind [place]
theorem CD{p:α->Bool}(h:0<=place p l):(place p l).toNat<l.length/\∃x,l[(place p l).toNat]?=some x/\p x=true:=by
 induction l with
 |nil=>exact i! h (by show ¬(0:Int) <= -1;decide)
 |cons a l b =>
  grind [place]
def P8{p:α->Bool}(h:∀x∈l,p x=false):behind p l=0:=by
 induction l with
 |nil=>rfl
 |cons a l c=>rw[behind,c λx b=>h x (kF _ b),b! o_,b! (by grind)]
def P6{p:α->Bool}{x:α}(b:l[i]?=some x)(e:p x=true)(h:∀j y,i<j->l[j]?=some y->p y=false):behind p l=i+1:=by
 induction l generalizing i with
 |nil=>cases b
 |cons a l f =>
  cases i with
  |zero =>
   injection b with b
   subst b;rw[behind,P8 λy c=>by obtain⟨j,d,rfl⟩:=oV c;exact h (j+1) _ o_ s_,b! o_,c! e]
  |succ i=>rw[behind,f (i:=i) b λj y d c=>h (j+1) y o_ c,c! o_]
def MD(p:α->Bool)(l:List α):behind p l<=l.length:=by
 induction l with
 |nil=>exact bM _
 |cons a l b=>rw[behind,gL];split;omega;split<;>omega
def take_succ{x:α}(a:l[i]?=some x):l.take (i+1)=l.take i++[x]:=by
 grind [List.getElem?_eq_some_iff,List.take_succ_eq_append_getElem]
def Cy{a:Type}{f:a->α->a}{z:a}{x:α}(b:l[i]?=some x):(l.take (i+1)).foldl f z=f ((l.take i).foldl f z) x:=by
 rw[take_succ b,List.foldl_append];rfl
def HY{p:α->Prop}(h:∀j y,j<l.length->l[j]?=some y->p y):∀x∈l,p x:=by
 intro x b;obtain⟨j,a,rfl⟩:=oV b;exact h j _ a (bS a)
end
section
open Go.RowKit Reg
open Mem hiding Rd
def cv{R:List aG}{Q:QF}{cs g:List p!}{b:List r!}{j:Array q!}{l:Ending->List aG->Prop}{d:Nat}{ty:q!}{i:String}{o:Array Edge}{os:List Oper}
  (t:d<N) (z:ev F x=.func (.func f) #[] cs.toArray) (y:mI F b++cs=g) (u:jT f=true) (w:fJ Hp H R) (h:∀M,Sub E R M->aF prog M f g.toArray Hp l) (s:∀e H',l e H'->∃v,e=.returned v/\∃k,kE H' R k/\L prog N E os Q a (gK F d v) k) :
  L prog N E os Q (⟨some d,.call { callee:=.value x,args:=b.toArray,argTypes:=j },ty,i,o,none⟩::a) F H:=by
 have⟨D,p,q,r⟩:=AK u;exact L.step t (S.Ds rfl z rfl y p q r w h s)
theorem Sub.trans{M a:Env}{R f:List aG}(h:Sub E R M)(k:Sub M f a):Sub E R a:=by
 have⟨F,g,e⟩:=h.fr;refine⟨k.wQ,λb hb=>⟨(k.rd b (h.rd b hb).1).1,(k.rd b (h.rd b hb).1).2.trans (h.rd b hb).2⟩,F,BI g λb hb=>(k.rd b (e b hb)).2,λb hb=>(k.rd b (e b hb)).1⟩
section
variable (E:Env) (A:n!) (n c:Nat)
def SB(l:List aI)(q:Rd E bO A n c l)(f:FuncId)(cs:List p!)(p:aI->Bool)(u:jT f=true)(w:∀M R,Sub E R M->∀x:aI,G M f (.agg x.cs.toArray::cs) [] (bL (.bool (p x)) [])) :
  G E 230 [.slice A n c,.func (.func f) #[] cs.toArray] [] (bL (a! (place p l)) []):=by
 have v:=q.len;have h:=q.cap;have o:=cS;refine p_ func230 ntmps230 ?_;refine C.scan (Y:=Unit) v (λi _=>[(0,.slice A n c),(1,.func (.func f) #[] cs.toArray),(7,a! n),(8,a! i)]) (λ_ _=>[]) (λi _=>∀j y,j<i->l[j]?=some y->p y=false) () aK aB.refl (λj y k=>by omega) ?_ ?_
 ·intro i _ x G D s a;refine a_ ?_;refine cv sD rfl rfl u aH (λM t=>w M _ t x) ?_;rintro r z ⟨rfl,rfl⟩;refine gk bU ?_;cases e:p x
  ·refine a_ ?_;refine⟨(),aK,aB.refl,λj y k b=>?_⟩;by_cases g:j=i
   ·subst g;rw[s] at b;injection b with b;subst b;exact e
   ·exact a j y o_ b
  ·refine a_ ?_;exact aX rfl aJ aC (⟨yW (Ho s e a).symm,rfl⟩)
 ·intro _ G a;refine a_ ?_;exact aX rfl aJ aC (⟨yW (KQ (HY λj y k b=>a j y o_ b)).symm,rfl⟩)
def z7(l:List aM)(q:Rd E cF A n c l)(f:FuncId)(cs:List p!)(p:aM->Bool)(u:jT f=true)(w:∀M R,Sub E R M->∀x:aM,G M f (.agg x.cs.toArray::cs) [] (bL (.bool (p x)) [])) :
  G E 207 [.slice A n c,.func (.func f) #[] cs.toArray] [] (bL (a! (place p l)) []):=by
 have v:=q.len;have h:=q.cap;have o:=cS;refine p_ func207 ntmps207 ?_;refine C.scan (Y:=Unit) v (λi _=>[(0,.slice A n c),(1,.func (.func f) #[] cs.toArray),(7,a! n),(8,a! i)]) (λ_ _=>[]) (λi _=>∀j y,j<i->l[j]?=some y->p y=false) () aK aB.refl (λj y k=>by omega) ?_ ?_
 ·intro i _ x G D s a;refine a_ ?_;refine cv sD rfl rfl u aH (λM t=>w M _ t x) ?_;rintro r z ⟨rfl,rfl⟩;refine gk bU ?_;cases e:p x
  ·refine a_ ?_;refine⟨(),aK,aB.refl,λj y k b=>?_⟩;by_cases g:j=i
   ·subst g;rw[s] at b;injection b with b;subst b;exact e
   ·exact a j y o_ b
  ·refine a_ ?_;exact aX rfl aJ aC (⟨yW (Ho s e a).symm,rfl⟩)
 ·intro _ G a;refine a_ ?_;exact aX rfl aJ aC (⟨yW (KQ (HY λj y k b=>a j y o_ b)).symm,rfl⟩)
def y9(l:List dM)(q:Rd E eS A n c l)(f:FuncId)(cs:List p!)(p:dM->Bool)(u:jT f=true)(w:∀M R,Sub E R M->∀x:dM,G M f (.agg x.cs.toArray::cs) [] (bL (.bool (p x)) [])) :
  G E 383 [.slice A n c,.func (.func f) #[] cs.toArray] [] (bL (a! (place p l)) []):=by
 have v:=q.len;have h:=q.cap;have o:=cS;refine p_ func383 ntmps383 ?_;refine C.scan (Y:=Unit) v (λi _=>[(0,.slice A n c),(1,.func (.func f) #[] cs.toArray),(7,a! n),(8,a! i)]) (λ_ _=>[]) (λi _=>∀j y,j<i->l[j]?=some y->p y=false) () aK aB.refl (λj y k=>by omega) ?_ ?_
 ·intro i _ x G D s a;refine a_ ?_;refine cv sD rfl rfl u aH (λM t=>w M _ t x) ?_;rintro r z ⟨rfl,rfl⟩;refine gk bU ?_;cases e:p x
  ·refine a_ ?_;refine⟨(),aK,aB.refl,λj y k b=>?_⟩;by_cases g:j=i
   ·subst g;rw[s] at b;injection b with b;subst b;exact e
   ·exact a j y o_ b
  ·refine a_ ?_;exact aX rfl aJ aC (⟨yW (Ho s e a).symm,rfl⟩)
 ·intro _ G a;refine a_ ?_;exact aX rfl aJ aC (⟨yW (KQ (HY λj y k b=>a j y o_ b)).symm,rfl⟩)
def Xs(l:List aM)(hr:Rd E cF A n c l)(f:FuncId)(cs:List p!)(p:aM->Bool)(hk:jT f=true)(hp:∀M R,Sub E R M->∀x:aM,G M f (.agg x.cs.toArray::cs) [] (bL (.bool (p x)) [])) :
  G E 145 [.slice A n c,.func (.func f) #[] cs.toArray] [] (bL (.bool (l.any p)) []):=by
 refine p_ func145 ntmps145 ?_
 refine cl sD sK aH (λM hE=>z7 M A n c l bK f cs p hk λE2 R hE2=>hp E2 _ (hE.trans hE2)) ?_;rintro r H' ⟨rfl,rfl⟩;refine a_ ?_
 exact aX rfl aJ aC (⟨by rw[<-Hn],rfl⟩)
def Gx(l:List aI)(h:Rd E bO A n c l)(i:n<=1000000):G E 75 [.slice A n c] [] λe b=>∃B k,(n<=k/\k<=maxLen)/\e=.returned (.slice B n k)/\b=[own bO B n k l]:=by
 refine t_ func75 ntmps75 ?_;cases A with
 |none =>
  obtain⟨rfl,rfl⟩:=h.none;refine a_ ?_
  exact aX rfl aJ (aB.mR bO none) ⟨none,0,⟨bM _,bY _⟩,rfl,rfl⟩
 |some a =>
  refine a_ ?_;intros
  rename_i B k f g;exact dS ⟨_,_,⟨f,g⟩,rfl,rfl⟩
def MP(l:List dM)(h:Rd E eS A n c l)(i:n<=1000000):G E 164 [.slice A n c] [] λe b=>∃B k,(n<=k/\k<=maxLen)/\e=.returned (.slice B n k)/\b=[own eS B n k l]:=by
 refine t_ func164 ntmps164 ?_;cases A with
 |none =>
  obtain⟨rfl,rfl⟩:=h.none;refine a_ ?_
  exact aX rfl aJ (aB.mR eS none) ⟨none,0,⟨bM _,bY _⟩,rfl,rfl⟩
 |some a =>
  refine a_ ?_;intros
  rename_i B k f g;exact dS ⟨_,_,⟨f,g⟩,rfl,rfl⟩
def YM(l:List bE)(h:Rd E eT A n c l)(i:n<=1000000):G E 232 [.slice A n c] [] λe b=>∃B k,(n<=k/\k<=maxLen)/\e=.returned (.slice B n k)/\b=[own eT B n k l]:=by
 refine t_ func232 ntmps232 ?_;cases A with
 |none =>
  obtain⟨rfl,rfl⟩:=h.none;refine a_ ?_
  exact aX rfl aJ (aB.mR eT none) ⟨none,0,⟨bM _,bY _⟩,rfl,rfl⟩
 |some a =>
  refine a_ ?_;intros
  rename_i B k f g;exact dS ⟨_,_,⟨f,g⟩,rfl,rfl⟩
variable (B:n!) (m d:Nat)
def ZA(l k:List aI)(p:Rd E bO A n c l)(q:Rd E bO B m d k):G E 80 [.slice A n c,.slice B m d] [] (bL (.bool (decide (l=k))) []):=by
 have g:=p.len;have j:=p.cap;have t:=q.len;have f:=q.cap;have o:=cS;refine t_ func80 ntmps80 ?_;by_cases h:n=m
 ·refine a_ ?_;refine C.scan (Y:=Unit) g (λi _=>[(0,.slice A n c),(1,.slice B m d),(12,a! n),(13,a! i)]) (λ_ _=>[]) (λi _=>l.take i=k.take i) () aK aB.refl rfl ?_ ?_
  ·intro i _ x G u r a;have e:k[i]?=some k[i]:=bS o_;generalize k[i]=y at e;refine a_ ?_;refine rA (l_ [0,1,2,3,4,5,6,7,8] .nil) (a_ ?_);by_cases b:x=y
   ·subst b;have s:(!decide (x=x))=false:=s_
    refine a_ ?_;exact⟨(),aK,aB.refl,by rw[take_succ r,take_succ e,a]⟩
   ·have s:(!decide (x=y))=true:=by simp[b]
    refine a_ ?_;exact aX rfl aJ aC (⟨iK (by rw[eq_comm,decide_eq_false_iff_not];rintro rfl;rw[r] at e;injection e with e;exact b e),rfl⟩)
  ·intro _ G a;refine a_ ?_;exact aX rfl aJ aC (⟨iK (by rw[eq_comm,decide_eq_true_iff];rwa [g,gY,<-g,h,t,gY] at a),rfl⟩)
 ·refine a_ ?_;exact aX rfl aJ aC (⟨iK (by rw[eq_comm,decide_eq_false_iff_not];rintro rfl;omega),rfl⟩)
def ZB(l k:List aM)(p:Rd E cF A n c l)(q:Rd E cF B m d k):G E 81 [.slice A n c,.slice B m d] [] (bL (.bool (decide (l=k))) []):=by
 have g:=p.len;have j:=p.cap;have t:=q.len;have f:=q.cap;have o:=cS;refine t_ func81 ntmps81 ?_;by_cases h:n=m
 ·refine a_ ?_;refine C.scan (Y:=Unit) g (λi _=>[(0,.slice A n c),(1,.slice B m d),(12,a! n),(13,a! i)]) (λ_ _=>[]) (λi _=>l.take i=k.take i) () aK aB.refl rfl ?_ ?_
  ·intro i _ x G u r a;have e:k[i]?=some k[i]:=bS o_;generalize k[i]=y at e;refine a_ ?_;refine rA (l_ [0,1,2,3,4,5,6,7,8] .nil) (a_ ?_);by_cases b:x=y
   ·subst b;have s:(!decide (x=x))=false:=s_
    refine a_ ?_;exact⟨(),aK,aB.refl,by rw[take_succ r,take_succ e,a]⟩
   ·have s:(!decide (x=y))=true:=by simp[b]
    refine a_ ?_;exact aX rfl aJ aC (⟨iK (by rw[eq_comm,decide_eq_false_iff_not];rintro rfl;rw[r] at e;injection e with e;exact b e),rfl⟩)
  ·intro _ G a;refine a_ ?_;exact aX rfl aJ aC (⟨iK (by rw[eq_comm,decide_eq_true_iff];rwa [g,gY,<-g,h,t,gY] at a),rfl⟩)
 ·refine a_ ?_;exact aX rfl aJ aC (⟨iK (by rw[eq_comm,decide_eq_false_iff_not];rintro rfl;omega),rfl⟩)
end
structure V4 where
 a:Int
 b:Int
 c:Int
 d:Int
abbrev V4.cs(v:V4):List p!:=[a! v.a,a! v.b,a! v.c,a! v.d]
abbrev kZ:V4:=⟨0,0,0,0⟩
def V4.get(v:V4)(i:Int):Int:=if i=0 then v.a else if i=1 then v.b else if i=2 then v.c else v.d
def V4.set(v:V4)(i x:Int):V4:=if i=0 then { v with a:=x } else if i=1 then { v with b:=x } else if i=2 then { v with c:=x } else { v with d:=x }
def V4.ok(v:V4):Prop:=(0<=v.a/\v.a<9223372036854775807)/\(0<=v.b/\v.b<9223372036854775807)/\(0<=v.c/\v.c<9223372036854775807)/\(0<=v.d/\v.d<9223372036854775807)
instance:zH 98 [a! 0,a! 0,a! 0,a! 0]:=⟨q_⟩
def four{r:Int}(h:0<=r/\r<=3):r=0\/r=1\/r=2\/r=3:=o_
def AR(v:V4)(r:Int):aL:=if 0<=r/\r<=3 then(if 65535<=v.get r then⟨0,0⟩ else⟨r,v.get r+1⟩) else⟨0,0⟩
def GH(E:Env)(v:V4)(r:Int)(b:v.ok):G E 95 [.agg v.cs.toArray,a! r] [] (bL (.agg (AR v r).cs.toArray) []):=by
 unfold V4.ok at b;unfold AR;refine t_ func95 ntmps95 ?_;by_cases h:0<=r/\r<=3
 ·rw[c! h];rcases four h with rfl|rfl|rfl|rfl
  ·rw[show v.get 0=v.a from rfl];by_cases a:65535<=v.a;rw[c! a];rotate_left;rw[b! a];all_goals
    refine a_ ?_;intros;exact gE
  ·rw[show v.get 1=v.b from rfl];by_cases a:65535<=v.b;rw[c! a];rotate_left;rw[b! a];all_goals
    refine a_ ?_;intros;exact gE
  ·rw[show v.get 2=v.c from rfl];by_cases a:65535<=v.c;rw[c! a];rotate_left;rw[b! a];all_goals
    refine a_ ?_;intros;exact gE
  ·rw[show v.get 3=v.d from rfl];by_cases a:65535<=v.d;rw[c! a];rotate_left;rw[b! a];all_goals
    refine a_ ?_;intros;exact gE
 ·rw[b! h];refine a_ ?_;intros;exact gE
def kR(v:V4)(a:aL):Bool:=decide ((0<=a.rep/\a.rep<=3)/\1<=a.seq/\a.seq<=v.get a.rep)
theorem aCq(E:Env)(v:V4)(r s:Int):G E 299 [.agg v.cs.toArray,.agg #[a! r,a! s]] [] (bL (.bool (kR v ⟨r,s⟩)) []):=by
 unfold kR;dsimp only;refine t_ func299 ntmps299 ?_;by_cases h:0<=r/\r<=3
 ·rcases four h with rfl|rfl|rfl|rfl
  ·rw[show v.get 0=v.a from rfl];by_cases b:1<=s
   ·by_cases a:s<=v.a
    ·refine a_ ?_;intros
     refine rA (l_ [0,1] (g_ 2 (l_ [3,4,5,6,7,8,9,10,11,12,13,14,15,16,17] .nil))) (a_ ?_)
     exact aX rfl aJ aC (⟨iK,rfl⟩)
    ·refine a_ ?_;intros
     refine rA (l_ [0,1] (g_ 2 (l_ [3,4,5,6,7,8,9,10,11,12,13,14,15,16,17] .nil))) (a_ ?_)
     exact aX rfl aJ aC (⟨iK,rfl⟩)
   ·refine a_ ?_;intros
    refine rA (l_ [0,1] (g_ 2 (l_ [3,4,5,6,7,8,9,10,11,12,13,14,15,16,17] .nil))) (a_ ?_)
    exact aX rfl aJ aC (⟨iK,rfl⟩)
  ·rw[show v.get 1=v.b from rfl];by_cases b:1<=s
   ·by_cases a:s<=v.b
    ·refine a_ ?_;intros
     refine rA (l_ [0,1] (g_ 2 (l_ [3,4,5,6,7,8,9,10,11,12,13,14,15,16,17] .nil))) (a_ ?_)
     exact aX rfl aJ aC (⟨iK,rfl⟩)
    ·refine a_ ?_;intros
     refine rA (l_ [0,1] (g_ 2 (l_ [3,4,5,6,7,8,9,10,11,12,13,14,15,16,17] .nil))) (a_ ?_)
     exact aX rfl aJ aC (⟨iK,rfl⟩)
   ·refine a_ ?_;intros
    refine rA (l_ [0,1] (g_ 2 (l_ [3,4,5,6,7,8,9,10,11,12,13,14,15,16,17] .nil))) (a_ ?_)
    exact aX rfl aJ aC (⟨iK,rfl⟩)
  ·rw[show v.get 2=v.c from rfl];by_cases b:1<=s
   ·by_cases a:s<=v.c
    ·refine a_ ?_;intros
     refine rA (l_ [0,1] (g_ 2 (l_ [3,4,5,6,7,8,9,10,11,12,13,14,15,16,17] .nil))) (a_ ?_)
     exact aX rfl aJ aC (⟨iK,rfl⟩)
    ·refine a_ ?_;intros
     refine rA (l_ [0,1] (g_ 2 (l_ [3,4,5,6,7,8,9,10,11,12,13,14,15,16,17] .nil))) (a_ ?_)
     exact aX rfl aJ aC (⟨iK,rfl⟩)
   ·refine a_ ?_;intros
    refine rA (l_ [0,1] (g_ 2 (l_ [3,4,5,6,7,8,9,10,11,12,13,14,15,16,17] .nil))) (a_ ?_)
    exact aX rfl aJ aC (⟨iK,rfl⟩)
  ·rw[show v.get 3=v.d from rfl];by_cases b:1<=s
   ·by_cases a:s<=v.d
    ·refine a_ ?_;intros
     refine rA (l_ [0,1] (g_ 2 (l_ [3,4,5,6,7,8,9,10,11,12,13,14,15,16,17] .nil))) (a_ ?_)
     exact aX rfl aJ aC (⟨iK,rfl⟩)
    ·refine a_ ?_;intros
     refine rA (l_ [0,1] (g_ 2 (l_ [3,4,5,6,7,8,9,10,11,12,13,14,15,16,17] .nil))) (a_ ?_)
     exact aX rfl aJ aC (⟨iK,rfl⟩)
   ·refine a_ ?_;intros
    refine rA (l_ [0,1] (g_ 2 (l_ [3,4,5,6,7,8,9,10,11,12,13,14,15,16,17] .nil))) (a_ ?_)
    exact aX rfl aJ aC (⟨iK,rfl⟩)
 ·refine a_ ?_;intros
  refine rA (l_ [0,1] (g_ 2 (l_ [3,4,5,6,7,8,9,10,11,12,13,14,15,16,17] .nil))) (a_ ?_)
  exact aX rfl aJ aC (⟨iK,rfl⟩)
instance {v:V4}{r s:Int}:uD 299 [.agg #[a! v.a,a! v.b,a! v.c,a! v.d],.agg #[a! r,a! s]] (.bool (kR v ⟨r,s⟩)):=⟨λE=>aCq E v r s⟩
def AS(v:V4)(c:aI):V4:=if 0<=c.id.rep/\c.id.rep<=3 then v.set c.id.rep (max (v.get c.id.rep) c.id.seq) else v
def xK(l:List aI):V4:=l.foldl AS kZ
def aCa(E:Env)(A:n!)(n c:Nat)(l:List aI)(m:Rd E bO A n c l):G E 158 [.slice A n c] [] (bL (.agg (xK l).cs.toArray) []):=by
 have k:=m.len;have g:=m.cap;have j:=cS;refine p_ func158 ntmps158 ?_;intros;rename_i d e;refine C.scan (Y:=V4) k (λi _=>[(0,.slice A n c),(2,.pointer (some ⟨d,0,none⟩)),(3,.pointer (some ⟨e,0,none⟩)),(7,.slice A n c),(8,a! n),(9,a! i)]) (λ_ v=>[aE d 98 kZ.cs,aE e 98 v.cs]) (λi v=>v=(l.take i).foldl AS kZ) kZ aK aC rfl ?_ ?_
 ·intro i v x G p o b;have a:=Cy (f:=AS) (z:=kZ) o;rw[<-b] at a;by_cases h:0<=x.id.rep/\x.id.rep<=3
  ·rw[AS,c! h] at a;rcases four h with h|h|h|h;rw[h] at a;change _=(⟨max v.a x.id.seq,v.b,v.c,v.d⟩:V4) at a;rotate_left;rw[h] at a;change _=(⟨v.a,max v.b x.id.seq,v.c,v.d⟩:V4) at a;rotate_left;rw[h] at a;change _=(⟨v.a,v.b,max v.c x.id.seq,v.d⟩:V4) at a;rotate_left;rw[h] at a;change _=(⟨v.a,v.b,v.c,max v.d x.id.seq⟩:V4) at a;all_goals
    refine a_ ?_;intros;rw[h];refine a_ ?_;refine C.fL 9 (l_ [0,1,2,3,4,5,6,7,8] (g_ 9 .nil)) _ q_ q_ aB.refl (a_ ?_);exact⟨⟨_,_,_,_⟩,aK,aC,a.symm⟩
  ·rw[AS,b! h] at a;refine a_ ?_;intros;exact⟨v,aK,aC,a.symm⟩
 ·intro v G b;rw[k,gY] at b;change v=xK l at b;subst b;refine a_ ?_;exact gE
def aGr(E:Env)(v:V4)(A:n!)(n c:Nat)(l:List aI)(o:Rd E bO A n c l)(u:n<=100000):G E 253 [.agg v.cs.toArray,.slice A n c] [] λe r=>∃B k d,k<=n/\e=.returned (.slice B k d)/\r=[own bO B k d (l.filter λx => !kR v x.id)]:=by
 have g:=o.len;have j:=o.cap;have m:=cS;refine p_ func253 ntmps253 ?_;intros;rename_i h;refine C.scan (Y:=Hd) g (λi s=>[(1,.slice A n c),(2,.pointer (some ⟨h,0,none⟩)),(4,.slice none 0 0),(5,.slice s.A s.n s.c),(8,.slice A n c),(9,a! n),(10,a! i)]) (λi s=>[own bO s.A s.n s.c ((l.take i).filter λx => !kR v x.id),aE h 98 v.cs]) (λi s=>s.n<=i) ⟨none,0,0⟩ aK (aB.mR bO none) (bM _) ?_ ?_
 ·rintro i ⟨B,k,d⟩ x G D w b;dsimp only at b⊢;have p:=take_succ w;cases a:kR v x.id with
  |true =>
   have hb:(!kR v x.id)=false:=by rw[a];rfl
   have f:(l.take (i+1)).filter (λx => !kR v x.id)=(l.take i).filter λx => !kR v x.id:=by rw[p,GY];simp[a]
   refine a_ ?_;intros;exact⟨⟨B,k,d⟩,aK,by dsimp only;rw[f];exact aC,by show k<=i+1;omega⟩
  |false =>
   have hb:(!kR v x.id)=true:=by rw[a];rfl
   have f:(l.take (i+1)).filter (λx => !kR v x.id)=(l.take i).filter (λx => !kR v x.id)++[x]:=by rw[p,GY];simp[a]
   refine a_ ?_;intros;rename_i q t y z;exact⟨⟨q,k+1,t⟩,aK,by dsimp only;rw[f];exact aC,by show k+1<=i+1;omega⟩
 ·rintro⟨B,k,d⟩ G b;dsimp only at b⊢;rw[g,gY,<-g];refine a_ ?_;exact dS ⟨B,k,d,b,rfl,rfl⟩
def nJ(a b:aI):Int:=oM [nR a.time b.time,nR a.id.rep b.id.rep,nR a.id.seq b.id.seq]
def aGi(E:Env)(x y:aI):G E 382 [.agg x.cs.toArray,.agg y.cs.toArray] [] (bL (a! (nJ x y)) []):=by
 refine p_ func382 ntmps382 ?_;intros
 refine rA (l_ [0,1,2,3,5,6,7,8,9,10,12,13,14,15,16,17] (g_ 4 (g_ 11 (g_ 18 (g_ 19 (g_ 20 (n_ 21 .nil))))))) (a_ ?_);intros
 exact aS
def U2(E:Env)(x y:aI):G E 372 [.agg x.cs.toArray,.agg y.cs.toArray] [] (bL (.bool (decide (nJ x y<0))) []):=by
 refine p_ func372 ntmps372 ?_;intros
 refine r_ (λM=>aGi M x y) ?_
 exact aS
def eH(l:List aI)(a:aL):Int:=place (λc=>decide (c.id=a)) l
def aGb(E:Env)(g:Nat)(a:aL)(h:gX E g a.cs)(x:aI):G E 231 [.agg x.cs.toArray,.pointer (some ⟨g,0,none⟩)] [] (bL (.bool (decide (x.id=a))) []):=by
 refine p_ func231 ntmps231 ?_;intros
 exact aS
def aAm(E:Env)(A:n!)(n c:Nat)(l:List aI)(hr:Rd E bO A n c l)(r s:Int):G E 172 [.slice A n c,.agg #[a! r,a! s]] [] (bL (a! (eH l ⟨r,s⟩)) []):=by
 refine p_ func172 ntmps172 ?_;intros
 rename_i g;refine cl sD sK aH (λM hE=>SB M A n c l bK 231 [_] _ sK λE2 R2 hE2 x=>aGb E2 g ⟨r,s⟩ ((gX.of hE aV).sub hE2) x) ?_;rintro r H' ⟨rfl,rfl⟩;refine a_ ?_
 exact aS
instance {A:n!}{n c:Nat}{r s:Int}:LV 172 [.slice A n c,.agg #[a! r,a! s]] aI bO A n c (λl=>a! (eH l ⟨r,s⟩)):=⟨λE l h=>aAm E A n c l h r s⟩
def QP:Ty (Sl aI) where
 val x:=.slice x.A x.n x.c
 size:=1
 bytes:=24
 tid:=24
 zero:=.slice none 0 0
 hlen _:=rfl
 kL a u h:=by simp[Value.cells] at h;subst h;rfl
 fZ:=sD
 hzero:=rfl
 lF:=q_
 mQ:=.inr ⟨q_,λ_=>rfl⟩
instance:Ih 24 aI bO QP:=⟨rfl,λ_=>rfl⟩
def o9(E:Env)(m:Nat)(f:m<=1000000):G E 216 [.slice none 0 0,a! m] [] λe c=>∃B d,d<=maxLen/\e=.returned (.slice B 0 d)/\c=[own bO B 0 d []]:=by
 have b:Rd E bO none 0 0 []:=Rd.nil _ _;have a:0<=maxLen:=sD;refine t_ func216 ntmps216 ?_;by_cases h:m=0
 ·subst h;refine a_ ?_;exact aX rfl aJ (aB.mR bO none) ⟨_,_,a,rfl,rfl⟩
 ·refine a_ ?_;intros;exact aX rfl aJ (aB.Ng (k:=0) (bY _) eQ.aR) ⟨_,_,by assumption,rfl,rfl⟩
def JF(E:Env)(A:n!)(n c:Nat)(ss:List (Sl aI))(hr:Rd E QP A n c ss)(hs:∀s∈ss,Rd E bO s.A s.n s.c s.l)(hm:(ss.flatMap (·.l)).length<=100000):G E 159 [.slice A n c] [] λe H'=>∃B d,((ss.flatMap (·.l)).length<=d/\d<=maxLen)/\e=.returned (.slice B (ss.flatMap (·.l)).length d)/\H'=[own bO B (ss.flatMap (·.l)).length d (ss.flatMap (·.l))]:=by
 have hn:=hr.len;have hcap:=hr.cap;have hmax:=cS;have hstep:∀ {i:Nat} {x:Sl aI},ss[i]?=some x->(ss.take (i+1)).flatMap (·.l)=(ss.take i).flatMap (·.l)++x.l/\((ss.take i).flatMap (·.l)).length+x.n<=100000/\((ss.take (i+1)).flatMap (·.l)).length=((ss.take i).flatMap (·.l)).length+x.n:=by
  intro i x hx;have e:(ss.take (i+1)).flatMap (·.l)=(ss.take i).flatMap (·.l)++x.l:=by rw[take_succ hx,E0];simp
  have e2:((ss.take (i+1)).flatMap (·.l)).length=((ss.take i).flatMap (·.l)).length+x.n:=by
   rw[e,bR,(hs x (dG hx)).len]
  refine⟨e,?_,e2⟩;have h3:ss=ss.take (i+1)++ss.drop (i+1):=(mE _ _).symm;have h4:(ss.flatMap (·.l)).length=((ss.take (i+1)).flatMap (·.l)).length+((ss.drop (i+1)).flatMap (·.l)).length:=by
   conv=>lhs;rw[h3,E0,bR]
  omega
 refine t_ func159 ntmps159 ?_;repeat ((fail_if_success (refine C.seq (x:=Code.region 2 _ _) ?_));first|refine mV ?_|refine k_ ?_|intro _|refine Dr.two ?_ ?_)
 refine C.cW (X:=Unit) (λ_=>[(0,.slice A n c),(2,.slice none 0 0),(3,a! (ss.flatMap (·.l)).length)]) (λ_=>[]) (λ_=>True) ?_ ?_
 ·refine a_ ?_;refine C.scan (Y:=Unit) hn (λi _=>[(0,.slice A n c),(2,.slice none 0 0),(3,a! ((ss.take i).flatMap (·.l)).length),(9,.slice A n c),(10,a! n),(11,a! i)]) (λ_ _=>[]) (λ_ _=>True) () aK aB.refl trivial ?_ ?_
  ·intro i _ x G hi hx _;obtain⟨h1,h2,h3⟩:=hstep hx;have hx2:=hs x (dG hx);refine a_ ?_;refine⟨(),?_,aB.refl,trivial⟩;rw[h3];exact aK
  ·intro _ G _;rw[hn,gY,<-hn];refine a_ ?_;exact⟨(),aK,aB.refl,trivial⟩
 intro _ G _;generalize hk:(ss.flatMap (·.l)).length=k at hm⊢;refine a_ ?_;refine u_ (λM=>o9 M k o_) ?_;intro B d hd;refine C.scan (Y:=Hd) hn (λi s=>[(0,.slice A n c),(2,.slice none 0 0),(6,.slice s.A s.n s.c),(25,.slice A n c),(26,a! n),(27,a! i)]) (λi s=>[own bO s.A s.n s.c ((ss.take i).flatMap (·.l))]) (λi s=>s.n=((ss.take i).flatMap (·.l)).length/\s.n<=s.c/\s.c<=maxLen) ⟨B,0,d⟩ aK aB.refl ⟨rfl,bY _,hd⟩ ?_ ?_
 ·rintro i ⟨B,m,d⟩ x G hi hx ⟨hm2,hd⟩;dsimp only at hm2 hd⊢;obtain⟨h1,h2,h3⟩:=hstep hx;have hx2:=hs x (dG hx);refine a_ ?_;intros;rename_i B' d' g1 g2;exact⟨⟨B',m+x.n,d'⟩,aK,by dsimp only;rw[h1];exact aC,by dsimp only;omega,g1,g2⟩
 ·rintro⟨B,m,d⟩ G ⟨hm2,hd⟩;dsimp only at hm2 hd⊢;rw[hn,gY,<-hn] at *;obtain rfl:m=k:=o_;refine a_ ?_;exact dS ⟨_,_,hd,rfl,rfl⟩
def Tb:Ty (Sl dM) where
 val x:=.slice x.A x.n x.c
 size:=1
 bytes:=24
 tid:=43
 zero:=.slice none 0 0
 hlen _:=rfl
 kL a u h:=by simp[Value.cells] at h;subst h;rfl
 fZ:=sD
 hzero:=rfl
 lF:=q_
 mQ:=.inr ⟨q_,λ_=>rfl⟩
instance:Ih 43 dM eS Tb:=⟨rfl,λ_=>rfl⟩
def p4(E:Env)(m:Nat)(f:m<=1000000):G E 391 [.slice none 0 0,a! m] [] λe c=>∃B d,d<=maxLen/\e=.returned (.slice B 0 d)/\c=[own eS B 0 d []]:=by
 have b:Rd E eS none 0 0 []:=Rd.nil _ _;have a:0<=maxLen:=sD;refine t_ func391 ntmps391 ?_;by_cases h:m=0
 ·subst h;refine a_ ?_;exact aX rfl aJ (aB.mR eS none) ⟨_,_,a,rfl,rfl⟩
 ·refine a_ ?_;intros;exact aX rfl aJ (aB.Ng (k:=0) (bY _) eQ.aR) ⟨_,_,by assumption,rfl,rfl⟩
def Xn(E:Env)(A:n!)(n c:Nat)(ss:List (Sl dM))(hr:Rd E Tb A n c ss)(hs:∀s∈ss,Rd E eS s.A s.n s.c s.l)(hm:(ss.flatMap (·.l)).length<=100000):G E 386 [.slice A n c] [] λe H'=>∃B d,((ss.flatMap (·.l)).length<=d/\d<=maxLen)/\e=.returned (.slice B (ss.flatMap (·.l)).length d)/\H'=[own eS B (ss.flatMap (·.l)).length d (ss.flatMap (·.l))]:=by
 have hn:=hr.len;have hcap:=hr.cap;have hmax:=cS;have hstep:∀ {i:Nat} {x:Sl dM},ss[i]?=some x->(ss.take (i+1)).flatMap (·.l)=(ss.take i).flatMap (·.l)++x.l/\((ss.take i).flatMap (·.l)).length+x.n<=100000/\((ss.take (i+1)).flatMap (·.l)).length=((ss.take i).flatMap (·.l)).length+x.n:=by
  intro i x hx;have e:(ss.take (i+1)).flatMap (·.l)=(ss.take i).flatMap (·.l)++x.l:=by rw[take_succ hx,E0];simp
  have e2:((ss.take (i+1)).flatMap (·.l)).length=((ss.take i).flatMap (·.l)).length+x.n:=by
   rw[e,bR,(hs x (dG hx)).len]
  refine⟨e,?_,e2⟩;have h3:ss=ss.take (i+1)++ss.drop (i+1):=(mE _ _).symm;have h4:(ss.flatMap (·.l)).length=((ss.take (i+1)).flatMap (·.l)).length+((ss.drop (i+1)).flatMap (·.l)).length:=by
   conv=>lhs;rw[h3,E0,bR]
  omega
 refine t_ func386 ntmps386 ?_;repeat ((fail_if_success (refine C.seq (x:=Code.region 2 _ _) ?_));first|refine mV ?_|refine k_ ?_|intro _|refine Dr.two ?_ ?_)
 refine C.cW (X:=Unit) (λ_=>[(0,.slice A n c),(2,.slice none 0 0),(3,a! (ss.flatMap (·.l)).length)]) (λ_=>[]) (λ_=>True) ?_ ?_
 ·refine a_ ?_;refine C.scan (Y:=Unit) hn (λi _=>[(0,.slice A n c),(2,.slice none 0 0),(3,a! ((ss.take i).flatMap (·.l)).length),(9,.slice A n c),(10,a! n),(11,a! i)]) (λ_ _=>[]) (λ_ _=>True) () aK aB.refl trivial ?_ ?_
  ·intro i _ x G hi hx _;obtain⟨h1,h2,h3⟩:=hstep hx;have hx2:=hs x (dG hx);refine a_ ?_;refine⟨(),?_,aB.refl,trivial⟩;rw[h3];exact aK
  ·intro _ G _;rw[hn,gY,<-hn];refine a_ ?_;exact⟨(),aK,aB.refl,trivial⟩
 intro _ G _;generalize hk:(ss.flatMap (·.l)).length=k at hm⊢;refine a_ ?_;refine u_ (λM=>p4 M k o_) ?_;intro B d hd;refine C.scan (Y:=Hd) hn (λi s=>[(0,.slice A n c),(2,.slice none 0 0),(6,.slice s.A s.n s.c),(25,.slice A n c),(26,a! n),(27,a! i)]) (λi s=>[own eS s.A s.n s.c ((ss.take i).flatMap (·.l))]) (λi s=>s.n=((ss.take i).flatMap (·.l)).length/\s.n<=s.c/\s.c<=maxLen) ⟨B,0,d⟩ aK aB.refl ⟨rfl,bY _,hd⟩ ?_ ?_
 ·rintro i ⟨B,m,d⟩ x G hi hx ⟨hm2,hd⟩;dsimp only at hm2 hd⊢;obtain⟨h1,h2,h3⟩:=hstep hx;have hx2:=hs x (dG hx);refine a_ ?_;intros;rename_i B' d' g1 g2;exact⟨⟨B',m+x.n,d'⟩,aK,by dsimp only;rw[h1];exact aC,by dsimp only;omega,g1,g2⟩
 ·rintro⟨B,m,d⟩ G ⟨hm2,hd⟩;dsimp only at hm2 hd⊢;rw[hn,gY,<-hn] at *;obtain rfl:m=k:=o_;refine a_ ?_;exact dS ⟨_,_,hd,rfl,rfl⟩
def BT(l:List aI)(i:Int):List aI:=if 0<=i/\i<l.length then l.take i.toNat++l.drop (i.toNat+1) else l
def aFr(E:Env)(A:n!)(n c:Nat)(l:List aI)(i:Int)(a:Rd E bO A n c l)(x:n<=100000):G E 346 [.slice A n c,a! i] [] λe b=>∃B d,((BT l i).length<=d/\d<=maxLen)/\e=.returned (.slice B (BT l i).length d)/\b=[own bO B (BT l i).length d (BT l i)]:=by
 have u:=a.len;have o:=a.cap;have p:=cS;unfold BT;refine t_ func346 ntmps346 ?_;by_cases h:0<=i/\i<n
 ·rw[c! o_];obtain⟨j,rfl⟩:=zI h.1;rw[jK];have f:Rd E bO A j c (l.take j):=a.upto o_ o_ (bM _);have t:=a.from_ (k:=j+1) o_;have w:IntKind.i64.wrap ((j:Int)+1)=((j+1:Nat):Int):=by rw[dY _ o_];omega
  have e:[(⟨A,j,c,l.take j⟩:Sl aI),⟨if c=j+1 then A else A.map (·.add ((j+1)*bO.size)),n - (j+1),c - (j+1),l.drop (j+1)⟩].flatMap (·.l)=l.take j++l.drop (j+1):=s_
  refine a_ ?_;refine rA (l_ [0,1,2,3,4,5,6] (g_ 7 (g_ 8 (n_ 9 .nil)))) (a_ ?_);intros;refine cg rfl sD bB sK aH (λM m=>JF M _ _ _ _ bK (by intro s q;simp at q;rcases q with rfl|rfl;exact f.sub m;exact t.sub m) (by rw[e,bR,dR,lB];omega)) ?_;rw[e];rintro r b ⟨B,d,g,rfl,rfl⟩;refine a_ ?_;exact dS ⟨_,_,g,rfl,rfl⟩
 ·rw[b! o_];have hb:i<0\/n<=i:=o_;rcases hb with hb|hb;rotate_left;have v:¬i<0:=o_;all_goals
   refine a_ ?_;refine cU (λM f=>Gx M A n c l f o_) ?_;rw[u];rintro r b ⟨B,d,g,rfl,rfl⟩;refine a_ ?_;exact dS ⟨_,_,g,rfl,rfl⟩
end
section
open Go.RowKit Mem Reg
abbrev fz(r:Option Nat):Fence:={ Fence.wide with round:=r }
def MI{r:Option Nat}{n:Nat}{args:Array p!}{w:World}{R:Ending->World->Prop}(h:Calls P f args w R):CallsIn (fz r) n P f args w R:=(callsIn_wide (n:=n)).2 h
def MJ{n:Nat}{args:Array p!}{w:World}{R:Ending->World->Prop}(h:CallsIn (fz none) n P f args w R):Calls P f args w R:=(callsIn_wide (n:=n)).1 h
def aHb{r:Option Nat}{n:Nat}{a:String}{args:Array p!}{w:World}{R:p!->World->Prop}(h:Rows P a args w R):RowsIn (fz r) n P a args w R :=
 λc cs _=>let ⟨v,e,b,d⟩:=h c cs;⟨v,e,b,stepsIn_wide.2 d⟩
def Hf{r:Option Nat}{n:Nat}{a:Act}{w:World}{K:Act->World->Prop}{Q:Exit->Act->World->Prop}(hd:∀c,o.op≠.defer c)(h:o.wp P a w K Q):o.wpIn (fz r) n P a w K Q:=by
 refine⟨λ_ _=>trivial,?_⟩;have hs:o.semAt (fz r).round a.eval=execOp a.eval o:=by
  cases r with
  |none=>rfl
  |some l=>exact Oper.semAt_some l _ _ hd
 rw[hs];unfold Oper.wp at h;have hdep:∀(p:Prop),((fz r).depth.isSome=true->p):=λp hh=>by cases hh
 generalize (execOp a.eval o).run P w=res at h⊢;cases res with
 |ok x w' =>
  cases x with
  |value v=>exact h
  |skip=>exact h
  |defer d=>exact h
  |enter f args=>exact⟨hdep _,(MI h).mono λe w'' hq=>by cases e<;>exact hq⟩
  |row row args=>exact⟨hdep _,aHb h⟩
  |round=>exact h.elim
  |_=>exact h.elim
 |halt e w'=>cases e<;>first|exact h|exact h.elim
structure CI(r:Option Nat)(P:Program)(N:Nat)(E:Env)(c:Code)(Q:QF)(F:Nat->Value)(H:List aG):Prop where
 get:∀a w,gZ E N F a->St E H w->c.wpIn (fz r) 0 P (lift N E Q) a w
structure LI(r:Option Nat)(P:Program)(N:Nat)(E:Env)(ops:List Oper)(Q:QF)(l:List Oper)(F:Nat->Value)(H:List aG):Prop where
 get:∀a w,gZ E N F a->St E H w->wpListIn (fz r) 0 P ops.toArray (lift N E Q) l a w
section
variable {r:Option Nat} {P:t!} {N:Nat} {E:Env} {Q:QF} {F:Nat->p!} {H H' R:List aG}
def LI.nil(h:Q .normal F H):LI r P N E a Q [] F H:=⟨λ_ _ b c=>⟨F,H,b,c,h⟩⟩
def LI.lI{e b:List Oper}{d:Nat}{j:Op}{ty:q!}{f:String}{k:Array Edge}(n:d<N)(g:∀c,j≠.defer c)
  (h:dF P N E F H ⟨some d,j,ty,f,k,none⟩ K) (o:∀v H',K v H'->LI r P N E e Q b (gK F d v) H'):LI r P N E e Q (⟨some d,j,ty,f,k,none⟩::b) F H:=by
 refine⟨λa w l q=>?_⟩;refine wpListIn_plain rfl λK' m=>?_;exact Hf g (h a w l q _ _ λv H' s p i=>m _ _ ((o v H' p).get _ s (l.put n v) i))
def CI.seq{x y:Code}(h:CI r P N E x (vB (λF H=>CI r P N E y Q F H) Q) F H):CI r P N E (.seq x y) Q F H:=by
 refine⟨λa w i j=>wpIn_seq (wpIn_mono (h.get a w i j) ?_)⟩;intro e a w b;cases e with
 |normal=>have⟨F,H,d,f,g⟩:=b;exact CI.get g a w d f
 |ret=>exact b
 |exit k=>exact b
 |panic c=>exact b
 |_=>exact b.elim
def CI.block{id:Nat}(h:CI r P N E c (C7 id Q) F H):CI r P N E (.block id c) Q F H:=by
 refine⟨λa w i j=>wpIn_block (wpIn_mono (h.get a w i j) ?_)⟩;intro e a w b;cases e with
 |exit k =>
  have⟨F,H,f,g,d⟩:=b;simp only[Exit.inBlock,C7] at *;split at d;rw[c! ‹_›];rotate_left;rw[b! ‹_›];all_goals
   exact⟨F,H,f,g,d⟩
 |normal=>exact b
 |ret=>exact b
 |panic c=>exact b
 |_=>exact b.elim
def CI.exit{id:Nat}(h:Q (.exit id) F H):CI r P N E (.exit id) Q F H:=⟨λ_ _ a b=>wpIn_exit ⟨F,H,a,b,h⟩⟩
def CI.skip(h:Q .normal F H):CI r P N E .skip Q F H:=⟨λ_ _ a b=>wpIn_skip ⟨F,H,a,b,h⟩⟩
def CI.ret(h:Q .ret F H):CI r P N E .ret Q F H:=⟨λ_ _ a b=>wpIn_ret ⟨F,H,a,b,h⟩⟩
def CI.cond{c:r!}{x y:Code}{b:Bool}(f:ev F c=.bool b)(g:b=true->CI r P N E x Q F H)(i:b=false->CI r P N E y Q F H):CI r P N E (.cond c x y) Q F H :=
 ⟨λa w d e=>wpIn_cond_split (by rw[d.eval];exact f) (λh=>(g h).get a w d e) (λh=>(i h).get a w d e)⟩
def CI.region{id:Nat}{l:List Oper}(h:LI r P N E l Q l F H):CI r P N E (.region id l.toArray false) Q F H:=⟨λa w b c=>wpIn_region_lit (h.get a w b c)⟩
def CI.loop{X:Type}(S:X->List (Nat×p!))(HX:X->List aG)(R:X->Prop)(μ:X->Nat)(x0:X)(hF:rP F (S x0))(hH:aB E H (HX x0))(h0:R x0)
  (round:∀x G,R x->CI r P N E c (vB (λF' H'=>∃x',rP F' (S x')/\aB E H' (HX x')/\R x'/\μ x'<μ x) Q) (AQ (S x) G) (HX x)):CI r P N E (.loop c) Q F H:=by
 refine⟨λa w ha hw=>?_⟩
 let p:Act->World->Nat->Prop:=λa w m=>∃x F,gZ E N F a/\rP F (S x)/\St E (HX x) w/\R x/\μ x=m
 refine wpIn_loop (λa w=>∃m,p a w m) (λa w=>low (p a w)) ⟨_,x0,F,ha,hF,hH w hw,h0,rfl⟩ ?_;intro a w hI;have⟨⟨x,F,hr,hS,hw,hR,hx⟩,_⟩:=J1 hI;have h:=round x F hR;rw[Ec hS] at h;refine wpIn_mono (h.get a w hr hw) ?_;intro e a' w' hq;cases e with
 |normal =>
  have⟨F',H',h1,h2,x',h3,h4,h5,h6⟩:=hq;have hp:p a' w' (μ x'):=⟨x',F',h1,h3,h4 w' h2,h5,rfl⟩
  refine⟨⟨_,hp⟩,?_⟩;refine Nat.lt_of_le_of_lt ((J1 (p:=p a' w') ⟨_,hp⟩).2 _ hp) ?_;rw[<-hx];exact h6
 |ret=>exact hq
 |exit id=>exact hq
 |panic c=>exact hq
 |_=>exact hq.elim
def VT{i:Func}{args:Array p!}(p:P.funcs[f]?=some i)(hb:i.body=some c)(s:i.ntmps=N)(q:args.size<=N)
  (h:CI none P N E c (mB P E i W) (vO args) H):aF P E f args H W:=by
 intro b w g;refine MJ (n:=0) (callsIn_of_wp p hb trivial ?_);have d:gZ E N (vO args) { tmps:=args++Array.replicate (i.ntmps - args.size) undef,defers:=[] }:=by
  refine⟨b.symm,by simp;omega,λi=>?_⟩;simp only[vO,Gr,qS,GM,zE,Ib,GL];split
  ·rfl
  ·rename_i h;rw[PC o_];split<;>rfl
 refine wpIn_mono (h.get _ w d g) ?_;intro e a w l;cases e with
 |normal=>have⟨F,H,d,g,v,H',m,j,k⟩:=l;exact⟨d.defers.trans b,v,by rw[DM d];exact m w g,H',j w g,k⟩
 |ret=>have⟨F,H,d,g,v,H',m,j,k⟩:=l;exact⟨d.defers.trans b,v,by rw[DM d];exact m w g,H',j w g,k⟩
 |exit t=>have⟨_,_,_,_,h⟩:=l;exact h.elim
 |panic c=>have⟨o,H,j,k⟩:=l;exact⟨o.trans b,H,j,k⟩
 |_=>exact l.elim
def Gm(P:t!)(E:Env)(l:Nat)(vs:List p!)(H:List aG)(Q:Ending->List aG->Prop):Prop :=
 E.ds=[]->∀w,St E H w->∃f a assign body,(Instr.yield l vs.toArray).run P w=.ok (.round l f a assign body) w/\RoundIn (fz none) 0 P l f a assign body w λe b=>∃H',St E H' b/\Q e H'
def LI.yield{j c:List Oper}{l:Nat}{xs:List r!}{n:Array q!}{t:Ending->List aG->Prop}{d:Nat}{ty:q!}{k:String}{w:Array Edge}
  (U:d<N) (hx:ev F x=.func (.yield l) #[] #[]) (hv:vG F xs vs) (W:fJ Hp H R) (s:∀M,Sub E R M->Gm P M l vs Hp t)
  (O:∀e H',t e H'->∃v,e=.returned v/\∃o,kE H' R o/\LI none P N E j Q c (gK F d v) o) :
  LI none P N E j Q (⟨some d,.call { callee:=.value x,args:=xs.toArray,argTypes:=n },ty,k,w,none⟩::c) F H:=by
 refine⟨λa u y Z=>?_⟩;refine wpListIn_plain rfl λK' K=>?_;refine⟨λ_ _=>trivial,?_⟩;have⟨M,p,J,q,h⟩:=(Z.cC W).enter;have⟨f,m,assign,body,hy,b⟩:=s M J p u q;have X:(Oper.semAt (fz none).round a.eval ⟨some d,.call { callee:=.value x,args:=xs.toArray,argTypes:=n },ty,k,w,none⟩).run P u=.ok (.round l f m assign body) u:=by
  rw[show(fz none).round=none from rfl,Oper.semAt_none];have g:(xs.toArray.map (ev F))=vs.toArray:=by rw[<-hv.eq,FQ];simp
  rw[y.eval];simp[execOp,resolve,hx,Deferred.ofValue,invoke,g,hy]
 rw[X];refine⟨λhh=>(by cases hh),b.mono ?_⟩;rintro e z ⟨H',A,B⟩;obtain⟨v,rfl,o,i,D⟩:=O e H' B;exact K _ _ (D.get _ z (y.put U v) (by rw[i.eq];exact h H' z A))
def LI.val{b:List Oper}{d:Nat}{g:Op}{ty:q!}{e:String}{i:Array Edge}(m:d<N)(f:∀c,g≠.defer c)(n:gM P E H (ev F) ⟨some d,g,ty,e,i,none⟩ v)(h:LI r P N E b Q a (gK F d v) H) :
  LI r P N E b Q (⟨some d,g,ty,e,i,none⟩::a) F H:=by
 refine⟨λa w j k=>wpListIn_plain rfl λK' l=>Hf f ?_⟩;unfold Oper.wp;rw[j.eval,n w k];exact l _ _ (h.get _ w (j.put m v) k)
def LI.DR{d b:List Oper}{i:Op}{ty:q!}{e:String}{j:Array Edge}(f:∀c,i≠.defer c)
  (h:dF P N E F H ⟨none,i,ty,e,j,none⟩ K) (m:∀v H',K v H'->LI r P N E d Q b F H'):LI r P N E d Q (⟨none,i,ty,e,j,none⟩::b) F H :=
 ⟨λa w k o=>wpListIn_plain rfl λ_ l=>Hf f (h a w k o _ _ λv H' p n g=>l _ _ ((m v H' n).get _ p k g))⟩
def CI.G0{c:r!}{x y:Code}{b:Bool}(a:ev F c=.bool b)(hb:b=true)(d:CI r P N E x Q F H):CI r P N E (.cond c x y) Q F H:=CI.cond a (λ_=>d) (λh=>by rw[hb] at h;cases h)
def CI.Gz{c:r!}{x y:Code}{b:Bool}(a:ev F c=.bool b)(hb:b=false)(d:CI r P N E y Q F H):CI r P N E (.cond c x y) Q F H:=CI.cond a (λh=>by rw[hb] at h;cases h) (λ_=>d)
end
def OJ{op:Op}(h:∀c,op≠.defer c:=by intro c h;cases h):∀c,op≠.defer c:=h
def tC{p:Prop}(hq:q)(h:kD q->p:=by intro h;(first|refine CI.seq ?_|refine CI.block ?_|refine CI.exit ?_|refine CI.skip ?_|refine CI.ret ?_|refine CI.region ?_|refine LI.nil ?_|(focus (apply LI.val;(· decide);(· exact OJ);(· exact kP)))|(focus (apply CI.G0;(· exact rfl);(· exact rG)))|(focus (apply CI.Gz;(· exact rfl);(· exact rG)))|with_reducible refine T.n ?_|with_reducible refine T.ret ?_|with_reducible refine T.exit ?_|with_reducible refine I.n ?_|with_reducible refine I.ret ?_|with_reducible refine I.iI ?_|with_reducible refine I.J8 sD ?_);exact h.out):p:=h ⟨hq⟩
def sH{p:Prop}(hq:q)(h:kD q->p:=by intro h;first|(apply LI.lI;(· decide);(· exact OJ);(· exact uY);(first|exact x0 h.out|exact x1 h.out|exact x2 h.out))|(apply LI.DR;(· exact OJ);(· exact uY);(first|exact x0 h.out|exact x1 h.out|exact x2 h.out))):p:=h ⟨hq⟩
section
variable {r:Option Nat} {N:Nat} {E:Env} {Q:QF} {F:Nat->p!} {H R:List aG}
def MO{xs:List r!}{i:Array q!}{k:Ending->List aG->Prop}{d:Nat}{ty:q!}{g:String}{l:Array Edge}{os:List Oper}(q:d<N)(s:jT f=true)(t:fJ Hp H R)(b:∀M,Sub E R M->aF prog M f (mI F xs).toArray Hp k)
  (p:∀e H',k e H'->∃v,e=.returned v/\∃j,kE H' R j/\LI r prog N E os Q a (gK F d v) j) :
  LI r prog N E os Q (⟨some d,.call { callee:=.value (.func f),args:=xs.toArray,argTypes:=i },ty,g,l,none⟩::a) F H:=by
 have⟨u,m,n,o⟩:=AK s;refine LI.lI q (by intro c h;cases h) (S.call rfl rfl m n o t b p) λv H' h=>h
end
def oZ(l:Nat)(r:Loop):aG where
 holds F w:=(∀b,F b↔b=l)/\w.heap[l]?=some (.loop r)
 loc h hk:=⟨h.1,(hk _ ((h.1 _).2 rfl)).trans h.2⟩
 lt h hb:=by rw[(h.1 _).1 hb];exact(xO.1 h.2).1
def kH(D:Nat):aG where
 holds F w:=(∀b,F b↔b=D)/\w.heap[D]?=some (.deferred (some []))
 loc h hk:=⟨h.1,(hk _ ((h.1 _).2 rfl)).trans h.2⟩
 lt h hb:=by rw[(h.1 _).1 hb];exact(xO.1 h.2).1
def uK(l:List aG):aG:=⟨fG l,BI,DQ⟩
section
variable {E:Env} {H R:List aG} {w:World}
theorem St.uK{l:List aG}:St E (uK l::R) w↔St E (l++R) w:=by
 constructor
 ·exact λh=>h.conv λF ⟨a,b,c,d,e,f⟩=>⟨F,jU.2 ⟨a,b,c,d,e,f⟩,λ_ h=>h⟩
 ·intro h;refine h.conv λF g=>?_;have⟨a,b,c,d,e,f⟩:=jU.1 g;exact⟨F,⟨a,b,c,d,e,f⟩,λ_ h=>h⟩
def St.lp{l:Nat}{r:Loop}(h:St E (oZ l r::R) w):w.heap[l]?=some (.loop r):=by
 have⟨F,a,_⟩:=h.has Has.aR;exact a.2
def St.df(h:St E (kH D::R) w):w.heap[D]?=some (.deferred (some [])):=by
 have⟨F,a,_⟩:=h.has Has.aR;exact a.2
def St.Hv{l:Nat}{r r':Loop}(h:St E (oZ l r::R) w):St E (oZ l r'::R) (w.putObj l (.loop r')):=by
 have hl:=(xO.1 h.lp).1;refine h.kB (a:=oZ l r) (l:=[oZ l r']) eQ.aR rfl rfl rfl s_ (G:=λb=>b=l) (λb _ hb=>Pc hb) λF1 h1=>?_;exact⟨F1,⟨F1,λ_=>False,λb=>by simp,λ_ _ h=>h,⟨h1.1,World.putObj_heap_same hl⟩,λ_ h=>h⟩,λb hb=>.inl hb,λb _ hb=>(h1.1 b).2 hb⟩
def St.MU{l:Nat}{r:Loop}{o:Obj}(h:St E (oZ l r::R) w):St E R (w.putObj l o):=by
 refine(h.kB (a:=oZ l r) (l:=[]) eQ.aR rfl rfl rfl s_ (G:=λb=>b=l) (λb _ hb=>Pc hb) λF1 c=>?_);exact⟨λ_=>False,λ_ h=>h,λb hb=>hb.elim,λb _ hb=>(c.1 b).2 hb⟩
def St.Yq{o:Obj}(h:St E (kH D::R) w):St E R (w.putObj D o):=by
 refine(h.kB (a:=kH D) (l:=[]) eQ.aR rfl rfl rfl s_ (G:=λb=>b=D) (λb _ hb=>Pc hb) λF1 c=>?_);exact⟨λ_=>False,λ_ h=>h,λb hb=>hb.elim,λb _ hb=>(c.1 b).2 hb⟩
def St.newObj{a:aG}{o:Obj}(h:St E H w)(c:∀F,(∀b,F b↔b=w.heap.size)->(w.alloc o).heap[w.heap.size]?=some o->a.holds F (w.alloc o)):St E (a::H) (w.alloc o) :=
 h.grow (l:=[a]) rfl rfl rfl s_ (λb hb=>CT _ _ _ hb) (F1:=λb=>b=w.heap.size) ⟨_,λ_=>False,λb=>by simp,λ_ _ h=>h,c _ (λ_=>oB) (World.alloc_heap_new w o),λ_ h=>h⟩ (λb hb=>by omega)
theorem St.swap{a:aG}{l:List aG}(h:St E (a::l++R) w):St E (l++a::R) w:=h.conv λF p=>by
 have⟨c,q,j,k,m,n⟩:=p;have⟨f,d,e,r,g,i⟩:=jU.1 n;refine⟨F,jU.2 ⟨f,λb=>c b\/d b,λb=>by rw[j b,e b];constructor<;>(rintro(h|h|h)<;>simp[h]),?_,g,c,d,λ_=>oB,λb hb o=>k b hb ((e b).2 (.inr o)),m,i⟩,λ_ h=>h⟩
 grind
theorem St.BO{a:aG}{l:List aG}(h:St E (l++a::R) w):St E (a::l++R) w:=h.conv λF n=>by
 have⟨c,K,i,j,f,e,d,k1,k2,k,g⟩:=jU.1 n;refine⟨F,⟨e,λb=>c b\/d b,λb=>by rw[i b,k1 b];constructor<;>(rintro(h|h|h)<;>simp[h]),?_,k,jU.2 ⟨c,d,λ_=>oB,λb hb m=>j b hb ((k1 b).2 (.inr m)),f,g⟩⟩,λ_ h=>h⟩
 grind
end
def Env.jM(E:Env)(a:List Deferred):Env:={ E with ds:=a }
def St.jM{a:List Deferred}{w:World}(h:St E H w):St (E.jM a) H w:=⟨h.os,h.tape,h.output,h.size,h.wQ,h.jQ,h.fp⟩
def St.Oy{a:List Deferred}{w:World}(h:St (E.jM a) H w):St E H w:=⟨h.os,h.tape,h.output,h.size,h.wQ,h.jQ,h.fp⟩
def BP(F:Nat->p!):List Nat->List p!->Nat->p!
 |p::ps,v::a=>BP (gK F p v) ps a
 |_,_=>F
def gZ.BP:∀ {ps:List Nat} {vs:List p!} {F:Nat->p!} {t:Array p!},(∀p∈ps,p<N)->gZ E N F { tmps:=t,defers:=E.ds } ->
  gZ E N (BP F ps vs) { tmps:=(ps.zip vs).foldl (λt (p,v)=>t.setIfInBounds p v) t,defers:=E.ds }
 | [],_,_,_,_,h=>by cases ‹List p!› <;> exact h
 |p::ps,[],_,_,_,h=>h
 |p::ps,v::vs,F,t,hp,h=>by
  have h1:=h.put (hp p jW) v;exact gZ.BP (vs:=vs) (λq hq=>hp q (kF _ hq)) h1
structure WJ(P:Program)(N:Nat)(E:Env)(c:Code)(Qw:Exit->Act->World->Prop)(F:Nat->Value)(H:List aG):Prop where
 get:∀a w,gZ E N F a->St E H w->c.wpIn (fz none) 0 P Qw a w
section
variable {P:t!} {N:Nat} {E:Env} {Qw:Exit->Act->World->Prop} {F:Nat->p!} {H R:List aG}
def WJ.vV{x y:Code}(h:C P N E x (vB (λF H=>WJ P N E y Qw F H) (λ_ _ _=>False)) F H):WJ P N E (.seq x y) Qw F H:=by
 refine⟨λa w i j=>wpIn_seq (wpIn_mono ((wpIn_wide (n:=0)).2 (h.get a w i j)) ?_)⟩;intro e a w b;cases e with
 |normal=>have⟨F,H,d,f,g⟩:=b;exact WJ.get g a w d f
 |ret=>have⟨_,_,_,_,h⟩:=b;exact h.elim
 |exit k=>have⟨_,_,_,_,h⟩:=b;exact h.elim
 |panic c=>have⟨_,_,_,h⟩:=b;exact h.elim
 |_=>exact b.elim
def WJ.seq{x y:Code}(h:WJ P N E x (Exit.then (λa w=>y.wpIn (fz none) 0 P Qw a w) Qw) F H):WJ P N E (.seq x y) Qw F H:=⟨λa w b c=>wpIn_seq (h.get a w b c)⟩
structure Cv(E:Env)(H J:List aG):Prop where
 c:aB E H J
def aFv(id:Nat)(E:Env)(J X:List aG):QF
 | .normal,_,H=>Cv E H J
 | .exit a,_,H=>a=id/\aB E H X
 |_,_,_=>False
def WJ.rf{Y:Type}{g:r!}{ps:List Nat}{assign body tail:Code}{id gf:Nat}{lb:List p!}{xs:List α}(enc:α->List p!)(JP JX:Nat->List aG)(S:Nat->Y->List (Nat×p!))(JA:Nat->Y->List aG){Hit Hd:List aG}{Hs:Nat->List aG}
  (hds:E.ds=[]) (hg:ev F g=.func (.func gf) #[] lb.toArray) (hk:∃fn,P.funcs[gf]?=some fn/\(fn.name == "runtime.NumGoroutine")=false/\fn.body.isNone=false) (hps:∀x,(enc x).length=ps.length) (hN:∀p∈ps,p<N) (hH:aB E H (JP 0++Hit))
  (iter:∀M R' l (J X:Nat->aG),Sub E R' M->(∀E2 R2 i x,Sub M R2 E2->xs[i]?=some x->Gm P E2 l (enc x) [J i] (λe H'=>(e=.returned (.bool true)/\H'=[J (i+1)])\/(e=.returned (.bool false)/\H'=[X i]))) ->
   aF P M gf (.func (.yield l) #[] #[]::lb).toArray (J 0::Hit) (λe H'=>(∃v,e=.returned v)/\(H'=J xs.length::Hd\/∃i,i<xs.length/\H'=X i::Hs i)))
  (hassign:∀E2 R3 l i x,Sub E R3 E2->E2.ds=[]->xs[i]?=some x->CI (some l) P N E2 assign (vB (λF' H'=>∃y,rP F' (S i y)/\aB E2 H' (JA i y)) (λ_ _ _=>False)) (BP F ps (enc x)) (JP i))
  (hbody:∀E2 R3 l i x y G,Sub E R3 E2->E2.ds=[]->xs[i]?=some x->CI (some l) P N E2 body (aFv id E2 (JP (i+1)) (JX i)) (AQ (S i y) G) (JA i y))
  (hdone:∀D,WJ P N (E.jM [{ target:=.collected D,args:=#[] }]) tail Qw F (kH D::(JP xs.length++Hd)))
  (hstop:∀D i,i<xs.length->WJ P N (E.jM [{ target:=.collected D,args:=#[] }]) tail Qw F (kH D::(JX i++Hs i))) :
  WJ P N E (.block id (.rangeFunc g ps.toArray assign body)) (Exit.then (λa w=>tail.wpIn (fz none) 0 P Qw a w) Qw) F H:=by
 refine⟨λa w ha hw=>wpIn_block (wpIn_rangeFunc ?_)⟩;intro fn _;have had:a.defers=[]:=ha.defers.trans hds;have⟨rec,hrec⟩:∃rec:LoopState->Option Code->Loop,rec=λst pe=>{ state:=st,pending:=pe,fn,tmps:=a.tmps,params:=ps.toArray,assign,body,defers:=w.heap.size }:=⟨_,rfl⟩
 have⟨W0,hW0⟩:∃W0,w.alloc (.deferred (some []))=W0:=⟨_,rfl⟩;have⟨W1,hW1⟩:∃W1,W0.alloc (.loop (rec .ready none))=W1:=⟨_,rfl⟩;have hz:W0.heap.size=w.heap.size+1:=by rw[<-hW0];simp
 have hs0:St E (kH w.heap.size::(JP 0++Hit)) W0:=by
  rw[<-hW0];exact(hH w hw).newObj λF' h1 h2=>⟨h1,h2⟩
 have hs1:St E (oZ (w.heap.size+1) (rec .ready none)::kH w.heap.size::(JP 0++Hit)) W1:=by
  rw[<-hW1];exact hs0.newObj λF' h1 h2=>⟨λb=>by rw[h1 b,hz],by rw[hz] at h2;exact h2⟩
 let J:Nat->aG:=λi=>uK (oZ (w.heap.size+1) (rec .ready none)::JP i)
 let X:Nat->aG:=λi=>uK (oZ (w.heap.size+1) (rec .done (some (.exit id)))::JX i)
 have hs2:St E ((J 0::Hit)++[kH w.heap.size]) W1:=by
  grind [oZ,kH,St.swap,St.BO,St.uK]
 have⟨M,hds',hE,hst,hback⟩:=hs2.enter;have⟨gn,hf1,hf2,hf3⟩:=hk;refine⟨w.heap.size+1,[{ target:=.collected w.heap.size,args:=#[] }],W1,{ target:=.fn (.func gf) lb.toArray,args:=#[.func (.yield (w.heap.size+1)) #[] #[]] },W1,gf,
  #[.func (.yield (w.heap.size+1)) #[] #[]]++lb.toArray,W1,?_,?_,λ_ _=>trivial,?_,λhh=>(by cases hh),?_⟩
 ·rw[<-hW1,<-hW0,hrec];exact run_enterLoop_outer _ _ _ _ _
 ·rw[ha.eval];simp only[resolve,hg];simp[go_sem,ev]
 ·have h1:¬gn.name = "runtime.NumGoroutine" := by simpa using hf2
  have h2:¬gn.body=none:=by intro h;rw[h] at hf3;cases hf3
  simp[invoke,callFunc,hf1,h1,h2]
 ·have hargs : #[.func (.yield (w.heap.size+1)) #[] #[]]++lb.toArray=(Value.func (.yield (w.heap.size+1)) #[] #[]::lb).toArray:=s_
  rw[hargs];refine MI ((iter M [kH w.heap.size] (w.heap.size+1) J X hE ?_ hds' W1 hst).mono ?_)
  ·intro E2 R2 i x hE2 hx hd2 W hW;have hW':St E2 (oZ (w.heap.size+1) (rec .ready none)::JP i++[]) W:=by simpa using St.uK.1 hW
   have hy:=run_yield (P:=P) (args:=(enc x).toArray) (St.lp hW') (by grind);rw[hrec] at hy;refine⟨fn,_,assign,body,hy,roundIn_of_wpIn trivial ?_⟩;have⟨E4,hd4,hE4,hst4,hback4⟩:=(St.swap hW').enter;have hr4:gZ E4 N (BP F ps (enc x)) { tmps:=(ps.toArray.zip (enc x).toArray).foldl (λtmps (t,a)=>tmps.setIfInBounds t a) a.tmps,defers:=[] }:=by
    have h1:=gZ.BP (E:=E4) (vs:=enc x) (F:=F) (t:=a.tmps) hN ⟨rfl,ha.size,ha.get⟩;grind
   refine wpIn_mono ((hassign E4 _ (w.heap.size+1) i x ((hE.trans hE2).trans hE4) hd4 hx).get _ W hr4 hst4) ?_;intro e a1 w1 hq;cases e with
   |normal =>
    have⟨F1,H1,h1,h2,y,h3,h4⟩:=hq;have h6:=St.BO (hback4 _ _ (h4 w1 h2));refine⟨_,run_beginRound h6.lp (by rw[hrec]),?_⟩;have⟨E5,hd5,hE5,hst5,hback5⟩:=(St.swap (h6.Hv (r':={ rec .ready none with state:=.busy }))).enter;have hB:=hbody E5 _ (w.heap.size+1) i x y F1 ((hE.trans hE2).trans hE5) hd5 hx;rw[Ec h3] at hB;refine wpIn_mono (hB.get _ _ ⟨h1.defers.trans (hd4.trans hd5.symm),h1.size,h1.get⟩ hst5) ?_;intro e a2 w2 hq2;cases e with
    |normal =>
     have⟨F2,H2,_,k2,k3⟩:=hq2;have k4:=St.BO (hback5 _ _ (k3.c w2 k2));refine⟨_,_,run_endRound none k4.lp,[J (i+1)],St.uK.2 ?_,.inl ⟨rfl,rfl⟩⟩;have k5:=k4.Hv (r':=rec .ready none);rw[hrec] at k5⊢;exact k5
    |exit id' =>
     obtain⟨F2,H2,_,k2,rfl,k3⟩:=hq2;have k4:=St.BO (hback5 _ _ (k3 w2 k2));refine⟨_,_,run_endRound _ k4.lp,[X i],St.uK.2 ?_,.inr ⟨rfl,rfl⟩⟩;have k5:=k4.Hv (r':=rec .done (some (.exit id')));rw[hrec] at k5⊢;exact k5
    |ret=>have⟨_,_,_,_,h⟩:=hq2;exact h.elim
    |panic c=>have⟨_,_,_,h⟩:=hq2;exact h.elim
    |_=>exact hq2.elim
   |ret=>have⟨_,_,_,_,h⟩:=hq;exact h.elim
   |exit id=>have⟨_,_,_,_,h⟩:=hq;exact h.elim
   |panic c=>have⟨_,_,_,h⟩:=hq;exact h.elim
   |_=>exact hq.elim
  ·rintro e w3 ⟨H',h1,⟨v,rfl⟩,h2⟩;have h3:=hback _ _ h1;have hpn:∀st pe,(rec st pe).pending=pe:=λ_ _=>by rw[hrec]
   rcases h2 with rfl|⟨i,hi,rfl⟩
   ·have h4:St E (oZ (w.heap.size+1) (rec .ready none)::(JP xs.length++Hd++[kH w.heap.size])) w3:=by simpa using St.uK.1 h3
    have h5:=run_endLoop (P:=P) h4.lp (by grind);rw[hpn] at h5;refine⟨none,_,h5,?_⟩;have h6:∀o,St (E.jM [{ target:=.collected w.heap.size,args:=#[] }]) (kH w.heap.size::(JP xs.length++Hd)) (w3.putObj (w.heap.size+1) o):=λo=>by simpa using(St.BO (R:=[]) (h4.MU (o:=o))).jM
    exact(hdone w.heap.size).get _ _ ⟨by simp[had,Env.jM],ha.size,ha.get⟩ (h6 _)
   ·have h4:St E (oZ (w.heap.size+1) (rec .done (some (.exit id)))::(JX i++Hs i++[kH w.heap.size])) w3:=by simpa using St.uK.1 h3
    have h5:=run_endLoop (P:=P) h4.lp (by grind);rw[hpn] at h5;refine⟨some (.exit id),_,h5,?_⟩;refine wpIn_exit ?_;show(if id=id then _ else _);rw[c! rfl];have h6:∀o,St (E.jM [{ target:=.collected w.heap.size,args:=#[] }]) (kH w.heap.size::(JX i++Hs i)) (w3.putObj (w.heap.size+1) o):=λo=>by simpa using(St.BO (R:=[]) (h4.MU (o:=o))).jM
    exact(hstop w.heap.size i hi).get _ _ ⟨by simp[had,Env.jM],ha.size,ha.get⟩ (h6 _)
def aKu(P:t!)(E:Env)(b:Func)(W:Ending->List aG->Prop)(D:Nat):QF
 | .normal,F,H | .ret,F,H=>∃a,Has (kH D) H a/\mB P E b W .ret F a
 |_,_,_=>False
def WJ.Na{q:Func}{b:Code}(h:C P N (E.jM [{ target:=.collected D,args:=#[] }]) b (aKu P E q W D) F H) :
  WJ P N (E.jM [{ target:=.collected D,args:=#[] }]) b (bodyPostM (fz none) 0 P q λe s=>∃d,St E d s/\W e d) F H:=by
 refine⟨λa w u x=>wpIn_mono ((wpIn_wide (n:=0)).2 (h.get a w u x)) ?_⟩;have i:∀(F:Nat->p!) (H:List aG) (a:Act) (w:World),gZ (E.jM [{ target:=.collected D,args:=#[] }]) N F a->St (E.jM [{ target:=.collected D,args:=#[] }]) H w->(∃p,Has (kH D) H p/\mB P E q W .ret F p) ->
   LeavesInM (fz none) 0 P q a.tmps (λe s=>∃d,St E d s/\W e d) a.defers .returning w:=by
  rintro F H a w f g ⟨p,t,v,d,k1,k2,k3⟩;rw[f.defers];have k:St E (kH D::p) w:=(g.weaken (l:=[kH D]) (.cons t .nil)).Oy.conv (λF h=>⟨F,h,λ_ h=>h⟩) |> λ_=>by
   have:=g.Oy.cC (l:=[kH D]) (.cons t .nil)
   grind
  have m:=k.Yq (o:=.deferred none);refine⟨s_,.inl ⟨D,_,rfl,run_takeDeferred k.df,v,?_,d,k2 _ m,k3⟩⟩;rw[DM f];exact k1 _ m
 intro e a w j;cases e with
 |normal=>have⟨F,H,f,g,r⟩:=j;exact i F H a w f g r
 |ret=>have⟨F,H,f,g,r⟩:=j;exact i F H a w f g r
 |exit y=>have⟨_,_,_,_,h⟩:=j;exact h.elim
 |panic c=>have⟨_,_,_,h⟩:=j;exact h.elim
 |_=>exact j.elim
def VU{b:Func}{args:Array p!}(d:P.funcs[f]?=some b)(hb:b.body=some c)(k:b.ntmps=N)(j:args.size<=N)
  (h:E.ds=[]->WJ P N E c (bodyPostM (fz none) 0 P b λe i=>∃H',St E H' i/\W e H') (vO args) H):aF P E f args H W:=by
 intro a w g;refine MJ (n:=0) (callsIn_of_wp_marks d hb trivial ((h a).get _ w ?_ g));refine⟨a.symm,by simp;omega,λi=>?_⟩;simp only[vO,Gr,qS,GM,zE,Ib,GL];split
 ·rfl
 ·rename_i h;rw[PC o_];split<;>rfl
def St.qH{p:Prop}{w:World}(h:St E H w)(b:Has (mS p) H R):p:=by
 have⟨F,a,_⟩:=h.has b;exact a.1
def aB.qH{p:Prop}(a:p):aB E H (mS p::H):=λ_ b=>b.conv λF h=>⟨F,⟨λ_=>False,F,λb=>by simp,λ_ h=>h.elim,⟨a,λ_ h=>h⟩,h⟩,λ_ h=>h⟩
def WJ.fact{p:Prop}(e:Has (mS p) H R)(h:p->WJ P N E c Qw F H):WJ P N E c Qw F H:=⟨λa w d b=>(h (b.qH e)).get a w d b⟩
def CI.fact{r:Option Nat}{Q:QF}{p:Prop}(e:Has (mS p) H R)(h:p->CI r P N E c Q F H):CI r P N E c Q F H:=⟨λa w d b=>(h (b.qH e)).get a w d b⟩
end
end
end Go.Proofs.YtmilalkjbojciaaGreat.Sep
