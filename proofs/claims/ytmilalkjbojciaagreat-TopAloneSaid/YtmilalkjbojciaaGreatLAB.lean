/- Part AB: what it needs. No condition. -/
import Derived.Test.YtmilalkjbojciaaGreatLAA
import Derived.Room.AppendUpon
import Derived.ArgAppend
import Derived.Laws.StructEq
import Derived.ChangeKeysEq
import Derived.Lib.AppendZeros
set_option maxRecDepth 100000
set_option maxHeartbeats 8000000
open Go.Proofs.Tryz
namespace Go.Proofs.YtmilalkjbojciaaGreat.Sep
section
open Go.RowKit Reg
open Mem hiding Rd
def aU:Ty UInt8 where
 val b:=.int .u8 (b.toNat:Int)
 size:=1
 bytes:=1
 tid:=5
 zero:=.int .u8 0
 hlen _:=rfl
 lJ a u h:=by simp only[Value.cells,aAp] at h;subst h;rfl
 gL:=sD
 hzero:=rfl
 fW:=q_
 nR:=.inr ⟨q_,λ_=>rfl⟩
theorem PC(x:Int)(h0:0≤x)(h1:x<256):aU.val (UInt8.ofNat x.toNat)=.int .u8 x:=by
 have e:((x.toNat % 256:Nat):Int)=x:=o_;simp[aU,e]
theorem Y.str{E:Env}{H:List aL}{ρ:Operand→Value}{o:Oper}{x:Operand}{A:Option Addr}{n c:Nat}{l:List UInt8}(ho:o.op=.convert 70 9 x)(hx:ρ x=.slice A n c)(h:kV E H aU A n c l):qB prog E H ρ o (.string (T0 l)):=by
 intro u hu;obtain⟨h0,h1,h2,h3⟩:=h u hu;have hr:Mem.Rd Fq u u.heap.size A n c l:=by
  refine⟨h0,h1,h2,?_,λhn=>?_⟩
  ·rw[Fq.bM,←h0]
  ·rcases h3 with h3|⟨ad,e,hc⟩
   ·omega
   ·have hl:0<(aU.bT l).length:=by rw[aU.bM,←h0];exact Nat.mul_pos hn aU.gL
    have:=aEk _ _ (hc 0 _ (aAa hl));exact⟨ad,e,by rwa [eQ] at this,hc⟩
 exact V.convert ho hx (VD hr)
def Ey:UInt8:=0
theorem AL{a b:List aL}{x:aL}{F:Nat→Prop}{w:World}:cT (a++x::b) F w↔cT (x::(a++b)) F w:=by
 constructor
 ·intro h;obtain⟨F1,F2,h1,h2,h3,G1,G2,g1,g2,g3,g4⟩:=aY.1 h;refine⟨G1,λk=>F1 k∨G2 k,λk=>?_,?_,g3,aY.2 ⟨F1,G2,λk=>aDl,λk hk hg=>h2 k hk ((g1 k).2 (.inr hg)),h3,g4⟩⟩
  ·rw[h1 k,g1 k];constructor<;>(rintro(h|h|h)<;>simp[h])
  ·rintro k hk (h|h)
   ·exact h2 k h ((g1 k).2 (.inl hk))
   ·exact g2 k hk h
 ·rintro⟨F1,F2,h1,h2,h3,h4⟩;obtain⟨G1,G2,g1,g2,g3,g4⟩:=aY.1 h4;refine aY.2 ⟨G1,λk=>F1 k∨G2 k,λk=>?_,?_,g3,F1,G2,λk=>aDl,λk hk hg=>h2 k hk ((g1 k).2 (.inr hg)),h3,g4⟩
  ·rw[h1 k,g1 k];constructor<;>(rintro(h|h|h)<;>simp[h])
  ·rintro k hk (h|h)
   ·exact h2 k h ((g1 k).2 (.inl hk))
   ·exact g2 k hk h
def aO{X:Type}(f:X→aL)(l:List X):aL where
 holds F w:=cT (l.map f) F w
 loc h hk:=iJ h hk
 lt h hb:=mP h hb
section
variable {X α:Type} {f:X→aL} {l l':List X} {E M:Env} {H R:List aL} {T:Ty α} {A:Option Addr} {n c:Nat} {b:List α}
theorem aB.kP(f:X→aL):aB E H (aO f []::H):=λw hw =>
 hw.grow (l:=[aO f []]) rfl rfl rfl (aAf _) (λ_ _=>rfl) (F1:=λ_=>False) ⟨λ_=>False,λ_=>False,λb=>by simp,λ_ h=>h.elim,λ_ h=>h,λ_ h=>h⟩ (λ_ h=>h.elim)
theorem aB.out{i:Nat}{x:X}(h:Has (aO f l) H R)(hx:l[i]?=some x):aB E H (f x::aO f (l.eraseIdx i)::R):=λw hw=>hw.conv λF hs=>by
 obtain⟨F1,F2,h1,h2,h3,h4⟩:=h.cT hs;obtain⟨hi,rfl⟩:=aAd.1 hx;have e1:l=l.take i++l[i]::l.drop (i+1):=by rw[List.getElem_cons_drop,aAx]
 have e2:l.eraseIdx i=l.take i++l.drop (i+1):=aDp ..;have h3':cT (l.map f) F1 w:=h3;have e3:l.map f=(l.take i).map f++f l[i]::(l.drop (i+1)).map f:=by
  have:=congrArg (List.map f) e1;rw[aBk,aCi] at this;exact this
 rw[e3] at h3';obtain⟨G1,G2,g1,g2,g3,g4⟩:=AL.1 h3';refine⟨F,⟨G1,λk=>G2 k∨F2 k,λk=>by rw[h1 k,g1 k,or_assoc],?_,g3,G2,F2,λk=>aDl,λk hk hg=>h2 k ((g1 k).2 (.inr hk)) hg,?_,h4⟩,λ_ h=>h⟩
 ·rintro k hk (hg|hg)
  ·exact g2 k hk hg
  ·exact h2 k ((g1 k).2 (.inl hk)) hg
 ·show cT ((l.eraseIdx i).map f) G2 w;rw[e2,aBk];exact g4
theorem aB.BH{i:Nat}{x:X}(h:cS [f x,aO f l] H R)(hl:l'=l.take i++x::l.drop i):aB E H (aO f l'::R):=λw hw=>(hw.aV h).conv λF hs=>by
 obtain⟨F1,F2,h1,h2,h3,G1,G2,g1,g2,g3,g4⟩:=hs;refine⟨F,⟨λk=>F1 k∨G1 k,G2,λk=>by rw[h1 k,g1 k,or_assoc],?_,?_,g4⟩,λ_ h=>h⟩
 ·rintro k (hk|hk) hg
  ·exact h2 k hk ((g1 k).2 (.inr hg))
  ·exact g2 k hk hg
 ·show cT (l'.map f) _ w;rw[hl,aBk,aCi];refine AL.2 ⟨F1,G1,λk=>aDl,λk hk hg=>h2 k hk ((g1 k).2 (.inl hg)),h3,?_⟩;rw[←aBk,aAx];exact g3
theorem aB.push{x:X}(h:cS [f x,aO f l] H R):aB E H (aO f (l++[x])::R):=aB.BH (i:=l.length) h (by simp)
theorem uO{i:Nat}{x:X}(h:i<l.length):l.set i x=(l.eraseIdx i).take i++x::(l.eraseIdx i).drop i:=by
 have e2:l.eraseIdx i=l.take i++l.drop (i+1):=aDp ..;have e3:(l.take i).length=i:=by simp;omega
 rw[e2,aBj e3,aBu e3,aDg,if_pos h]
theorem Has.aO{i:Nat}{x:X}(h:Has (Sep.aO f l) H R)(hx:l[i]?=some x){w:World}(hw:St E H w):∃F,(f x).holds F w:=by
 obtain⟨F,h1,h2⟩:=(aB.out (E:=E) h hx w hw).fp;obtain⟨F1,F2,_,_,h3,_⟩:=h1;exact⟨F1,h3⟩
theorem kV.aO{i:Nat}{x:X}(h:Has (Sep.aO f l) H R)(hx:l[i]?=some x)(hf:f x=Sep.own T A n c b):kV E H T A n c b:=λw hw=>by
 obtain⟨F,h1⟩:=h.aO hx hw;rw[hf] at h1;obtain⟨k0,k1,k2,k3⟩:=qE h1;exact⟨k0,k1,k2,k3.imp id λ⟨ad,e,_,hc⟩=>⟨ad,e,hc⟩⟩
theorem Sub.aO{R':List aL}(hE:Sub E R M){i:Nat}{x:X}(h:Has (Sep.aO f l) R R')(hx:l[i]?=some x)(hf:f x=Sep.own T A n c b):Rd M T A n c b:=by
 obtain⟨F,h1,h2⟩:=hE.fr;obtain⟨F1,F2,h3,_,h5,_⟩:=h.cT h1;obtain⟨hi,rfl⟩:=aAd.1 hx;have e1:l=l.take i++l[i]::l.drop (i+1):=by rw[List.getElem_cons_drop,aAx]
 have h5':cT (l.map f) F1 M.w:=h5;have e3:l.map f=(l.take i).map f++f l[i]::(l.drop (i+1)).map f:=by
  have:=congrArg (List.map f) e1;rw[aBk,aCi] at this;exact this
 rw[e3] at h5';obtain⟨G1,G2,g1,g2,g3,g4⟩:=AL.1 h5';rw[hf] at g3;obtain⟨k0,k1,k2,k3⟩:=qE g3;exact⟨k0,k1,k2,k3.imp id λ⟨ad,e,hF,hc⟩=>⟨ad,e,h2 _ ((h3 _).2 (.inl ((g1 _).2 (.inl hF)))),hc⟩⟩
end
section
variable {α:Type} {T:Ty α} {N:Nat} {E:Env} {F:Nat→Value} {H H':List aL} {o:Oper} {A:Option Addr} {n c:Nat} {l:List α}
theorem aB.FF{k:Nat}(hk:k≤n)(hr:dT (own T A n c l) [own T A k c (l.take k)] H H'):aB E H H':=λw hw =>
 hw.jX hr rfl rfl rfl (aAf _) (G:=λ_=>False) (λ_ _ _=>rfl) λF1 h1=>by
  refine⟨F1,⟨F1,λ_=>False,λb=>by simp,λ_ _ h=>h,?_,λ_ h=>h⟩,λb hb=>.inl hb,λb _ hb=>hb.elim⟩;obtain⟨h0,⟨rfl,h2,h3⟩|⟨g,cur,h2,h3,h4,h5,h6,h7,h8⟩⟩:=h1
  ·refine⟨by rw[aAg];omega,.inl ⟨by omega,h2,h3⟩⟩
  ·refine⟨by rw[aAg];omega,.inr ⟨g,cur,h2,h3,h4,by omega,h6,h7,?_⟩⟩;have hle:k*T.size≤n*T.size:=aBa _ hk;rw[←T.nX,←h8,aEn,aBr hle]
end
theorem Pu{P:Program}{E:Env}{H:List aL}{f:FuncId}{args:Array Value}{v:Value}(h:∀w,St E H w→Calls P f args w λe w'=>e=.returned v∧w=w'):aK P E f args H λe H'=>e=.returned v∧H'=H :=
 λ_ w hw=>(h w hw).mono λ_ _ ⟨he,hw'⟩=>⟨H,hw'▸hw,he,rfl⟩
section
variable {P:Program} {N:Nat} {E:Env} {F:Nat→Value} {H R:List aL} {o:Oper} {K:Value→List aL→Prop} {ρ:Operand→Value}
theorem V.func1{f:FuncId}{x:Operand}{v:Value}{u:World}(ho:o.op=.makeFunc (.func f) #[] #[x])(hx:ρ x=v):(execOp ρ o).run P u=.ok (.value (.func (.func f) #[] #[v])) u:=by
 simp[execOp,ho,hx,Instr.makeFunc]
theorem S.cW{f:FuncId}{fn:Func}{x:Operand}{c:Value}{ops:List Operand}{tys:Array TypeId}{Hp:List aL}{vs vs':List Value}{Q1:Ending→List aL→Prop}(ho:o.op=.call { callee:=.value x,args:=ops.toArray,argTypes:=tys })(hx:ev F x=.func (.func f) #[] #[c])(hvs:AO F ops=vs)(hv2:vs++[c]=vs')
  (hfn:P.funcs[f]?=some fn) (hname:(fn.name == "runtime.NumGoroutine")=false) (hbody:fn.body.isNone=false)
  (hp:cS Hp H R) (h:∀M,Sub E R M→aK P M f vs'.toArray Hp Q1) (hQ:∀e H',Q1 e H'→∃v,e=.returned v∧∃H2,wK H' R H2∧K v H2):gK P N E F H o K:=by
 subst hvs hv2;intro a u ha hu Kw Q' hK;obtain⟨M,hds,hE,hst,hback⟩:=(hu.aV hp).enter;unfold Oper.wp;have hr:(execOp a.eval o).run P u=.ok (.enter f (AO F ops++[c]).toArray) u:=by
  have h1:¬fn.name = "runtime.NumGoroutine" := by simpa using hname
  have h2:¬fn.body=none:=by intro h;rw[h] at hbody;cases hbody
  rw[ha.eval,AB];simp[execOp,ho,resolve,hx,Deferred.ofValue,invoke,callFunc,hfn,h1,h2]
 rw[hr];refine(h M hE hds u hst).mono ?_;rintro e w' ⟨H',h3,h4⟩;obtain⟨v,rfl,H2,hcat,h5⟩:=hQ e H' h4;exact hK v _ w' h5 (by rw[hcat.eq];exact hback H' w' h3)
theorem V.U6{t e:TypeId}{x i:Operand}{L:List Value}{k:IntKind}{j:Int}{m len:Nat}{v:Value}{ti:TypeInfo}{d:TypeDesc}{u:World}(ho:o.op=.index t x i)(hx:ρ x=.agg L.toArray)(hi:ρ i=.int k j)(ht:P.underlying t=some (.array len e))(hti:P.info? e=some ti)(hs:ti.size=1)(hd:P.underlying e=some d)(hda:lT d=false)(hj:j.toNat=m)(h0:0≤j)(hm:m<len)(hv:L[m]?=some v):(execOp ρ o).run P u=.ok (.value v) u:=by
 subst hj;have hjl:j<len:=o_;cases d<;>simp[lT] at hda<;>simp[execOp,ho,hx,hi,Instr.index,asIntOf,run_underlying ht,h0,hjl,sizeOf,typeInfo,hti,hs,part,isAgg,run_underlying hd,hv]
structure Lu(P:Program)(t:TypeId)(z:List Value)(pl:List (Nat×Nat))(sz:Nat):Prop where
 zero:((P.info? t).bind (·.zero)).map (·.cells.toList)=some z
 elem:(match P.underlying t with|some (.array _ e)=>(P.info? e).map (·.size)|_=>none)=some sz
 Iu:pl=(List.range pl.length).map λi=>(i*sz,sz)
theorem Dc{f g:Nat→Option (Nat×Nat)}(h:∀i p,f i=some p→g i=some p):∀(vs:List (Nat×Value)) (z out:Array Value),Instr.fill f z vs=some out→Instr.fill g z vs=some out
 | [],z,out,hh=>by simpa [Instr.fill] using hh
 | (i,v)::rest,z,out,hh=>by
  unfold Instr.fill at hh⊢;cases hp:f i with
  |none=>simp[hp] at hh
  |some q =>
   rw[h i q hp];rw[hp] at hh;simp only at hh⊢;split at hh
   ·cases hh
   ·rename_i hc;rw[if_neg hc];exact Dc h rest _ _ hh
theorem Y.UN{t:TypeId}{sz:Nat}{parts:List (Nat×Operand)}{vs:List (Nat×Value)}{z:List Value}{pl:List (Nat×Nat)}{cells:List Value}(ho:o.op=.build t parts.toArray)(hp:PV ρ parts vs)(hr:Lu P t z pl sz)(hb:OP pl z vs cells):qB P E H ρ o (.agg cells.toArray):=by
 intro u _;have hb:=hb.eq;have hp:=hp.eq;subst hp;have h1:=hr.zero;have h2:=hr.elem;have:P.built t (parts.toArray.map λ(i,x)=>(i,ρ x)).toList=some cells.toArray:=by
  rw[KY];unfold Program.built;cases hi:P.info? t with
  |none=>simp[hi] at h1
  |some ti =>
   cases hz:ti.zero with
   |none=>simp[hi,hz] at h1
   |some zv =>
    simp[hi,hz] at h1;cases hu:P.underlying t with
    |none=>simp[hu] at h2
    |some d =>
     cases d<;>simp[hu] at h2
     obtain⟨ie,h3,h4⟩:=h2;simp only[hz,h3];refine Dc (f:=(pl.toArray[·]?)) ?_ _ _ _ (CO pl _ _ _ (by rw[h1];exact hb));intro i p hip;simp only[List.getElem?_toArray] at hip;rw[hr.Iu] at hip;simp only[aBf] at hip;cases hq:(List.range pl.length)[i]? with
     |none=>rw[hq] at hip;cases hip
     |some j =>
      rw[hq] at hip;have hj:=(aAd.1 hq).2;simp at hj;subst hj;rw[h4];simpa using hip
 have hrun:=run_build u t _ cells.toArray this;simp only[execOp,ho,aAy];rw[hrun];rfl
end
section
variable {α:Type} {T:Ty α} {N:Nat} {E:Env} {F:Nat→Value} {H:List aL} {o:Oper}
theorem S.xQ{t:TypeId}{x y:Operand}{e1 e2:α}{v1 v2:Value}(ho:o.op=.buildSlice t 2 #[(0,x),(1,y)])(hx:ev F x=v1)(h1:T.val e1=v1)(hy:ev F y=v2)(h2:T.val e2=v2)
  (ht:prog.underlying t=some (.slice T.tid)) (hbig:2*T.size≤2 ^ 24):gK prog N E F H o λr H1=>∃g,r=.slice (some ⟨g,0,none⟩) 2 2∧H1=own T (some ⟨g,0,none⟩) 2 2 [e1,e2]::H :=
 S.pP (parts0:=[(0,x),(1,y)]) (l:=[e1,e2]) ho (by simp[pv,hx,hy,h1,h2]) ht rfl hbig
theorem S.yT{t:TypeId}{x y z:Operand}{e1 e2 e3:α}{v1 v2 v3:Value}(ho:o.op=.buildSlice t 3 #[(0,x),(1,y),(2,z)])(hx:ev F x=v1)(h1:T.val e1=v1)(hy:ev F y=v2)(h2:T.val e2=v2)(hz:ev F z=v3)(h3:T.val e3=v3)
  (ht:prog.underlying t=some (.slice T.tid)) (hbig:3*T.size≤2 ^ 24):gK prog N E F H o λr H1=>∃g,r=.slice (some ⟨g,0,none⟩) 3 3∧H1=own T (some ⟨g,0,none⟩) 3 3 [e1,e2,e3]::H :=
 S.pP (parts0:=[(0,x),(1,y),(2,z)]) (l:=[e1,e2,e3]) ho (by simp[pv,hx,hy,hz,h1,h2,h3]) ht rfl hbig
end
section
variable {P:Program} {E:Env} {F:Nat→Value} {H H' R:List aL}
theorem mL{t g:Nat}{ty bt:TypeId}{cs:List Value}{d:TypeDesc}{ti:TypeInfo}(hv:F t=.pointer (some ⟨g,0,none⟩))(ht:P.underlying ty=some d)(hd:lT d=true)(hi:P.info? ty=some ti)(hb:Has (aJ g bt cs) H R)(hm:ti.size=cs.length){w:World}(hw:St E H w) :
  (asAddr (F t)).run P w=.ok ⟨g,0,none⟩ w∧(loadVar ty ⟨g,0,none⟩).run P w=.ok (.agg cs.toArray) w:=by
 have hc:Cells E H ⟨g,0,none⟩ cs:=Cells.aJ hb rfl;rw[hv];exact⟨by simp[asAddr],sS (u:=w) ht hd hi hm (hc w hw)⟩
theorem cI{fn:Func}{Q:Ending→List aL→Prop}{t g:Nat}{ty bt:TypeId}{cs:List Value}{d:TypeDesc}{ti:TypeInfo}(hr:fn.results=#[.cell t ty])(hv:F t=.pointer (some ⟨g,0,none⟩))(ht:P.underlying ty=some d)(hd:lT d=true)(hi:P.info? ty=some ti)(hb:Has (aJ g bt cs) H R)(hm:ti.size=cs.length)
  (hc:aB E H H') (h:Q (.returned (.agg cs.toArray)) H'):gF P E fn Q .ret F H:=by
 refine⟨.agg cs.toArray,H',λw hw=>?_,hc,h⟩;obtain⟨h1,h2⟩:=mL hv ht hd hi hb hm hw;simp[yC,hr,h1,h2]
theorem gS{fn:Func}{Q:Ending→List aL→Prop}{t g u:Nat}{ty bt:TypeId}{cs:List Value}{d:TypeDesc}{ti:TypeInfo}{v:Value}(hr:fn.results=#[.cell t ty,.tmp u])(hv:F t=.pointer (some ⟨g,0,none⟩))(ht:P.underlying ty=some d)(hd:lT d=true)(hi:P.info? ty=some ti)(hb:Has (aJ g bt cs) H R)(hm:ti.size=cs.length)
  (hu:F u=v) (hc:aB E H H') (h:Q (.returned (.tuple #[.agg cs.toArray,v])) H'):gF P E fn Q .ret F H:=by
 refine⟨.tuple #[.agg cs.toArray,v],H',λw hw=>?_,hc,h⟩;subst hu;obtain⟨h1,h2⟩:=mL hv ht hd hi hb hm hw;simp[yC,hr,h1,h2]
end
def Ts(P:Program)(t:TypeId)(x:Value)(xs:List Value):Prop:=match P.underlying t with
 |some (.struct _)=>x=.agg xs.toArray
 |_=>xs=[x]
def ZA(P:Program)(ask:TypeId→List Value→List Value→Option Bool)(xs ys:List Value):List Field→Option Bool
 | []=>some true
 |f::fs=>if f.name = "_" then none else match P.info? f.type with
  |none=>none
  |some ti=>match ask f.type ((xs.drop f.offset).take ti.size) ((ys.drop f.offset).take ti.size),ZA P ask xs ys fs with
   |some a,some b=>some (a&&b)
   |_,_=>none
def eqv(P:Program):Nat→TypeId→List Value→List Value→Option Bool
 |0,_,_,_=>none
 |d+1,t,xs,ys=>match P.underlying t with
  |some (.int _)=>match xs,ys with
   | [.int k a],[.int k' b]=>if k=k' then some (decide (a=b)) else none
   |_,_=>none
  |some .bool=>match xs,ys with
   | [.bool a],[.bool b]=>some (decide (a=b))
   |_,_=>none
  |some (.struct fs)=>if P.stoodInHeld t then none else ZA P (eqv P d) xs ys fs.toList
  |_=>none
section
variable {P:Program}
theorem Ff{t : TypeId}{xs M5 ys : List Value}{off d : Nat}{ti : TypeInfo}{r : Bool}(hi : P.info? t = some ti)(hs : (xs.drop off).take ti.size = M5)(h : eqv P d t M5 ys = some r ∨ eqv P d t ys M5 = some r)(u : World) :
    ∃x, (part t xs.toArray off).run P u = .ok x u ∧ Ts P t x M5 := by
  cases d with
  |zero => simp[eqv] at h
  |succ d =>
    have one : ∀v, M5 = [v] → xs[off]? = some v := by
      intro v hv;rw[hv] at hs;cases hq : xs.drop off with
      |nil => rw[hq] at hs; simp at hs
      |cons a l =>
        rw[hq] at hs;cases hz : ti.size with
        |zero => rw[hz] at hs; simp at hs
        |succ n =>
          rw[hz, aEl] at hs;injection hs with h1 _
          have h2 : (xs.drop off)[0]? = some a := by rw[hq]; rfl
          rw[aCv] at h2;rw[←h1]; simpa using h2
    cases ht : P.underlying t with
    |none => simp[eqv, ht] at h
    |some D =>
      have sng : (∀fs, D ≠ .struct fs) → ∃v, M5 = [v] := by
        intro hD;unfold eqv at h;rw[ht] at h;cases D <;> simp only[or_self, reduceCtorEq] at h
        all_goals first
          |exact absurd rfl (hD _)
          | (rcases h with h |h
             · split at h
               · exact⟨_, rfl⟩
               · cases h
             · split at h
               · exact⟨_, rfl⟩
               · cases h)
      by_cases hD : ∃fs, D = .struct fs
      · obtain⟨fs, rfl⟩ := hD
        refine⟨.agg M5.toArray, ?_, by simp[Ts, ht]⟩;simp only[part, isAgg, sizeOf, typeInfo, aAy, run_underlying ht, aAr];simp[hi, ←hs, List.extract_eq_take_drop]
      · obtain⟨v, hv⟩ := sng (λfs e => hD ⟨fs, e⟩)
        have h1 := one v hv;unfold eqv at h;rw[ht] at h;refine⟨v, ?_, ?_⟩
        · cases D <;> simp only[or_self, reduceCtorEq] at h
          all_goals first
            |exact absurd ⟨_, rfl⟩ hD
            |simp[part, isAgg, run_underlying ht, h1]
        · unfold Ts
          rw[ht];cases D <;> first |exact absurd ⟨_, rfl⟩ hD |exact hv
theorem Qk(d:Nat):∀(k:Nat) (t:TypeId) (xs ys:List Value) (r:Bool) (x y:Value) (u:World),eqv P d t xs ys=some r→Ts P t x xs→Ts P t y ys→(Op.equalIn (d+k) t x y).run P u=.ok r u:=by
 induction d with
 |zero=>intro k t xs ys r x y u h;simp[eqv] at h
 |succ d ih =>
  intro k t xs ys r x y u h hx hy;rw[Nat.add_right_comm];unfold eqv at h;unfold Ts at hx hy;cases ht:P.underlying t with
  |none=>simp[ht] at h
  |some D =>
   rw[ht] at h hx hy;cases D<;>simp only[reduceCtorEq] at h
   case bool =>
    split at h
    ·injection hx with hx _;injection hy with hy _
     subst hx hy;injection h with h
     rw[run_equalIn_bool _ ht,←h];rename_i a b;cases a<;>cases b<;>rfl
    ·cases h
   case int =>
    split at h
    ·split at h
     ·rename_i hk;subst hk;injection hx with hx _;injection hy with hy _
      subst hx hy;injection h with h
      rw[run_equalIn_int _ _ _ _ _ _ _ ht,←h];rfl
     ·cases h
    ·cases h
   case struct fs =>
    split at h
    ·cases h
    ·rename_i hst;simp only at hx hy;subst hx hy;have hfs:P.fieldsOf t=fs:=by simp[Program.fieldsOf,ht]
     rw[run_equalIn_struct _ _ _ _ _ (by rw[hfs];exact ht) (by simpa using hst),hfs];generalize fs.toList=l at h;clear ht hfs
     induction l generalizing r u with
     |nil =>
      injection h with h
      rw[←h];simp[Op.eqFields]
     |cons f l ihl =>
      unfold ZA at h;split at h
      ·cases h
      ·rename_i hn;split at h
       ·cases h
       ·rename_i ti hi;split at h
        ·rename_i a b ha hb;injection h with h
         obtain⟨v1,h1,g1⟩:=Ff hi rfl (.inl ha) u;obtain⟨v2,h2,g2⟩:=Ff hi rfl (.inr ha) u;have h3:=ih k _ _ _ _ _ _ u ha g1 g2;simp only[Op.eqFields,ne_eq,hn,not_false_eq_true,if_true,aAy,h1,h2,h3,aAr];cases a
         ·simp only[aCx] at h;rw[←h];simp
         ·simp only[aCt] at h;subst h;simpa using ihl _ u hb
        ·cases h
structure WU(P:Program)(t:TypeId)(xs ys:Array Value)(r:Bool):Prop where
 ty:∃fs,P.underlying t=some (.struct fs)
 guard:P.eqGuardType P.depth t=false
 val:eqv P 5 t xs.toList ys.toList=some r
theorem WU.run{t:TypeId}{xs ys:Array Value}{r:Bool}(h:WU P t xs ys r)(u:World):(Op.equalIn 10000 t (.agg xs) (.agg ys)).run P u=.ok r u:=by
 obtain⟨fs,ht⟩:=h.ty;exact Qk 5 9995 t _ _ _ _ _ u h.val (by simp[Ts,ht]) (by simp[Ts,ht])
variable {ρ:Operand→Value} {o:Oper} {u:World}
theorem V.ZE{x y:Operand}{t t':TypeId}{xs ys:Array Value}{r:Bool}(ho:o.op=.binOp .eql t x y t')(hx:ρ x=.agg xs)(hy:ρ y=.agg ys)(h:WU P t xs ys r):(execOp ρ o).run P u=.ok (.value (.bool r)) u:=by
 have h1:=run_eql_struct (P:=P) u t xs ys;rw[h.run] at h1;simp[execOp,ho,hx,hy,run_eqGuard_agg u .eql t x y xs ys h.guard,h1]
theorem V.ZJ{x y:Operand}{t t':TypeId}{xs ys:Array Value}{r:Bool}(ho:o.op=.binOp .neq t x y t')(hx:ρ x=.agg xs)(hy:ρ y=.agg ys)(h:WU P t xs ys r):(execOp ρ o).run P u=.ok (.value (.bool (!r))) u:=by
 have h1:=run_neq_struct (P:=P) u t xs ys;rw[h.run] at h1;simp[execOp,ho,hx,hy,run_eqGuard_agg u .neq t x y xs ys h.guard,h1]
end
structure VP(P:Program)(t:TypeId)(xs ys:Array Value)(r:Bool):Prop where
 guard:P.eqGuardType P.depth t=false
 run:∀u,(Op.equalIn 10000 t (.agg xs) (.agg ys)).run P u=.ok r u
section
variable {P:Program} {ρ:Operand→Value} {o:Oper} {u:World}
theorem V.j0{x y:Operand}{t t':TypeId}{xs ys:Array Value}{r:Bool}(ho:o.op=.binOp .eql t x y t')(hx:ρ x=.agg xs)(hy:ρ y=.agg ys)(h:VP P t xs ys r):(execOp ρ o).run P u=.ok (.value (.bool r)) u:=by
 have h1:=run_eql_struct (P:=P) u t xs ys;rw[h.run] at h1;simp[execOp,ho,hx,hy,run_eqGuard_agg u .eql t x y xs ys h.guard,h1]
theorem xL{e:TypeId}{k:IntKind}{xs:Array Value}{i:Nat}{v:Value}(he:P.underlying e=some (.int k))(h:xs[i]?=some v):(part e xs i).run P u=.ok v u:=by
 simp[part,isAgg,run_underlying he,h]
theorem VP.four{t e:TypeId}(ht:P.underlying t=some (.array 4 e))(he:P.underlying e=some (.int .i64))(hs:(P.info? e).map (·.size)=some 1)(hg:P.eqGuardType P.depth t=false){a0 a1 a2 a3 b0 b1 b2 b3:Int} :
  VP P t #[.int .i64 a0,.int .i64 a1,.int .i64 a2,.int .i64 a3] #[.int .i64 b0,.int .i64 b1,.int .i64 b2,.int .i64 b3] (decide (a0=b0)&&(decide (a1=b1)&&(decide (a2=b2)&&decide (a3=b3)))):=by
 obtain⟨ti,hi,hs⟩:∃ti,P.info? e=some ti∧ti.size=1:=by
  cases h:P.info? e with
  |none=>rw[h] at hs;cases hs
  |some ti=>rw[h] at hs;injection hs with hs;exact⟨ti,rfl,hs⟩
 refine⟨hg,λu=>?_⟩;rw[show(10000:Nat)=9999+1 from rfl,run_equalIn_array u 9999 _ _ ht hi];have hc:P.cellsOf e=1:=by simp[Program.cellsOf,hi,hs]
 rw[hc];have hr:List.range 4=[0,1,2,3]:=rfl;rw[hr];have q:∀(a b:Int) (u:World),(Op.equalIn 9999 e (.int .i64 a) (.int .i64 b)).run P u=.ok (a == b) u:=λa b u=>run_equalIn_int u 9998 e .i64 .i64 a b he;have p0:∀(c0 c1 c2 c3:Int) (u:World),(part e #[.int .i64 c0,.int .i64 c1,.int .i64 c2,.int .i64 c3] 0).run P u=.ok (.int .i64 c0) u:=λ_ _ _ _ u=>xL he rfl;have p1:∀(c0 c1 c2 c3:Int) (u:World),(part e #[.int .i64 c0,.int .i64 c1,.int .i64 c2,.int .i64 c3] 1).run P u=.ok (.int .i64 c1) u:=λ_ _ _ _ u=>xL he rfl;have p2:∀(c0 c1 c2 c3:Int) (u:World),(part e #[.int .i64 c0,.int .i64 c1,.int .i64 c2,.int .i64 c3] 2).run P u=.ok (.int .i64 c2) u:=λ_ _ _ _ u=>xL he rfl;have p3:∀(c0 c1 c2 c3:Int) (u:World),(part e #[.int .i64 c0,.int .i64 c1,.int .i64 c2,.int .i64 c3] 3).run P u=.ok (.int .i64 c3) u:=λ_ _ _ _ u=>xL he rfl;simp only[Op.eqItems,aAy,aFx,aDq,show 2*1=2 from rfl,show 3*1=3 from rfl,p0,q,aAr];by_cases h0:a0=b0<;>by_cases h1:a1=b1<;>by_cases h2:a2=b2<;>by_cases h3:a3=b3<;>simp[h0,h1,h2,h3,p1,p2,p3,q]
end
theorem VP.eight{P:Program}{t e:TypeId}(ht:P.underlying t=some (.array 8 e))(he:P.underlying e=some (.int .i64))(hs:(P.info? e).map (·.size)=some 1)(hg:P.eqGuardType P.depth t=false){a0 a1 a2 a3 a4 a5 a6 a7 b0 b1 b2 b3 b4 b5 b6 b7:Int} :
  VP P t #[.int .i64 a0,.int .i64 a1,.int .i64 a2,.int .i64 a3,.int .i64 a4,.int .i64 a5,.int .i64 a6,.int .i64 a7] #[.int .i64 b0,.int .i64 b1,.int .i64 b2,.int .i64 b3,.int .i64 b4,.int .i64 b5,.int .i64 b6,.int .i64 b7] (decide (a0=b0)&&(decide (a1=b1)&&(decide (a2=b2)&&(decide (a3=b3)&&(decide (a4=b4)&&(decide (a5=b5)&&(decide (a6=b6)&&(decide (a7=b7))))))))):=by
 obtain⟨ti,hi,hs⟩:∃ti,P.info? e=some ti∧ti.size=1:=by
  cases h:P.info? e with
  |none=>rw[h] at hs;cases hs
  |some ti=>rw[h] at hs;injection hs with hs;exact⟨ti,rfl,hs⟩
 refine⟨hg,λu=>?_⟩;rw[show(10000:Nat)=9999+1 from rfl,run_equalIn_array u 9999 _ _ ht hi];have hc:P.cellsOf e=1:=by simp[Program.cellsOf,hi,hs]
 rw[hc];have hr:List.range 8=[0,1,2,3,4,5,6,7]:=rfl;rw[hr];have q:∀(a b:Int) (u:World),(Op.equalIn 9999 e (.int .i64 a) (.int .i64 b)).run P u=.ok (a == b) u:=λa b u=>run_equalIn_int u 9998 e .i64 .i64 a b he;have p:∀(c0 c1 c2 c3 c4 c5 c6 c7:Int) (i:Nat) (v:Value) (u:World),(#[.int .i64 c0,.int .i64 c1,.int .i64 c2,.int .i64 c3,.int .i64 c4,.int .i64 c5,.int .i64 c6,.int .i64 c7]:Array Value)[i]?=some v→(part e #[.int .i64 c0,.int .i64 c1,.int .i64 c2,.int .i64 c3,.int .i64 c4,.int .i64 c5,.int .i64 c6,.int .i64 c7] i).run P u=.ok v u:=λ_ _ _ _ _ _ _ _ i v u h=>xL he h;have pa0:=λu=>p a0 a1 a2 a3 a4 a5 a6 a7 0 _ u rfl;have pb0:=λu=>p b0 b1 b2 b3 b4 b5 b6 b7 0 _ u rfl;have pa1:=λu=>p a0 a1 a2 a3 a4 a5 a6 a7 1 _ u rfl;have pb1:=λu=>p b0 b1 b2 b3 b4 b5 b6 b7 1 _ u rfl;have pa2:=λu=>p a0 a1 a2 a3 a4 a5 a6 a7 2 _ u rfl;have pb2:=λu=>p b0 b1 b2 b3 b4 b5 b6 b7 2 _ u rfl;have pa3:=λu=>p a0 a1 a2 a3 a4 a5 a6 a7 3 _ u rfl;have pb3:=λu=>p b0 b1 b2 b3 b4 b5 b6 b7 3 _ u rfl;have pa4:=λu=>p a0 a1 a2 a3 a4 a5 a6 a7 4 _ u rfl;have pb4:=λu=>p b0 b1 b2 b3 b4 b5 b6 b7 4 _ u rfl;have pa5:=λu=>p a0 a1 a2 a3 a4 a5 a6 a7 5 _ u rfl;have pb5:=λu=>p b0 b1 b2 b3 b4 b5 b6 b7 5 _ u rfl;have pa6:=λu=>p a0 a1 a2 a3 a4 a5 a6 a7 6 _ u rfl;have pb6:=λu=>p b0 b1 b2 b3 b4 b5 b6 b7 6 _ u rfl;have pa7:=λu=>p a0 a1 a2 a3 a4 a5 a6 a7 7 _ u rfl;have pb7:=λu=>p b0 b1 b2 b3 b4 b5 b6 b7 7 _ u rfl;simp only[Op.eqItems,aAy,Nat.mul_one,pa0,pb0,aAr];by_cases h0:a0=b0
 case neg=>simp[h0,q]
 subst h0;by_cases h1:a1=b1
 case neg=>simp[h1,q,pa1,pb1]
 subst h1;by_cases h2:a2=b2
 case neg=>simp[h2,q,pa1,pb1,pa2,pb2]
 subst h2;by_cases h3:a3=b3
 case neg=>simp[h3,q,pa1,pb1,pa2,pb2,pa3,pb3]
 subst h3;by_cases h4:a4=b4
 case neg=>simp[h4,q,pa1,pb1,pa2,pb2,pa3,pb3,pa4,pb4]
 subst h4;by_cases h5:a5=b5
 case neg=>simp[h5,q,pa1,pb1,pa2,pb2,pa3,pb3,pa4,pb4,pa5,pb5]
 subst h5;by_cases h6:a6=b6
 case neg=>simp[h6,q,pa1,pb1,pa2,pb2,pa3,pb3,pa4,pb4,pa5,pb5,pa6,pb6]
 subst h6;by_cases h7:a7=b7
 case neg=>simp[h7,q,pa1,pb1,pa2,pb2,pa3,pb3,pa4,pb4,pa5,pb5,pa6,pb6,pa7,pb7]
 subst h7;simp[q,pa1,pa2,pa3,pa4,pa5,pa6,pa7]
theorem V.Hg{P:Program}{ρ:Operand→Value}{o:Oper}{t e:TypeId}{x i:Operand}{g q:Nat}{k:IntKind}{j:Int}{m len:Nat}{ti:TypeInfo}{b:Addr}{u:World}(ho:o.op=.indexAddr t x i)(hx:ρ x=.pointer (some ⟨g,q,none⟩))(hi:ρ i=.int k j)(ht:P.underlying t=some (.array len e))(hti:P.info? e=some ti)(hs:ti.size=1)(hj:j.toNat=m)(h0:0≤j)(hm:m<len)(hb:(⟨g,q,none⟩:Addr).add m=b):(execOp ρ o).run P u=.ok (.value (.pointer (some b))) u:=by
 subst hj hb;have hjl:j<len:=o_;simp[execOp,ho,hx,hi,Instr.indexAt,asIntOf,run_underlying ht,Instr.sureAddr,h0,hjl,sizeOf,typeInfo,hti,hs]
def Ba{α:Type}(T:Ty α)(e:α)(j:Nat)(v:Value)(e':α):Prop:=j+v.cells.size≤T.size∧(T.enc e).take j++v.cells.toList++(T.enc e).drop (j+v.cells.size)=T.enc e'
theorem Ba.Yu{α:Type}{T:Ty α}{e e':α}{j:Nat}{v:Value}(h1:v.cells=#[v])(hj:j<T.size)(h:(T.enc e).take j++[v]++(T.enc e).drop (j+1)=T.enc e'):Ba T e j v e':=by
 refine⟨by rw[h1];exact hj,?_⟩;rw[h1];exact h
section
variable {α:Type} {T:Ty α} {N:Nat} {E:Env} {F:Nat→Value} {H H' R:List aL} {o:Oper} {A:Option Addr} {n c:Nat} {l:List α}
theorem S.Rv{x y:Operand}{t:TypeId}{q k j:Nat}{v:Value}{e e':α}{ti:TypeInfo}(ho:o.op=.store t x y)(hx:ev F x=.pointer (some (((ad A).add q).add j)))(hy:ev F y=v)(hr:dT (own T A n c l) [own T A n c (l.set k e')] H H')
  (hf:Ba T e j v e') (hq:q=k*T.size) (he:l[k]?=some e) (h1:∀x∈v.cells.toList,x.oneCell'=true)
  (hi:prog.info? t=some ti) (hs:v.cells.size=ti.size):gK prog N E F H o λr H1=>r=undef∧H1=H':=by
 subst hq;exact S.DM (T:=T) (q:=k*T.size+j) ho hx hy (jI _ _ _) h1 hi hs rfl he hf.1 hf.2 hr ⟨rfl,rfl⟩
theorem S.wB{P:Program}{f:FuncId}{fn:Func}{x:Operand}{cs:List Value}{ops:List Operand}{tys:Array TypeId}{Hp:List aL}{vs vs':List Value}{K:Value→List aL→Prop}{Q1:Ending→List aL→Prop}(ho:o.op=.call { callee:=.value x,args:=ops.toArray,argTypes:=tys })(hx:ev F x=.func (.func f) #[] cs.toArray)(hvs:AO F ops=vs)(hv2:vs++cs=vs')
  (hfn:P.funcs[f]?=some fn) (hname:(fn.name == "runtime.NumGoroutine")=false) (hbody:fn.body.isNone=false)
  (hp:cS Hp H R) (h:∀M,Sub E R M→aK P M f vs'.toArray Hp Q1) (hQ:∀e H',Q1 e H'→∃v,e=.returned v∧∃H2,wK H' R H2∧K v H2):gK P N E F H o K:=by
 subst hvs hv2;intro a u ha hu Kw Q' hK;obtain⟨M,hds,hE,hst,hback⟩:=(hu.aV hp).enter;unfold Oper.wp;have hr:(execOp a.eval o).run P u=.ok (.enter f (AO F ops++cs).toArray) u:=by
  have h1:¬fn.name = "runtime.NumGoroutine" := by simpa using hname
  have h2:¬fn.body=none:=by intro h;rw[h] at hbody;cases hbody
  rw[ha.eval,AB];simp[execOp,ho,resolve,hx,Deferred.ofValue,invoke,callFunc,hfn,h1,h2]
 rw[hr];refine(h M hE hds u hst).mono ?_;rintro e w' ⟨H',h3,h4⟩;obtain⟨v,rfl,H2,hcat,h5⟩:=hQ e H' h4;exact hK v _ w' h5 (by rw[hcat.eq];exact hback H' w' h3)
end
class kQ(t:TypeId)(α:outParam Type)(T:outParam (Ty α)):Prop where
 tid:T.tid=t
class uU{α:Type}(T:Ty α)(z:outParam α):Prop where
 z:T.val z=T.zero
class lL{α:Type}(T:Ty α)(b:outParam Nat):Prop where
 b:T.bytes=b
class cL(t:TypeId)(z:outParam (List Value))(pl:outParam (List (Nat×Nat))):Prop where
 r:Rec prog t z pl
class Bj(t:TypeId)(z:outParam (List Value))(pl:outParam (List (Nat×Nat)))(sz:outParam Nat):Prop where
 r:Lu prog t z pl sz
class Bg(t:TypeId)(z:outParam (List Value)):Prop where
 z:((prog.info? t).bind (·.zero)).map (·.cells.toList)=some z
instance {t:TypeId}{z:List Value}{pl:List (Nat×Nat)}[h:cL t z pl]:Bg t z:=⟨h.r.zero⟩
class vI(t:TypeId)(xs ys:Array Value)(r:outParam Bool):Prop where
 e:WU prog t xs ys r
class QG(t:TypeId)(xs ys:Array Value)(r:outParam Bool):Prop where
 e:VP prog t xs ys r
noncomputable def xA(f:FuncId):Bool:=match prog.funcs[f]? with
 |some fn => !(fn.name == "runtime.NumGoroutine")&&fn.body.isSome
 |none=>false
theorem iY{f:FuncId}(h:xA f=true):∃fn,prog.funcs[f]?=some fn∧(fn.name == "runtime.NumGoroutine")=false∧fn.body.isNone=false:=by
 unfold xA at h;split at h
 ·rename_i fn hf;simp only[aAv,Bool.not_eq_true'] at h;exact⟨fn,hf,h.1,by cases hb:fn.body<;>simp_all⟩
 ·cases h
abbrev cM(v:Value)(H0:List aL):Ending→List aL→Prop:=λe H'=>e=.returned v∧H'=H0
abbrev G(E:Env)(f:FuncId)(vs:List Value)(H:List aL)(Q:Ending→List aL→Prop):Prop:=aK prog E f vs.toArray H Q
class vZ(f:FuncId)(vs:List Value)(v:outParam Value):Prop where
 t:∀E,G E f vs [] (cM v [])
class Us(f:FuncId)(vs:List Value)(α:outParam Type)(T:outParam (Ty α))(A:outParam (Option Addr))(n c:outParam Nat)(v:outParam (List α→Value)):Prop where
 t:∀E l,Rd E T A n c l→G E f vs [] (cM (v l) [])
inductive KV(F:Nat→Value):List Operand→List Value→Prop
 |nil:KV F [] []
 |cons {x:Operand} {v:Value} {l:List Operand} {vs:List Value} (h:ev F x=v) (t:KV F l vs):KV F (x::l) (v::vs)
theorem KV.eq{F:Nat→Value}{l:List Operand}{vs:List Value}(h:KV F l vs):AO F l=vs:=by
 induction h with
 |nil=>rfl
 |cons h _ ih=>rw[AO,h,ih]
section
variable {N:Nat} {E:Env} {F:Nat→Value} {H H' R:List aL} {o:Oper} {α:Type} {T:Ty α}
theorem S.Xm{f:FuncId}{ops:List Operand}{tys:Array TypeId}{vs:List Value}{v:Value}(ho:o.op=.call { callee:=.value (.func f),args:=ops.toArray,argTypes:=tys })(hvs:KV F ops vs)(hf:vZ f vs v)(hk:xA f=true) :
  gK prog N E F H o λr H1=>r=v∧H1=H:=by
 obtain⟨fn,h1,h2,h3⟩:=iY hk;refine S.call ho hvs.eq h1 h2 h3 (cS.nil (H:=H)) (λM hE=>hf.t M) ?_;rintro e H' ⟨rfl,rfl⟩;exact⟨_,rfl,_,wK.nil,rfl,rfl⟩
theorem S.XP{f:FuncId}{ops:List Operand}{tys:Array TypeId}{vs:List Value}{A:Option Addr}{n c:Nat}{v:List α→Value}{l:List α}(ho:o.op=.call { callee:=.value (.func f),args:=ops.toArray,argTypes:=tys })(hvs:KV F ops vs)(hf:Us f vs α T A n c v)(hk:xA f=true)
  (hr:∀M,Sub E H M→Rd M T A n c l):gK prog N E F H o λr H1=>r=v l∧H1=H:=by
 obtain⟨fn,h1,h2,h3⟩:=iY hk;refine S.call ho hvs.eq h1 h2 h3 (cS.nil (H:=H)) (λM hE=>hf.t M l (hr M hE)) ?_;rintro e H' ⟨rfl,rfl⟩;exact⟨_,rfl,_,wK.nil,rfl,rfl⟩
theorem S.Nv{t e:TypeId}(ho:o.op=.buildSlice t 0 #[])(ht:prog.underlying t=some (.slice e))(hT:kQ e α T)(hb:0*T.size≤2 ^ 24) :
  gK prog N E F H o λr H1=>∃g,r=.slice (some ⟨g,0,none⟩) 0 0∧H1=own T (some ⟨g,0,none⟩) 0 0 []::H :=
 S.pP (parts0:=[]) (l:=[]) ho rfl (by rw[hT.tid];exact ht) rfl hb
theorem S.QZ{t e:TypeId}{x:Operand}{e1:α}{v1:Value}(ho:o.op=.buildSlice t 1 #[(0,x)])(hx:ev F x=v1)(ht:prog.underlying t=some (.slice e))(hT:kQ e α T)(h1:T.val e1=v1)(hb:1*T.size≤2 ^ 24) :
  gK prog N E F H o λr H1=>∃g,r=.slice (some ⟨g,0,none⟩) 1 1∧H1=own T (some ⟨g,0,none⟩) 1 1 [e1]::H :=
 S.cB ho hx h1 (by rw[hT.tid];exact ht) hb
theorem S.j8{t e:TypeId}{x y:Operand}{e1 e2:α}{v1 v2:Value}(ho:o.op=.buildSlice t 2 #[(0,x),(1,y)])(hx:ev F x=v1)(hy:ev F y=v2)(ht:prog.underlying t=some (.slice e))(hT:kQ e α T)(h1:T.val e1=v1)(h2:T.val e2=v2)(hb:2*T.size≤2 ^ 24) :
  gK prog N E F H o λr H1=>∃g,r=.slice (some ⟨g,0,none⟩) 2 2∧H1=own T (some ⟨g,0,none⟩) 2 2 [e1,e2]::H :=
 S.xQ ho hx h1 hy h2 (by rw[hT.tid];exact ht) hb
theorem S.v5{t e:TypeId}{x y z:Operand}{e1 e2 e3:α}{v1 v2 v3:Value}(ho:o.op=.buildSlice t 3 #[(0,x),(1,y),(2,z)])(hx:ev F x=v1)(hy:ev F y=v2)(hz:ev F z=v3)(ht:prog.underlying t=some (.slice e))(hT:kQ e α T)(h1:T.val e1=v1)(h2:T.val e2=v2)(h3:T.val e3=v3)(hb:3*T.size≤2 ^ 24) :
  gK prog N E F H o λr H1=>∃g,r=.slice (some ⟨g,0,none⟩) 3 3∧H1=own T (some ⟨g,0,none⟩) 3 3 [e1,e2,e3]::H :=
 S.yT ho hx h1 hy h2 hz h3 (by rw[hT.tid];exact ht) hb
theorem S.YN{t e:TypeId}{x y:Operand}{k k2:IntKind}{i:Int}{z:α}{m:Nat}(ho:o.op=.makeSlice t x y)(hx:ev F x=.int k i)(hy:ev F y=.int k2 i)(hj:i.toNat=m)(h0:0≤i)(ht:prog.underlying t=some (.slice e))(hT:kQ e α T)(hz:uU T z){by_:Nat}(hb:T.bytes=by_)(hbig:by_*i≤281474976710656)(h63:i≤9223372036854775807) :
  gK prog N E F H o λr H1=>∃g,r=.slice (some ⟨g,0,none⟩) m m∧H1=own T (some ⟨g,0,none⟩) m m (List.replicate m z)::H :=
 S.Io ho hx hy hj h0 hz.z (by rw[hT.tid];exact ht) hb hbig h63
theorem V.Tt{P:Program}{ρ:Operand→Value}{f:FuncId}{ops:List Operand}{vs:List Value}{u:World}(hρ:ρ=ev F)(ho:o.op=.makeFunc (.func f) #[] ops.toArray)(hx:KV F ops vs):(execOp ρ o).run P u=.ok (.value (.func (.func f) #[] vs.toArray)) u:=by
 have h:(ops.toArray.map ρ)=vs.toArray:=by rw[hρ,←hx.eq,AB];simp
 simp[execOp,ho,Instr.makeFunc,h]
theorem V.aJq{P:Program}{ρ:Operand→Value}{x y:Operand}{t t':TypeId}{xs ys:Array Value}{r:Bool}{u:World}(ho:o.op=.binOp .neq t x y t')(hx:ρ x=.agg xs)(hy:ρ y=.agg ys)(h:VP P t xs ys r):(execOp ρ o).run P u=.ok (.value (.bool (!r))) u:=by
 have h1:=run_neq_struct (P:=P) u t xs ys;rw[h.run] at h1;simp[execOp,ho,hx,hy,run_eqGuard_agg u .neq t x y xs ys h.guard,h1]
end
def gE(E:Env)(g:Nat)(cs:List Value):Prop:=∀i v,cs[i]?=some v→qP E ⟨g,i,none⟩ v
section
variable {E M:Env} {H R R':List aL} {g i:Nat} {cs:List Value} {v:Value} {ρ:Operand→Value} {o:Oper}
theorem gE.sub(h:gE E g cs)(hE:Sub E R M):gE M g cs:=λi v hv=>(h i v hv).sub hE
theorem gE.of{t:TypeId}(hE:Sub E R M)(h:Has (aJ g t cs) R R'):gE M g cs:=λ_ _ hv=>qP.aJ hE h hv
theorem Cell.kb(h:gE E g cs)(hv:cs[i]?=some v):Cell E H ⟨g,i,none⟩ v:=Cell.kc (h i v hv)
theorem Y.Vp{P:Program}{t:TypeId}{x:Operand}{m:Nat}{vs:List Value}{d:TypeDesc}{ti:TypeInfo}(ho:o.op=.load t x)(hx:ρ x=.pointer (some ⟨g,i,none⟩))(ht:P.underlying t=some d)(hd:lT d=true)(hi:P.info? t=some ti)(hm:ti.size=m)(hb:gE E g cs)(hs:Fm cs i m vs):qB P E H ρ o (.agg vs.toArray) :=
 Y.xE ho hx ht hd hi (hm.trans hs.eq.1.symm) λw hw j u hu=>by rw[fB];exact Cell.kb (H:=H) hb (hs.eq.2 j u hu) w hw
end
structure Sl(α:Type) where
 A:Option Addr
 n:Nat
 c:Nat
 l:List α
class KL(t:TypeId)(α:outParam Type)(T:outParam (Ty α))(TS:outParam (Ty (Sl α))):Prop where
 tid:TS.tid=t
 val:∀s,TS.val s=.slice s.A s.n s.c
section
variable {α:Type} {T:Ty α} {TS:Ty (Sl α)} {N:Nat} {E:Env} {F:Nat→Value} {H:List aL} {o:Oper}
theorem S.aQm{t e:TypeId}{x y:Operand}{A1 A2:Option Addr}{n1 c1 n2 c2:Nat}{l1 l2:List α}(ho:o.op=.buildSlice t 2 #[(0,x),(1,y)])(hx:ev F x=.slice A1 n1 c1)(hy:ev F y=.slice A2 n2 c2)(ht:prog.underlying t=some (.slice e))(hT:KL e α T TS)(_h1:kV E H T A1 n1 c1 l1)(_h2:kV E H T A2 n2 c2 l2)(hb:2*TS.size≤2 ^ 24) :
  gK prog N E F H o λr H1=>∃g,r=.slice (some ⟨g,0,none⟩) 2 2∧H1=own TS (some ⟨g,0,none⟩) 2 2 [⟨A1,n1,c1,l1⟩,⟨A2,n2,c2,l2⟩]::H :=
 S.xQ ho hx (hT.val _) hy (hT.val _) (by rw[hT.tid];exact ht) hb
theorem S.ZC{t e:TypeId}{x y z:Operand}{A1 A2 A3:Option Addr}{n1 c1 n2 c2 n3 c3:Nat}{l1 l2 l3:List α}(ho:o.op=.buildSlice t 3 #[(0,x),(1,y),(2,z)])(hx:ev F x=.slice A1 n1 c1)(hy:ev F y=.slice A2 n2 c2)(hz:ev F z=.slice A3 n3 c3)(ht:prog.underlying t=some (.slice e))(hT:KL e α T TS)(_h1:kV E H T A1 n1 c1 l1)(_h2:kV E H T A2 n2 c2 l2)(_h3:kV E H T A3 n3 c3 l3)(hb:3*TS.size≤2 ^ 24) :
  gK prog N E F H o λr H1=>∃g,r=.slice (some ⟨g,0,none⟩) 3 3∧H1=own TS (some ⟨g,0,none⟩) 3 3 [⟨A1,n1,c1,l1⟩,⟨A2,n2,c2,l2⟩,⟨A3,n3,c3,l3⟩]::H :=
 S.yT ho hx (hT.val _) hy (hT.val _) hz (hT.val _) (by rw[hT.tid];exact ht) hb
end
theorem V.cap{P:Program}{ρ:Operand→Value}{o:Oper}{u:World}{x:Operand}{t e:TypeId}{A:Option Addr}{n m:Nat}(ho:o.op=.call { callee:=.builtin .cap,args:=#[x],argTypes:=#[t] })(ht:P.underlying t=some (.slice e))(hx:ρ x=.slice A n m)(hn:m≤maxLen):(execOp ρ o).run P u=.ok (.value (.int .i64 m)) u:=by
 have h:IntKind.i64.wrap (m:Int)=m:=aAq _ (by unfold maxLen at hn;omega);simp[execOp,ho,resolve,hx,invoke,builtin,Builtin.cap_,run_underlying ht,goInt]
theorem S.WC{α:Type}{T:Ty α}{N:Nat}{E:Env}{F:Nat→Value}{H:List aL}{o:Oper}{s x:Operand}{t tn e:TypeId}{k kn:IntKind}{i:Int}{m:Nat}{z:α}(ho:o.op=.call { callee:=.builtin .append,args:=#[s,x],argTypes:=#[t,tn] })(hs:ev F s=.slice none 0 0)(hx:ev F x=.int k i)
  (ht:prog.underlying t=some (.slice e)) (htn:prog.underlying tn=some (.int kn)) (hT:kQ e α T) (hz:uU T z) (hj:i.toNat=m) (h0:0<i) {by_:Nat} (hb:T.bytes=by_) (hm:m≤140737488355328) (hbig:m*by_≤140737488355328) :
  gK prog N E F H o λr H1=>∃(A':Option Addr) (c':Nat),(m≤c'∧c'≤maxLen)∧r=.slice A' m c'∧H1=own T A' m c' (List.replicate m z)::H:=by
 obtain⟨j,rfl⟩:=aCf (show 0≤i by omega);rw[aAu] at hj;subst hj hb;intro a u ha hu Kw Q' hK;have hT:=hT.tid;subst hT;obtain⟨ti,hi,hzz,hsz,hbt⟩:=T.jA;have hrun:=Lib.run_append_nil_zeros (P:=prog) u t tn o.type T.tid ti T.zero k kn ht htn hi hzz j (by omega) (by rw[hsz];exact T.gL) (by omega) (by rw[hbt];omega);have hge:=grownCap_ge u j 0 T.tid;have hle:=grownCap_le_maxLen u j 0 T.tid (by unfold maxLen;omega);generalize grownCap u j 0 T.tid=cap at hrun hge hle;unfold Oper.wp;rw[ha.eval];have hx2:(execOp (ev F) o).run prog u=.ok (.value (.slice (some ⟨u.heap.size,0,none⟩) j cap)) (u.drew.alloc (.cells (Builtin.zeroCells T.zero.cells j++Builtin.zeroCells T.zero.cells (cap - j)) T.tid)):=by
  simp[execOp,ho,hs,hx,resolve,invoke,builtin,hrun]
 rw[hx2];refine hK _ _ _ ⟨some ⟨u.heap.size,0,none⟩,cap,⟨hge,hle⟩,rfl,rfl⟩ ?_;have hzc:∀j,(Builtin.zeroCells T.zero.cells j).toList=T.bT (List.replicate j z):=by
  intro j;rw[←nN T z hz.z j,←T.hzero];rfl
 have hsz:∀j,(Builtin.zeroCells T.zero.cells j).size=j*T.size:=λj=>by rw[size_zeroCells,T.hzero]
 refine hu.drew.grow (l:=[own T (some ⟨u.heap.size,0,none⟩) j cap (List.replicate j z)]) rfl rfl rfl (by simp) (λb hb=>aDu _ _ _ hb) (F1:=λb=>b=u.heap.size) ⟨_,λ_=>False,λb=>by simp,λb _ h=>h,⟨by simp,.inr ⟨u.heap.size,_,rfl,λb=>aDl,heap_alloc_new _ _,hge,hle,?_,?_⟩⟩,λb h=>h⟩ (λb hb=>by show u.heap.size≤b;omega)
 ·rw[Array.size_append,hsz,hsz,←aDb];congr 1;omega
 ·rw[Array.toList_append,hzc,aBj (by rw[←hzc,aDs,hsz])]
section
variable {Q:Value→List aL→Prop} {E:Env} {Hk:List aL} {X Y:Type}
theorem x0{v0:Value}{H0:List aL}(h:Q v0 H0):∀v H',(v=v0∧H'=H0)→Q v H':=by rintro _ _ ⟨rfl,rfl⟩;exact h
theorem x1{v0:X→Value}{H0:X→List aL}(h:∀g,Q (v0 g) (H0 g)):∀v H',(∃g,v=v0 g∧H'=H0 g)→Q v H':=by rintro _ _ ⟨g,rfl,rfl⟩;exact h g
theorem x2{p q:X→Y→Prop}{v0:X→Y→Value}{H0:X→Y→List aL}(h:∀a b,p a b→q a b→Q (v0 a b) (H0 a b)):∀v H',(∃a b,(p a b∧q a b)∧v=v0 a b∧H'=H0 a b)→Q v H':=by rintro _ _ ⟨a,b,⟨h1,h2⟩,rfl,rfl⟩;exact h a b h1 h2
theorem y0{v0:Value}{H0:List aL}(hc:aB E H0 Hk)(h:Q v0 H0):∀v H',(v=v0∧H'=H0)→aB E H' Hk∧Q v H':=by rintro _ _ ⟨rfl,rfl⟩;exact⟨hc,h⟩
theorem y1{v0:X→Value}{H0:X→List aL}(hc:∀g,aB E (H0 g) Hk)(h:∀g,Q (v0 g) (H0 g)):∀v H',(∃g,v=v0 g∧H'=H0 g)→aB E H' Hk∧Q v H':=by rintro _ _ ⟨g,rfl,rfl⟩;exact⟨hc g,h g⟩
theorem y2{p q:X→Y→Prop}{v0:X→Y→Value}{H0:X→Y→List aL}(hc:∀a b,aB E (H0 a b) Hk)(h:∀a b,p a b→q a b→Q (v0 a b) (H0 a b)):∀v H',(∃a b,(p a b∧q a b)∧v=v0 a b∧H'=H0 a b)→aB E H' Hk∧Q v H':=by rintro _ _ ⟨a,b,⟨h1,h2⟩,rfl,rfl⟩;exact⟨hc a b,h a b h1 h2⟩
end
theorem I7{F:Nat→Value}{l:List Operand}{vs:List Value}(h:KV F l vs:=by(iterate 24 first|exact KV.nil|(apply KV.cons;(· exact eS))|skip);first|done|fail):KV F l vs:=h
theorem YD{p:Prop}(h:p:=by infer_instance):p:=h
theorem FV{p:Prop}(h:p:=by infer_instance):p:=h
theorem l8{p:Prop}(h:p:=by infer_instance):p:=h
theorem Yo{α:Type}{T:Ty α}{b:Nat}(h:lL T b:=by infer_instance):T.bytes=b:=h.b
theorem sZ{t:TypeId}{z:List Value}(h:Bg t z:=by infer_instance):((prog.info? t).bind (·.zero)).map (·.cells.toList)=some z:=h.z
theorem ZH{t:TypeId}{z:List Value}{pl:List (Nat×Nat)}(h:cL t z pl:=by infer_instance):Rec prog t z pl:=h.r
theorem ZX{t:TypeId}{z:List Value}{pl:List (Nat×Nat)}{sz:Nat}(h:Bj t z pl sz:=by infer_instance):Lu prog t z pl sz:=h.r
theorem TD{t:TypeId}{xs ys:Array Value}{r:Bool}(h:vI t xs ys r:=by infer_instance):WU prog t xs ys r:=h.e
theorem Yc{t:TypeId}{xs ys:Array Value}{r:Bool}(h:QG t xs ys r:=by infer_instance):VP prog t xs ys r:=h.e
theorem H9{v w:Value}(h:v=w:=by first|rfl|(with_reducible exact PC _ nG nG)):v=w:=h
theorem Cw{P:Program}{E:Env}{H:List aL}{ρ:Operand→Value}{o:Oper}{v:Value}(h:qB P E H ρ o v:=by first|(intro _ _;first|(first|(apply V.move;exact rfl;exact eS)|(apply V.assign;exact rfl;exact eS)|(apply V.nilCheck;exact rfl;exact rfl)|(apply V.fieldAddr;exact rfl;exact rfl;exact rfl;exact rfl;exact rfl;decide;exact eS;exact Yi)|(apply V.extract;exact rfl;exact rfl;exact rfl)|(apply V.not;exact rfl;exact rfl)|(apply V.Xv;exact rfl;exact rfl;exact sW;exact eS)|(apply V.YI;exact rfl;exact rfl;exact sW;exact eS))|(first|(apply V.add;exact rfl;exact rfl;exact rfl;exact Ee)|(apply V.sub;exact rfl;exact rfl;exact rfl;exact Ee)|(apply V.mul;exact rfl;exact rfl;exact rfl;exact Ee)|(apply V.lss;exact rfl;exact rfl;exact rfl)|(apply V.leq;exact rfl;exact rfl;exact rfl)|(apply V.gtr;exact rfl;exact rfl;exact rfl)|(apply V.geq;exact rfl;exact rfl;exact rfl)|(apply V.eql;exact rfl;exact rfl;exact rfl))|(first|(apply V.neq;exact rfl;exact rfl;exact rfl)|(apply V.Z0;exact rfl;exact rfl;exact rfl;exact rfl)|(apply V.Zv;exact rfl;exact rfl;exact rfl;exact rfl)|(apply V.Z5;exact rfl;exact rfl;exact rfl;exact rfl)|(apply V.neqN;exact rfl;exact rfl;exact rfl;exact rfl)|(apply V.len;exact rfl;exact rfl;exact rfl;exact QC)|(apply V.conv;exact rfl;exact rfl;exact rfl;exact rfl;exact Ee)|(apply V.Y5;exact rfl;exact rfl;exact rfl;exact Ee))|(first|(apply V.shl;exact rfl;exact rfl;exact rfl;exact nG;exact Ee)|(apply V.shr;exact rfl;exact rfl;exact rfl;exact nG;exact Ee)|(apply V.quo;exact rfl;exact rfl;exact rfl;exact nG;exact ZR)|(apply V.rem;exact rfl;exact rfl;exact rfl;exact nG;exact ZM)|(apply V.Wc;exact rfl;decide;exact rfl;exact rfl;exact Ee)|(apply V.neg;exact rfl;exact rfl;exact Ee)|(apply V.eqlS;exact rfl;exact rfl;exact rfl)|(apply V.Zq;exact rfl;exact rfl;exact rfl))|(first|(apply V.ZY;exact rfl;exact rfl;exact rfl;exact rfl)|(apply V.Zb;exact rfl;exact rfl;exact rfl;exact rfl)|(apply V.max;exact rfl;exact rfl;exact rfl)|(apply V.min;exact rfl;exact rfl;exact rfl)|(apply V.cap;exact rfl;exact rfl;exact rfl;exact QC)|(apply V.func1;exact rfl;exact eS)|(apply V.Tt;exact rfl;exact rfl;exact I7)|(apply V.U6;exact rfl;exact rfl;exact rfl;exact rfl;exact rfl;exact rfl;exact rfl;exact rfl;exact sJ;exact nG;exact nG;exact nD))|(first|(apply V.cat;exact rfl;exact rfl;exact rfl;decide)|(apply V.j0;exact rfl;exact eS;exact eS;exact Yc)|(apply V.aJq;exact rfl;exact eS;exact eS;exact Yc)|(apply V.ZE;exact rfl;exact eS;exact eS;exact TD)|(apply V.ZJ;exact rfl;exact eS;exact eS;exact TD)|(apply V.Hg;exact rfl;exact rfl;exact rfl;exact rfl;exact rfl;exact rfl;exact sJ;exact nG;exact nG;exact Yi)))|(first|(first|(apply Y.load;exact rfl;exact rfl;exact rfl;exact rfl;exact Yf)|(apply Y.indexAddr;exact rfl;exact rfl;exact rfl;exact qF;exact sJ;exact nG;exact nD;exact nO;exact nO)|(apply Y.Nt;exact rfl;exact rfl;exact qF;rotate_left;exact nO;rotate_right;exact nD;exact nO)|(apply Y.O6;exact rfl;exact rfl;exact rfl;exact rfl)|(apply Y.Si;exact rfl;exact rfl;exact rfl;exact rfl;exact rfl;exact rfl;exact aS;exact K6)|(apply Y.O5;exact rfl;exact rfl;exact qF;rotate_left;exact nO;rotate_right;exact nD;exact rfl;exact rfl;exact rfl;exact rfl;exact K6)|(apply Y.Ve;exact rfl;exact rfl;exact rfl;exact rfl;exact rfl;exact rfl;exact rfl)|(apply Y.fieldS;exact rfl;exact rfl;exact rfl;exact rfl;exact rfl;exact rfl;exact rfl;exact rfl;exact rfl;exact K6))|(first|(apply Y.len;exact rfl;exact rfl;exact qF;exact nO)|(apply Y.str;exact rfl;exact rfl;exact qF)|(apply Y.TG;exact rfl;exact rfl;exact rfl;exact qF;exact sJ;exact nG;exact nG;exact nO)|(apply Y.Se;exact rfl;exact rfl;exact rfl;exact qF;exact sJ;exact nG;exact nG;exact nO)|(apply Y.IV;exact rfl;exact rfl;exact rfl;exact rfl;exact qF;exact sJ;exact nG;exact sJ;exact nG;exact nG;exact nG;exact nO)|(apply Y.LX;exact rfl;exact rfl;exact rfl;exact rfl;exact qF;exact sJ;exact nG;exact sJ;exact nG;exact nG;exact nG;exact nO)|(apply Y.strLen;exact rfl;exact rfl;exact rfl;exact QC)|(apply Y.indexStr;exact rfl;exact rfl;exact rfl;exact rfl;exact sJ;exact nG;exact nD))|(first|(apply Y.load;exact rfl;exact rfl;exact rfl;exact rfl;(· exact(Cell.aJ aS nD)))|(apply Y.sliceFull;exact rfl;exact rfl;exact rfl;exact rfl;exact rfl;exact qF;exact sJ;exact nG;exact sJ;exact nG;exact nG;exact nG;exact nO)|(apply Y.load;exact rfl;exact rfl;exact rfl;exact rfl;(· exact(Cell.kb nD nO)))|(apply Y.Vp;exact rfl;exact rfl;exact rfl;exact rfl;exact rfl;exact rfl;exact nD;exact K6)|(apply Y.build;exact rfl;exact o7;exact ZH;exact Wo)|(apply Y.UN;exact rfl;exact o7;exact ZX;exact Wo)))):qB P E H ρ o v:=h
theorem Sy{P:Program}{N:Nat}{E:Env}{F:Nat→Value}{H:List aL}{o:Oper}{K:Value→List aL→Prop}(h:gK P N E F H o K:=by first|(first|(apply S.Zp;exact rfl;exact eS;exact YU)|(apply S.aIl;exact rfl;exact rfl;exact rfl;exact rfl;exact l9;exact(λ_ _=>dH);exact ZK;exact nO;exact Yo;exact nG;exact nG)|(apply S.KA;exact rfl;exact rfl;exact rfl;exact l9;exact(λ_ _=>dH);exact qF;exact ZK;exact nO;exact Yo;exact nG;exact nG)|(apply S.H4;exact rfl;exact rfl;exact rfl;exact qF;exact nO;exact Yo;exact nG;exact nG)|(apply S.Nv;exact rfl;exact rfl;exact FV;decide)|(apply S.aQm;exact rfl;exact eS;exact eS;exact rfl;exact FV;exact qF;exact qF;decide)|(apply S.ZC;exact rfl;exact eS;exact eS;exact eS;exact rfl;exact FV;exact qF;exact qF;exact qF;decide)|(apply S.WC;exact rfl;exact rfl;exact rfl;exact rfl;exact rfl;exact FV;exact l8;exact sJ;exact nG;exact Yo;exact nG;exact nG))|(first|(apply S.QZ;exact rfl;exact eS;exact rfl;exact FV;exact H9;decide)|(apply S.j8;exact rfl;exact eS;exact eS;exact rfl;exact FV;exact H9;exact H9;decide)|(apply S.v5;exact rfl;exact eS;exact eS;exact eS;exact rfl;exact FV;exact H9;exact H9;exact H9;decide)|(apply S.Eo;exact rfl;exact rfl;exact eS;exact dH;rotate_left;exact nO;rotate_right;exact nD;exact H9;exact nO)|(apply S.Rv;exact rfl;exact rfl;exact eS;exact dH;exact nD;exact rfl;exact nD;(· intro x hx;simp[Value.cells] at hx;subst hx;rfl);exact rfl;exact rfl)|(apply S.storeF0K;exact rfl;exact rfl;exact eS;exact dH;exact nD;exact rfl;exact nD;(· intro x hx;simp[Value.cells] at hx;subst hx;rfl);exact rfl;exact rfl)|(apply S.Vq;exact rfl;exact sZ)|(apply S.YN;exact rfl;exact rfl;exact rfl;exact sJ;exact nG;exact rfl;exact FV;exact l8;exact Yo;exact nG;exact nG))|(first|(apply S.MN;exact rfl;exact rfl;exact eS;exact rfl;exact rfl;exact rfl;exact dH;exact W3)|(apply S.RE;exact rfl;exact rfl;exact rfl;exact nD;exact dH;exact qF;rotate_left;exact rfl;rotate_right;exact nD;exact nG;exact nD;exact rfl;exact QC)|(apply S.Rk;exact rfl;exact rfl;exact eS;exact nO;exact rfl;exact rfl;exact dH;exact Y4;exact TT))):gK P N E F H o K:=h
theorem NO{P:Program}{N:Nat}{E:Env}{F:Nat→Value}{H:List aL}{o:Oper}{K:Value→List aL→Prop}(h:gK P N E F H o K:=by first|(apply S.Xm;exact rfl;exact I7;exact YD;kernel_rfl)|(apply S.XP;exact rfl;exact I7;exact YD;kernel_rfl;(· intro M hE;exact dB))|exact Sy|fail):gK P N E F H o K:=h
theorem w_{p q:Prop}(hq:q)(h:wA q→p:=by intro h;(first|(focus (apply L.val;decide;exact Cw))|refine C.seq ?_|refine C.region ?_|refine L.nil ?_|refine C.block ?_|refine C.exit ?_|refine C.skip ?_|refine C.ret ?_|(focus (apply L.on;exact rfl;decide;exact rfl;exact sW))|(focus (apply L.off;decide;exact rfl;decide;exact rfl;exact sW))|(focus (apply L.Sg;decide;exact rfl;decide;exact rfl))|(focus (apply C.Fx;exact rfl;exact sW))|(focus (apply C.GC;exact rfl;exact sW))|refine Dr.done ?_|refine FU.done ?_|(focus (apply FU.take;exact rfl;decide;exact bA;exact Cw))|(focus (apply Dr.take;exact rfl;decide;exact bA;exact Cw))|(focus (apply Dr.skip;exact rfl;decide;exact EG))|(focus (apply Dr.Ht;exact rfl;decide;exact EG))|with_reducible refine T.n ?_|with_reducible refine T.ret ?_|with_reducible refine T.exit ?_|with_reducible refine I.n ?_|with_reducible refine I.ret ?_|with_reducible refine I.tA ?_|with_reducible refine I.TE (by decide) ?_);(repeat (first|(focus (apply L.val;decide;exact Cw))|refine C.seq ?_|refine C.region ?_|refine L.nil ?_|refine C.block ?_|refine C.exit ?_|refine C.skip ?_|refine C.ret ?_|(focus (apply L.on;exact rfl;decide;exact rfl;exact sW))|(focus (apply L.off;decide;exact rfl;decide;exact rfl;exact sW))|(focus (apply L.Sg;decide;exact rfl;decide;exact rfl))|(focus (apply C.Fx;exact rfl;exact sW))|(focus (apply C.GC;exact rfl;exact sW))|refine Dr.done ?_|refine FU.done ?_|(focus (apply FU.take;exact rfl;decide;exact bA;exact Cw))|(focus (apply Dr.take;exact rfl;decide;exact bA;exact Cw))|(focus (apply Dr.skip;exact rfl;decide;exact EG))|(focus (apply Dr.Ht;exact rfl;decide;exact EG))|with_reducible refine T.n ?_|with_reducible refine T.ret ?_|with_reducible refine T.exit ?_|with_reducible refine I.n ?_|with_reducible refine I.ret ?_|with_reducible refine I.tA ?_|with_reducible refine I.TE (by decide) ?_));exact h.out):p:=h ⟨hq⟩
theorem Cx{p q:Prop}(hq:q)(h:wA q→p:=by intro h;(first|(focus (apply L.val;decide;exact Cw))|refine C.seq ?_|refine C.region ?_|refine L.nil ?_|refine C.block ?_|refine C.exit ?_|refine C.skip ?_|refine C.ret ?_|(focus (apply L.on;exact rfl;decide;exact rfl;exact sW))|(focus (apply L.off;decide;exact rfl;decide;exact rfl;exact sW))|(focus (apply L.Sg;decide;exact rfl;decide;exact rfl))|(focus (apply C.Fx;exact rfl;exact sW))|(focus (apply C.GC;exact rfl;exact sW))|refine Dr.done ?_|refine FU.done ?_|(focus (apply FU.take;exact rfl;decide;exact bA;exact Cw))|(focus (apply Dr.take;exact rfl;decide;exact bA;exact Cw))|(focus (apply Dr.skip;exact rfl;decide;exact EG))|(focus (apply Dr.Ht;exact rfl;decide;exact EG))|with_reducible refine T.n ?_|with_reducible refine T.ret ?_|with_reducible refine T.exit ?_|with_reducible refine I.n ?_|with_reducible refine I.ret ?_|with_reducible refine I.tA ?_|with_reducible refine I.TE (by decide) ?_);exact h.out):p:=h ⟨hq⟩
theorem k_{p q:Prop}(hq:q)(h:wA q→p:=by intro h;first|(apply L.fQ;decide;exact NO;(first|exact x0 h.out|exact x1 h.out|exact x2 h.out))|(apply L.pX;exact NO;(first|exact x0 h.out|exact x1 h.out|exact x2 h.out))|(apply Dr.WZ;exact rfl;(· rintro k ⟨⟩<;>decide);exact bA;exact NO;(first|exact x0 h.out|exact x1 h.out|exact x2 h.out))|(apply Dr.Iq;exact rfl;(· rintro k ⟨⟩<;>decide);exact bA;exact NO;(first|exact x0 h.out|exact x1 h.out|exact x2 h.out))|(apply zL.Aw;exact rfl;(· rintro k ⟨⟩<;>decide);exact bA;exact NO;(first|(refine y0 ?_ ?_;exact aA;exact h.out)|(refine y1 ?_ ?_;(· intro _;exact aA);exact h.out)|(refine y2 ?_ ?_;(· intro _ _;exact aA);exact h.out)))|(apply Dr.Aw;exact rfl;(· rintro k ⟨⟩<;>decide);exact bA;exact NO;(first|(refine y0 ?_ ?_;exact aA;exact h.out)|(refine y1 ?_ ?_;(· intro _;exact aA);exact h.out)|(refine y2 ?_ ?_;(· intro _ _;exact aA);exact h.out)))):p:=h ⟨hq⟩
theorem He{p q:Prop}(hq:q)(h:wA q→p:=by intro h;first|(apply L.fQ;decide;exact Sy;(first|exact x0 h.out|exact x1 h.out|exact x2 h.out))|(apply L.pX;exact Sy;(first|exact x0 h.out|exact x1 h.out|exact x2 h.out))|(apply Dr.WZ;exact rfl;(· rintro k ⟨⟩<;>decide);exact bA;exact Sy;(first|exact x0 h.out|exact x1 h.out|exact x2 h.out))|(apply Dr.Iq;exact rfl;(· rintro k ⟨⟩<;>decide);exact bA;exact Sy;(first|exact x0 h.out|exact x1 h.out|exact x2 h.out))|(apply zL.Aw;exact rfl;(· rintro k ⟨⟩<;>decide);exact bA;exact Sy;(first|(refine y0 ?_ ?_;exact aA;exact h.out)|(refine y1 ?_ ?_;(· intro _;exact aA);exact h.out)|(refine y2 ?_ ?_;(· intro _ _;exact aA);exact h.out)))|(apply Dr.Aw;exact rfl;(· rintro k ⟨⟩<;>decide);exact bA;exact Sy;(first|(refine y0 ?_ ?_;exact aA;exact h.out)|(refine y1 ?_ ?_;(· intro _;exact aA);exact h.out)|(refine y2 ?_ ?_;(· intro _ _;exact aA);exact h.out)))):p:=h ⟨hq⟩
theorem sK{f:FuncId}(h:xA f=true:=by kernel_rfl):xA f=true:=h
theorem aQc{d:Option Nat}{N:Nat}(h:∀k,d=some k→k<N:=by rintro k ⟨⟩<;>decide):∀k,d=some k→k<N:=h
section
variable {P:Program} {N z:Nat} {E:Env} {F:Nat→Value} {H R:List aL} {Q:QF} {f:FuncId} {ops:List Operand} {tys:Array TypeId} {Hp:List aL} {Q1:Ending→List aL→Prop} {d:Nat} {ty:TypeId} {pos:String} {af:Array Edge}
theorem cl{os rest:List Oper}(hd:d<N)(hk:xA f=true)(hp:cS Hp H R)(law:∀M,Sub E R M→aK prog M f (AO F ops).toArray Hp Q1)(hQ:∀e H',Q1 e H'→∃v,e=.returned v∧∃H2,wK H' R H2∧L prog N E os Q rest (pT F d v) H2) :
  L prog N E os Q (⟨some d,.call { callee:=.value (.func f),args:=ops.toArray,argTypes:=tys },ty,pos,af,none⟩::rest) F H:=by
 obtain⟨fn,h1,h2,h3⟩:=iY hk;exact L.step hd (S.call rfl rfl h1 h2 h3 hp law hQ)
theorem yB{os:List Oper}{todo:Td}{Hk:List aL}{gd:Option (Nat×Bool)}{i:Nat}(hi:nth os i=some ⟨some d,.call { callee:=.value (.func f),args:=ops.toArray,argTypes:=tys },ty,pos,af,gd⟩)(hd:d<N)(hg:rE os N F true gd)(hk:xA f=true)(hp:cS Hp H R)
  (law:∀M,Sub E R M→aK prog M f (AO F ops).toArray Hp Q1) (hQ:∀e H',Q1 e H'→∃v,e=.returned v∧∃H2,wK H' R H2∧aB E H2 Hk∧Dr prog N E z os Q Hk todo (pT F d v) H2):zL prog N E z os Q Hk i todo F H:=by
 obtain⟨fn,h1,h2,h3⟩:=iY hk;exact zL.go hi (by rintro k ⟨⟩;exact hd) hg (S.call rfl rfl h1 h2 h3 hp law hQ)
theorem cg{os:List Oper}{todo:Td}{Hk:List aL}{gd:Option (Nat×Bool)}{i:Nat}(hi:nth os i=some ⟨some d,.call { callee:=.value (.func f),args:=ops.toArray,argTypes:=tys },ty,pos,af,gd⟩)(hd:d<N)(hg:rE os N F true gd)(hk:xA f=true)(hp:cS Hp H R)
  (law:∀M,Sub E R M→aK prog M f (AO F ops).toArray Hp Q1) (hQ:∀e H',Q1 e H'→∃v,e=.returned v∧∃H2,wK H' R H2∧aB E H2 Hk∧Dr prog N E z os Q Hk todo (pT F d v) H2):Dr prog N E z os Q Hk (.one i true todo) F H:=Dr.all (yB hi hd hg hk hp law hQ)
theorem gk{K:Value→List aL→Prop}{v:Value}{H' H2:List aL}(hc:wK H' R H2)(h:K v H2):∃v',Ending.returned v=.returned v'∧∃H2,wK H' R H2∧K v' H2:=⟨v,rfl,H2,hc,h⟩
theorem gd{K:Value→List aL→Prop}{Hk:List aL}{v:Value}{H' H2:List aL}(hc:wK H' R H2)(hv:aB E H2 Hk)(h:K v H2):∃v',Ending.returned v=.returned v'∧∃H2,wK H' R H2∧aB E H2 Hk∧K v' H2:=⟨v,rfl,H2,hc,hv,h⟩
end
theorem t_{P:Program}{N:Nat}{E:Env}{H:List aL}{f:FuncId}{fn:Func}{c:Code}{args:Array Value}{R:Ending→List aL→Prop}(hf:P.funcs[f]?=some fn)(hn:fn.ntmps=N)(h:C P N E c (gF P E fn R) (Jr args) H)(hb:fn.body=some c:=by rfl)(ha:args.size≤N:=by simp):aK P E f args H R:=DG hf hb hn ha h
theorem B7{p:Prop}(h:p:=by exact aR rfl aF aA ⟨rfl,rfl⟩):p:=h
theorem Xs{p:Prop}(h:p:=by exact vT rfl aF aF aA ⟨rfl,rfl⟩):p:=h
theorem r4{p:Prop}(h:p:=by exact gO rfl aA ⟨rfl,rfl⟩):p:=h
theorem e4_{p:Prop}(h:p:=by exact VL rfl aA ⟨rfl,rfl⟩):p:=h
theorem Kz{p:Prop}(h:p:=by exact cI rfl aF rfl rfl rfl aS rfl aA ⟨rfl,rfl⟩):p:=h
theorem Sa{p:Prop}(h:p:=by exact gS rfl aF rfl rfl rfl aS rfl aF aA ⟨rfl,rfl⟩):p:=h
theorem e7_{p:Prop}(h:p:=by apply cI;exact rfl;exact aF;exact rfl;exact rfl;exact rfl;exact aS;exact rfl;rotate_left;exact⟨rfl,rfl⟩;exact aA):p:=h
theorem Qv{p:Prop}(h:p:=by apply gS;exact rfl;exact aF;exact rfl;exact rfl;exact rfl;exact aS;exact rfl;exact aF;rotate_left;exact⟨rfl,rfl⟩;exact aA):p:=h
theorem BO{E M:Env}{R:List aL}{p:Prop}(hE:Sub E R M)(h:Sub E R M→p:=by intro hE;first|exact dB|exact gE.of hE aS|(refine gE.sub ?_ hE;assumption)|(refine Rd.sub ?_ hE;assumption)|omega|assumption):p:=h hE
section
variable {N z:Nat} {E:Env} {F:Nat→Value} {H R:List aL} {Q:QF} {f:FuncId} {ops:List Operand} {tys:Array TypeId} {Hp:List aL} {Q1:Ending→List aL→Prop} {d:Nat} {ty:TypeId} {pos:String} {af:Array Edge} {os rest:List Oper} {vs:List Value}
theorem TP{S:Env→Prop}(law:∀M,S M→aK prog M f vs.toArray Hp Q1)(hd:d<N)(hk:xA f=true)(hv:AO F ops=vs)(hp:cS Hp H R)(hs:∀M,Sub E R M→S M)(hQ:∀e H',Q1 e H'→∃v,e=.returned v∧∃H2,wK H' R H2∧L prog N E os Q rest (pT F d v) H2):L prog N E os Q (⟨some d,.call { callee:=.value (.func f),args:=ops.toArray,argTypes:=tys },ty,pos,af,none⟩::rest) F H:=by
 subst hv;exact cl hd hk hp (λM hE=>law M (hs M hE)) hQ
theorem Tz{S:Env→Prop}{todo:Td}{Hk:List aL}{gd:Option (Nat×Bool)}{i:Nat}(law:∀M,S M→aK prog M f vs.toArray Hp Q1)(hi:nth os i=some ⟨some d,.call { callee:=.value (.func f),args:=ops.toArray,argTypes:=tys },ty,pos,af,gd⟩)(hd:d<N)(hg:rE os N F true gd)(hk:xA f=true)(hv:AO F ops=vs)(hp:cS Hp H R)(hs:∀M,Sub E R M→S M)(hQ:∀e H',Q1 e H'→∃v,e=.returned v∧∃H2,wK H' R H2∧aB E H2 Hk∧Dr prog N E z os Q Hk todo (pT F d v) H2):Dr prog N E z os Q Hk (.one i true todo) F H:=by
 subst hv;exact cg hi hd hg hk hp (λM hE=>law M (hs M hE)) hQ
end
theorem Sf{p:Env→Prop}(h:∀M,p M):∀M,True→p M:=λM _=>h M
theorem Rr{p a b:Env→Prop}(h:∀M,a M→b M→p M):∀M,(a M∧b M)→p M:=λM k=>h M k.1 k.2
theorem Ql{p a b c:Env→Prop}(h:∀M,a M→b M→c M→p M):∀M,(a M∧b M∧c M)→p M:=λM k=>h M k.1 k.2.1 k.2.2
theorem bK{K p q:Prop}(law:K)(hq:q)(h:K→wA q→p:=by intro law h;apply TP (Sf law);decide;kernel_rfl;(· rfl);exact aC;exact λ_ _=>trivial;(· rintro e H' ⟨rfl,rfl⟩;exact gk bG h.out)):p:=h law ⟨hq⟩
theorem eV{K p q:Prop}(law:K)(hq:q)(h:K→wA q→p:=by intro law h;apply TP law;decide;kernel_rfl;(· rfl);exact aC;exact λ_ hE=>BO hE;(· rintro e H' ⟨rfl,rfl⟩;exact gk bG h.out)):p:=h law ⟨hq⟩
theorem DY{K p q:Prop}(law:K)(hq:q)(h:K→wA q→p:=by intro law h;apply TP (Rr law);decide;kernel_rfl;(· rfl);exact aC;exact λ_ hE=>⟨BO hE,BO hE⟩;(· rintro e H' ⟨rfl,rfl⟩;exact gk bG h.out)):p:=h law ⟨hq⟩
theorem c3_{K p q:Prop}(law:K)(hq:q)(h:K→wA q→p:=by intro law h;apply TP (Ql law);decide;kernel_rfl;(· rfl);exact aC;exact λ_ hE=>⟨BO hE,BO hE,BO hE⟩;(· rintro e H' ⟨rfl,rfl⟩;exact gk bG h.out)):p:=h law ⟨hq⟩
theorem bW{K p q:Prop}(law:K)(hq:q)(h:K→wA q→p:=by intro law h;apply TP (Sf law);decide;kernel_rfl;(· rfl);exact aC;exact λ_ _=>trivial;exact h.out):p:=h law ⟨hq⟩
theorem dX{K p q:Prop}(law:K)(hq:q)(h:K→wA q→p:=by intro law h;apply TP law;decide;kernel_rfl;(· rfl);exact aC;exact λ_ hE=>BO hE;exact h.out):p:=h law ⟨hq⟩
theorem C1{K p q:Prop}(law:K)(hq:q)(h:K→wA q→p:=by intro law h;apply TP (Rr law);decide;kernel_rfl;(· rfl);exact aC;exact λ_ hE=>⟨BO hE,BO hE⟩;exact h.out):p:=h law ⟨hq⟩
theorem y3_{K p q:Prop}(law:K)(hq:q)(h:K→wA q→p:=by intro law h;apply TP (Ql law);decide;kernel_rfl;(· rfl);exact aC;exact λ_ hE=>⟨BO hE,BO hE,BO hE⟩;exact h.out):p:=h law ⟨hq⟩
theorem eJ{K p q:Prop}(law:K)(hq:q)(h:K→wA q→p:=by intro law h;apply Tz (Sf law);(· rfl);decide;exact bA;kernel_rfl;(· rfl);exact aC;exact λ_ _=>trivial;(· rintro e H' ⟨rfl,rfl⟩;exact gd bG aA h.out)):p:=h law ⟨hq⟩
theorem Ib{K p q:Prop}(law:K)(hq:q)(h:K→wA q→p:=by intro law h;apply Tz law;(· rfl);decide;exact bA;kernel_rfl;(· rfl);exact aC;exact λ_ hE=>BO hE;(· rintro e H' ⟨rfl,rfl⟩;exact gd bG aA h.out)):p:=h law ⟨hq⟩
theorem Ju{K p q:Prop}(law:K)(hq:q)(h:K→wA q→p:=by intro law h;apply Tz (Rr law);(· rfl);decide;exact bA;kernel_rfl;(· rfl);exact aC;exact λ_ hE=>⟨BO hE,BO hE⟩;(· rintro e H' ⟨rfl,rfl⟩;exact gd bG aA h.out)):p:=h law ⟨hq⟩
theorem g3_{K p q:Prop}(law:K)(hq:q)(h:K→wA q→p:=by intro law h;apply Tz (Ql law);(· rfl);decide;exact bA;kernel_rfl;(· rfl);exact aC;exact λ_ hE=>⟨BO hE,BO hE,BO hE⟩;(· rintro e H' ⟨rfl,rfl⟩;exact gd bG aA h.out)):p:=h law ⟨hq⟩
theorem iO{K p q:Prop}(law:K)(hq:q)(h:K→wA q→p:=by intro law h;apply Tz (Sf law);(· rfl);decide;exact bA;kernel_rfl;(· rfl);exact aC;exact λ_ _=>trivial;exact h.out):p:=h law ⟨hq⟩
theorem C2{K p q:Prop}(law:K)(hq:q)(h:K→wA q→p:=by intro law h;apply Tz law;(· rfl);decide;exact bA;kernel_rfl;(· rfl);exact aC;exact λ_ hE=>BO hE;exact h.out):p:=h law ⟨hq⟩
theorem OW{K p q:Prop}(law:K)(hq:q)(h:K→wA q→p:=by intro law h;apply Tz (Rr law);(· rfl);decide;exact bA;kernel_rfl;(· rfl);exact aC;exact λ_ hE=>⟨BO hE,BO hE⟩;exact h.out):p:=h law ⟨hq⟩
theorem y5{K p q:Prop}(law:K)(hq:q)(h:K→wA q→p:=by intro law h;apply Tz (Ql law);(· rfl);decide;exact bA;kernel_rfl;(· rfl);exact aC;exact λ_ hE=>⟨BO hE,BO hE,BO hE⟩;exact h.out):p:=h law ⟨hq⟩
abbrev n_(i:Nat)(t:Td):Td:=.one i false t
abbrev g_(i:Nat)(t:Td):Td:=.one i true t
section
variable {P:Program} {E:Env} {fn:Func} {R:Ending→List aL→Prop} {F:Nat→Value} {H H':List aL} {t u:Nat} {v v':Value}
theorem jQ(h:R (.returned v) H')(hr:fn.results=#[.tmp t]:=by rfl)(hv:F t=v:=by exact aF)(hc:aB E H H':=by exact aA):gF P E fn R .ret F H:=aR hr hv hc h
theorem Cz(h:R (.returned (.tuple #[v,v'])) H')(hr:fn.results=#[.tmp t,.tmp u]:=by rfl)(hv:F t=v:=by exact aF)(hv':F u=v':=by exact aF)(hc:aB E H H':=by exact aA):gF P E fn R .ret F H:=vT hr hv hv' hc h
end
theorem v_{p q:Prop}(hq:q)(h:wA q→p:=by intro h;first|exact w_ h.out|exact k_ h.out|(apply gd;exact bG;exact aA;exact h.out)|(apply gk;exact bG;exact h.out)):p:=h ⟨hq⟩
theorem aE{p q:Prop}(hq:q)(h:wA q→p:=by intro h;first|exact w_ h.out|exact He h.out|(apply gd;exact bG;exact aA;exact h.out)|(apply gk;exact bG;exact h.out)):p:=h ⟨hq⟩
def l_:List Nat→Td→Td
 | [],t=>t
 |i::l,t=>.one i false (l_ l t)
section
variable {P:Program} {N:Nat} {E:Env} {F:Nat→Value} {H:List aL} {Q:QF} {id:Nat} {l:List Oper}
theorem rA(todo:Td)(h:Dr P N E 100000 l Q H todo F H)(hm:P.follows .mixedOrders=true:=by kernel_rfl)(hchk:(Region.noSelect l.toArray&&Nat.beq todo.len l.length&&sO l 100000 (Array.replicate l.length false) todo)=true:=by kernel_rfl):C P N E (.region id l.toArray true) Q F H:=C.bL 100000 todo H hm hchk aB.refl h
theorem rB(todo:Td)(Hk:List aL)(h:Dr P N E 100000 l Q Hk todo F H)(hm:P.follows .mixedOrders=true:=by kernel_rfl)(hchk:(Region.noSelect l.toArray&&Nat.beq todo.len l.length&&sO l 100000 (Array.replicate l.length false) todo)=true:=by kernel_rfl)(hk:aB E H Hk:=by exact aA):C P N E (.region id l.toArray true) Q F H:=C.bL 100000 todo Hk hm hchk hk h
end
theorem fX:maxLen=9223372036854775807:=rfl
def dQ(x:Int):Prop := -9223372036854775808≤x∧x≤9223372036854775807
instance:kQ 5 UInt8 aU:=⟨rfl⟩
instance:uU aU Ey:=⟨rfl⟩
instance:lL aU 1:=⟨rfl⟩
structure bJ where
 rep:Int
 seq:Int
theorem bJ.eq_iff{x y:bJ}:x=y↔x.rep=y.rep∧x.seq=y.seq:=by
 cases x;cases y;simp
instance:DecidableEq bJ:=λ_ _=>decidable_of_iff _ bJ.eq_iff.symm
abbrev bJ.cs(x:bJ):List Value:=[.int .i64 x.rep,.int .i64 x.seq]
def bJ.ok(x:bJ):Prop:=dQ x.rep∧dQ x.seq
def fN:Ty bJ where
 val x:=.agg x.cs.toArray
 size:=2
 bytes:=16
 tid:=32
 zero:=.agg #[.int .i64 0,.int .i64 0]
 hlen _:=rfl
 lJ a u h:=by simp[Value.cells] at h;rcases h with rfl|rfl<;>rfl
 gL:=sD
 hzero:=rfl
 fW:=q_
 nR:=.inl ⟨q_,λ_=>⟨_,rfl⟩⟩
instance:kQ 32 bJ fN:=⟨rfl⟩
instance:lL fN 16:=⟨rfl⟩
instance:cL 32 [.int .i64 0,.int .i64 0] [(0,1),(1,1)]:=⟨⟨q_,q_⟩⟩
instance {a0 b0 a1 b1:Int}:vI 32 #[.int .i64 a0,.int .i64 a1] #[.int .i64 b0,.int .i64 b1] (decide ((⟨a0,a1⟩:bJ)=⟨b0,b1⟩)) where e:={
 ty:=⟨_,underlying32⟩
 guard:=q_
 val:=by
  have h:eqv prog 5 32 [.int .i64 a0,.int .i64 a1] [.int .i64 b0,.int .i64 b1]=some (decide (a0=b0)&&(decide (a1=b1)&&true)):=q_;rw[show(decide ((⟨a0,a1⟩:bJ)=⟨b0,b1⟩))=(decide (a0=b0)&&(decide (a1=b1)&&true)) by rw[aBz];simp[]];exact h }
structure aX where
 id:bJ
 time:Int
 kind:Int
 a:Int
 b:Int
 n:Int
 ref:bJ
theorem aX.eq_iff{x y:aX}:x=y↔x.id=y.id∧x.time=y.time∧x.kind=y.kind∧x.a=y.a∧x.b=y.b∧x.n=y.n∧x.ref=y.ref:=by
 cases x;cases y;simp
instance:DecidableEq aX:=λ_ _=>decidable_of_iff _ aX.eq_iff.symm
abbrev aX.cs(x:aX):List Value:=[.int .i64 x.id.rep,.int .i64 x.id.seq,.int .i64 x.time,.int .i64 x.kind,.int .i64 x.a,.int .i64 x.b,.int .i64 x.n,.int .i64 x.ref.rep,.int .i64 x.ref.seq]
def aX.ok(x:aX):Prop:=x.id.ok∧dQ x.time∧dQ x.kind∧dQ x.a∧dQ x.b∧dQ x.n∧x.ref.ok
def bE:Ty aX where
 val x:=.agg x.cs.toArray
 size:=9
 bytes:=72
 tid:=34
 zero:=.agg #[.int .i64 0,.int .i64 0,.int .i64 0,.int .i64 0,.int .i64 0,.int .i64 0,.int .i64 0,.int .i64 0,.int .i64 0]
 hlen _:=rfl
 lJ a u h:=by simp[Value.cells] at h;rcases h with rfl|rfl|rfl|rfl|rfl|rfl|rfl|rfl|rfl<;>rfl
 gL:=sD
 hzero:=rfl
 fW:=q_
 nR:=.inl ⟨q_,λ_=>⟨_,rfl⟩⟩
abbrev dO:aX:=⟨⟨0,0⟩,0,0,0,0,0,⟨0,0⟩⟩
instance:kQ 34 aX bE:=⟨rfl⟩
instance:uU bE dO:=⟨rfl⟩
instance:lL bE 72:=⟨rfl⟩
instance:cL 34 [.int .i64 0,.int .i64 0,.int .i64 0,.int .i64 0,.int .i64 0,.int .i64 0,.int .i64 0,.int .i64 0,.int .i64 0] [(0,2),(2,1),(3,1),(4,1),(5,1),(6,1),(7,2)]:=⟨⟨q_,q_⟩⟩
instance {a0 b0 a1 b1 a2 b2 a3 b3 a4 b4 a5 b5 a6 b6 a7 b7 a8 b8:Int}:vI 34 #[.int .i64 a0,.int .i64 a1,.int .i64 a2,.int .i64 a3,.int .i64 a4,.int .i64 a5,.int .i64 a6,.int .i64 a7,.int .i64 a8] #[.int .i64 b0,.int .i64 b1,.int .i64 b2,.int .i64 b3,.int .i64 b4,.int .i64 b5,.int .i64 b6,.int .i64 b7,.int .i64 b8] (decide ((⟨⟨a0,a1⟩,a2,a3,a4,a5,a6,⟨a7,a8⟩⟩:aX)=⟨⟨b0,b1⟩,b2,b3,b4,b5,b6,⟨b7,b8⟩⟩)) where e:={
 ty:=⟨_,underlying34⟩
 guard:=q_
 val:=by
  have h:eqv prog 5 34 [.int .i64 a0,.int .i64 a1,.int .i64 a2,.int .i64 a3,.int .i64 a4,.int .i64 a5,.int .i64 a6,.int .i64 a7,.int .i64 a8] [.int .i64 b0,.int .i64 b1,.int .i64 b2,.int .i64 b3,.int .i64 b4,.int .i64 b5,.int .i64 b6,.int .i64 b7,.int .i64 b8]=some (((decide (a0=b0)&&(decide (a1=b1)&&true)))&&(decide (a2=b2)&&(decide (a3=b3)&&(decide (a4=b4)&&(decide (a5=b5)&&(decide (a6=b6)&&(((decide (a7=b7)&&(decide (a8=b8)&&true)))&&true))))))):=q_;rw[show(decide ((⟨⟨a0,a1⟩,a2,a3,a4,a5,a6,⟨a7,a8⟩⟩:aX)=⟨⟨b0,b1⟩,b2,b3,b4,b5,b6,⟨b7,b8⟩⟩))=(((decide (a0=b0)&&(decide (a1=b1)&&true)))&&(decide (a2=b2)&&(decide (a3=b3)&&(decide (a4=b4)&&(decide (a5=b5)&&(decide (a6=b6)&&(((decide (a7=b7)&&(decide (a8=b8)&&true)))&&true))))))) by rw[aBz];simp[and_assoc]];exact h }
structure cQ where
 kind:Int
 a:Int
 n:Int
 ref:bJ
theorem cQ.eq_iff{x y:cQ}:x=y↔x.kind=y.kind∧x.a=y.a∧x.n=y.n∧x.ref=y.ref:=by
 cases x;cases y;simp
instance:DecidableEq cQ:=λ_ _=>decidable_of_iff _ cQ.eq_iff.symm
abbrev cQ.cs(x:cQ):List Value:=[.int .i64 x.kind,.int .i64 x.a,.int .i64 x.n,.int .i64 x.ref.rep,.int .i64 x.ref.seq]
def cQ.ok(x:cQ):Prop:=dQ x.kind∧dQ x.a∧dQ x.n∧x.ref.ok
def eG:Ty cQ where
 val x:=.agg x.cs.toArray
 size:=5
 bytes:=40
 tid:=77
 zero:=.agg #[.int .i64 0,.int .i64 0,.int .i64 0,.int .i64 0,.int .i64 0]
 hlen _:=rfl
 lJ a u h:=by simp[Value.cells] at h;rcases h with rfl|rfl|rfl|rfl|rfl<;>rfl
 gL:=sD
 hzero:=rfl
 fW:=q_
 nR:=.inl ⟨q_,λ_=>⟨_,rfl⟩⟩
abbrev zW:cQ:=⟨0,0,0,⟨0,0⟩⟩
instance:kQ 77 cQ eG:=⟨rfl⟩
instance:lL eG 40:=⟨rfl⟩
instance:cL 77 [.int .i64 0,.int .i64 0,.int .i64 0,.int .i64 0,.int .i64 0] [(0,1),(1,1),(2,1),(3,2)]:=⟨⟨q_,q_⟩⟩
instance {a0 b0 a1 b1 a2 b2 a3 b3 a4 b4:Int}:vI 77 #[.int .i64 a0,.int .i64 a1,.int .i64 a2,.int .i64 a3,.int .i64 a4] #[.int .i64 b0,.int .i64 b1,.int .i64 b2,.int .i64 b3,.int .i64 b4] (decide ((⟨a0,a1,a2,⟨a3,a4⟩⟩:cQ)=⟨b0,b1,b2,⟨b3,b4⟩⟩)) where e:={
 ty:=⟨_,underlying77⟩
 guard:=q_
 val:=by
  have h:eqv prog 5 77 [.int .i64 a0,.int .i64 a1,.int .i64 a2,.int .i64 a3,.int .i64 a4] [.int .i64 b0,.int .i64 b1,.int .i64 b2,.int .i64 b3,.int .i64 b4]=some (decide (a0=b0)&&(decide (a1=b1)&&(decide (a2=b2)&&(((decide (a3=b3)&&(decide (a4=b4)&&true)))&&true)))):=q_;rw[show(decide ((⟨a0,a1,a2,⟨a3,a4⟩⟩:cQ)=⟨b0,b1,b2,⟨b3,b4⟩⟩))=(decide (a0=b0)&&(decide (a1=b1)&&(decide (a2=b2)&&(((decide (a3=b3)&&(decide (a4=b4)&&true)))&&true)))) by rw[aBz];simp[]];exact h }
structure fU where
 bN:Int
 eF:Int
 dC:Int
 base:Int
 cap:Int
abbrev fU.cs(x:fU):List Value:=[.int .i64 x.bN,.int .i64 x.eF,.int .i64 x.dC,.int .i64 x.base,.int .i64 x.cap]
def fU.ok(x:fU):Prop:=dQ x.bN∧dQ x.eF∧dQ x.dC∧dQ x.base∧dQ x.cap
def Qh:Ty fU where
 val x:=.agg x.cs.toArray
 size:=5
 bytes:=40
 tid:=23
 zero:=.agg #[.int .i64 0,.int .i64 0,.int .i64 0,.int .i64 0,.int .i64 0]
 hlen _:=rfl
 lJ a u h:=by simp[Value.cells] at h;rcases h with rfl|rfl|rfl|rfl|rfl<;>rfl
 gL:=sD
 hzero:=rfl
 fW:=q_
 nR:=.inl ⟨q_,λ_=>⟨_,rfl⟩⟩
instance:cL 23 [.int .i64 0,.int .i64 0,.int .i64 0,.int .i64 0,.int .i64 0] [(0,1),(1,1),(2,1),(3,1),(4,1)]:=⟨⟨q_,q_⟩⟩
structure bH where
 ord:Int
 bC:cQ
 aW:Int
 last:Int
 cX:Bool
 gone:Bool
 back:Int
 cJ:Int
theorem bH.eq_iff{x y:bH}:x=y↔x.ord=y.ord∧x.bC=y.bC∧x.aW=y.aW∧x.last=y.last∧x.cX=y.cX∧x.gone=y.gone∧x.back=y.back∧x.cJ=y.cJ:=by
 cases x;cases y;simp
instance:DecidableEq bH:=λ_ _=>decidable_of_iff _ bH.eq_iff.symm
abbrev bH.cs(x:bH):List Value:=[.int .i64 x.ord,.int .i64 x.bC.kind,.int .i64 x.bC.a,.int .i64 x.bC.n,.int .i64 x.bC.ref.rep,.int .i64 x.bC.ref.seq,.int .i64 x.aW,.int .i64 x.last,.bool x.cX,.bool x.gone,.int .i64 x.back,.int .i64 x.cJ]
def bH.ok(x:bH):Prop:=dQ x.ord∧x.bC.ok∧dQ x.aW∧dQ x.last∧dQ x.back∧dQ x.cJ
def fH:Ty bH where
 val x:=.agg x.cs.toArray
 size:=12
 bytes:=88
 tid:=92
 zero:=.agg #[.int .i64 0,.int .i64 0,.int .i64 0,.int .i64 0,.int .i64 0,.int .i64 0,.int .i64 0,.int .i64 0,.bool false,.bool false,.int .i64 0,.int .i64 0]
 hlen _:=rfl
 lJ a u h:=by simp[Value.cells] at h;rcases h with rfl|rfl|rfl|rfl|rfl|rfl|rfl|rfl|rfl|rfl|rfl|rfl<;>rfl
 gL:=sD
 hzero:=rfl
 fW:=q_
 nR:=.inl ⟨q_,λ_=>⟨_,rfl⟩⟩
abbrev El:bH:=⟨0,⟨0,0,0,⟨0,0⟩⟩,0,0,false,false,0,0⟩
instance:kQ 92 bH fH:=⟨rfl⟩
instance:lL fH 88:=⟨rfl⟩
instance:cL 92 [.int .i64 0,.int .i64 0,.int .i64 0,.int .i64 0,.int .i64 0,.int .i64 0,.int .i64 0,.int .i64 0,.bool false,.bool false,.int .i64 0,.int .i64 0] [(0,1),(1,5),(6,1),(7,1),(8,1),(9,1),(10,1),(11,1)]:=⟨⟨q_,q_⟩⟩
instance {a0 b0 a1 b1 a2 b2 a3 b3 a4 b4 a5 b5 a6 b6 a7 b7 a10 b10 a11 b11:Int}{a8 b8 a9 b9:Bool}:vI 92 #[.int .i64 a0,.int .i64 a1,.int .i64 a2,.int .i64 a3,.int .i64 a4,.int .i64 a5,.int .i64 a6,.int .i64 a7,.bool a8,.bool a9,.int .i64 a10,.int .i64 a11] #[.int .i64 b0,.int .i64 b1,.int .i64 b2,.int .i64 b3,.int .i64 b4,.int .i64 b5,.int .i64 b6,.int .i64 b7,.bool b8,.bool b9,.int .i64 b10,.int .i64 b11] (decide ((⟨a0,⟨a1,a2,a3,⟨a4,a5⟩⟩,a6,a7,a8,a9,a10,a11⟩:bH)=⟨b0,⟨b1,b2,b3,⟨b4,b5⟩⟩,b6,b7,b8,b9,b10,b11⟩)) where e:={
 ty:=⟨_,underlying92⟩
 guard:=q_
 val:=by
  have h:eqv prog 5 92 [.int .i64 a0,.int .i64 a1,.int .i64 a2,.int .i64 a3,.int .i64 a4,.int .i64 a5,.int .i64 a6,.int .i64 a7,.bool a8,.bool a9,.int .i64 a10,.int .i64 a11] [.int .i64 b0,.int .i64 b1,.int .i64 b2,.int .i64 b3,.int .i64 b4,.int .i64 b5,.int .i64 b6,.int .i64 b7,.bool b8,.bool b9,.int .i64 b10,.int .i64 b11]=some (decide (a0=b0)&&(((decide (a1=b1)&&(decide (a2=b2)&&(decide (a3=b3)&&(((decide (a4=b4)&&(decide (a5=b5)&&true)))&&true)))))&&(decide (a6=b6)&&(decide (a7=b7)&&(decide (a8=b8)&&(decide (a9=b9)&&(decide (a10=b10)&&(decide (a11=b11)&&true)))))))):=q_;rw[show(decide ((⟨a0,⟨a1,a2,a3,⟨a4,a5⟩⟩,a6,a7,a8,a9,a10,a11⟩:bH)=⟨b0,⟨b1,b2,b3,⟨b4,b5⟩⟩,b6,b7,b8,b9,b10,b11⟩))=(decide (a0=b0)&&(((decide (a1=b1)&&(decide (a2=b2)&&(decide (a3=b3)&&(((decide (a4=b4)&&(decide (a5=b5)&&true)))&&true)))))&&(decide (a6=b6)&&(decide (a7=b7)&&(decide (a8=b8)&&(decide (a9=b9)&&(decide (a10=b10)&&(decide (a11=b11)&&true)))))))) by rw[aBz];simp[and_assoc]];exact h }
structure bP where
 id:bJ
 ord:Int
 cD:Bool
theorem bP.eq_iff{x y:bP}:x=y↔x.id=y.id∧x.ord=y.ord∧x.cD=y.cD:=by
 cases x;cases y;simp
instance:DecidableEq bP:=λ_ _=>decidable_of_iff _ bP.eq_iff.symm
abbrev bP.cs(x:bP):List Value:=[.int .i64 x.id.rep,.int .i64 x.id.seq,.int .i64 x.ord,.bool x.cD]
instance:cL 75 [.int .i64 0,.int .i64 0,.int .i64 0,.bool false] [(0,2),(2,1),(3,1)]:=⟨⟨q_,q_⟩⟩
instance {a0 b0 a1 b1 a2 b2:Int}{a3 b3:Bool}:vI 75 #[.int .i64 a0,.int .i64 a1,.int .i64 a2,.bool a3] #[.int .i64 b0,.int .i64 b1,.int .i64 b2,.bool b3] (decide ((⟨⟨a0,a1⟩,a2,a3⟩:bP)=⟨⟨b0,b1⟩,b2,b3⟩)) where e:={
 ty:=⟨_,underlying75⟩
 guard:=q_
 val:=by
  have h:eqv prog 5 75 [.int .i64 a0,.int .i64 a1,.int .i64 a2,.bool a3] [.int .i64 b0,.int .i64 b1,.int .i64 b2,.bool b3]=some (((decide (a0=b0)&&(decide (a1=b1)&&true)))&&(decide (a2=b2)&&(decide (a3=b3)&&true))):=q_;rw[show(decide ((⟨⟨a0,a1⟩,a2,a3⟩:bP)=⟨⟨b0,b1⟩,b2,b3⟩))=(((decide (a0=b0)&&(decide (a1=b1)&&true)))&&(decide (a2=b2)&&(decide (a3=b3)&&true))) by rw[aBz];simp[and_assoc]];exact h }
structure dK where
 key:bP
 bC:cQ
theorem dK.eq_iff{x y:dK}:x=y↔x.key=y.key∧x.bC=y.bC:=by
 cases x;cases y;simp
instance:DecidableEq dK:=λ_ _=>decidable_of_iff _ dK.eq_iff.symm
abbrev dK.cs(x:dK):List Value:=[.int .i64 x.key.id.rep,.int .i64 x.key.id.seq,.int .i64 x.key.ord,.bool x.key.cD,.int .i64 x.bC.kind,.int .i64 x.bC.a,.int .i64 x.bC.n,.int .i64 x.bC.ref.rep,.int .i64 x.bC.ref.seq]
def cP:Ty dK where
 val x:=.agg x.cs.toArray
 size:=9
 bytes:=72
 tid:=79
 zero:=.agg #[.int .i64 0,.int .i64 0,.int .i64 0,.bool false,.int .i64 0,.int .i64 0,.int .i64 0,.int .i64 0,.int .i64 0]
 hlen _:=rfl
 lJ a u h:=by simp[Value.cells] at h;rcases h with rfl|rfl|rfl|rfl|rfl|rfl|rfl|rfl|rfl<;>rfl
 gL:=sD
 hzero:=rfl
 fW:=q_
 nR:=.inl ⟨q_,λ_=>⟨_,rfl⟩⟩
abbrev wN:dK:=⟨⟨⟨0,0⟩,0,false⟩,⟨0,0,0,⟨0,0⟩⟩⟩
instance:kQ 79 dK cP:=⟨rfl⟩
instance:lL cP 72:=⟨rfl⟩
instance:cL 79 [.int .i64 0,.int .i64 0,.int .i64 0,.bool false,.int .i64 0,.int .i64 0,.int .i64 0,.int .i64 0,.int .i64 0] [(0,4),(4,5)]:=⟨⟨q_,q_⟩⟩
instance {a0 b0 a1 b1 a2 b2 a4 b4 a5 b5 a6 b6 a7 b7 a8 b8:Int}{a3 b3:Bool}:vI 79 #[.int .i64 a0,.int .i64 a1,.int .i64 a2,.bool a3,.int .i64 a4,.int .i64 a5,.int .i64 a6,.int .i64 a7,.int .i64 a8] #[.int .i64 b0,.int .i64 b1,.int .i64 b2,.bool b3,.int .i64 b4,.int .i64 b5,.int .i64 b6,.int .i64 b7,.int .i64 b8] (decide ((⟨⟨⟨a0,a1⟩,a2,a3⟩,⟨a4,a5,a6,⟨a7,a8⟩⟩⟩:dK)=⟨⟨⟨b0,b1⟩,b2,b3⟩,⟨b4,b5,b6,⟨b7,b8⟩⟩⟩)) where e:={
 ty:=⟨_,underlying79⟩
 guard:=q_
 val:=by
  have h:eqv prog 5 79 [.int .i64 a0,.int .i64 a1,.int .i64 a2,.bool a3,.int .i64 a4,.int .i64 a5,.int .i64 a6,.int .i64 a7,.int .i64 a8] [.int .i64 b0,.int .i64 b1,.int .i64 b2,.bool b3,.int .i64 b4,.int .i64 b5,.int .i64 b6,.int .i64 b7,.int .i64 b8]=some (((((decide (a0=b0)&&(decide (a1=b1)&&true)))&&(decide (a2=b2)&&(decide (a3=b3)&&true))))&&(((decide (a4=b4)&&(decide (a5=b5)&&(decide (a6=b6)&&(((decide (a7=b7)&&(decide (a8=b8)&&true)))&&true)))))&&true)):=q_;rw[show(decide ((⟨⟨⟨a0,a1⟩,a2,a3⟩,⟨a4,a5,a6,⟨a7,a8⟩⟩⟩:dK)=⟨⟨⟨b0,b1⟩,b2,b3⟩,⟨b4,b5,b6,⟨b7,b8⟩⟩⟩))=(((((decide (a0=b0)&&(decide (a1=b1)&&true)))&&(decide (a2=b2)&&(decide (a3=b3)&&true))))&&(((decide (a4=b4)&&(decide (a5=b5)&&(decide (a6=b6)&&(((decide (a7=b7)&&(decide (a8=b8)&&true)))&&true)))))&&true)) by rw[aBz];simp[and_assoc]];exact h }
structure pD where
 kind:Int
 c:aX
 id:bJ
 key:bP
 now:Int
theorem pD.eq_iff{x y:pD}:x=y↔x.kind=y.kind∧x.c=y.c∧x.id=y.id∧x.key=y.key∧x.now=y.now:=by
 cases x;cases y;simp
instance:DecidableEq pD:=λ_ _=>decidable_of_iff _ pD.eq_iff.symm
abbrev pD.cs(x:pD):List Value:=[.int .i64 x.kind,.int .i64 x.c.id.rep,.int .i64 x.c.id.seq,.int .i64 x.c.time,.int .i64 x.c.kind,.int .i64 x.c.a,.int .i64 x.c.b,.int .i64 x.c.n,.int .i64 x.c.ref.rep,.int .i64 x.c.ref.seq,.int .i64 x.id.rep,.int .i64 x.id.seq,.int .i64 x.key.id.rep,.int .i64 x.key.id.seq,.int .i64 x.key.ord,.bool x.key.cD,.int .i64 x.now]
def jE:Ty pD where
 val x:=.agg x.cs.toArray
 size:=17
 bytes:=136
 tid:=202
 zero:=.agg #[.int .i64 0,.int .i64 0,.int .i64 0,.int .i64 0,.int .i64 0,.int .i64 0,.int .i64 0,.int .i64 0,.int .i64 0,.int .i64 0,.int .i64 0,.int .i64 0,.int .i64 0,.int .i64 0,.int .i64 0,.bool false,.int .i64 0]
 hlen _:=rfl
 lJ a u h:=by simp[Value.cells] at h;rcases h with rfl|rfl|rfl|rfl|rfl|rfl|rfl|rfl|rfl|rfl|rfl|rfl|rfl|rfl|rfl|rfl|rfl<;>rfl
 gL:=sD
 hzero:=rfl
 fW:=q_
 nR:=.inl ⟨q_,λ_=>⟨_,rfl⟩⟩
instance:kQ 202 pD jE:=⟨rfl⟩
instance:lL jE 136:=⟨rfl⟩
instance:cL 202 [.int .i64 0,.int .i64 0,.int .i64 0,.int .i64 0,.int .i64 0,.int .i64 0,.int .i64 0,.int .i64 0,.int .i64 0,.int .i64 0,.int .i64 0,.int .i64 0,.int .i64 0,.int .i64 0,.int .i64 0,.bool false,.int .i64 0] [(0,1),(1,9),(10,2),(12,4),(16,1)]:=⟨⟨q_,q_⟩⟩
instance {a0 b0 a1 b1 a2 b2 a3 b3 a4 b4 a5 b5 a6 b6 a7 b7 a8 b8 a9 b9 a10 b10 a11 b11 a12 b12 a13 b13 a14 b14 a16 b16:Int}{a15 b15:Bool}:vI 202 #[.int .i64 a0,.int .i64 a1,.int .i64 a2,.int .i64 a3,.int .i64 a4,.int .i64 a5,.int .i64 a6,.int .i64 a7,.int .i64 a8,.int .i64 a9,.int .i64 a10,.int .i64 a11,.int .i64 a12,.int .i64 a13,.int .i64 a14,.bool a15,.int .i64 a16] #[.int .i64 b0,.int .i64 b1,.int .i64 b2,.int .i64 b3,.int .i64 b4,.int .i64 b5,.int .i64 b6,.int .i64 b7,.int .i64 b8,.int .i64 b9,.int .i64 b10,.int .i64 b11,.int .i64 b12,.int .i64 b13,.int .i64 b14,.bool b15,.int .i64 b16] (decide ((⟨a0,⟨⟨a1,a2⟩,a3,a4,a5,a6,a7,⟨a8,a9⟩⟩,⟨a10,a11⟩,⟨⟨a12,a13⟩,a14,a15⟩,a16⟩:pD)=⟨b0,⟨⟨b1,b2⟩,b3,b4,b5,b6,b7,⟨b8,b9⟩⟩,⟨b10,b11⟩,⟨⟨b12,b13⟩,b14,b15⟩,b16⟩)) where e:={
 ty:=⟨_,underlying202⟩
 guard:=q_
 val:=by
  have h:eqv prog 5 202 [.int .i64 a0,.int .i64 a1,.int .i64 a2,.int .i64 a3,.int .i64 a4,.int .i64 a5,.int .i64 a6,.int .i64 a7,.int .i64 a8,.int .i64 a9,.int .i64 a10,.int .i64 a11,.int .i64 a12,.int .i64 a13,.int .i64 a14,.bool a15,.int .i64 a16] [.int .i64 b0,.int .i64 b1,.int .i64 b2,.int .i64 b3,.int .i64 b4,.int .i64 b5,.int .i64 b6,.int .i64 b7,.int .i64 b8,.int .i64 b9,.int .i64 b10,.int .i64 b11,.int .i64 b12,.int .i64 b13,.int .i64 b14,.bool b15,.int .i64 b16]=some (decide (a0=b0)&&(((((decide (a1=b1)&&(decide (a2=b2)&&true)))&&(decide (a3=b3)&&(decide (a4=b4)&&(decide (a5=b5)&&(decide (a6=b6)&&(decide (a7=b7)&&(((decide (a8=b8)&&(decide (a9=b9)&&true)))&&true))))))))&&(((decide (a10=b10)&&(decide (a11=b11)&&true)))&&(((((decide (a12=b12)&&(decide (a13=b13)&&true)))&&(decide (a14=b14)&&(decide (a15=b15)&&true))))&&(decide (a16=b16)&&true))))):=q_;rw[show(decide ((⟨a0,⟨⟨a1,a2⟩,a3,a4,a5,a6,a7,⟨a8,a9⟩⟩,⟨a10,a11⟩,⟨⟨a12,a13⟩,a14,a15⟩,a16⟩:pD)=⟨b0,⟨⟨b1,b2⟩,b3,b4,b5,b6,b7,⟨b8,b9⟩⟩,⟨b10,b11⟩,⟨⟨b12,b13⟩,b14,b15⟩,b16⟩))=(decide (a0=b0)&&(((((decide (a1=b1)&&(decide (a2=b2)&&true)))&&(decide (a3=b3)&&(decide (a4=b4)&&(decide (a5=b5)&&(decide (a6=b6)&&(decide (a7=b7)&&(((decide (a8=b8)&&(decide (a9=b9)&&true)))&&true))))))))&&(((decide (a10=b10)&&(decide (a11=b11)&&true)))&&(((((decide (a12=b12)&&(decide (a13=b13)&&true)))&&(decide (a14=b14)&&(decide (a15=b15)&&true))))&&(decide (a16=b16)&&true))))) by rw[aBz];simp[and_assoc]];exact h }
structure cH where
 kind:Int
 r:Int
 i:Int
 n:Int
 c:aX
theorem cH.eq_iff{x y:cH}:x=y↔x.kind=y.kind∧x.r=y.r∧x.i=y.i∧x.n=y.n∧x.c=y.c:=by
 cases x;cases y;simp
instance:DecidableEq cH:=λ_ _=>decidable_of_iff _ cH.eq_iff.symm
abbrev cH.cs(x:cH):List Value:=[.int .i64 x.kind,.int .i64 x.r,.int .i64 x.i,.int .i64 x.n,.int .i64 x.c.id.rep,.int .i64 x.c.id.seq,.int .i64 x.c.time,.int .i64 x.c.kind,.int .i64 x.c.a,.int .i64 x.c.b,.int .i64 x.c.n,.int .i64 x.c.ref.rep,.int .i64 x.c.ref.seq]
def mX:Ty cH where
 val x:=.agg x.cs.toArray
 size:=13
 bytes:=104
 tid:=39
 zero:=.agg #[.int .i64 0,.int .i64 0,.int .i64 0,.int .i64 0,.int .i64 0,.int .i64 0,.int .i64 0,.int .i64 0,.int .i64 0,.int .i64 0,.int .i64 0,.int .i64 0,.int .i64 0]
 hlen _:=rfl
 lJ a u h:=by simp[Value.cells] at h;rcases h with rfl|rfl|rfl|rfl|rfl|rfl|rfl|rfl|rfl|rfl|rfl|rfl|rfl<;>rfl
 gL:=sD
 hzero:=rfl
 fW:=q_
 nR:=.inl ⟨q_,λ_=>⟨_,rfl⟩⟩
abbrev E0:cH:=⟨0,0,0,0,⟨⟨0,0⟩,0,0,0,0,0,⟨0,0⟩⟩⟩
instance:kQ 39 cH mX:=⟨rfl⟩
instance:cL 39 [.int .i64 0,.int .i64 0,.int .i64 0,.int .i64 0,.int .i64 0,.int .i64 0,.int .i64 0,.int .i64 0,.int .i64 0,.int .i64 0,.int .i64 0,.int .i64 0,.int .i64 0] [(0,1),(1,1),(2,1),(3,1),(4,9)]:=⟨⟨q_,q_⟩⟩
instance {a0 b0 a1 b1 a2 b2 a3 b3 a4 b4 a5 b5 a6 b6 a7 b7 a8 b8 a9 b9 a10 b10 a11 b11 a12 b12:Int}:vI 39 #[.int .i64 a0,.int .i64 a1,.int .i64 a2,.int .i64 a3,.int .i64 a4,.int .i64 a5,.int .i64 a6,.int .i64 a7,.int .i64 a8,.int .i64 a9,.int .i64 a10,.int .i64 a11,.int .i64 a12] #[.int .i64 b0,.int .i64 b1,.int .i64 b2,.int .i64 b3,.int .i64 b4,.int .i64 b5,.int .i64 b6,.int .i64 b7,.int .i64 b8,.int .i64 b9,.int .i64 b10,.int .i64 b11,.int .i64 b12] (decide ((⟨a0,a1,a2,a3,⟨⟨a4,a5⟩,a6,a7,a8,a9,a10,⟨a11,a12⟩⟩⟩:cH)=⟨b0,b1,b2,b3,⟨⟨b4,b5⟩,b6,b7,b8,b9,b10,⟨b11,b12⟩⟩⟩)) where e:={
 ty:=⟨_,underlying39⟩
 guard:=q_
 val:=by
  have h:eqv prog 5 39 [.int .i64 a0,.int .i64 a1,.int .i64 a2,.int .i64 a3,.int .i64 a4,.int .i64 a5,.int .i64 a6,.int .i64 a7,.int .i64 a8,.int .i64 a9,.int .i64 a10,.int .i64 a11,.int .i64 a12] [.int .i64 b0,.int .i64 b1,.int .i64 b2,.int .i64 b3,.int .i64 b4,.int .i64 b5,.int .i64 b6,.int .i64 b7,.int .i64 b8,.int .i64 b9,.int .i64 b10,.int .i64 b11,.int .i64 b12]=some (decide (a0=b0)&&(decide (a1=b1)&&(decide (a2=b2)&&(decide (a3=b3)&&(((((decide (a4=b4)&&(decide (a5=b5)&&true)))&&(decide (a6=b6)&&(decide (a7=b7)&&(decide (a8=b8)&&(decide (a9=b9)&&(decide (a10=b10)&&(((decide (a11=b11)&&(decide (a12=b12)&&true)))&&true))))))))&&true))))):=q_;rw[show(decide ((⟨a0,a1,a2,a3,⟨⟨a4,a5⟩,a6,a7,a8,a9,a10,⟨a11,a12⟩⟩⟩:cH)=⟨b0,b1,b2,b3,⟨⟨b4,b5⟩,b6,b7,b8,b9,b10,⟨b11,b12⟩⟩⟩))=(decide (a0=b0)&&(decide (a1=b1)&&(decide (a2=b2)&&(decide (a3=b3)&&(((((decide (a4=b4)&&(decide (a5=b5)&&true)))&&(decide (a6=b6)&&(decide (a7=b7)&&(decide (a8=b8)&&(decide (a9=b9)&&(decide (a10=b10)&&(((decide (a11=b11)&&(decide (a12=b12)&&true)))&&true))))))))&&true))))) by rw[aBz];simp[and_assoc]];exact h }
structure wM where
 code:Int
 n:Int
 m:Int
abbrev wM.cs(x:wM):List Value:=[.int .i64 x.code,.int .i64 x.n,.int .i64 x.m]
abbrev CQ:wM:=⟨0,0,0⟩
instance:cL 36 [.int .i64 0,.int .i64 0,.int .i64 0] [(0,1),(1,1),(2,1)]:=⟨⟨q_,q_⟩⟩
structure dD where
 id:bJ
 cC:Int
 item:Int
 iN:Int
 cost:Int
 state:Int
theorem dD.eq_iff{x y:dD}:x=y↔x.id=y.id∧x.cC=y.cC∧x.item=y.item∧x.iN=y.iN∧x.cost=y.cost∧x.state=y.state:=by
 cases x;cases y;simp
instance:DecidableEq dD:=λ_ _=>decidable_of_iff _ dD.eq_iff.symm
abbrev dD.cs(x:dD):List Value:=[.int .i64 x.id.rep,.int .i64 x.id.seq,.int .i64 x.cC,.int .i64 x.item,.int .i64 x.iN,.int .i64 x.cost,.int .i64 x.state]
def eB:Ty dD where
 val x:=.agg x.cs.toArray
 size:=7
 bytes:=56
 tid:=155
 zero:=.agg #[.int .i64 0,.int .i64 0,.int .i64 0,.int .i64 0,.int .i64 0,.int .i64 0,.int .i64 0]
 hlen _:=rfl
 lJ a u h:=by simp[Value.cells] at h;rcases h with rfl|rfl|rfl|rfl|rfl|rfl|rfl<;>rfl
 gL:=sD
 hzero:=rfl
 fW:=q_
 nR:=.inl ⟨q_,λ_=>⟨_,rfl⟩⟩
abbrev UI:dD:=⟨⟨0,0⟩,0,0,0,0,0⟩
instance:kQ 155 dD eB:=⟨rfl⟩
instance:uU eB UI:=⟨rfl⟩
instance:lL eB 56:=⟨rfl⟩
instance:cL 155 [.int .i64 0,.int .i64 0,.int .i64 0,.int .i64 0,.int .i64 0,.int .i64 0,.int .i64 0] [(0,2),(2,1),(3,1),(4,1),(5,1),(6,1)]:=⟨⟨q_,q_⟩⟩
instance {a0 b0 a1 b1 a2 b2 a3 b3 a4 b4 a5 b5 a6 b6:Int}:vI 155 #[.int .i64 a0,.int .i64 a1,.int .i64 a2,.int .i64 a3,.int .i64 a4,.int .i64 a5,.int .i64 a6] #[.int .i64 b0,.int .i64 b1,.int .i64 b2,.int .i64 b3,.int .i64 b4,.int .i64 b5,.int .i64 b6] (decide ((⟨⟨a0,a1⟩,a2,a3,a4,a5,a6⟩:dD)=⟨⟨b0,b1⟩,b2,b3,b4,b5,b6⟩)) where e:={
 ty:=⟨_,underlying155⟩
 guard:=q_
 val:=by
  have h:eqv prog 5 155 [.int .i64 a0,.int .i64 a1,.int .i64 a2,.int .i64 a3,.int .i64 a4,.int .i64 a5,.int .i64 a6] [.int .i64 b0,.int .i64 b1,.int .i64 b2,.int .i64 b3,.int .i64 b4,.int .i64 b5,.int .i64 b6]=some (((decide (a0=b0)&&(decide (a1=b1)&&true)))&&(decide (a2=b2)&&(decide (a3=b3)&&(decide (a4=b4)&&(decide (a5=b5)&&(decide (a6=b6)&&true)))))):=q_;rw[show(decide ((⟨⟨a0,a1⟩,a2,a3,a4,a5,a6⟩:dD)=⟨⟨b0,b1⟩,b2,b3,b4,b5,b6⟩))=(((decide (a0=b0)&&(decide (a1=b1)&&true)))&&(decide (a2=b2)&&(decide (a3=b3)&&(decide (a4=b4)&&(decide (a5=b5)&&(decide (a6=b6)&&true)))))) by rw[aBz];simp[and_assoc]];exact h }
structure fM where
 Ev:Int
 now:Int
 key:bP
 bC:cQ
abbrev fM.cs(x:fM):List Value:=[.int .i64 x.Ev,.int .i64 x.now,.int .i64 x.key.id.rep,.int .i64 x.key.id.seq,.int .i64 x.key.ord,.bool x.key.cD,.int .i64 x.bC.kind,.int .i64 x.bC.a,.int .i64 x.bC.n,.int .i64 x.bC.ref.rep,.int .i64 x.bC.ref.seq]
def mK:Ty fM where
 val x:=.agg x.cs.toArray
 size:=11
 bytes:=88
 tid:=81
 zero:=.agg #[.int .i64 0,.int .i64 0,.int .i64 0,.int .i64 0,.int .i64 0,.bool false,.int .i64 0,.int .i64 0,.int .i64 0,.int .i64 0,.int .i64 0]
 hlen _:=rfl
 lJ a u h:=by simp[Value.cells] at h;rcases h with rfl|rfl|rfl|rfl|rfl|rfl|rfl|rfl|rfl|rfl|rfl<;>rfl
 gL:=sD
 hzero:=rfl
 fW:=q_
 nR:=.inl ⟨q_,λ_=>⟨_,rfl⟩⟩
instance:kQ 81 fM mK:=⟨rfl⟩
instance:lL mK 88:=⟨rfl⟩
instance:cL 81 [.int .i64 0,.int .i64 0,.int .i64 0,.int .i64 0,.int .i64 0,.bool false,.int .i64 0,.int .i64 0,.int .i64 0,.int .i64 0,.int .i64 0] [(0,1),(1,1),(2,4),(6,5)]:=⟨⟨q_,q_⟩⟩
section
variable {P:Program} {N:Nat} {E:Env} {F:Nat→Value} {H:List aL} {Q:QF}
theorem C.cd{c:Operand}{x y:Code}{p:Prop}{i:Decidable p}(hc:ev F c=.bool (@decide p i))(hx:p→C P N E x Q F H)(hy:¬p→C P N E y Q F H):C P N E (.cond c x y) Q F H:=C.XE hc hx hy
theorem L.fT{ops rest:List Oper}{d:Nat}{op:Op}{ty:TypeId}{pos:String}{af:Array Edge}{j g:Nat}{p:Prop}{i:Decidable p}(hd:d<N)(hn:(nth ops j).bind (·.dst)=some g)(hg:g<N)(hv:F g=.bool (@decide p i))
  (h:p→L P N E ops Q (⟨some d,op,ty,pos,af,none⟩::rest) F H) (h':¬p→L P N E ops Q rest (pT F d undef) H):L P N E ops Q (⟨some d,op,ty,pos,af,some (j,true)⟩::rest) F H:=L.YQ hd hn hg hv h h'
theorem L.fF{ops rest:List Oper}{d:Nat}{op:Op}{ty:TypeId}{pos:String}{af:Array Edge}{j g:Nat}{p:Prop}{i:Decidable p}(hd:d<N)(hn:(nth ops j).bind (·.dst)=some g)(hg:g<N)(hv:F g=.bool (@decide p i))
  (h:p→L P N E ops Q rest (pT F d undef) H) (h':¬p→L P N E ops Q (⟨some d,op,ty,pos,af,none⟩::rest) F H):L P N E ops Q (⟨some d,op,ty,pos,af,some (j,false)⟩::rest) F H:=L.aQi hd hn hg hv h h'
end
theorem f_{p q r:Prop}(h1:q)(h2:r)(h:wA q→wA r→p:=by intro h1 h2;first|(apply C.cd;(· exact rfl);(· exact h1.out);(· exact h2.out))|(apply C.cond;(· exact rfl);(· exact h1.out);(· exact h2.out))|(apply L.fT;(· decide);(· exact rfl);(· decide);(· exact rfl);(· exact h1.out);(· exact h2.out))|(apply L.fF;(· decide);(· exact rfl);(· decide);(· exact rfl);(· exact h1.out);(· exact h2.out))|(apply L.fork;(· decide);(· exact rfl);(· decide);(· exact rfl);(· exact h1.out);(· exact h2.out))|fail):p:=h ⟨h1⟩ ⟨h2⟩
section
variable {P:Program} {N:Nat} {E:Env} {F:Nat→Value} {H:List aL} {Q:QF}
theorem C.scan{c:Code}{α Y:Type}{l:List α}{n:Nat}(hn:n=l.length)(S:Nat→Y→List (Nat×Value))(HX:Nat→Y→List aL)(R:Nat→Y→Prop)(y0:Y)(hF:nH F (S 0 y0))(hH:aB E H (HX 0 y0))(h0:R 0 y0)
  (round:∀i y x G,i<n→l[i]?=some x→R i y→C P N E c (oQ (λF' H'=>∃y',nH F' (S (i+1) y')∧aB E H' (HX (i+1) y')∧R (i+1) y') Q) (OQ (S i y) G) (HX i y))
  (last:∀y G,R n y→C P N E c (oQ (λ_ _=>False) Q) (OQ (S n y) G) (HX n y)):C P N E (.loop c) Q F H:=by
 refine C.loop (X:=Nat×Y) (λx=>S x.1 x.2) (λx=>HX x.1 x.2) (λx=>x.1≤n∧R x.1 x.2) (λx=>n - x.1) (0,y0) hF hH ⟨aAh _,h0⟩ ?_;rintro⟨i,y⟩ G ⟨hi,hr⟩;by_cases hlt:i<n
 ·refine(round i y (l[i]'o_) G hlt (aAa o_) hr).mono ?_;intro e F' H' h;cases e with
  |normal=>obtain⟨y',h1,h2,h3⟩:=h;exact⟨(i+1,y'),h1,h2,⟨hlt,h3⟩,by show n - (i+1)<n - i;omega⟩
  |ret=>exact h
  |exit id=>exact h
  |panic c=>exact h
 ·obtain rfl:i=n:=o_;refine(last y G hr).mono ?_;intro e F' H' h;cases e with
  |normal=>exact h.elim
  |ret=>exact h
  |exit id=>exact h
  |panic c=>exact h
end
theorem rJ{a b:Bool}(h:a=b:=by first|rfl|(exact(decide_eq_true o_).symm)|(exact(decide_eq_false o_).symm)|(exact decide_eq_true o_)|(exact decide_eq_false o_)|(rw[aBz];simp;done)|(rw[aBz];simp;omega)|(simp_all;done)):Ending.returned (.bool a)=.returned (.bool b):=by rw[h]
theorem NQ{k:IntKind}{a b:Int}(h:a=b:=by omega):Ending.returned (.int k a)=.returned (.int k b):=by rw[h]
structure Hd where
 A:Option Addr
 n:Nat
 c:Nat
def Au:Ty Int where
 val x:=.int .i64 x
 size:=1
 bytes:=8
 tid:=3
 zero:=.int .i64 0
 hlen _:=rfl
 lJ a u h:=by simp only[Value.cells,aAp] at h;subst h;rfl
 gL:=sD
 hzero:=rfl
 fW:=q_
 nR:=.inr ⟨q_,λ_=>rfl⟩
instance:kQ 3 Int Au:=⟨rfl⟩
def bJ.may(x:bJ):Bool:=decide (0≤x.rep∧x.rep≤3∧1≤x.seq∧x.seq≤65535)
theorem bJ.bY(x:bJ):x.may=true↔0≤x.rep∧x.rep≤3∧1≤x.seq∧x.seq≤65535:=by simp[bJ.may]
theorem dV(E:Env)(n lo hi:Int):G E 105 [.int .i64 n,.int .i64 lo,.int .i64 hi] [] (cM (.bool (decide (lo≤n∧n≤hi))) []):=by
 refine t_ func105 ntmps105 ?_;repeat' (first|refine w_ ?_|refine k_ ?_|refine f_ ?_ ?_|intro _)
 all_goals exact aR rfl aF aA ⟨rJ,rfl⟩
instance {n lo hi:Int}:vZ 105 [.int .i64 n,.int .i64 lo,.int .i64 hi] (.bool (decide (lo≤n∧n≤hi))):=⟨λE=>dV E n lo hi⟩
def dF(n lo hi:Int):Int:=if n<lo then lo else if hi<n then hi else n
theorem Dz(E:Env)(n lo hi:Int):G E 65 [.int .i64 n,.int .i64 lo,.int .i64 hi] [] (cM (.int .i64 (dF n lo hi)) []):=by
 unfold dF;refine t_ func65 ntmps65 ?_;repeat' (first|refine w_ ?_|refine k_ ?_|refine f_ ?_ ?_|intro _)
 all_goals exact aR rfl aF aA ⟨NQ (by simp[*]),rfl⟩
instance {n lo hi:Int}:vZ 65 [.int .i64 n,.int .i64 lo,.int .i64 hi] (.int .i64 (dF n lo hi)):=⟨λE=>Dz E n lo hi⟩
theorem X9(E:Env)(n:Int):G E 312 [.int .i64 n] [] (cM (.bool false) []):=by
 refine t_ func312 ntmps312 ?_;repeat first|refine v_ ?_|intro
 exact aR rfl aF aA (⟨rJ,rfl⟩)
instance {n:Int}:vZ 312 [.int .i64 n] (.bool false):=⟨λE=>X9 E n⟩
def sX(a b:Int):Int:=if a<b then -1 else if b<a then 1 else 0
theorem HR(E:Env)(a b:Int):G E 271 [.int .i64 a,.int .i64 b] [] (cM (.int .i64 (sX a b)) []):=by
 unfold sX;refine t_ func271 ntmps271 ?_;repeat' (first|refine w_ ?_|refine k_ ?_|refine f_ ?_ ?_|intro _)
 all_goals exact aR rfl aF aA ⟨NQ (by simp[*]),rfl⟩
instance {a b:Int}:vZ 271 [.int .i64 a,.int .i64 b] (.int .i64 (sX a b)):=⟨λE=>HR E a b⟩
def DC:List Int→Int
 | []=>0
 |x::l=>if x=0 then DC l else x
theorem QU{l:List Int}(h:∀x∈l,x=0):DC l=0:=by
 induction l with
 |nil=>rfl
 |cons x l ih=>rw[DC,if_pos (h x aBo)];exact ih λy hy=>h y (aBl _ hy)
theorem UO{l:List Int}{i:Nat}{x:Int}(hx:l[i]?=some x)(h0:x≠0)(h:∀j y,j<i→l[j]?=some y→y=0):DC l=x:=by
 induction l generalizing i with
 |nil=>cases hx
 |cons a l ih =>
  cases i with
  |zero=>injection hx with hx;subst hx;rw[DC,if_neg h0]
  |succ i =>
   rw[DC,if_pos (h 0 a o_ rfl)];exact ih (i:=i) hx λj y hj hy=>h (j+1) y o_ hy
theorem UL(E:Env)(A:Option Addr)(n c:Nat)(l:List Int)(hr:Rd E Au A n c l):G E 269 [.slice A n c] [] (cM (.int .i64 (DC l)) []):=by
 have hn:=hr.len;have hcap:=hr.cap;have hmax:=fX;refine t_ func269 ntmps269 ?_;repeat first|refine v_ ?_|intro
 refine C.scan (Y:=Unit) hn (λi _=>[(0,.slice A n c),(3,.int .i64 0),(6,.slice A n c),(7,.int .i64 n),(8,.int .i64 i)]) (λ_ _=>[]) (λi _=>∀j y,j<i→l[j]?=some y→y=0) () aD aB.refl (λj y hj=>by omega) ?_ ?_
 ·intro i _ x G hi hx hall;repeat first|refine v_ ?_|intro
  by_cases h0:x=0
  ·repeat first|refine v_ ?_|intro
   refine⟨(),aD,aB.refl,λj y hj hy=>?_⟩;by_cases hji:j=i
   ·subst hji;rw[hx] at hy;injection hy with hy;omega
   ·exact hall j y o_ hy
  ·repeat first|refine v_ ?_|intro
   exact aR rfl aF aA (⟨NQ (UO hx h0 hall).symm,rfl⟩)
 ·intro _ G hall;repeat first|refine v_ ?_|intro
  exact aR rfl aF aA (⟨NQ (QU λx hx=>by obtain⟨j,hj,rfl⟩:=aBm hx;exact hall j _ o_ (aAa hj)).symm,rfl⟩)
instance {A:Option Addr}{n c:Nat}:Us 269 [.slice A n c] Int Au A n c (λl=>.int .i64 (DC l)):=⟨λE l h=>UL E A n c l h⟩
theorem Gq(E:Env)(a b:Int):G E 160 [.agg #[.int .i64 a,.int .i64 b]] [] (cM (.bool (bJ.may ⟨a,b⟩)) []):=by
 unfold bJ.may;refine t_ func160 ntmps160 ?_;repeat' (first|refine w_ ?_|refine k_ ?_|refine f_ ?_ ?_|intro _)
 all_goals exact aR rfl aF aA ⟨rJ,rfl⟩
instance {a b:Int}:vZ 160 [.agg #[.int .i64 a,.int .i64 b]] (.bool (bJ.may ⟨a,b⟩)):=⟨λE=>Gq E a b⟩
def sQ(a b:bJ):Int:=DC [sX a.seq b.seq,sX a.rep b.rep]
theorem I3(E:Env)(a b c d:Int):G E 270 [.agg #[.int .i64 a,.int .i64 b],.agg #[.int .i64 c,.int .i64 d]] [] (cM (.int .i64 (sQ ⟨a,b⟩ ⟨c,d⟩)) []):=by
 refine t_ func270 ntmps270 ?_;repeat first|refine v_ ?_|intro
 refine rA (l_ [0,1,2,3,5,6,7,8] (g_ 4 (g_ 9 (g_ 10 (g_ 11 (n_ 12 .nil)))))) ?_;repeat first|refine v_ ?_|intro
 exact B7
instance {a b c d:Int}:vZ 270 [.agg #[.int .i64 a,.int .i64 b],.agg #[.int .i64 c,.int .i64 d]] (.int .i64 (sQ ⟨a,b⟩ ⟨c,d⟩)):=⟨λE=>I3 E a b c d⟩
theorem MG(E:Env)(a b c d:Int):G E 385 [.agg #[.int .i64 a,.int .i64 b],.agg #[.int .i64 c,.int .i64 d]] [] (cM (.bool (decide (sQ ⟨a,b⟩ ⟨c,d⟩<0))) []):=by
 refine t_ func385 ntmps385 ?_;repeat first|refine v_ ?_|intro
 exact B7
instance {a b c d:Int}:vZ 385 [.agg #[.int .i64 a,.int .i64 b],.agg #[.int .i64 c,.int .i64 d]] (.bool (decide (sQ ⟨a,b⟩ ⟨c,d⟩<0))):=⟨λE=>MG E a b c d⟩
theorem K9(E:Env)(r:Int):G E 157 [.int .i64 r] [] (cM (.bool (decide (0≤r∧r≤3))) []):=by
 refine t_ func157 ntmps157 ?_;repeat' (first|refine w_ ?_|refine k_ ?_|refine f_ ?_ ?_|intro _)
 all_goals exact aR rfl aF aA ⟨rJ,rfl⟩
instance {r:Int}:vZ 157 [.int .i64 r] (.bool (decide (0≤r∧r≤3))):=⟨λE=>K9 E r⟩
end
section
def place{α:Type}(p:α→Bool):List α→Int
 | [] => -1
 |x::l=>if p x then 0 else if place p l<0 then -1 else place p l+1
def behind{α:Type}(p:α→Bool):List α→Nat
 | []=>0
 |x::l=>if 0<behind p l then behind p l+1 else if p x then 1 else 0
theorem xM{α:Type}{p:α→Bool}{l:List α}{i:Nat}{x:α}(hx:l[i]?=some x)(hp:p x=true)(h:∀j y,j<i→l[j]?=some y→p y=false):place p l=i:=by
 induction l generalizing i with
 |nil=>cases hx
 |cons a l ih =>
  cases i with
  |zero=>injection hx with hx;subst hx;rw[place,if_pos hp];rfl
  |succ i =>
   rw[place,if_neg (by rw[h 0 a o_ rfl];decide),ih (i:=i) hx λj y hj hy=>h (j+1) y o_ hy,if_neg o_];omega
theorem rR{α:Type}{p:α→Bool}{l:List α}(h:∀x∈l,p x=false):place p l = -1:=by
 induction l with
 |nil=>rfl
 |cons a l ih=>rw[place,if_neg (by rw[h a aBo];decide),ih λx hx=>h x (aBl _ hx),if_pos sD]
theorem rC{α:Type}(p:α→Bool)(l:List α):(decide (0≤place p l))=l.any p:=by
 induction l with
 |nil=>rfl
 |cons a l ih =>
  rw[List.any_cons,place];by_cases h:p a=true
  ·rw[if_pos h,h];rfl
  ·rw[if_neg h];rw[show p a=false by simpa using h,Bool.false_or,←ih];rw[aBz];split<;>simp<;>omega
theorem gZ{α:Type}{p:α→Bool}{l:List α}(h:0≤place p l):(place p l).toNat<l.length∧∃x,l[(place p l).toNat]?=some x∧p x=true:=by
 induction l with
 |nil=>exact absurd h (by show ¬(0:Int) ≤ -1;decide)
 |cons a l ih =>
  by_cases hp:p a=true
  ·rw[place,if_pos hp];exact⟨by simp,a,rfl,hp⟩
  ·rw[place,if_neg hp] at h⊢;by_cases h0:place p l<0
   ·rw[if_pos h0] at h;omega
   ·rw[if_neg h0] at h⊢;obtain⟨h1,x,h2,h3⟩:=ih o_;have e:(place p l+1).toNat=(place p l).toNat+1:=o_;rw[e];exact⟨by simpa using h1,x,by simpa using h2,h3⟩
theorem Af{α:Type}{p:α→Bool}{l:List α}(h:∀x∈l,p x=false):behind p l=0:=by
 induction l with
 |nil=>rfl
 |cons a l ih=>rw[behind,ih λx hx=>h x (aBl _ hx),if_neg o_,if_neg (by rw[h a aBo];decide)]
theorem D4{α:Type}{p:α→Bool}{l:List α}{i:Nat}{x:α}(hx:l[i]?=some x)(hp:p x=true)(h:∀j y,i<j→l[j]?=some y→p y=false):behind p l=i+1:=by
 induction l generalizing i with
 |nil=>cases hx
 |cons a l ih =>
  cases i with
  |zero =>
   injection hx with hx
   subst hx;rw[behind,Af λy hy=>by obtain⟨j,hj,rfl⟩:=aBm hy;exact h (j+1) _ o_ (by simp),if_neg o_,if_pos hp]
  |succ i=>rw[behind,ih (i:=i) hx λj y hj hy=>h (j+1) y o_ hy,if_pos o_]
theorem AJ{α:Type}(p:α→Bool)(l:List α):behind p l≤l.length:=by
 induction l with
 |nil=>exact aAf _
 |cons a l ih=>rw[behind,aAs];split;omega;split<;>omega
theorem take_succ{α:Type}{l:List α}{i:Nat}{x:α}(hx:l[i]?=some x):l.take (i+1)=l.take i++[x]:=by
 obtain⟨h,rfl⟩:=aAd.1 hx;exact aAn h
theorem iX{α β:Type}{f:β→α→β}{z:β}{l:List α}{i:Nat}{x:α}(hx:l[i]?=some x):(l.take (i+1)).foldl f z=f ((l.take i).foldl f z) x:=by
 rw[take_succ hx,List.foldl_append];rfl
theorem BU{α:Type}{l:List α}{p:α→Prop}(h:∀j y,j<l.length→l[j]?=some y→p y):∀x∈l,p x:=by
 intro x hx;obtain⟨j,hj,rfl⟩:=aBm hx;exact h j _ hj (aAa hj)
end
section
open Go.RowKit Reg
open Mem hiding Rd
theorem cv{N:Nat}{E:Env}{F:Nat→Value}{H R:List aL}{Q:QF}{f:FuncId}{x:Operand}{cs vs':List Value}{ops:List Operand}{tys:Array TypeId}{Hp:List aL}{Q1:Ending→List aL→Prop}{d:Nat}{ty:TypeId}{pos:String}{af:Array Edge}{os rest:List Oper}
  (hd:d<N) (hx:ev F x=.func (.func f) #[] cs.toArray) (hv:AO F ops++cs=vs') (hk:xA f=true) (hp:cS Hp H R) (law:∀M,Sub E R M→aK prog M f vs'.toArray Hp Q1) (hQ:∀e H',Q1 e H'→∃v,e=.returned v∧∃H2,wK H' R H2∧L prog N E os Q rest (pT F d v) H2) :
  L prog N E os Q (⟨some d,.call { callee:=.value x,args:=ops.toArray,argTypes:=tys },ty,pos,af,none⟩::rest) F H:=by
 obtain⟨fn,h1,h2,h3⟩:=iY hk;exact L.step hd (S.wB rfl hx rfl hv h1 h2 h3 hp law hQ)
theorem Sub.trans{E M E2:Env}{R R':List aL}(h:Sub E R M)(k:Sub M R' E2):Sub E R E2:=by
 obtain⟨F,h1,h2⟩:=h.fr;refine⟨k.MH,λb hb=>⟨(k.rd b (h.rd b hb).1).1,(k.rd b (h.rd b hb).1).2.trans (h.rd b hb).2⟩,F,iJ h1 λb hb=>(k.rd b (h2 b hb)).2,λb hb=>(k.rd b (h2 b hb)).1⟩
section
variable (E:Env) (A:Option Addr) (n c:Nat)
theorem KM(l:List aX)(hr:Rd E bE A n c l)(f:FuncId)(cs:List Value)(p:aX→Bool)(hk:xA f=true)(hp:∀M R,Sub E R M→∀x:aX,G M f (.agg x.cs.toArray::cs) [] (cM (.bool (p x)) [])) :
  G E 230 [.slice A n c,.func (.func f) #[] cs.toArray] [] (cM (.int .i64 (place p l)) []):=by
 have hn:=hr.len;have hcap:=hr.cap;have hmax:=fX;refine t_ func230 ntmps230 ?_;repeat first|refine v_ ?_|intro
 refine C.scan (Y:=Unit) hn (λi _=>[(0,.slice A n c),(1,.func (.func f) #[] cs.toArray),(7,.int .i64 n),(8,.int .i64 i)]) (λ_ _=>[]) (λi _=>∀j y,j<i→l[j]?=some y→p y=false) () aD aB.refl (λj y hj=>by omega) ?_ ?_
 ·intro i _ x G hi hx hall;repeat first|refine v_ ?_|intro
  refine cv sD rfl rfl hk aC (λM hE=>hp M _ hE x) ?_;rintro r H' ⟨rfl,rfl⟩;refine gk bG ?_;cases hpx:p x
  ·repeat first|refine v_ ?_|intro
   refine⟨(),aD,aB.refl,λj y hj hy=>?_⟩;by_cases hji:j=i
   ·subst hji;rw[hx] at hy;injection hy with hy;subst hy;exact hpx
   ·exact hall j y o_ hy
  ·repeat first|refine v_ ?_|intro
   exact aR rfl aF aA (⟨NQ (xM hx hpx hall).symm,rfl⟩)
 ·intro _ G hall;repeat first|refine v_ ?_|intro
  exact aR rfl aF aA (⟨NQ (rR (BU λj y hj hy=>hall j y o_ hy)).symm,rfl⟩)
theorem SA(l:List dK)(hr:Rd E cP A n c l)(f:FuncId)(cs:List Value)(p:dK→Bool)(hk:xA f=true)(hp:∀M R,Sub E R M→∀x:dK,G M f (.agg x.cs.toArray::cs) [] (cM (.bool (p x)) [])) :
  G E 207 [.slice A n c,.func (.func f) #[] cs.toArray] [] (cM (.int .i64 (place p l)) []):=by
 have hn:=hr.len;have hcap:=hr.cap;have hmax:=fX;refine t_ func207 ntmps207 ?_;repeat first|refine v_ ?_|intro
 refine C.scan (Y:=Unit) hn (λi _=>[(0,.slice A n c),(1,.func (.func f) #[] cs.toArray),(7,.int .i64 n),(8,.int .i64 i)]) (λ_ _=>[]) (λi _=>∀j y,j<i→l[j]?=some y→p y=false) () aD aB.refl (λj y hj=>by omega) ?_ ?_
 ·intro i _ x G hi hx hall;repeat first|refine v_ ?_|intro
  refine cv sD rfl rfl hk aC (λM hE=>hp M _ hE x) ?_;rintro r H' ⟨rfl,rfl⟩;refine gk bG ?_;cases hpx:p x
  ·repeat first|refine v_ ?_|intro
   refine⟨(),aD,aB.refl,λj y hj hy=>?_⟩;by_cases hji:j=i
   ·subst hji;rw[hx] at hy;injection hy with hy;subst hy;exact hpx
   ·exact hall j y o_ hy
  ·repeat first|refine v_ ?_|intro
   exact aR rfl aF aA (⟨NQ (xM hx hpx hall).symm,rfl⟩)
 ·intro _ G hall;repeat first|refine v_ ?_|intro
  exact aR rfl aF aA (⟨NQ (rR (BU λj y hj hy=>hall j y o_ hy)).symm,rfl⟩)
theorem RY(l:List dD)(hr:Rd E eB A n c l)(f:FuncId)(cs:List Value)(p:dD→Bool)(hk:xA f=true)(hp:∀M R,Sub E R M→∀x:dD,G M f (.agg x.cs.toArray::cs) [] (cM (.bool (p x)) [])) :
  G E 383 [.slice A n c,.func (.func f) #[] cs.toArray] [] (cM (.int .i64 (place p l)) []):=by
 have hn:=hr.len;have hcap:=hr.cap;have hmax:=fX;refine t_ func383 ntmps383 ?_;repeat first|refine v_ ?_|intro
 refine C.scan (Y:=Unit) hn (λi _=>[(0,.slice A n c),(1,.func (.func f) #[] cs.toArray),(7,.int .i64 n),(8,.int .i64 i)]) (λ_ _=>[]) (λi _=>∀j y,j<i→l[j]?=some y→p y=false) () aD aB.refl (λj y hj=>by omega) ?_ ?_
 ·intro i _ x G hi hx hall;repeat first|refine v_ ?_|intro
  refine cv sD rfl rfl hk aC (λM hE=>hp M _ hE x) ?_;rintro r H' ⟨rfl,rfl⟩;refine gk bG ?_;cases hpx:p x
  ·repeat first|refine v_ ?_|intro
   refine⟨(),aD,aB.refl,λj y hj hy=>?_⟩;by_cases hji:j=i
   ·subst hji;rw[hx] at hy;injection hy with hy;subst hy;exact hpx
   ·exact hall j y o_ hy
  ·repeat first|refine v_ ?_|intro
   exact aR rfl aF aA (⟨NQ (xM hx hpx hall).symm,rfl⟩)
 ·intro _ G hall;repeat first|refine v_ ?_|intro
  exact aR rfl aF aA (⟨NQ (rR (BU λj y hj hy=>hall j y o_ hy)).symm,rfl⟩)
theorem RS(l:List dK)(hr:Rd E cP A n c l)(f:FuncId)(cs:List Value)(p:dK→Bool)(hk:xA f=true)(hp:∀M R,Sub E R M→∀x:dK,G M f (.agg x.cs.toArray::cs) [] (cM (.bool (p x)) [])) :
  G E 145 [.slice A n c,.func (.func f) #[] cs.toArray] [] (cM (.bool (l.any p)) []):=by
 refine t_ func145 ntmps145 ?_;repeat first|refine v_ ?_|intro
 refine cl sD sK aC (λM hE=>SA M A n c l dB f cs p hk λE2 R hE2=>hp E2 _ (hE.trans hE2)) ?_;rintro r H' ⟨rfl,rfl⟩;repeat first|refine v_ ?_|intro
 exact aR rfl aF aA (⟨by rw[←rC],rfl⟩)
theorem xN(l:List aX)(hr:Rd E bE A n c l)(hl:n≤1000000):G E 75 [.slice A n c] [] λe H'=>∃B k,(n≤k∧k≤maxLen)∧e=.returned (.slice B n k)∧H'=[own bE B n k l]:=by
 refine t_ func75 ntmps75 ?_;cases A with
 |none =>
  obtain⟨rfl,rfl⟩:=hr.none;repeat first|refine v_ ?_|intro
  exact aR rfl aF (aB.oR bE none) ⟨none,0,⟨aAf _,aAh _⟩,rfl,rfl⟩
 |some a =>
  repeat first|refine v_ ?_|intro
  rename_i B k h1 h2;exact jQ ⟨_,_,⟨h1,h2⟩,rfl,rfl⟩
theorem FN(l:List dD)(hr:Rd E eB A n c l)(hl:n≤1000000):G E 164 [.slice A n c] [] λe H'=>∃B k,(n≤k∧k≤maxLen)∧e=.returned (.slice B n k)∧H'=[own eB B n k l]:=by
 refine t_ func164 ntmps164 ?_;cases A with
 |none =>
  obtain⟨rfl,rfl⟩:=hr.none;repeat first|refine v_ ?_|intro
  exact aR rfl aF (aB.oR eB none) ⟨none,0,⟨aAf _,aAh _⟩,rfl,rfl⟩
 |some a =>
  repeat first|refine v_ ?_|intro
  rename_i B k h1 h2;exact jQ ⟨_,_,⟨h1,h2⟩,rfl,rfl⟩
theorem RV(l:List cQ)(hr:Rd E eG A n c l)(hl:n≤1000000):G E 232 [.slice A n c] [] λe H'=>∃B k,(n≤k∧k≤maxLen)∧e=.returned (.slice B n k)∧H'=[own eG B n k l]:=by
 refine t_ func232 ntmps232 ?_;cases A with
 |none =>
  obtain⟨rfl,rfl⟩:=hr.none;repeat first|refine v_ ?_|intro
  exact aR rfl aF (aB.oR eG none) ⟨none,0,⟨aAf _,aAh _⟩,rfl,rfl⟩
 |some a =>
  repeat first|refine v_ ?_|intro
  rename_i B k h1 h2;exact jQ ⟨_,_,⟨h1,h2⟩,rfl,rfl⟩
variable (B:Option Addr) (m d:Nat)
theorem Sp(l k:List aX)(hr:Rd E bE A n c l)(hs:Rd E bE B m d k):G E 80 [.slice A n c,.slice B m d] [] (cM (.bool (decide (l=k))) []):=by
 have hn:=hr.len;have hcap:=hr.cap;have hm:=hs.len;have hcap2:=hs.cap;have hmax:=fX;refine t_ func80 ntmps80 ?_;by_cases hnm:n=m
 ·repeat first|refine v_ ?_|intro
  refine C.scan (Y:=Unit) hn (λi _=>[(0,.slice A n c),(1,.slice B m d),(12,.int .i64 n),(13,.int .i64 i)]) (λ_ _=>[]) (λi _=>l.take i=k.take i) () aD aB.refl rfl ?_ ?_
  ·intro i _ x G hi hx hall;have hy:k[i]?=some k[i]:=aAa o_;generalize k[i]=y at hy;repeat first|refine v_ ?_|intro
   refine rA (l_ [0,1,2,3,4,5,6,7,8] .nil) ?_;repeat first|refine v_ ?_|intro
   by_cases hxy:x=y
   ·subst hxy;have hd:(!decide (x=x))=false:=by simp
    repeat first|refine v_ ?_|intro
    exact⟨(),aD,aB.refl,by rw[take_succ hx,take_succ hy,hall]⟩
   ·have hd:(!decide (x=y))=true:=by simp[hxy]
    repeat first|refine v_ ?_|intro
    exact aR rfl aF aA (⟨rJ (by rw[eq_comm,decide_eq_false_iff_not];rintro rfl;rw[hx] at hy;injection hy with hy;exact hxy hy),rfl⟩)
  ·intro _ G hall;repeat first|refine v_ ?_|intro
   exact aR rfl aF aA (⟨rJ (by rw[eq_comm,decide_eq_true_iff];rwa [hn,aAo,←hn,hnm,hm,aAo] at hall),rfl⟩)
 ·repeat first|refine v_ ?_|intro
  exact aR rfl aF aA (⟨rJ (by rw[eq_comm,decide_eq_false_iff_not];rintro rfl;omega),rfl⟩)
theorem SH(l k:List dK)(hr:Rd E cP A n c l)(hs:Rd E cP B m d k):G E 81 [.slice A n c,.slice B m d] [] (cM (.bool (decide (l=k))) []):=by
 have hn:=hr.len;have hcap:=hr.cap;have hm:=hs.len;have hcap2:=hs.cap;have hmax:=fX;refine t_ func81 ntmps81 ?_;by_cases hnm:n=m
 ·repeat first|refine v_ ?_|intro
  refine C.scan (Y:=Unit) hn (λi _=>[(0,.slice A n c),(1,.slice B m d),(12,.int .i64 n),(13,.int .i64 i)]) (λ_ _=>[]) (λi _=>l.take i=k.take i) () aD aB.refl rfl ?_ ?_
  ·intro i _ x G hi hx hall;have hy:k[i]?=some k[i]:=aAa o_;generalize k[i]=y at hy;repeat first|refine v_ ?_|intro
   refine rA (l_ [0,1,2,3,4,5,6,7,8] .nil) ?_;repeat first|refine v_ ?_|intro
   by_cases hxy:x=y
   ·subst hxy;have hd:(!decide (x=x))=false:=by simp
    repeat first|refine v_ ?_|intro
    exact⟨(),aD,aB.refl,by rw[take_succ hx,take_succ hy,hall]⟩
   ·have hd:(!decide (x=y))=true:=by simp[hxy]
    repeat first|refine v_ ?_|intro
    exact aR rfl aF aA (⟨rJ (by rw[eq_comm,decide_eq_false_iff_not];rintro rfl;rw[hx] at hy;injection hy with hy;exact hxy hy),rfl⟩)
  ·intro _ G hall;repeat first|refine v_ ?_|intro
   exact aR rfl aF aA (⟨rJ (by rw[eq_comm,decide_eq_true_iff];rwa [hn,aAo,←hn,hnm,hm,aAo] at hall),rfl⟩)
 ·repeat first|refine v_ ?_|intro
  exact aR rfl aF aA (⟨rJ (by rw[eq_comm,decide_eq_false_iff_not];rintro rfl;omega),rfl⟩)
end
structure V4 where
 a:Int
 b:Int
 c:Int
 d:Int
abbrev V4.cs(v:V4):List Value:=[.int .i64 v.a,.int .i64 v.b,.int .i64 v.c,.int .i64 v.d]
abbrev FR:V4:=⟨0,0,0,0⟩
def V4.get(v:V4)(i:Int):Int:=if i=0 then v.a else if i=1 then v.b else if i=2 then v.c else v.d
def V4.set(v:V4)(i x:Int):V4:=if i=0 then { v with a:=x } else if i=1 then { v with b:=x } else if i=2 then { v with c:=x } else { v with d:=x }
def V4.ok(v:V4):Prop:=(0≤v.a∧v.a<9223372036854775807)∧(0≤v.b∧v.b<9223372036854775807)∧(0≤v.c∧v.c<9223372036854775807)∧(0≤v.d∧v.d<9223372036854775807)
instance:Bg 98 [.int .i64 0,.int .i64 0,.int .i64 0,.int .i64 0]:=⟨q_⟩
theorem four{r:Int}(h:0≤r∧r≤3):r=0∨r=1∨r=2∨r=3:=o_
def vK(v:V4)(r:Int):bJ:=if 0≤r∧r≤3 then(if 65535≤v.get r then⟨0,0⟩ else⟨r,v.get r+1⟩) else⟨0,0⟩
theorem nY(E:Env)(v:V4)(r:Int)(hv:v.ok):G E 95 [.agg v.cs.toArray,.int .i64 r] [] (cM (.agg (vK v r).cs.toArray) []):=by
 unfold V4.ok at hv;unfold vK;refine t_ func95 ntmps95 ?_;by_cases h:0≤r∧r≤3
 ·rw[if_pos h];rcases four h with rfl|rfl|rfl|rfl
  ·rw[show v.get 0=v.a from rfl];by_cases hk:65535≤v.a
   ·rw[if_pos hk];repeat first|refine v_ ?_|intro
    exact Kz
   ·rw[if_neg hk];repeat first|refine v_ ?_|intro
    exact Kz
  ·rw[show v.get 1=v.b from rfl];by_cases hk:65535≤v.b
   ·rw[if_pos hk];repeat first|refine v_ ?_|intro
    exact Kz
   ·rw[if_neg hk];repeat first|refine v_ ?_|intro
    exact Kz
  ·rw[show v.get 2=v.c from rfl];by_cases hk:65535≤v.c
   ·rw[if_pos hk];repeat first|refine v_ ?_|intro
    exact Kz
   ·rw[if_neg hk];repeat first|refine v_ ?_|intro
    exact Kz
  ·rw[show v.get 3=v.d from rfl];by_cases hk:65535≤v.d
   ·rw[if_pos hk];repeat first|refine v_ ?_|intro
    exact Kz
   ·rw[if_neg hk];repeat first|refine v_ ?_|intro
    exact Kz
 ·rw[if_neg h];repeat first|refine v_ ?_|intro
  exact Kz
def yN(v:V4)(a:bJ):Bool:=decide ((0≤a.rep∧a.rep≤3)∧1≤a.seq∧a.seq≤v.get a.rep)
theorem Ok(E:Env)(v:V4)(r s:Int):G E 299 [.agg v.cs.toArray,.agg #[.int .i64 r,.int .i64 s]] [] (cM (.bool (yN v ⟨r,s⟩)) []):=by
 unfold yN;dsimp only;refine t_ func299 ntmps299 ?_;by_cases h:0≤r∧r≤3
 ·rcases four h with rfl|rfl|rfl|rfl
  ·rw[show v.get 0=v.a from rfl];by_cases hs:1≤s
   ·by_cases hk:s≤v.a
    ·repeat first|refine v_ ?_|intro
     refine rA (l_ [0,1] (g_ 2 (l_ [3,4,5,6,7,8,9,10,11,12,13,14,15,16,17] .nil))) ?_;repeat first|refine v_ ?_|intro
     exact aR rfl aF aA (⟨rJ,rfl⟩)
    ·repeat first|refine v_ ?_|intro
     refine rA (l_ [0,1] (g_ 2 (l_ [3,4,5,6,7,8,9,10,11,12,13,14,15,16,17] .nil))) ?_;repeat first|refine v_ ?_|intro
     exact aR rfl aF aA (⟨rJ,rfl⟩)
   ·repeat first|refine v_ ?_|intro
    refine rA (l_ [0,1] (g_ 2 (l_ [3,4,5,6,7,8,9,10,11,12,13,14,15,16,17] .nil))) ?_;repeat first|refine v_ ?_|intro
    exact aR rfl aF aA (⟨rJ,rfl⟩)
  ·rw[show v.get 1=v.b from rfl];by_cases hs:1≤s
   ·by_cases hk:s≤v.b
    ·repeat first|refine v_ ?_|intro
     refine rA (l_ [0,1] (g_ 2 (l_ [3,4,5,6,7,8,9,10,11,12,13,14,15,16,17] .nil))) ?_;repeat first|refine v_ ?_|intro
     exact aR rfl aF aA (⟨rJ,rfl⟩)
    ·repeat first|refine v_ ?_|intro
     refine rA (l_ [0,1] (g_ 2 (l_ [3,4,5,6,7,8,9,10,11,12,13,14,15,16,17] .nil))) ?_;repeat first|refine v_ ?_|intro
     exact aR rfl aF aA (⟨rJ,rfl⟩)
   ·repeat first|refine v_ ?_|intro
    refine rA (l_ [0,1] (g_ 2 (l_ [3,4,5,6,7,8,9,10,11,12,13,14,15,16,17] .nil))) ?_;repeat first|refine v_ ?_|intro
    exact aR rfl aF aA (⟨rJ,rfl⟩)
  ·rw[show v.get 2=v.c from rfl];by_cases hs:1≤s
   ·by_cases hk:s≤v.c
    ·repeat first|refine v_ ?_|intro
     refine rA (l_ [0,1] (g_ 2 (l_ [3,4,5,6,7,8,9,10,11,12,13,14,15,16,17] .nil))) ?_;repeat first|refine v_ ?_|intro
     exact aR rfl aF aA (⟨rJ,rfl⟩)
    ·repeat first|refine v_ ?_|intro
     refine rA (l_ [0,1] (g_ 2 (l_ [3,4,5,6,7,8,9,10,11,12,13,14,15,16,17] .nil))) ?_;repeat first|refine v_ ?_|intro
     exact aR rfl aF aA (⟨rJ,rfl⟩)
   ·repeat first|refine v_ ?_|intro
    refine rA (l_ [0,1] (g_ 2 (l_ [3,4,5,6,7,8,9,10,11,12,13,14,15,16,17] .nil))) ?_;repeat first|refine v_ ?_|intro
    exact aR rfl aF aA (⟨rJ,rfl⟩)
  ·rw[show v.get 3=v.d from rfl];by_cases hs:1≤s
   ·by_cases hk:s≤v.d
    ·repeat first|refine v_ ?_|intro
     refine rA (l_ [0,1] (g_ 2 (l_ [3,4,5,6,7,8,9,10,11,12,13,14,15,16,17] .nil))) ?_;repeat first|refine v_ ?_|intro
     exact aR rfl aF aA (⟨rJ,rfl⟩)
    ·repeat first|refine v_ ?_|intro
     refine rA (l_ [0,1] (g_ 2 (l_ [3,4,5,6,7,8,9,10,11,12,13,14,15,16,17] .nil))) ?_;repeat first|refine v_ ?_|intro
     exact aR rfl aF aA (⟨rJ,rfl⟩)
   ·repeat first|refine v_ ?_|intro
    refine rA (l_ [0,1] (g_ 2 (l_ [3,4,5,6,7,8,9,10,11,12,13,14,15,16,17] .nil))) ?_;repeat first|refine v_ ?_|intro
    exact aR rfl aF aA (⟨rJ,rfl⟩)
 ·repeat first|refine v_ ?_|intro
  refine rA (l_ [0,1] (g_ 2 (l_ [3,4,5,6,7,8,9,10,11,12,13,14,15,16,17] .nil))) ?_;repeat first|refine v_ ?_|intro
  exact aR rfl aF aA (⟨rJ,rfl⟩)
instance {v:V4}{r s:Int}:vZ 299 [.agg #[.int .i64 v.a,.int .i64 v.b,.int .i64 v.c,.int .i64 v.d],.agg #[.int .i64 r,.int .i64 s]] (.bool (yN v ⟨r,s⟩)):=⟨λE=>Ok E v r s⟩
def Tu(v:V4)(c:aX):V4:=if 0≤c.id.rep∧c.id.rep≤3 then v.set c.id.rep (max (v.get c.id.rep) c.id.seq) else v
def L0(l:List aX):V4:=l.foldl Tu FR
theorem RJ(E:Env)(A:Option Addr)(n c:Nat)(l:List aX)(hr:Rd E bE A n c l):G E 158 [.slice A n c] [] (cM (.agg (L0 l).cs.toArray) []):=by
 have hn:=hr.len;have hcap:=hr.cap;have hmax:=fX;refine t_ func158 ntmps158 ?_;repeat first|refine v_ ?_|intro
 rename_i g2 g3;refine C.scan (Y:=V4) hn (λi _=>[(0,.slice A n c),(2,.pointer (some ⟨g2,0,none⟩)),(3,.pointer (some ⟨g3,0,none⟩)),(7,.slice A n c),(8,.int .i64 n),(9,.int .i64 i)]) (λ_ v=>[aJ g2 98 FR.cs,aJ g3 98 v.cs]) (λi v=>v=(l.take i).foldl Tu FR) FR aD aA rfl ?_ ?_
 ·intro i v x G hi hx hv;have hf:=iX (f:=Tu) (z:=FR) hx;rw[←hv] at hf;by_cases h:0≤x.id.rep∧x.id.rep≤3
  ·rw[Tu,if_pos h] at hf;rcases four h with h|h|h|h
   ·rw[h] at hf;change _=(⟨max v.a x.id.seq,v.b,v.c,v.d⟩:V4) at hf;repeat first|refine v_ ?_|intro
    rw[h];repeat first|refine v_ ?_|intro
    refine C.bL 9 (l_ [0,1,2,3,4,5,6,7,8] (g_ 9 .nil)) _ q_ q_ aB.refl ?_;repeat first|refine v_ ?_|intro
    exact⟨⟨_,_,_,_⟩,aD,aA,hf.symm⟩
   ·rw[h] at hf;change _=(⟨v.a,max v.b x.id.seq,v.c,v.d⟩:V4) at hf;repeat first|refine v_ ?_|intro
    rw[h];repeat first|refine v_ ?_|intro
    refine C.bL 9 (l_ [0,1,2,3,4,5,6,7,8] (g_ 9 .nil)) _ q_ q_ aB.refl ?_;repeat first|refine v_ ?_|intro
    exact⟨⟨_,_,_,_⟩,aD,aA,hf.symm⟩
   ·rw[h] at hf;change _=(⟨v.a,v.b,max v.c x.id.seq,v.d⟩:V4) at hf;repeat first|refine v_ ?_|intro
    rw[h];repeat first|refine v_ ?_|intro
    refine C.bL 9 (l_ [0,1,2,3,4,5,6,7,8] (g_ 9 .nil)) _ q_ q_ aB.refl ?_;repeat first|refine v_ ?_|intro
    exact⟨⟨_,_,_,_⟩,aD,aA,hf.symm⟩
   ·rw[h] at hf;change _=(⟨v.a,v.b,v.c,max v.d x.id.seq⟩:V4) at hf;repeat first|refine v_ ?_|intro
    rw[h];repeat first|refine v_ ?_|intro
    refine C.bL 9 (l_ [0,1,2,3,4,5,6,7,8] (g_ 9 .nil)) _ q_ q_ aB.refl ?_;repeat first|refine v_ ?_|intro
    exact⟨⟨_,_,_,_⟩,aD,aA,hf.symm⟩
  ·rw[Tu,if_neg h] at hf;repeat first|refine v_ ?_|intro
   exact⟨v,aD,aA,hf.symm⟩
 ·intro v G hv;rw[hn,aAo] at hv;change v=L0 l at hv;subst hv;repeat first|refine v_ ?_|intro
  exact Kz
theorem Mc(E:Env)(v:V4)(A:Option Addr)(n c:Nat)(l:List aX)(hr:Rd E bE A n c l)(hn9:n≤100000):G E 253 [.agg v.cs.toArray,.slice A n c] [] λe H'=>∃B k d,k≤n∧e=.returned (.slice B k d)∧H'=[own bE B k d (l.filter λx => !yN v x.id)]:=by
 have hn:=hr.len;have hcap:=hr.cap;have hmax:=fX;refine t_ func253 ntmps253 ?_;repeat first|refine v_ ?_|intro
 rename_i g2;refine C.scan (Y:=Hd) hn (λi s=>[(1,.slice A n c),(2,.pointer (some ⟨g2,0,none⟩)),(4,.slice none 0 0),(5,.slice s.A s.n s.c),(8,.slice A n c),(9,.int .i64 n),(10,.int .i64 i)]) (λi s=>[own bE s.A s.n s.c ((l.take i).filter λx => !yN v x.id),aJ g2 98 v.cs]) (λi s=>s.n≤i) ⟨none,0,0⟩ aD (aB.oR bE none) (aAf _) ?_ ?_
 ·rintro i ⟨B,k,d⟩ x G hi hx hk;dsimp only at hk⊢;have ht:=take_succ hx;cases hh:yN v x.id with
  |true =>
   have hb:(!yN v x.id)=false:=by rw[hh];rfl
   have hf:(l.take (i+1)).filter (λx => !yN v x.id)=(l.take i).filter λx => !yN v x.id:=by rw[ht,aQz];simp[hh]
   repeat first|refine v_ ?_|intro
   exact⟨⟨B,k,d⟩,aD,by dsimp only;rw[hf];exact aA,by show k≤i+1;omega⟩
  |false =>
   have hb:(!yN v x.id)=true:=by rw[hh];rfl
   have hf:(l.take (i+1)).filter (λx => !yN v x.id)=(l.take i).filter (λx => !yN v x.id)++[x]:=by rw[ht,aQz];simp[hh]
   repeat first|refine v_ ?_|intro
   rename_i B' d' h1 h2;exact⟨⟨B',k+1,d'⟩,aD,by dsimp only;rw[hf];exact aA,by show k+1≤i+1;omega⟩
 ·rintro⟨B,k,d⟩ G hk;dsimp only at hk⊢;rw[hn,aAo,←hn];repeat first|refine v_ ?_|intro
  exact jQ ⟨B,k,d,hk,rfl,rfl⟩
def iP(a b:aX):Int:=DC [sX a.time b.time,sX a.id.rep b.id.rep,sX a.id.seq b.id.seq]
theorem JB(E:Env)(x y:aX):G E 382 [.agg x.cs.toArray,.agg y.cs.toArray] [] (cM (.int .i64 (iP x y)) []):=by
 refine t_ func382 ntmps382 ?_;repeat first|refine v_ ?_|intro
 refine rA (l_ [0,1,2,3,5,6,7,8,9,10,12,13,14,15,16,17] (g_ 4 (g_ 11 (g_ 18 (g_ 19 (g_ 20 (n_ 21 .nil))))))) ?_;repeat first|refine v_ ?_|intro
 exact B7
theorem Dm(E:Env)(x y:aX):G E 372 [.agg x.cs.toArray,.agg y.cs.toArray] [] (cM (.bool (decide (iP x y<0))) []):=by
 refine t_ func372 ntmps372 ?_;repeat first|refine v_ ?_|intro
 refine bK (λM=>JB M x y) ?_;repeat first|refine v_ ?_|intro
 exact B7
def bI(l:List aX)(a:bJ):Int:=place (λc=>decide (c.id=a)) l
theorem VS(E:Env)(g:Nat)(a:bJ)(h:gE E g a.cs)(x:aX):G E 231 [.agg x.cs.toArray,.pointer (some ⟨g,0,none⟩)] [] (cM (.bool (decide (x.id=a))) []):=by
 refine t_ func231 ntmps231 ?_;repeat first|refine v_ ?_|intro
 exact B7
theorem M0(E:Env)(A:Option Addr)(n c:Nat)(l:List aX)(hr:Rd E bE A n c l)(r s:Int):G E 172 [.slice A n c,.agg #[.int .i64 r,.int .i64 s]] [] (cM (.int .i64 (bI l ⟨r,s⟩)) []):=by
 refine t_ func172 ntmps172 ?_;repeat first|refine v_ ?_|intro
 rename_i g;refine cl sD sK aC (λM hE=>KM M A n c l dB 231 [_] _ sK λE2 R2 hE2 x=>VS E2 g ⟨r,s⟩ ((gE.of hE aS).sub hE2) x) ?_;rintro r H' ⟨rfl,rfl⟩;repeat first|refine v_ ?_|intro
 exact B7
instance {A:Option Addr}{n c:Nat}{r s:Int}:Us 172 [.slice A n c,.agg #[.int .i64 r,.int .i64 s]] aX bE A n c (λl=>.int .i64 (bI l ⟨r,s⟩)):=⟨λE l h=>M0 E A n c l h r s⟩
end
end Go.Proofs.YtmilalkjbojciaaGreat.Sep
