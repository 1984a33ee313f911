/- Part AB: what it needs. No condition. -/
import Derived.Test.YtmilalkjbojciaaGreatRAA
import Derived.Laws.Tables
import Derived.Laws.MakeOwn
import Derived.Room.AppendUpon
import Derived.ArgAppend
import Derived.Laws.StructEq
import Derived.ChangeKeysEq
set_option maxRecDepth 100000
set_option maxHeartbeats 8000000
open Go.Proofs.Tryz
namespace Go.Proofs.YtmilalkjbojciaaGreat.Sep
open Go.RowKit Mem Reg
section
variable {P:Program} {N:Nat} {E:Env} {F:Nat→Value} {H H' R:List aL} {ρ:Operand→Value} {o:Oper} {K:Value→List aL→Prop}
theorem V.Y5{x y:Operand}{t t':TypeId}{k k2:IntKind}{a c:Int}{u:World}(ho:o.op=.binOp .shl t x y t')(hx:ρ x=.int k a)(hy:ρ y=.int k2 8)(hr:k.wrap (a*256)=c):(execOp ρ o).run P u=.ok (.value (.int k c)) u:=by
 refine V.shl ho hx hy o_ ?_;subst hr;cases k<;>first|rfl|(simp[IntKind.bits])
theorem V.max{x y:Operand}{tys:Array TypeId}{k:IntKind}{a b:Int}{u:World}(ho:o.op=.call { callee:=.builtin .max,args:=#[x,y],argTypes:=tys })(hx:ρ x=.int k a)(hy:ρ y=.int k b):(execOp ρ o).run P u=.ok (.value (.int k (Max.max a b))) u:=by
 have e:(if b > a then b else a)=Max.max a b:=by rw[Int.max_def];split<;>split<;>omega
 have h:=run_max_int2 (P:=P) (w:=u) tys o.type k k a b;rw[e] at h;simp[execOp,ho,resolve,hx,hy,invoke,builtin,h]
theorem V.min{x y:Operand}{tys:Array TypeId}{k:IntKind}{a b:Int}{u:World}(ho:o.op=.call { callee:=.builtin .min,args:=#[x,y],argTypes:=tys })(hx:ρ x=.int k a)(hy:ρ y=.int k b):(execOp ρ o).run P u=.ok (.value (.int k (Min.min a b))) u:=by
 have e:(if b<a then b else a)=Min.min a b:=by rw[Int.min_def];split<;>split<;>omega
 have h:=run_min_int2 (P:=P) (w:=u) tys o.type k k a b;rw[e] at h;simp[execOp,ho,resolve,hx,hy,invoke,builtin,h]
theorem Y.load{t:TypeId}{x:Operand}{a:Addr}{v:Value}{d:TypeDesc}(ho:o.op=.load t x)(hx:ρ x=.pointer (some a))(ht:P.underlying t=some d)(hd:lT d=false)(hc:Cell E H a v):qB P E H ρ o v :=
 λu hu=>V.load ho hx ht (by cases d<;>first|rfl|cases hd) (hc u hu)
theorem sS{t:TypeId}{a:Addr}{vs:List Value}{d:TypeDesc}{ti:TypeInfo}{u:World}(ht:P.underlying t=some d)(hd:lT d=true)(hi:P.info? t=some ti)(hs:ti.size=vs.length)
  (hc:∀j v,vs[j]?=some v→u.cell? (a.add j)=some v):(loadVar t a).run P u=.ok (.agg vs.toArray) u:=by
 have hl:=run_loadCells_list (P:=P) u a vs hc;cases d<;>simp[lT] at hd<;>simp[loadVar,isAgg,run_underlying ht,sizeOf,typeInfo,hi,hs,hl]
theorem Y.xE{t:TypeId}{x:Operand}{a:Addr}{vs:List Value}{d:TypeDesc}{ti:TypeInfo}(ho:o.op=.load t x)(hx:ρ x=.pointer (some a))(ht:P.underlying t=some d)(hd:lT d=true)(hi:P.info? t=some ti)(hs:ti.size=vs.length)
  (hc:Cells E H a vs):qB P E H ρ o (.agg vs.toArray):=by
 intro u hu;have h:=sS (u:=u) ht hd hi hs (hc u hu);simp[execOp,ho,hx,Instr.loadAt,Instr.sureAddr,h]
section
variable {α:Type} {T:Ty α} {A:Option Addr} {n c:Nat} {l:List α}
theorem Y.Nt{x:Operand}{t:TypeId}{k q:Nat}{e:α}(ho:o.op=.load t x)(hx:ρ x=.pointer (some ((ad A).add q)))(h:kV E H T A n c l)(he:l[k]?=some e)(hq:q=k*T.size)(ht:T.tid=t):qB prog E H ρ o (T.val e):=by
 subst hq ht;have hi:=T.fW;cases hj:prog.info? T.tid with
 |none=>simp[hj] at hi
 |some ti =>
  simp[hj] at hi;rcases T.nR with⟨h1,h2⟩|⟨h1,h2⟩
  ·obtain⟨d,hd,hm⟩:=aGg.1 h1;obtain⟨cs,hcs⟩:=h2 e;have:=Y.xE (P:=prog) (E:=E) (H:=H) ho hx hd hm hj (vs:=T.enc e) (by rw[T.dR];exact hi.2.1) (Cells.elem h he rfl);have e2:Value.agg (T.enc e).toArray=T.val e:=by simp[Ty.enc,hcs,Value.cells]
   rwa [e2] at this
  ·obtain⟨d,hd,hm⟩:=aGg.1 h1;have hv:(T.enc e)[0]?=some (T.val e):=by
    have:=h2 e;unfold Ty.enc;cases hq:T.val e<;>simp[hq,Value.oneCell',Value.cells] at this⊢
   exact Y.load ho hx hd hm (Cell.Tw h he rfl hv)
theorem Y.indexAddr{t:TypeId}{x i:Operand}{k:IntKind}{j:Int}{m:Nat}{e:α}(ho:o.op=.indexAddr t x i)(hx:ρ x=.slice A n c)(hi:ρ i=.int k j)(h:kV E H T A n c l)(hj:j.toNat=m)(h0:0≤j)(he:l[m]?=some e)(ht:prog.underlying t=some (.slice T.tid)){q:Nat}(hq:m*T.size=q) :
  qB prog E H ρ o (.pointer (some ((ad A).add q))):=by
 subst hq;intro u hu;obtain⟨h1,h2,h3,h4⟩:=h u hu;have hk:=(aAd.1 he).1;have hinf:=T.fW;cases hq:prog.info? T.tid with
 |none=>simp[hq] at hinf
 |some ti =>
  simp[hq] at hinf;rcases h4 with h4|⟨a,rfl,_⟩
  ·omega
  ·exact V.indexAddr ho hx hi ht hq h0 o_ hj hinf.2.1 rfl
theorem Y.len{x:Operand}{t:TypeId}(ho:o.op=.call { callee:=.builtin .len,args:=#[x],argTypes:=#[t] })(hx:ρ x=.slice A n c)(h:kV E H T A n c l)(ht:prog.underlying t=some (.slice T.tid)):qB prog E H ρ o (.int .i64 n):=by
 intro u hu;obtain⟨_,h1,h2,_⟩:=h u hu;exact V.len ho ht hx (aBw h1 h2)
theorem Ty.jA(T:Ty α):∃ti,prog.info? T.tid=some ti∧ti.zero=some T.zero∧ti.size=T.size∧ti.bytes=T.bytes:=by
 have hi:=T.fW;cases hj:prog.info? T.tid with
 |none=>simp[hj] at hi
 |some ti=>simp[hj] at hi;exact⟨ti,rfl,hi.1,hi.2.1,hi.2.2⟩
theorem Y.TG{t:TypeId}{x lo:Operand}{k:IntKind}{i:Int}{j:Nat}(ho:o.op=.slice t x (some lo) none none)(hx:ρ x=.slice A n c)(hlo:ρ lo=.int k i)(h:kV E H T A n c l)(hj:i.toNat=j)(h0:0≤i)(hjn:j≤n)(ht:prog.underlying t=some (.slice T.tid)) :
  qB prog E H ρ o (.slice (if c=j then A else A.map (·.add (j*T.size))) (n - j) (c - j)):=by
 intro u hu;subst hj;obtain⟨_,h1,h2,_⟩:=h u hu;obtain⟨ti,hi,_,hsz,_⟩:=T.jA;have h0n:i.toNat≤n↔i≤n:=o_;simp[execOp,ho,hx,Instr.sliceAt,Instr.slice,Instr.sliceBounds,Instr.sliceBound,asIntOf,run_underlying ht,sizeOf,typeInfo,hi,hlo,h0,h0n.1 hjn,hsz];try (intro h;omega)
theorem Y.Se{t:TypeId}{x hi:Operand}{k:IntKind}{i:Int}{j:Nat}(ho:o.op=.slice t x none (some hi) none)(hx:ρ x=.slice A n c)(hhi:ρ hi=.int k i)(h:kV E H T A n c l)(hj:i.toNat=j)(h0:0≤i)(hjn:j≤n)(ht:prog.underlying t=some (.slice T.tid)) :
  qB prog E H ρ o (.slice A j c):=by
 intro u hu;subst hj;obtain⟨_,h1,h2,_⟩:=h u hu;obtain⟨ti,hi,_,hsz,_⟩:=T.jA;have e:(if c=0 then A else Option.map (λx=>x.add 0) A)=A:=by cases A<;>simp[Addr.add]
 have h0n:i≤c:=o_;simp[execOp,ho,hx,Instr.sliceAt,Instr.slice,Instr.sliceBounds,Instr.sliceBound,asIntOf,run_underlying ht,sizeOf,typeInfo,hi,hhi,h0,h0n,e]
theorem Y.IV{t:TypeId}{x hi mx:Operand}{k k2:IntKind}{i i2:Int}{j m:Nat}(ho:o.op=.slice t x none (some hi) (some mx))(hx:ρ x=.slice A n c)(hhi:ρ hi=.int k i)(hmx:ρ mx=.int k2 i2)(h:kV E H T A n c l)(hj:i.toNat=j)(h0:0≤i)(hm:i2.toNat=m)(h02:0≤i2)(hjm:j≤m)(hjn:m≤n)(ht:prog.underlying t=some (.slice T.tid)) :
  qB prog E H ρ o (.slice A j m):=by
 intro u hu;subst hj hm;obtain⟨_,h1,h2,_⟩:=h u hu;obtain⟨ti,hi,_,hsz,_⟩:=T.jA;have e:Option.map (λx=>x.add 0) A=A:=by cases A<;>simp[Addr.add]
 have h0n:i2≤c:=o_;have h0m:i≤i2:=o_;have e2:max i2 0=i2:=o_;simp[execOp,ho,hx,Instr.sliceAt,Instr.slice,Instr.sliceBounds,Instr.sliceBound,asIntOf,run_underlying ht,sizeOf,typeInfo,hi,hhi,hmx,h0,h02,h0n,h0m,e,e2]
theorem Y.LX{t:TypeId}{x lo hi:Operand}{k k2:IntKind}{i i2:Int}{j m:Nat}(ho:o.op=.slice t x (some lo) (some hi) none)(hx:ρ x=.slice A n c)(hlo:ρ lo=.int k i)(hhi:ρ hi=.int k2 i2)(h:kV E H T A n c l)(hj:i.toNat=j)(h0:0≤i)(hm:i2.toNat=m)(h02:0≤i2)(hjm:j≤m)(hjn:m≤n)(ht:prog.underlying t=some (.slice T.tid)) :
  qB prog E H ρ o (.slice (if c=j then A else A.map (·.add (j*T.size))) (m - j) (c - j)):=by
 intro u hu;subst hj hm;obtain⟨_,h1,h2,_⟩:=h u hu;obtain⟨ti,hi,_,hsz,_⟩:=T.jA;have h0n:i2≤c:=o_;have h0m:i≤i2:=o_;have e2:max i2 0=i2:=o_;simp[execOp,ho,hx,Instr.sliceAt,Instr.slice,Instr.sliceBounds,Instr.sliceBound,asIntOf,run_underlying ht,sizeOf,typeInfo,hi,hlo,hhi,h0,h02,h0n,h0m,hsz,e2]
end
theorem Y.Vt{s:TypeId}{x:Operand}{i:Nat}{fs:Array Field}{f:Field}{cs:Array Value}{d:TypeDesc}{v:Value}(ho:o.op=.field s x i)(hx:ρ x=.agg cs)(hs:P.underlying s=some (.struct fs))(hf:fs[i]?=some f)
  (ht:P.underlying f.type=some d) (hd:lT d=false) (hv:cs[f.offset]?=some v):qB P E H ρ o v:=by
 intro u _;cases d<;>simp[lT] at hd<;>simp[execOp,ho,hx,Instr.field,run_underlying hs,hf,asAgg,part,isAgg,run_underlying ht,hv]
structure Rec(P:Program)(t:TypeId)(z:List Value)(pl:List (Nat×Nat)):Prop where
 zero:((P.info? t).bind (·.zero)).map (·.cells.toList)=some z
 Iu:(match P.underlying t with|some (.struct fields)=>fields.toList.mapM (λf=>(P.info? f.type).map λi=>(f.offset,i.size))|_=>none)=some pl
def xG:List Value→Nat→List Value→List Value
 |cs,_,[]=>cs
 | [],_,_=>[]
 |_::cs,0,v::vs=>v::xG cs 0 vs
 |c::cs,k+1,vs=>c::xG cs k vs
def ED(pl:List (Nat×Nat))(z:List Value):List (Nat×Value)→Option (List Value)
 | []=>some z
 | (i,v)::rest=>match pl[i]? with
  |none=>none
  |some (off,size)=>bif Nat.beq v.cells.toList.length size&&Nat.ble (off+v.cells.toList.length) z.length then ED pl (xG z off v.cells.toList) rest else none
theorem BN:∀(cs:List Value) (k:Nat) (vs:List Value),k+vs.length≤cs.length→xG cs k vs=cs.take k++vs++cs.drop (k+vs.length)
 |cs,k,[],_=>by cases cs<;>simp[xG]
 | [],k,v::vs,h=>by simp at h
 |c::cs,0,v::vs,h=>by rw[xG,BN cs 0 vs (by simp at h⊢;omega)];simp[aEs]
 |c::cs,k+1,v::vs,h=>by
  have e0:xG (c::cs) (k+1) (v::vs)=c::xG cs k (v::vs):=by simp[xG]
  rw[e0,BN cs k (v::vs) (by simp at h⊢;omega)];rw[show k+1+(v::vs).length=(k+(v::vs).length)+1 by omega];simp
theorem CO(pl:List (Nat×Nat)):∀(parts:List (Nat×Value)) (z:Array Value) (out:List Value),ED pl z.toList parts=some out→Instr.fill (pl.toArray[·]?) z parts=some out.toArray
 | [],z,out,h=>by simp[ED] at h;subst h;simp[Instr.fill]
 | (i,v)::rest,z,out,h=>by
  unfold ED at h;cases hp:pl[i]? with
  |none=>simp[hp] at h
  |some q =>
   obtain⟨off,size⟩:=q;simp only[hp] at h;cases hc:(Nat.beq v.cells.toList.length size&&Nat.ble (off+v.cells.toList.length) z.toList.length) with
   |false=>rw[hc] at h;cases h
   |true =>
    rw[hc,cond_true] at h;rw[aAv] at hc;have h1:v.cells.toList.length=size:=aCz hc.1;have h2:off+v.cells.toList.length≤z.toList.length:=Nat.le_of_ble_eq_true hc.2;rw[BN _ _ _ h2] at h;have hf:∀(cs:List Value) (j:Nat) (acc:Array Value),off+j+cs.length≤acc.size→((cs.zipIdx j).foldl (λcs (x:Value×Nat)=>cs.setIfInBounds (off+x.2) x.1) acc).toList=acc.toList.take (off+j)++cs++acc.toList.drop (off+j+cs.length):=by
     intro cs
     induction cs with
     |nil=>intro j acc _;simp
     |cons c cs ih =>
      intro j acc hl;simp only[aAs] at hl;rw[List.zipIdx_cons,aFj,ih (j+1) _ (by simp;omega)];simp only[Array.toList_setIfInBounds,aAs];have e:=list_seg_step acc.toList (off+j) c cs (by simp;omega);simpa [aDv] using e
    have h3:=hf v.cells.toList 0 z (by simpa using h2);have h4:=CO pl rest (v.cells.zipIdx.foldl (λcs (x:Value×Nat)=>cs.setIfInBounds (off+x.2) x.1) z) out (by
     rw[←Array.foldl_toList,Array.toList_zipIdx,h3];simpa using h)
    rw[Instr.fill];simp only[List.getElem?_toArray,hp];rw[if_neg (by simp at h1 h2⊢;omega)];simpa using h4
def pv(ρ:Operand→Value):List (Nat×Operand)→List (Nat×Value)
 | []=>[]
 | (i,x)::l=>(i,ρ x)::pv ρ l
theorem KY(ρ:Operand→Value):∀l:List (Nat×Operand),(l.toArray.map λ(i,x)=>(i,ρ x)).toList=pv ρ l
 | []=>by simp[pv]
 | (i,x)::l=>by have:=KY ρ l;simp[pv] at this⊢;exact this
inductive PV(ρ:Operand→Value):List (Nat×Operand)→List (Nat×Value)→Prop
 |nil:PV ρ [] []
 |cons {i:Nat} {x:Operand} {v:Value} {l:List (Nat×Operand)} {vs:List (Nat×Value)} (h:ρ x=v) (t:PV ρ l vs):PV ρ ((i,x)::l) ((i,v)::vs)
theorem PV.eq{ρ:Operand→Value}{l:List (Nat×Operand)}{vs:List (Nat×Value)}(h:PV ρ l vs):pv ρ l=vs:=by
 induction h with
 |nil=>rfl
 |cons h _ ih=>rw[pv,h,ih]
inductive NL:Value→List Value→Prop
 |agg {l:List Value}:NL (.agg l.toArray) l
 |one {v:Value} (h:v.oneCell'=true):NL v [v]
theorem NL.eq{v:Value}{l:List Value}(h:NL v l):v.cells.toList=l:=by
 cases h with
 |agg=>simp[Value.cells]
 |one h=>cases v<;>first|rfl|cases h
inductive Kg:List Value→Nat→List Value→List Value→Prop
 |done {cs:List Value}:Kg cs 0 [] cs
 |aN {c v:Value} {cs vs out:List Value} (h:Kg cs 0 vs out):Kg (c::cs) 0 (v::vs) (v::out)
 |next {c:Value} {cs vs out:List Value} {k:Nat} (h:Kg cs k vs out):Kg (c::cs) (k+1) vs (c::out)
theorem Kg.eq{z:List Value}{k:Nat}{vs out:List Value}(h:Kg z k vs out):k+vs.length≤z.length∧xG z k vs=out:=by
 induction h with
 |done=>simp[xG]
 |aN h ih=>exact⟨by have:=ih.1;simp at this⊢;omega,by rw[xG,ih.2]⟩
 | @next c cs vs out k h ih =>
  refine⟨by have:=ih.1;simp at this⊢;omega,?_⟩;rw[←ih.2];cases vs with
  |nil=>simp[xG]
  |cons v vs=>simp[xG]
inductive OP(pl:List (Nat×Nat)):List Value→List (Nat×Value)→List Value→Prop
 |nil {z:List Value}:OP pl z [] z
 |cons {z z' cs out:List Value} {i off size:Nat} {v:Value} {rest:List (Nat×Value)} (h:pl[i]?=some (off,size)) (hc:NL v cs) (hp:Kg z off cs z') (hs:cs.length=size) (t:OP pl z' rest out):OP pl z ((i,v)::rest) out
theorem OP.eq{pl:List (Nat×Nat)}{z out:List Value}{vs:List (Nat×Value)}(h:OP pl z vs out):ED pl z vs=some out:=by
 induction h with
 |nil=>rfl
 |cons h hc hp hs t ih =>
  rw[ED,h];simp only;rw[hc.eq,show Nat.beq _ _=true from(by subst hs;exact aFw _),show Nat.ble _ _=true from Nat.ble_eq_true_of_le hp.eq.1];simp only[Bool.and_self,cond_true];rw[hp.eq.2,ih]
theorem Y.build{t:TypeId}{parts:List (Nat×Operand)}{vs:List (Nat×Value)}{z:List Value}{pl:List (Nat×Nat)}{cells:List Value}(ho:o.op=.build t parts.toArray)(hp:PV ρ parts vs)(hr:Rec P t z pl)(hb:OP pl z vs cells):qB P E H ρ o (.agg cells.toArray):=by
 intro u _;have hb:=hb.eq;have hp:=hp.eq;subst hp;have h1:=hr.zero;have h2:=hr.Iu;have:P.built t (parts.toArray.map λ(i,x)=>(i,ρ x)).toList=some cells.toArray:=by
  rw[KY];unfold Program.built;cases hi:P.info? t with
  |none=>simp[hi] at h1
  |some ti =>
   cases hz:ti.zero with
   |none=>simp[hi,hz] at h1
   |some zv =>
    simp[hi,hz] at h1;cases hu:P.underlying t with
    |none=>simp[hu] at h2
    |some d =>
     cases d<;>simp[hu] at h2
     simp only[hz,h2];exact CO pl _ _ _ (by rw[h1];exact hb)
 have hrun:=run_build u t _ cells.toArray this;simp only[execOp,ho,aAy];rw[hrun];rfl
theorem S.box{t:TypeId}{x:Operand}{v:Value}{cs:List Value}(ho:o.op=.box t x)(hx:ev F x=v)(hcs:NL v cs)(h:∀g,K (.pointer (some ⟨g,0,none⟩)) (aJ g t cs::H)):gK P N E F H o K:=by
 intro a u ha hu Kw Q' hK;unfold Oper.wp;rw[ha.eval,V.box (u:=u) ho hx];refine hK _ _ _ (h u.heap.size) ?_;refine hu.grow (l:=[aJ u.heap.size t cs]) rfl rfl rfl (by simp) (λb hb=>aDu _ _ _ hb) (F1:=λb=>b=u.heap.size) ⟨_,λ_=>False,λb=>by simp,λb _ h=>h,⟨λb=>aDl,?_⟩,λb h=>h⟩ (λb hb=>by omega);rw[heap_alloc_new,←hcs.eq]
theorem run_storeVar_row{t:TypeId}{g q:Nat}{v:Value}{ti:TypeInfo}{u:World}{cur:Array Value}{e:TypeId}(hi:P.info? t=some ti)(hs:v.cells.size=ti.size)(h1:∀x∈v.cells.toList,x.oneCell'=true)(hg:u.heap[g]?=some (.cells cur e (0,0)))(hq:q+v.cells.size≤cur.size) :
  (storeVar t ⟨g,q,none⟩ v).run P u=.ok () (u.setRow g (cur.toList.take q++v.cells.toList++cur.toList.drop (q+v.cells.size)).toArray):=by
 have:=run_storeCells_at P g q e v.cells.toList 0 cur u hg (by simpa using hq) h1;simp[storeVar,sizeOf,typeInfo,hi,hs] at this⊢;exact this
theorem St.setRow{u:World}(hu:St E H u){a b:aL}(hr:dT a [b] H H')(g:Nat)(cs:Array Value)(ha:∀F1,a.holds F1 u→F1 g∧b.holds F1 (u.setRow g cs)):St E H' (u.setRow g cs):=by
 refine hu.jX hr rfl rfl rfl (by simp) (G:=λk=>k=g) (λk _ hk=>setRow_other u g k cs hk) λF1 h1=>?_;obtain⟨h2,h3⟩:=ha F1 h1;exact⟨F1,⟨F1,λ_=>False,λb=>by simp,λ_ _ h=>h,h3,λ_ h=>h⟩,λb hb=>.inl hb,λb _ hb=>by rw[hb];exact h2⟩
theorem S.store{t:TypeId}{x y:Operand}{g i:Nat}{v:Value}{ti:TypeInfo}{bt:TypeId}{cs cs':List Value}(ho:o.op=.store t x y)(hx:ev F x=.pointer (some ⟨g,i,none⟩))(hy:ev F y=v)(h1:∀x∈v.cells.toList,x.oneCell'=true)(hi:P.info? t=some ti)(hs:v.cells.size=ti.size)
  (hr:dT (aJ g bt cs) [aJ g bt cs'] H H') (hq:i+v.cells.size≤cs.length) (hcs:cs.take i++v.cells.toList++cs.drop (i+v.cells.size)=cs') (h:K undef H'):gK P N E F H o K:=by
 intro a u ha hu Kw Q' hK;have hh:u.heap[g]?=some (.cells cs.toArray bt (0,0)):=by
  obtain⟨F0,h0,_⟩:=hu.fp;have:∀ {H H':List aL} {F0},dT (aJ g bt cs) [aJ g bt cs'] H H'→cT H F0 u→u.heap[g]?=some (.cells cs.toArray bt (0,0)):=by
   intro H H' F0 hr
   induction hr generalizing F0 with
   |aN=>rintro⟨F1,F2,_,_,⟨_,h⟩,_⟩;exact h
   |aM _ ih=>rintro⟨F1,F2,_,_,_,h⟩;exact ih h
  exact this hr h0
 have hst:=run_storeVar_row (u:=u) (q:=i) hi hs h1 hh (by simpa using hq);unfold Oper.wp;rw[ha.eval];have hrun:(execOp (ev F) o).run P u=.ok .skip (u.setRow g cs'.toArray):=by
  simp only[] at hst;rw[hcs] at hst;simp[execOp,ho,hx,hy,Instr.storeAt,Instr.sureAddr,hst]
 rw[hrun];refine hK undef _ _ h (St.setRow hu hr g _ λF1 ⟨k1,k2⟩=>⟨(k1 _).2 rfl,k1,?_⟩);exact setRow_heap u g _ _ _ _ hh
section
variable {α:Type} {T:Ty α} {A:Option Addr} {n c:Nat} {l:List α}
theorem zC{F1:Nat→Prop}{u:World}(hc:c≠0)(h:(own T A n c l).holds F1 u):u.ownsRow 0 T.tid T.size (.slice A n c) n (T.bT l)∧(∀b,F1 b↔Value.ownBlock (.slice A n c)=some b):=by
 obtain⟨h0,⟨_,h,_⟩|⟨g,cur,rfl,hF,hh,h1,h2,h3,h4⟩⟩:=h
 ·exact absurd h hc
 ·exact⟨⟨by rw[T.bM,←h0],.inr ⟨g,c,cur,rfl,aAh _,hh,h1,h2,h3,h4⟩⟩,λb=>by simp[Value.ownBlock,hF b,eq_comm]⟩
theorem Az{t ty:TypeId}{X:Option Addr}{nx cx:Nat}{u:World}(ht:prog.underlying t=some (.slice T.tid))(A:Option Addr)(h0:nx=0):(Builtin.append_ #[t,t] ty #[.slice A 0 0,.slice X nx cx]).run prog u=.ok (.slice A 0 0) u:=by
 subst h0;obtain⟨ti,hi,hz,hsz,hbt⟩:=T.jA;have hl:∀a:Addr,(loadCells a 0).run prog u=.ok #[] u:=λa=>run_loadCells_list (P:=prog) u a [] (λj v h=>by simp at h);cases A<;>cases X<;>simp[Builtin.append_,run_underlying ht,sizeOf,typeInfo,hi,Builtin.lenOf,Builtin.firstCells,storeCells,hl]
theorem Aq{t ty:TypeId}{X:Option Addr}{nx cx:Nat}{u:World}(ht:prog.underlying t=some (.slice T.tid))(A:Option Addr)(h0:nx≠0)(hn0:nx≤140737488355328)(hb:nx*T.bytes≤140737488355328):(Builtin.append_ #[t,t] ty #[.slice A 0 0,.slice X nx cx]).run prog u=(Builtin.append_ #[t,t] ty #[.slice none 0 0,.slice X nx cx]).run prog u:=by
 obtain⟨ti,hi,hz,hsz,hbt⟩:=T.jA;have hl:∀(a:Addr) (w:World),(loadCells a 0).run prog w=.ok #[] w:=λa w=>run_loadCells_list (P:=prog) w a [] (λj v h=>by simp at h);have h2:¬((9223372036854775807:Int)<nx∧ti.bytes=0):=o_;have h3:(Question.appendCap nx 0 T.tid).forced=false:=rfl;have hn:Builtin.nextslicecap nx 0=nx:=by unfold Builtin.nextslicecap;rw[if_pos o_]
 have h1:¬(281474976710656<nx*ti.bytes):=by rw[hbt];omega
 cases A with
 |none=>rfl
 |some a =>
  simp[Builtin.append_,run_underlying ht,sizeOf,typeInfo,hi,Builtin.lenOf,Builtin.firstCells,h0,hn,h1,h2,h3,hl]
theorem Cc{u:World}(h0:n=l.length)(h:u.ownsRow 0 T.tid T.size (.slice A n c) n (T.bT l)):(own T A n c l).holds (λb=>Value.ownBlock (.slice A n c)=some b) u:=by
 obtain⟨_,⟨hv,hz⟩|⟨g,cap,cur,hv,_,hh,h1,h2,h3,h4⟩⟩:=h
 ·injection hv with a b d
  subst a;subst d;exact⟨h0,.inl ⟨hz,rfl,λb hb=>by simp[Value.ownBlock] at hb⟩⟩
 ·injection hv with a b d
  subst a;subst d;exact⟨h0,.inr ⟨g,cur,rfl,λb=>by simp[Value.ownBlock,eq_comm],hh,h1,h2,h3,h4⟩⟩
theorem dT.has{a:aL}{l:List aL}(h:dT a l H H'):∃R,Has a H R:=by
 induction h with
 |aN=>exact⟨_,.aN⟩
 |aM _ ih=>obtain⟨R,h⟩:=ih;exact⟨_,.aM h⟩
theorem S.append_{s x:Operand}{t:TypeId}{X:Option Addr}{nx cx:Nat}{l2:List α}(ho:o.op=.call { callee:=.builtin .append,args:=#[s,x],argTypes:=#[t,t] })
  (hs:ev F s=.slice A n c) (hx:ev F x=.slice X nx cx) {HX:Option Addr→Nat→List aL} (hr:∀A' c',dT (own T A n c l) [own T A' (n+nx) c' (l++l2)] H (HX A' c')) (hrd:kV E H T X nx cx l2) (ht:prog.underlying t=some (.slice T.tid)) {by_:Nat} (hbb:T.bytes=by_) (hlen:n+nx≤140737488355328) (hby:(n+nx)*by_≤140737488355328)
  (h:∀A' c',n+nx≤c'→c'≤maxLen→K (.slice A' (n+nx) c') (HX A' c')):gK prog N E F H o K:=by
 subst hbb;intro a u ha hu Kw Q' hK;obtain⟨R,hhas⟩:=(hr none 0).has;obtain⟨F0,h0,_⟩:=hu.has hhas;have hn:=h0.1;obtain⟨ti,hi,hz,hsz,hbt⟩:=T.jA;obtain⟨k0,k1,k2,k3⟩:=hrd u hu;have hncap:=(qE h0).2.1;have hreads:Reads u u.heap.size T.size X nx (T.bT l2):=⟨by rw[T.bM,←k0],λgL=>by
  rcases k3 with k3|⟨ad,e,hc⟩
  ·omega
  ·refine⟨ad,e,?_,hc⟩;have hl:0<(T.bT l2).length:=by rw[T.bM,←k0];exact Nat.mul_pos gL T.gL
   have:=aEk _ _ (hc 0 _ (aAa hl))
   rwa [eQ] at this⟩
 by_cases hc0:c=0
 ·subst hc0;obtain rfl:n=0:=o_;obtain rfl:l=[]:=aBi hn.symm;by_cases hx0:nx=0
  ·subst hx0;obtain rfl:l2=[]:=aBi k0.symm;have hrun:=Az (T:=T) (ty:=o.type) (X:=X) (cx:=cx) (u:=u) ht A rfl;unfold Oper.wp;rw[ha.eval];have hx2:(execOp (ev F) o).run prog u=.ok (.value (.slice A 0 0)) u:=by
    unfold execOp;simp only[ho,resolve,invoke,builtin,aAy,aCc,aAr,aEb,aCi,aDo,hs,hx,hrun]
   rw[hx2];refine hK _ _ _ (h A 0 (aAf _) (aAh _)) ?_;exact hu.jX (hr A 0) rfl rfl rfl (aAf _) (G:=λ_=>False) (λ_ _ _=>rfl) λF1 h1=>⟨λ_=>False,⟨λ_=>False,λ_=>False,λb=>by simp,λ_ h=>h.elim,⟨rfl,.inl ⟨rfl,rfl,λ_ h=>h⟩⟩,λ_ h=>h⟩,λb hb=>hb.elim,λb _ hb=>hb.elim⟩
  ·obtain⟨v',w',hrun,hown',hg,hb⟩:=oF u 0 t o.type T.tid ti T.zero T.size T.bytes ht hi hz hsz hbt T.hzero T.gL (.slice none 0 0) 0 [] (World.ownsRow_nil u 0 _ _) u.heap.size X nx cx (T.bT l2) hreads (T.kS _) (by unfold maxLen;omega) hby (aAh _)
   rw[←Aq (T:=T) ht A hx0 o_ (by rw[aCa] at hby;exact hby)] at hrun;obtain⟨A',c',rfl⟩:∃A' c',v'=.slice A' (0+nx) c':=by
    rcases hown'.2 with⟨rfl,h0⟩|⟨g,cap,cur,rfl,_⟩
    ·omega
    ·exact⟨_,_,rfl⟩
   have hO:=Cc (T:=T) (A:=A') (n:=0+nx) (c:=c') (l:=l2) (by rw[aCa];exact k0) hown';have hcap:=qE hO;unfold Oper.wp;rw[ha.eval];have hx2:(execOp (ev F) o).run prog u=.ok (.value (.slice A' (0+nx) c')) w':=by
    unfold execOp;simp only[ho,resolve,invoke,builtin,aAy,aCc,aAr,aEb,aCi,aDo,hs,hx,hrun]
   rw[hx2];refine hK _ _ _ (h A' c' hcap.2.1 hcap.2.2.1) ?_;refine hu.jX (hr A' c') hg.os hg.tape hg.output hg.size (G:=λ_=>False) (λb hlt _=>hg.block b hlt (by simp[Value.ownBlock])) λF1 h1=>?_;refine⟨λb=>Value.ownBlock (.slice A' (0+nx) c')=some b,⟨λb=>Value.ownBlock (.slice A' (0+nx) c')=some b,λ_=>False,λb=>by simp,λ_ _ h=>h,by rw[aBq];exact hO,λ_ h=>h⟩,λb hbb=>?_,λb _ hG=>hG.elim⟩;rcases hb with hb|hb
   ·rw[hb] at hbb;simp[Value.ownBlock] at hbb
   ·right
    have:some b=some u.heap.size:=by rw[←hbb,hb]
    injection this with this;omega
 obtain⟨hown,_⟩:=zC hc0 h0;have key:∃v' w',(Builtin.append_ #[t,t] o.type #[.slice A n c,.slice X nx cx]).run prog u=.ok v' w'∧w'.ownsRow 0 T.tid T.size v' (n+nx) (T.bT l++T.bT l2)∧u.grownBy w' (Value.ownBlock (.slice A n c)) ∧
   (v'.ownBlock=Value.ownBlock (.slice A n c)∨v'.ownBlock=some u.heap.size):=by
  exact oF u 0 t o.type T.tid ti T.zero T.size T.bytes ht hi hz hsz hbt T.hzero T.gL _ n _ hown u.heap.size X nx cx (T.bT l2) hreads (T.kS _) (by unfold maxLen;omega) hby (aAh _)
 obtain⟨v',w',hrun,hown',hg,hb⟩:=key;obtain⟨A',c',rfl⟩:∃A' c',v'=.slice A' (n+nx) c':=by
  rcases hown'.2 with⟨rfl,h0⟩|⟨g,cap,cur,rfl,_⟩
  ·exact⟨none,0,by rw[h0]⟩
  ·exact⟨_,_,rfl⟩
 have hown2:w'.ownsRow 0 T.tid T.size (.slice A' (n+nx) c') (n+nx) (T.bT (l++l2)):=by rw[T.iU];exact hown'
 have hO:=Cc (T:=T) (l:=l++l2) (by rw[aAe,hn,k0]) hown2;have hcap:=qE hO;unfold Oper.wp;rw[ha.eval];have hx2:(execOp (ev F) o).run prog u=.ok (.value (.slice A' (n+nx) c')) w':=by
  unfold execOp;simp only[ho,resolve,invoke,builtin,aAy,aCc,aAr,aEb,aCi,aDo,hs,hx,hrun]
 rw[hx2];refine hK _ _ _ (h A' c' hcap.2.1 hcap.2.2.1) ?_;refine hu.jX (hr A' c') hg.os hg.tape hg.output hg.size (G:=λb=>Value.ownBlock (.slice A n c)=some b) (λb hlt hne=>hg.block b hlt (λe=>hne e.symm)) λF1 h1=>?_;obtain⟨_,hF⟩:=zC hc0 h1;refine⟨λb=>Value.ownBlock (.slice A' (n+nx) c')=some b,⟨λb=>Value.ownBlock (.slice A' (n+nx) c')=some b,λ_=>False,λb=>by simp,λ_ _ h=>h,hO,λ_ h=>h⟩,λb hbb=>?_,λb _ hG=>(hF b).2 hG⟩;rcases hb with hb|hb
 ·exact .inl ((hF b).2 (hb▸hbb))
 ·right
  have:some b=some u.heap.size:=by rw[←hbb,hb]
  injection this with this;omega
theorem S.Ot{s x:Operand}{t:TypeId}{X:Option Addr}{nx cx:Nat}{l2:List α}(ho:o.op=.call { callee:=.builtin .append,args:=#[s,x],argTypes:=#[t,t] })
  (hs:ev F s=.slice A n c) (hx:ev F x=.slice X nx cx) {HX:Option Addr→Nat→List aL} (hr:∀A' c',dT (own T A n c l) [own T A' (n+nx) c' (l++l2)] H (HX A' c')) (ht:prog.underlying t=some (.slice T.tid)) {by_:Nat} (hbb:T.bytes=by_) (hlen:n+nx≤140737488355328) (hby:(n+nx)*by_≤140737488355328)
  (h:∀A' c',n+nx≤c'→c'≤maxLen→K (.slice A' (n+nx) c') (HX A' c')):gK prog N E F (own T X nx cx l2::H) o K:=by
 intro a u ha hu Kw Q' hK;exact S.append_ ho hs hx (HX:=λA' c'=>own T X nx cx l2::HX A' c') (K:=λv H'=>∃H2,H'=own T X nx cx l2::H2∧K v H2) (λA' c'=>.aM (hr A' c')) (kV.own .aN) ht hbb hlen hby (λA' c' h1 h2=>⟨_,rfl,h A' c' h1 h2⟩) a u ha hu Kw Q' λv H' u' ⟨H2,e,hk⟩ hu'=>hK v H2 u' hk (by subst e;exact hu'.right (l:=[own T X nx cx l2]))
theorem S.append{s x:Operand}{t:TypeId}{X:Option Addr}{nx cx n':Nat}{l2 l':List α}(ho:o.op=.call { callee:=.builtin .append,args:=#[s,x],argTypes:=#[t,t] })
  (hs:ev F s=.slice A n c) (hx:ev F x=.slice X nx cx) (hn':n+nx=n') {HX:Option Addr→Nat→List aL} (hr:∀A' c',dT (own T A n c l) [own T A' n' c' l'] H (HX A' c')) (hrd:kV E H T X nx cx l2) (hl':l++l2=l') (ht:prog.underlying t=some (.slice T.tid)) {by_:Nat} (hbb:T.bytes=by_) (hlen:n'≤140737488355328) (hby:n'*by_≤140737488355328)
  (h:∀A' c',n'≤c'→c'≤maxLen→K (.slice A' n' c') (HX A' c')):gK prog N E F H o K:=by
 subst hn' hl';exact S.append_ ho hs hx hr hrd ht hbb hlen hby h
theorem S.SS{s x:Operand}{t:TypeId}{X:Option Addr}{nx cx n':Nat}{l2 l':List α}(ho:o.op=.call { callee:=.builtin .append,args:=#[s,x],argTypes:=#[t,t] })
  (hs:ev F s=.slice A n c) (hx:ev F x=.slice X nx cx) {H0:List aL} (hH:H0=own T X nx cx l2::H) (hn':n+nx=n') {HX:Option Addr→Nat→List aL} (hr:∀A' c',dT (own T A n c l) [own T A' n' c' l'] H (HX A' c')) (hl':l++l2=l') (ht:prog.underlying t=some (.slice T.tid)) {by_:Nat} (hbb:T.bytes=by_) (hlen:n'≤140737488355328) (hby:n'*by_≤140737488355328)
  (h:∀A' c',n'≤c'→c'≤maxLen→K (.slice A' n' c') (HX A' c')):gK prog N E F H0 o K:=by
 subst hn' hl' hH;exact S.Ot ho hs hx hr ht hbb hlen hby h
theorem S.Lj{s x:Operand}{t:TypeId}{X:Option Addr}{nx cx:Nat}{l2:List α}(ho:o.op=.call { callee:=.builtin .append,args:=#[s,x],argTypes:=#[t,t] })
  (hs:ev F s=.slice none 0 0) (hx:ev F x=.slice X nx cx) (hrd:kV E H T X nx cx l2) (ht:prog.underlying t=some (.slice T.tid)) {by_:Nat} (hbb:T.bytes=by_) (hlen:nx≤140737488355328) (hby:nx*by_≤140737488355328)
  (h:∀A' c',nx≤c'→c'≤maxLen→K (.slice A' nx c') (own T A' nx c' l2::H)):gK prog N E F H o K:=by
 have hc:aB E H (own T none 0 0 []::H):=λw hw=>by
  have:=hw.grow (l:=[own T none 0 0 []]) rfl rfl rfl (aAf _) (λ_ _=>rfl) (F1:=λ_=>False) ⟨λ_=>False,λ_=>False,λb=>by simp,λ_ h=>h.elim,⟨rfl,.inl ⟨rfl,rfl,λ_ h=>h⟩⟩,λ_ h=>h⟩ (λ_ h=>h.elim);exact this
 refine gK.conv hc (S.append_ (T:=T) (l2:=l2) (l:=[]) ho hs hx (HX:=λA' c'=>own T A' (0+nx) c' ([]++l2)::H) (λA' c'=>dT.aN) (λw hw=>hrd w (hw.right (l:=[own T none 0 0 []]))) ht hbb o_ (by rw[aCa];exact hby) ?_);intro A' c' h1 h2;rw[aCa] at h1⊢;exact h A' c' h1 h2
theorem Df{sz:Nat}:∀(vs:List Value) (k:Nat) (cells:Array Value),(∀v∈vs,v.cells.size=sz)→k*sz+vs.length*sz=cells.size →
  ∃out,Instr.fill (λi=>some (i*sz,sz)) cells (vs.zipIdx k |>.map λp=>(p.2,p.1))=some out∧out.toList=cells.toList.take (k*sz)++vs.flatMap (λv=>v.cells.toList)
 | [],k,cells,_,h=>⟨cells,rfl,by simp at h⊢;rw[aAj (by simp;omega)]⟩
 |v::vs,k,cells,hv,h=>by
  have h1:=hv v (by simp);have hsum:(vs.length+1)*sz=vs.length*sz+sz:=by rw[aDb,aDq]
  have hk1:(k+1)*sz=k*sz+sz:=by rw[aDb,aDq]
  rw[aAs,hsum] at h;have h2:k*sz+v.cells.size≤cells.size:=by rw[h1];omega
  have hf:∀(cs:List Value) (j:Nat) (acc:Array Value),k*sz+j+cs.length≤acc.size→((cs.zipIdx j).foldl (λcs (x:Value×Nat)=>cs.setIfInBounds (k*sz+x.2) x.1) acc).toList=acc.toList.take (k*sz+j)++cs++acc.toList.drop (k*sz+j+cs.length):=by
   intro cs
   induction cs with
   |nil=>intro j acc _;simp
   |cons c cs ih =>
    intro j acc hl;simp only[aAs] at hl;rw[List.zipIdx_cons,aFj,ih (j+1) _ (by simp;omega)];simp only[Array.toList_setIfInBounds,aAs];have e:=list_seg_step acc.toList (k*sz+j) c cs (by simp;omega);simpa [aDv] using e
  have h3:=hf v.cells.toList 0 cells (by simpa using h2);obtain⟨acc,hacc⟩:∃acc,acc=(v.cells.zipIdx.foldl (λcs (x:Value×Nat)=>cs.setIfInBounds (k*sz+x.2) x.1) cells):=⟨_,rfl⟩
  have h4:acc.toList=cells.toList.take (k*sz)++v.cells.toList++cells.toList.drop (k*sz+v.cells.size):=by
   rw[hacc,←Array.foldl_toList,Array.toList_zipIdx];simpa using h3
  have hsz:acc.size=cells.size:=by rw[←aDs,h4];simp;omega
  obtain⟨out,ho,hout⟩:=Df vs (k+1) acc (λx hx=>hv x (by simp[hx])) (by rw[hsz,hk1];omega);refine⟨out,?_,?_⟩
  ·rw[List.zipIdx_cons,aCi,Instr.fill];simp only[h1];rw[if_neg (by rw[h1] at h2;simp[];omega),←hacc];exact ho
  ·rw[hout,aDy,←aAb];congr 1;rw[h4,hk1,aBj (by simp[h1];rw[h1] at h2;omega)]
theorem S.buildSlice{t:TypeId}{m:Nat}{parts0:List (Nat×Operand)}{l:List α}(ho:o.op=.buildSlice t m parts0.toArray)(hp:pv (ev F) parts0=(l.map T.val).zipIdx.map λp=>(p.2,p.1))
  (ht:prog.underlying t=some (.slice T.tid)) (hm:l.length=m) (hbig:m*T.size≤2 ^ 24)
  (h:∀g,K (.slice (some ⟨g,0,none⟩) m m) (own T (some ⟨g,0,none⟩) m m l::H)):gK prog N E F H o K:=by
 subst hm;rw[←KY] at hp;obtain⟨parts,hparts⟩:∃parts,parts=parts0.toArray:=⟨_,rfl⟩
 rw[←hparts] at ho hp;clear hparts;intro a u ha hu Kw Q' hK;obtain⟨ti,hi,hz,hsz,hbt⟩:=T.jA;unfold Oper.wp;rw[ha.eval];have key:∃out:Array Value,(execOp (ev F) o).run prog u=.ok (.value (.slice (some ⟨u.heap.size,0,none⟩) l.length l.length)) (u.alloc (.cells out T.tid))∧out.toList=T.bT l:=by
  by_cases h0:l.length*T.size=0
  ·have hl:l=[]:=by
    rcases Nat.mul_eq_zero.1 h0 with h|h
    ·exact aBi h
    ·have:=T.gL;omega
   subst hl;refine⟨#[],?_,by simp[Ty.bT]⟩;have hp2:parts.map (λ(i,x)=>(i,ev F x))=#[]:=by apply Array.ext';simpa using hp
   simp[execOp,ho,Instr.buildSlice,run_underlying ht,sizeOf,typeInfo,hi,hp2,Instr.fill,newRow,Array.range_zero']
  ·obtain⟨out,ho2,hout⟩:=Df (sz:=T.size) (l.map T.val) 0 ((Array.range (l.length*T.size)).map (λi=>T.zero.cells[i % T.zero.cells.size]!)) (by intro v hv;obtain⟨x,_,rfl⟩:=aFn.1 hv;exact T.hlen x) (by simp);refine⟨out,?_,?_⟩
   ·have h1:¬l.length*T.size > 2 ^ 24:=o_;have hmap:(parts.map λ(i,x)=>(i,ev F x)).toList=((l.map T.val).zipIdx 0).map λp=>(p.2,p.1):=hp;have hs1:(sizeOf T.tid).run prog u=.ok T.size u:=by simp[sizeOf,typeInfo,hi,hsz]
    have hz1:(zeroValue T.tid).run prog u=.ok T.zero u:=by simp[zeroValue,typeInfo,hi,hz]
    simp only[execOp,ho,Instr.buildSlice,aAy,run_underlying ht,aAr,hs1,if_neg h1,if_neg h0,aCc,hz1,hmap,ho2];simp[newRow]
   ·rw[hout];simp[Ty.bT,List.flatMap_map];rfl
 obtain⟨out,hrun,hout⟩:=key;rw[hrun];refine hK _ _ _ (h u.heap.size) ?_;refine hu.grow (l:=[own T (some ⟨u.heap.size,0,none⟩) l.length l.length l]) rfl rfl rfl (by simp) (λb hb=>aDu _ _ _ hb) (F1:=λb=>b=u.heap.size) ⟨_,λ_=>False,λb=>by simp,λb _ h=>h,⟨rfl,.inr ⟨u.heap.size,out,rfl,λb=>aDl,heap_alloc_new _ _,aAf _,?_,?_,?_⟩⟩,λb h=>h⟩ (λb hb=>by omega)
 ·have:l.length*1≤l.length*T.size:=Nat.mul_le_mul_left _ T.gL;unfold maxLen;omega
 ·rw[←aDs,hout,T.bM]
 ·rw[hout,←T.bM];simp
theorem rP{F1:Nat→Prop}{u:World}{g q:Nat}(h:(own T A n c l).holds F1 u)(hA:ad A=⟨g,q,none⟩)(hn:0<n):F1 g∧q=0∧A=some ⟨g,0,none⟩∧∃cur:Array Value,u.heap[g]?=some (.cells cur T.tid (0,0))∧n≤c∧c≤maxLen∧cur.size=c*T.size∧cur.toList.take (n*T.size)=T.bT l:=by
 obtain⟨h0,⟨rfl,rfl,hF⟩|⟨g',cur,rfl,hF,hh,h1,h2,h3,h4⟩⟩:=h
 ·omega
 ·have e:g'=g∧0=q:=by simpa [ad] using hA
  obtain⟨rfl,rfl⟩:=e;exact⟨(hF _).2 rfl,rfl,rfl,cur,hh,h1,h2,h3,h4⟩
theorem S.GX{t:TypeId}{x:Operand}{e:α}{v:Value}(ho:o.op=.buildSlice t 1 #[(0,x)])(hx:ev F x=v)(hv:T.val e=v)
  (ht:prog.underlying t=some (.slice T.tid)) (hbig:1*T.size≤2 ^ 24)
  (h:∀g,K (.slice (some ⟨g,0,none⟩) 1 1) (own T (some ⟨g,0,none⟩) 1 1 [e]::H)):gK prog N E F H o K :=
 S.buildSlice (l:=[e]) (parts0:=[(0,x)]) ho (by simp[pv,hx,hv]) ht rfl hbig h
theorem dT.one{a b:aL}{R:List aL}:dT a [b] (a::R) (b::R):=dT.aN
theorem S.V7{P:Program}{t:TypeId}{x y:Operand}{g i:Nat}{v:Value}{ti:TypeInfo}{bt:TypeId}{cs cs':List Value}(ho:o.op=.store t x y)(hx:ev F x=.pointer (some ⟨g,i,none⟩))(hy:ev F y=v)(h1:v.oneCell'=true)(hi:P.info? t=some ti)(hs:ti.size=1)
  (hr:dT (aJ g bt cs) [aJ g bt cs'] H H') (hq:i<cs.length) (hcs:cs.set i v=cs') (h:K undef H'):gK P N E F H o K:=by
 have hc:v.cells=#[v]:=by cases v<;>first|rfl|cases h1
 refine S.store ho hx hy ?_ hi ?_ hr ?_ ?_ h
 ·rw[hc];intro x hx;simp at hx;subst hx;exact h1
 ·rw[hc,hs];rfl
 ·rw[hc];exact hq
 ·rw[hc,←hcs,aDg,if_pos hq];simp
theorem St.xO{u:World}(hu:St E H u){a b:aL}(hr:dT a [b] H H'):∃R,Has a H R∧∃F1,a.holds F1 u:=by
 obtain⟨R,h⟩:=hr.has;obtain⟨F0,h0,_⟩:=hu.has h;exact⟨R,h,F0,h0⟩
theorem K3{β:Type}(a b c d e f vs:List β)(hv:vs.length=c.length) :
  ((a++(b++(c++(d++(e++f))))).take (a.length+b.length)++vs++(a++(b++(c++(d++(e++f))))).drop (a.length+b.length+vs.length)).take (a.length+b.length+c.length+d.length+e.length) =
   a++(b++vs++d)++e:=by
 rw[hv];have h1:(a++(b++(c++(d++(e++f))))).take (a.length+b.length)=a++b:=by
  rw[←aAb,aBj (by simp)]
 have h2:(a++(b++(c++(d++(e++f))))).drop (a.length+b.length+c.length)=d++(e++f):=by
  rw[←aAb,←aAb,aBu (by simp;omega)]
 rw[h1,h2];have:a++b++vs++(d++(e++f))=(a++(b++vs++d)++e)++f:=by simp
 rw[this,aBj (by simp;omega)]
theorem QI{β:Type}(L vs:List β)(K1:Nat){j S1 N1:Nat}(hj:j+vs.length≤S1)(hS:K1+S1≤N1)(hN:N1≤L.length) :
  (L.take (K1+j)++vs++L.drop (K1+j+vs.length)).take N1=(L.take N1).take K1++((((L.take N1).drop K1).take S1).take j++vs++(((L.take N1).drop K1).take S1).drop (j+vs.length))++(L.take N1).drop (K1+S1):=by
 obtain⟨a,L1,rfl,ha⟩:∃a L1,L=a++L1∧a.length=K1:=⟨L.take K1,L.drop K1,by simp,by simp;omega⟩
 obtain⟨b,L2,rfl,hb⟩:∃b L2,L1=b++L2∧b.length=j:=⟨L1.take j,L1.drop j,by simp,by simp at hN⊢;omega⟩
 obtain⟨c,L3,rfl,hc⟩:∃c L3,L2=c++L3∧c.length=vs.length:=⟨L2.take vs.length,L2.drop vs.length,by simp,by simp at hN⊢;omega⟩
 obtain⟨d,L4,rfl,hd⟩:∃d L4,L3=d++L4∧d.length=S1 - j - vs.length:=⟨L3.take (S1 - j - vs.length),L3.drop (S1 - j - vs.length),by simp,by simp at hN⊢;omega⟩
 obtain⟨e,f,rfl,he⟩:∃e f,L4=e++f∧e.length=N1 - K1 - S1:=⟨L4.take (N1 - K1 - S1),L4.drop (N1 - K1 - S1),by simp,by simp at hN⊢;omega⟩
 have hM:(a++(b++(c++(d++(e++f))))).take N1=a++(b++(c++(d++e))):=by
  have:a++(b++(c++(d++(e++f))))=(a++(b++(c++(d++e))))++f:=by simp
  rw[this,aBj (by simp;omega)]
 have h3:(a++(b++(c++(d++e)))).drop (K1+S1)=e:=by
  have:a++(b++(c++(d++e)))=(a++(b++(c++d)))++e:=by simp
  rw[this,aBu (by simp;omega)]
 have h4:((a++(b++(c++(d++e)))).drop K1).take S1=b++(c++d):=by
  rw[aBu ha];have:b++(c++(d++e))=(b++(c++d))++e:=by simp
  rw[this,aBj (by simp;omega)]
 have h5:(b++(c++d)).drop (j+vs.length)=d:=by
  rw[←aAb,aBu (by simp;omega)]
 rw[hM,h3,h4,aBj ha,aBj hb,h5];have:=K3 a b c d e f vs hc.symm;rw[ha,hb] at this;rw[←this];congr 1;omega
theorem S.DM{x y:Operand}{t:TypeId}{q:Nat}{v:Value}{ti:TypeInfo}{k j:Nat}{e e':α}{a0:Addr}(ho:o.op=.store t x y)(hx:ev F x=.pointer (some a0))(hy:ev F y=v)(ha:a0=(ad A).add q)(h1:∀x∈v.cells.toList,x.oneCell'=true)
  (hi:prog.info? t=some ti) (hs:v.cells.size=ti.size) (hq:q=k*T.size+j) (he:l[k]?=some e) (hjs:j+v.cells.size≤T.size) (hv:(T.enc e).take j++v.cells.toList++(T.enc e).drop (j+v.cells.size)=T.enc e')
  (hr:dT (own T A n c l) [own T A n c (l.set k e')] H H') (h:K undef H'):gK prog N E F H o K:=by
 subst ha hq;intro a u ha hu Kw Q' hK;obtain⟨R,hhas,F0,h0⟩:=hu.xO hr;have hk:=(aAd.1 he).1;have hn:=h0.1;obtain⟨g,hA⟩:∃g,A=some ⟨g,0,none⟩:=by
  obtain⟨_,⟨rfl,h2,_⟩|⟨g,cur,rfl,_⟩⟩:=h0
  ·omega
  ·exact⟨g,rfl⟩
 subst hA;obtain⟨hF,_,_,cur,hh,h2,h3,h4,h5⟩:=rP (g:=g) (q:=0) h0 rfl o_;have hbound:k*T.size+j+v.cells.size≤cur.size:=by
  have e1:(k+1)*T.size≤c*T.size:=aBa _ o_;rw[aDb,aDq] at e1;omega
 have hst:=run_storeVar_row (P:=prog) (u:=u) (q:=k*T.size+j) hi hs h1 hh hbound;have e0:(ad (some ⟨g,0,none⟩)).add (k*T.size+j)=⟨g,k*T.size+j,none⟩:=by show(⟨g,0,none⟩:Addr).add _=_;rw[fB,aCa]
 unfold Oper.wp;rw[ha.eval];have hrun:(execOp (ev F) o).run prog u=.ok .skip (u.setRow g (cur.toList.take (k*T.size+j)++v.cells.toList++cur.toList.drop (k*T.size+j+v.cells.size)).toArray):=by
  simp only[execOp,ho,hx,hy,Instr.storeAt,Instr.sureAddr,e0,aAy,aCc,aAr,hst]
 rw[hrun];refine hK undef _ _ h (St.setRow hu hr g _ λF1 k1=>?_);obtain⟨m1,_,_,cur',m2,m3,m4,m5,m6⟩:=rP (g:=g) (q:=0) k1 rfl o_;rw[hh] at m2;injection m2 with m2;injection m2 with m2 _ _
 subst m2;have hFF:∀b,F1 b↔b=g:=by
  obtain⟨_,⟨h6,_⟩|⟨g',_,h6,h7,_⟩⟩:=k1
  ·omega
  ·injection h6 with h6;injection h6 with h6;subst h6;exact h7
 have hlen:(k+1)*T.size≤n*T.size:=aBa _ o_;have hl2:(k+1)*T.size=k*T.size+T.size:=by rw[aDb,aDq]
 refine⟨m1,by rw[aAt];exact hn,.inr ⟨g,_,rfl,hFF,setRow_heap u g _ _ _ _ hh,m3,m4,?_,?_⟩⟩
 ·simp;omega
 ·rw[T.Bo hk,←hv];have hgete:T.enc e=((T.bT l).drop (k*T.size)).take T.size:=by
   rw[T.gD,aAm hk,T.eW,aBj (T.dR _)];rw[(aAd.1 he).2]
  rw[hgete,←m6];have hvl:v.cells.size=v.cells.toList.length:=by simp
  rw[hvl,hl2];refine QI _ _ _ (by simpa using hjs) o_ ?_;rw[aDs,m5];exact aBa _ m3
theorem L.fact{ops:List Oper}{Q:QF}{os:List Oper}{p:Prop}{P:Program}(hp:∀w,St E H w→p)(h:p→L P N E ops Q os F H):L P N E ops Q os F H:=⟨λa w ha hw=>(h (hp w hw)).get a w ha hw⟩
theorem aK.fact{f:FuncId}{args:Array Value}{Q:Ending→List aL→Prop}{p:Prop}{P:Program}(hp:∀w,St E H w→p)(h:p→aK P E f args H Q):aK P E f args H Q:=λhd w hw=>h (hp w hw) hd w hw
theorem L.conv{ops:List Oper}{Q:QF}{os:List Oper}{P:Program}(hc:aB E H H')(h:L P N E ops Q os F H'):L P N E ops Q os F H:=⟨λa w ha hw=>h.get a w ha (hc w hw)⟩
theorem aK.conv{f:FuncId}{args:Array Value}{Q:Ending→List aL→Prop}{P:Program}(hc:aB E H H')(h:aK P E f args H' Q):aK P E f args H Q:=λhd w hw=>h hd w (hc w hw)
theorem St.unpack{X:Type}{l:X→List aL}{u:World}(h:St E H u)(hh:Has (pack l) H R):∃x,St E (l x++R) u:=by
 obtain⟨F0,h1,h2⟩:=h.fp;obtain⟨F1,F2,h3,h4,⟨x,h5⟩,h6⟩:=hh.cT h1;exact⟨x,h.os,h.tape,h.output,h.size,h.MH,h.lB,F0,aY.2 ⟨F1,F2,h3,h4,h5,h6⟩,h2⟩
theorem aK.unpack{f:FuncId}{args:Array Value}{Q:Ending→List aL→Prop}{P:Program}{X:Type}{l:X→List aL}(hh:Has (pack l) H R)(h:∀x,aK P E f args (l x++R) Q):aK P E f args H Q:=λhd w hw=>by
 obtain⟨x,hx⟩:=St.unpack hw hh;exact h x hd w hx
theorem aB.pack{X:Type}{l:X→List aL}(x:X)(hp:cS (l x) H R):aB E H (pack l::R):=λw hw=>by
 have h:=hw.aV hp;refine h.conv λF0 hs=>⟨F0,?_,λ_ h=>h⟩
 obtain⟨F1,F2,h3,h4,h5,h6⟩:=aY.1 hs;exact⟨F1,F2,h3,h4,⟨x,h5⟩,h6⟩
theorem aB.nil(T:Ty α):aB E H (own T none 0 0 []::H):=λw hw =>
 hw.grow (l:=[own T none 0 0 []]) rfl rfl rfl (aAf _) (λ_ _=>rfl) (F1:=λ_=>False) ⟨λ_=>False,λ_=>False,λb=>by simp,λ_ h=>h.elim,⟨rfl,.inl ⟨rfl,rfl,λ_ h=>h⟩⟩,λ_ h=>h⟩ (λ_ h=>h.elim)
def AO(F:Nat→Value):List Operand→List Value
 | []=>[]
 |x::l=>ev F x::AO F l
theorem AB(F:Nat→Value)(l:List Operand):AO F l=l.map (ev F):=by
 induction l with
 |nil=>rfl
 |cons x l ih=>simp[AO,ih]
inductive wK:List aL→List aL→List aL→Prop
 |nil {R:List aL}:wK [] R R
 |cons {a:aL} {l R H:List aL} (h:wK l R H):wK (a::l) R (a::H)
theorem wK.eq{l R H:List aL}(h:wK l R H):H=l++R:=by
 induction h with
 |nil=>rfl
 |cons _ ih=>rw[ih];rfl
theorem S.call{P:Program}{f:FuncId}{fn:Func}{ops:List Operand}{tys:Array TypeId}{Hp:List aL}{vs:List Value}{Q1:Ending→List aL→Prop}(ho:o.op=.call { callee:=.value (.func f),args:=ops.toArray,argTypes:=tys })(hvs:AO F ops=vs)
  (hfn:P.funcs[f]?=some fn) (hname:(fn.name == "runtime.NumGoroutine")=false) (hbody:fn.body.isNone=false)
  (hp:cS Hp H R) (h:∀M,Sub E R M→aK P M f vs.toArray Hp Q1) (hQ:∀e H',Q1 e H'→∃v,e=.returned v∧∃H2,wK H' R H2∧K v H2):gK P N E F H o K:=by
 subst hvs;intro a u ha hu Kw Q' hK;obtain⟨M,hds,hE,hst,hback⟩:=(hu.aV hp).enter;unfold Oper.wp;have hr:(execOp a.eval o).run P u=.ok (.enter f (AO F ops).toArray) u:=by
  have h1:¬fn.name = "runtime.NumGoroutine" := by simpa using hname
  have h2:¬fn.body=none:=by intro h;rw[h] at hbody;cases hbody
  rw[ha.eval,AB];simp[execOp,ho,resolve,ev,Deferred.ofValue,invoke,callFunc,hfn,h1,h2]
 rw[hr];refine(h M hE hds u hst).mono ?_;rintro e w' ⟨H',h3,h4⟩;obtain⟨v,rfl,H2,hcat,h5⟩:=hQ e H' h4;exact hK v _ w' h5 (by rw[hcat.eq];exact hback H' w' h3)
theorem S.Zp{P:Program}{t:TypeId}{x:Operand}{v:Value}{cs:List Value}(ho:o.op=.box t x)(hx:ev F x=v)(hcs:NL v cs):gK P N E F H o λr H'=>∃g,r=.pointer (some ⟨g,0,none⟩)∧H'=aJ g t cs::H :=
 S.box ho hx hcs λg=>⟨g,rfl,rfl⟩
theorem S.Rk{P:Program}{t:TypeId}{x y:Operand}{g i:Nat}{v:Value}{ti:TypeInfo}{bt:TypeId}{cs cs':List Value}(ho:o.op=.store t x y)(hx:ev F x=.pointer (some ⟨g,i,none⟩))(hy:ev F y=v)(h1:v.oneCell'=true)(hi:P.info? t=some ti)(hs:ti.size=1)
  (hr:dT (aJ g bt cs) [aJ g bt cs'] H H') (hq:i<cs.length) (hcs:cs.set i v=cs'):gK P N E F H o λr H1=>r=undef∧H1=H':=S.V7 ho hx hy h1 hi hs hr hq hcs ⟨rfl,rfl⟩
theorem S.KA{s x:Operand}{t:TypeId}{X:Option Addr}{nx cx n':Nat}{l2 l':List α}(ho:o.op=.call { callee:=.builtin .append,args:=#[s,x],argTypes:=#[t,t] })
  (hs:ev F s=.slice A n c) (hx:ev F x=.slice X nx cx) (hn':n+nx=n') {HX:Option Addr→Nat→List aL} (hr:∀A' c',dT (own T A n c l) [own T A' n' c' l'] H (HX A' c')) (hrd:kV E H T X nx cx l2) (hl':l++l2=l') (ht:prog.underlying t=some (.slice T.tid)) {by_:Nat} (hbb:T.bytes=by_) (hlen:n'≤140737488355328) (hby:n'*by_≤140737488355328) :
  gK prog N E F H o λr H1=>∃A' c',(n'≤c'∧c'≤maxLen)∧r=.slice A' n' c'∧H1=HX A' c':=S.append ho hs hx hn' hr hrd hl' ht hbb hlen hby λA' c' h1 h2=>⟨A',c',⟨h1,h2⟩,rfl,rfl⟩
theorem S.aIl{s x:Operand}{t:TypeId}{X:Option Addr}{nx cx n':Nat}{l2 l':List α}(ho:o.op=.call { callee:=.builtin .append,args:=#[s,x],argTypes:=#[t,t] })
  (hs:ev F s=.slice A n c) (hx:ev F x=.slice X nx cx) {H0:List aL} (hH:H0=own T X nx cx l2::H) (hn':n+nx=n') {HX:Option Addr→Nat→List aL} (hr:∀A' c',dT (own T A n c l) [own T A' n' c' l'] H (HX A' c')) (hl':l++l2=l') (ht:prog.underlying t=some (.slice T.tid)) {by_:Nat} (hbb:T.bytes=by_) (hlen:n'≤140737488355328) (hby:n'*by_≤140737488355328) :
  gK prog N E F H0 o λr H1=>∃A' c',(n'≤c'∧c'≤maxLen)∧r=.slice A' n' c'∧H1=HX A' c':=S.SS ho hs hx hH hn' hr hl' ht hbb hlen hby λA' c' h1 h2=>⟨A',c',⟨h1,h2⟩,rfl,rfl⟩
theorem S.H4{s x:Operand}{t:TypeId}{X:Option Addr}{nx cx:Nat}{l2:List α}(ho:o.op=.call { callee:=.builtin .append,args:=#[s,x],argTypes:=#[t,t] })
  (hs:ev F s=.slice none 0 0) (hx:ev F x=.slice X nx cx) (hrd:kV E H T X nx cx l2) (ht:prog.underlying t=some (.slice T.tid)) {by_:Nat} (hbb:T.bytes=by_) (hlen:nx≤140737488355328) (hby:nx*by_≤140737488355328) :
  gK prog N E F H o λr H1=>∃A' c',(nx≤c'∧c'≤maxLen)∧r=.slice A' nx c'∧H1=own T A' nx c' l2::H:=S.Lj ho hs hx hrd ht hbb hlen hby λA' c' h1 h2=>⟨A',c',⟨h1,h2⟩,rfl,rfl⟩
theorem S.pP{t:TypeId}{m:Nat}{parts0:List (Nat×Operand)}{l:List α}(ho:o.op=.buildSlice t m parts0.toArray)(hp:pv (ev F) parts0=(l.map T.val).zipIdx.map λp=>(p.2,p.1))
  (ht:prog.underlying t=some (.slice T.tid)) (hm:l.length=m) (hbig:m*T.size≤2 ^ 24):gK prog N E F H o λr H1=>∃g,r=.slice (some ⟨g,0,none⟩) m m∧H1=own T (some ⟨g,0,none⟩) m m l::H :=
 S.buildSlice ho hp ht hm hbig λg=>⟨g,rfl,rfl⟩
theorem S.cB{t:TypeId}{x:Operand}{e:α}{v:Value}(ho:o.op=.buildSlice t 1 #[(0,x)])(hx:ev F x=v)(hv:T.val e=v)
  (ht:prog.underlying t=some (.slice T.tid)) (hbig:1*T.size≤2 ^ 24):gK prog N E F H o λr H1=>∃g,r=.slice (some ⟨g,0,none⟩) 1 1∧H1=own T (some ⟨g,0,none⟩) 1 1 [e]::H :=
 S.GX ho hx hv ht hbig λg=>⟨g,rfl,rfl⟩
end
end
theorem S.Eo{α:Type}{T:Ty α}{N:Nat}{E:Env}{F:Nat→Value}{H H':List aL}{o:Oper}{A:Option Addr}{n c:Nat}{l:List α}{x y:Operand}{t:TypeId}{q k:Nat}{v:Value}{e e':α}(ho:o.op=.store t x y)(hx:ev F x=.pointer (some ((ad A).add q)))(hy:ev F y=v)(hr:dT (own T A n c l) [own T A n c (l.set k e')] H H')
  (he:l[k]?=some e) (hq:q=k*T.size) (hv:T.val e'=v) (ht:T.tid=t):gK prog N E F H o λr H1=>r=undef∧H1=H':=by
 subst ht;obtain⟨ti,hi,_,hs,_⟩:=T.jA;refine S.DM (k:=k) (j:=0) (e:=e) (e':=e') ho hx hy rfl (by rw[←hv];exact T.lJ e') hi (by rw[←hv,T.hlen,hs]) (by rw[hq];rfl) he (by rw[←hv,T.hlen];omega) ?_ hr ⟨rfl,rfl⟩;rw[←hv,T.hlen,aCg,aBq,aCa,aCn (by rw[T.dR];exact aAf _),aAc];rfl
theorem aS{a:aL}{H R:List aL}(h:Has a H R:=by(iterate 30 first|with_reducible exact Has.aN|apply Has.aM|skip);first|done|fail):Has a H R:=h
theorem aC{l H R:List aL}(h:cS l H R:=by(iterate 24 first|with_reducible exact cS.nil|(apply cS.cons;(· exact aS))|skip);first|done|fail):cS l H R:=h
theorem dH{a b:aL}{H H':List aL}(h:dT a [b] H H':=by(iterate 30 first|with_reducible exact dT.one|apply dT.aM|skip);first|done|fail):dT a [b] H H':=h
theorem bG{l R H:List aL}(h:wK l R H:=by(iterate 30 first|with_reducible exact wK.nil|apply wK.cons|skip);first|done|fail):wK l R H:=h
theorem eS{α:Type}{a b:α}(h:a=b:=by conv=>lhs;whnf):a=b:=h
theorem aF{α:Type}{a b:α}(h:a=b:=by(conv=>lhs;whnf);first|done|rfl):a=b:=h
theorem Ee{a b:Int}(h:a=b:=by first|with_reducible assumption|exact aAq _ o_|exact IntWalk.u8_in _ o_|exact aFp _ o_|exact IntWalk.u32_in _ o_|exact IntWalk.i32_in _ o_|exact IntKind.wrap_u8 _|exact IntKind.wrap_u64 _|exact IntKind.wrap_u32 _|rfl):a=b:=h
theorem ZR{a b:Int}(h:a=b:=by first|with_reducible assumption|exact IntWalk.i64_quo _ _ o_|exact IntWalk.u8_quo _ _ o_|exact IntWalk.u64_quo _ _ o_|exact IntWalk.u32_quo _ _ o_|exact IntWalk.i32_quo _ _ o_|rfl):a=b:=h
theorem ZM{a b:Int}(h:a=b:=by first|with_reducible assumption|exact IntWalk.rem_in _ _ o_|rfl):a=b:=h
theorem sW{a b:Bool}(h:a=b:=by first|rfl|assumption|exact decide_eq_true o_|exact decide_eq_false o_|exact congrArg not (decide_eq_false o_)|exact congrArg not (decide_eq_true o_)):a=b:=h
theorem nG{p:Prop}(h:p:=by omega):p:=h
theorem nD{p:Prop}(h:p:=by with_reducible assumption):p:=h
theorem nO{α:Type}{a b:α}(h:a=b:=by rfl):a=b:=h
theorem QC{p:Prop}(h:p:=by first|assumption|(unfold maxLen at *;omega)):p:=h
theorem dB{α:Type}{M:Env}{T:Ty α}{A:Option Addr}{n c:Nat}{l:List α}(h:Rd M T A n c l:=by first|exact Rd.sub (by assumption) nD|exact Sub.own (by assumption) aS|exact Sub.sl (by assumption) aS|exact Rd.nil _ _):Rd M T A n c l:=h
theorem Fp{α:Type}{E:Env}{H:List aL}{T:Ty α}{A:Option Addr}{n c:Nat}{l:List α}(h:kV E H T A n c l:=by first|exact kV.rd nD|exact kV.own aS|exact kV.sl aS):kV E H T A n c l:=h
theorem qF{α:Type}{E:Env}{H:List aL}{T:Ty α}{A:Option Addr}{n c:Nat}{l:List α}(h:kV E H T A n c l:=by first|exact kV.rd nD|exact kV.own aS|exact kV.sl aS|exact kV.rd (Rd.nil _ _)|(apply kV.inner;(· exact nD);(· exact QC);(· exact Fp);rotate_left;(· exact nO);rotate_right;(· exact nD))|exact kV.from_ Fp nG|exact kV.cut Fp nG nG|exact kV.up Fp nG|exact kV.upto Fp nG nG nG):kV E H T A n c l:=h
theorem Yf{E:Env}{H:List aL}{a:Addr}{v:Value}(h:Cell E H a v:=by first|exact Cell.aJ aS nO|(apply Cell.elem;(· exact qF);rotate_left;(· exact nO);rotate_right;(· exact nD);(· exact nO))|(apply Cell.Tw;(· exact qF);rotate_left;(· exact nO);rotate_right;(· exact nD);(· exact nO))|exact Cell.kc nD):Cell E H a v:=h
theorem TT{a b:List Value}(h:a=b:=by first|(conv=>lhs;simp only[List.set_cons_zero,List.set_cons_succ])|rfl):a=b:=h
theorem Yi{a b:Addr}(h:a=b:=by first|(conv=>lhs;simp only[fB,aCa,aFb,aFx,Nat.mul_one,Nat.reduceAdd,Nat.reduceMul])|rfl):a=b:=h
theorem sJ{a b:Nat}(h:a=b:=by first|(conv=>lhs;simp only[aAu,Int.reduceToNat])|exact aAu (@OfNat.ofNat Nat _ (instOfNatNat _))|rfl):a=b:=h
theorem l9{a b:Nat}(h:a=b:=by first|(conv=>lhs;simp only[aCa,aFb])|rfl):a=b:=h
theorem ZK{α:Type}{a b:List α}(h:a=b:=by first|(conv=>lhs;simp only[aBq])|rfl):a=b:=h
theorem Y4{p:Prop}(h:p:=by simp only[aAs,aDh];omega):p:=h
theorem YU{v:Value}{l:List Value}(h:NL v l:=by first|exact NL.agg|exact NL.one rfl|exact NL.one (by assumption)):NL v l:=h
theorem W3{cs:List Value}{k:Nat}{vs o:List Value}(h:Kg cs k vs o:=by(iterate 40 first|exact Kg.done|apply Kg.aN|apply Kg.next|skip);first|done|fail):Kg cs k vs o:=h
theorem Wo{pl:List (Nat×Nat)}{z:List Value}{vs:List (Nat×Value)}{o:List Value}(h:OP pl z vs o:=by(iterate 24 first|exact OP.nil|(apply OP.cons;(· exact rfl);(· exact YU);(· exact W3);(· exact rfl))|skip);first|done|fail):OP pl z vs o:=h
theorem o7{ρ:Operand→Value}{l:List (Nat×Operand)}{vs:List (Nat×Value)}(h:PV ρ l vs:=by(iterate 24 first|exact PV.nil|(apply PV.cons;(· exact eS))|skip);first|done|fail):PV ρ l vs:=h
theorem aD{F:Nat→Value}{l:List (Nat×Value)}(h:nH F l:=by(iterate 60 first|exact trivial|(apply And.intro;(· (first|rfl|assumption|((conv=>lhs;whnf);first|done|(congr 1;first|omega|(dsimp only;omega)|(simp[*];done)|(simp[*];omega))))))|skip);first|done|fail):nH F l:=h
theorem aA{E:Env}{H H':List aL}(h:aB E H H':=by first|first|exact aB.refl|exact aB.aV aC|(simp only[Bool.not_true,Bool.not_false,Bool.or_true,Bool.or_false,Bool.false_or,Bool.true_or,Bool.and_true,Bool.and_false,aCt,aCx];first|exact aB.refl|exact aB.aV aC)):aB E H H':=h
theorem bA{l:List Oper}{N:Nat}{F:Nat→Value}{g:Option (Nat×Bool)}(h:rE l N F true g:=by first|exact rE.none rfl|exact rE.on rfl sD rfl sW):rE l N F true g:=h
theorem EG{l:List Oper}{N:Nat}{F:Nat→Value}{g:Option (Nat×Bool)}(h:rE l N F false g:=by first|exact rE.off rfl sD rfl sW|exact rE.Sg rfl sD rfl):rE l N F false g:=h
def Xh(P:Program)(l:List Oper)(Q:Exit→Act→World→Prop)(S S2:World→Prop)(z:Nat):Nat→Array Bool→Act→World→Prop
 |0,listed,a,w=>Region.ready .any l.toArray listed=[]∧Q .normal a w
 |k+1,listed,a,w=>(Region.ready .any l.toArray listed=[]→Q .normal a w) ∧
  ∀i∈Region.ready .any l.toArray listed,wpOp P l.toArray Q i (λa' w'=>(i≠z→S w'∧Xh P l Q S S2 z k (listed.setIfInBounds i true) a' w')∧(i=z→S2 w'∧wpAnyH P .any l.toArray Q S2 k (listed.setIfInBounds i true) a' w')) a w
theorem J9{P:Program}{l:List Oper}{Q:Exit→Act→World→Prop}{S S2:World→Prop}{z:Nat}:∀(k:Nat) (listed:Array Bool) (a:Act) (w:World),Xh P l Q S S2 z k listed a w→wpAny P .any l.toArray Q k listed a w
 |0,_,_,_,h=>h
 |k+1,_,_,_,h=>⟨h.1,λi hi=>wpOp_mono (λa' w' h'=>by
   by_cases hz:i=z
   ·exact wpAny_of_held _ _ _ _ (h'.2 hz).2
   ·exact J9 k _ a' w' (h'.1 hz).2) (h.2 i hi)⟩
theorem GH{P:Program}{l:List Oper}{Q:Exit→Act→World→Prop}{S:World→Prop}{z:Nat}(hz:l.length≤z):∀(k:Nat) (listed:Array Bool) (a:Act) (w:World),Rp P l Q S z k listed a w→wpAnyH P .any l.toArray Q S k listed a w
 |0,_,_,_,h=>h
 |k+1,listed,_,_,h=>⟨h.1,λi hi=>wpOp_mono (λa' w' h'=>by
   have hne:i≠z:=by
    rintro rfl;obtain⟨_,o,ho,_⟩:=mem_ready.1 hi;rw[aCu (by simpa using hz)] at ho;cases ho
   exact⟨(h'.1 hne).1,GH hz k _ a' w' (h'.1 hne).2⟩) (h.2 i hi)⟩
theorem YieldsIf.mono{P:Program}{ops:Array Oper}{S S':World→Prop}{o:Oper}{v:Value}{a:Act}(h:YieldsIf P ops S o v a)(hs:∀u,S' u→S u):YieldsIf P ops S' o v a:=by
 rcases h with⟨h1,h2⟩|h
 ·exact .inl ⟨h1,λu hu=>h2 u (hs u hu)⟩
 ·exact .inr h
theorem DK{P:Program}{l:List Oper}{Q:Exit→Act→World→Prop}{S S2 S3:World→Prop}{z i:Nat}{oi:Oper}{v:Value}(hi:l.toArray[i]?=some oi)(hsel:∀(j:Nat) (o:Oper) cs b,l.toArray[j]?=some o→o.op≠.select cs b)
  (hQ:∀c a w,Q (.panic c) (a.put oi.dst v) w→Q (.panic c) a w) (hs3:∀u,S u→S3 u) (hz:late l z i=true∨∀u,S2 u→S3 u) (hne:i≠z) :
  ∀(k:Nat) (listed:Array Bool) (a:Act) (w:World),kX l listed →
   (∀j oj,l.toArray[j]?=some oj→j≠i→listed.getD j true=false→(∀e∈oj.after,Region.binds .any e=true→e.on≠i)→oi.apart l.toArray oj=true) →
   i∈Region.ready .any l.toArray listed→YieldsIf P l.toArray S3 oi v a→S w →
   Xh P l Q S S2 z k (listed.setIfInBounds i true) (a.put oi.dst v) w→Xh P l Q S S2 z (k+1) listed a w:=by
 intro k
 induction k with
 |zero =>
  intro listed a w _ _ hr hy hS h;refine⟨λh0=>(by rw[h0] at hr;cases hr),λj hj=>?_⟩;by_cases hji:j=i
  ·subst hji;exact(YieldsIf.mono hy hs3).wpOp hi hS ⟨λ_=>⟨hS,h⟩,λe=>absurd e hne⟩
  ·have:=ready_mono hj hji;rw[h.1] at this;cases this
 |succ k ih =>
  intro listed a w hcl hfree hr hy hS h;refine⟨λh0=>(by rw[h0] at hr;cases hr),λj hj=>?_⟩;by_cases hji:j=i
  ·subst hji;exact(YieldsIf.mono hy hs3).wpOp hi hS ⟨λ_=>⟨hS,h⟩,λe=>absurd e hne⟩
  ·have h1:=h.2 j (ready_mono hj hji);obtain⟨hjun,oj,hoj,hall⟩:=mem_ready.1 hj;have hnot:∀e∈oj.after,Region.binds .any e=true→e.on≠i:=λe he hb heq=>by
    have h1:=hall e he hb;have h0:=(mem_ready.1 hr).1;rw[heq] at h1;rcases Nat.lt_or_ge i listed.size with h'|h'
    ·simp[h'] at h0 h1;rw[h0] at h1;cases h1
    ·simp[aCu h'] at h1
   have h2:=wpOp_putIf hoj (hfree j oj hoj hji hjun hnot) (λcs b=>hsel i oi cs b hi) (λcs b=>hsel j oj cs b hoj) hQ hy h1;have hfree':∀m om,l.toArray[m]?=some om→m≠i→(listed.setIfInBounds j true).getD m true=false→(∀e∈om.after,Region.binds .any e=true→e.on≠i)→oi.apart l.toArray om=true:=λm om hm hmi hun hno=>by
    refine hfree m om hm hmi ?_ hno;by_cases hjm:j=m
    ·subst hjm;exact hjun
    ·rw[getD_set_ne true hjm] at hun;exact hun
   refine wpOp_mono (λa' w' h3=>⟨λhjz=>⟨(h3.2.1 hjz).1,ih (listed.setIfInBounds j true) a' w' (hcl.set hj) hfree' (ready_mono hr (aFh hji)) h3.1 (h3.2.1 hjz).1 ?_⟩,λhjz=>?_⟩) h2
   ·rw[aFm _ _ hji];exact(h3.2.1 hjz).2
   ·rcases hz with hz|hz
    ·exact absurd hj (hjz▸GR hz hne hcl hr)
    ·have h4:=h3.2.2 hjz;refine⟨h4.1,wpAnyH_first hi hsel hQ k (listed.setIfInBounds j true) a' w' hfree' (ready_mono hr (aFh hji)) (YieldsIf.mono h3.1 hz) h4.1 ?_⟩;rw[aFm _ _ hji];exact h4.2
section
variable {P:Program} {N:Nat} {E:Env} {F:Nat→Value} {H:List aL} {Q:QF} {z:Nat} {Hk Hk2:List aL}
structure Dt(P:Program)(N:Nat)(E:Env)(z:Nat)(l:List Oper)(Q:QF)(Hk Hk2:List aL)(todo:Td)(F:Nat→Value)(H:List aL):Prop where
 get:∀listed a u,kX l listed→Region.noSelect l.toArray=true→hU l l.length listed todo=true→qX E N F a→St E H u→St E Hk u→Xh P l (lift N E Q) (St E Hk) (St E Hk2) z todo.len listed a u
theorem C.Kp{id:Nat}{l:List Oper}(z:Nat)(todo:Td)(Hk Hk2:List aL)(hm:P.follows .mixedOrders=true)(hchk:(Region.noSelect l.toArray&&Nat.beq todo.len l.length&&hU l l.length (Array.replicate l.length false) todo)=true)(hk:aB E H Hk)(h:Dt P N E z l Q Hk Hk2 todo F H):C P N E (.region id l.toArray true) Q F H:=by
 simp only[aAv] at hchk;obtain⟨⟨h1,h2⟩,h3⟩:=hchk;have h2:=aCz h2;refine⟨λa w ha hw=>?_⟩;have:=h.get _ a w.drew (kX.start l) h1 h3 ha hw.drew (hk _ hw.drew);rw[h2] at this;exact wp_region_any hm (J9 _ _ _ _ (by simpa using this))
theorem Dt.take{i:Nat}{todo:Td}{l:List Oper}{d:Nat}{op:Op}{ty:TypeId}{pos:String}{af:Array Edge}{gd:Option (Nat×Bool)}{v:Value}(hi:nth l i=some ⟨some d,op,ty,pos,af,gd⟩)(hd:d<N)(hne:Nat.beq i z=false)(hg:rE l N F true gd)
  (hy:qB P E Hk (ev F) ⟨some d,op,ty,pos,af,gd⟩ v) (hy2:qB P E Hk2 (ev F) ⟨some d,op,ty,pos,af,gd⟩ v) (h:Dt P N E z l Q Hk Hk2 todo (pT F d v) H):Dt P N E z l Q Hk Hk2 (.one i false todo) F H:=by
 refine⟨λlisted a u hcl hs hc ha hu hk=>?_⟩;simp only[hU,cond_false,aAv] at hc;refine DK (S3:=λu=>St E Hk u∨St E Hk2 u) ((eX l i).symm.trans hi) (Region.noSelect_spec hs) (λc a w h=>wT h) (λ_ h=>.inl h) (.inr λ_ h=>.inr h) (by rintro rfl;rw[aFw] at hne;cases hne) _ _ _ _ hcl (Region.free_spec ((eX l i).symm.trans hi) hc.1.1.1.1) (by simpa using hc.1.1.1.2)
  (.inl ⟨hg.wanted (o:=⟨some d,op,ty,pos,af,gd⟩) ha,λu hu=>by rw[ha.eval];exact hu.elim (hy u) (hy2 u)⟩) hk ?_
 exact h.get _ _ u (hcl.set (by simpa using hc.1.1.1.2)) hs hc.2 (ha.put hd v) hu hk
theorem Dt.kL{i:Nat}{todo:Td}{l:List Oper}{d:Nat}{op:Op}{ty:TypeId}{pos:String}{af:Array Edge}{gd:Option (Nat×Bool)}{v:Value}(hi:nth l i=some ⟨some d,op,ty,pos,af,gd⟩)(hd:d<N)(hne:Nat.beq i z=false)(hl:late l z i=true)(hg:rE l N F true gd)
  (hy:qB P E Hk (ev F) ⟨some d,op,ty,pos,af,gd⟩ v) (h:Dt P N E z l Q Hk Hk2 todo (pT F d v) H):Dt P N E z l Q Hk Hk2 (.one i false todo) F H:=by
 refine⟨λlisted a u hcl hs hc ha hu hk=>?_⟩;simp only[hU,cond_false,aAv] at hc;refine DK (S3:=St E Hk) ((eX l i).symm.trans hi) (Region.noSelect_spec hs) (λc a w h=>wT h) (λ_ h=>h) (.inl hl) (by rintro rfl;rw[aFw] at hne;cases hne) _ _ _ _ hcl (Region.free_spec ((eX l i).symm.trans hi) hc.1.1.1.1) (by simpa using hc.1.1.1.2)
  (.inl ⟨hg.wanted (o:=⟨some d,op,ty,pos,af,gd⟩) ha,λu hu=>by rw[ha.eval];exact hy u hu⟩) hk ?_
 exact h.get _ _ u (hcl.set (by simpa using hc.1.1.1.2)) hs hc.2 (ha.put hd v) hu hk
theorem Dt.Aw{i:Nat}{todo:Td}{l:List Oper}{d:Option Nat}{op:Op}{ty:TypeId}{pos:String}{af:Array Edge}{gd:Option (Nat×Bool)}{K:Value→List aL→Prop}(hi:nth l i=some ⟨d,op,ty,pos,af,gd⟩)(hd:∀k,d=some k→k<N)(hne:Nat.beq i z=false)(hg:rE l N F true gd)
  (h:gK P N E F H ⟨d,op,ty,pos,af,gd⟩ K) (hk:∀v H',K v H'→aB E H' Hk∧Dt P N E z l Q Hk Hk2 todo (DJ F d v) H'):Dt P N E z l Q Hk Hk2 (.one i true todo) F H:=by
 refine⟨λlisted a u hcl hs hc ha hu hku=>?_⟩;simp only[hU,cond_true,aAv,beq_iff_eq] at hc;have hnz:i≠z:=by rintro rfl;rw[aFw] at hne;cases hne
 refine⟨λh0=>absurd (hc.1▸h0) (by simp),?_⟩;rw[hc.1];intro j hj;obtain rfl:j=i:=by simpa using hj
 have hi':l.toArray[j]?=some _:=(eX l j).symm.trans hi;unfold wpOp;simp only[hi',hg.wanted (o:=⟨d,op,ty,pos,af,gd⟩) ha,if_true];refine .inl (h a u ha hu _ _ ?_);intro v H' u' hA hu';obtain⟨hcv,hdt⟩:=hk v H' hA;refine⟨λ_=>⟨hcv u' hu',hdt.get _ _ u' (hcl.set (by rw[hc.1];simp)) hs hc.2 ?_ hu' (hcv u' hu')⟩,λe=>absurd e hnz⟩;cases d with
 |none=>exact ha
 |some k=>exact ha.put (hd k rfl) v
theorem Dt.We{todo:Td}{l:List Oper}{d:Option Nat}{op:Op}{ty:TypeId}{pos:String}{af:Array Edge}{gd:Option (Nat×Bool)}{K:Value→List aL→Prop}(hi:nth l z=some ⟨d,op,ty,pos,af,gd⟩)(hd:∀k,d=some k→k<N)(hg:rE l N F true gd)
  (h:gK P N E F H ⟨d,op,ty,pos,af,gd⟩ K) (hk:∀v H',K v H'→aB E H' Hk2∧Dr P N E l.length l Q Hk2 todo (DJ F d v) H'):Dt P N E z l Q Hk Hk2 (.one z true todo) F H:=by
 refine⟨λlisted a u hcl hs hc ha hu hku=>?_⟩;simp only[hU,cond_true,aAv,beq_iff_eq] at hc;refine⟨λh0=>absurd (hc.1▸h0) (by simp),?_⟩;rw[hc.1];intro j hj;obtain rfl:j=z:=by simpa using hj
 have hi':l.toArray[j]?=some _:=(eX l j).symm.trans hi;unfold wpOp;simp only[hi',hg.wanted (o:=⟨d,op,ty,pos,af,gd⟩) ha,if_true];refine .inl (h a u ha hu _ _ ?_);intro v H' u' hA hu';obtain⟨hcv,hdr⟩:=hk v H' hA;refine⟨λe=>absurd rfl e,λ_=>⟨hcv u' hu',GH (aAf _) _ _ _ _ (hdr.get _ _ u' (hcl.set (by rw[hc.1];simp)) hs hc.2 ?_ hu' (hcv u' hu'))⟩⟩;cases d with
 |none=>exact ha
 |some k=>exact ha.put (hd k rfl) v
end
end Go.Proofs.YtmilalkjbojciaaGreat.Sep
namespace Go.Proofs.YtmilalkjbojciaaGreat.Sep
open Go.RowKit Reg
open Mem hiding Rd
section
variable {N:Nat} {E:Env} {F:Nat→Value} {H H' R:List aL} {ρ:Operand→Value} {o:Oper} {α β:Type} {T:Ty α} {U:Ty β} {A:Option Addr} {n c:Nat} {l:List α}
theorem nN(T:Ty α)(z:α)(hz:T.val z=T.zero)(k:Nat):(madeCells T.zero.cells (k*T.size)).toList=T.bT (List.replicate k z):=by
 have hs:=T.hzero;apply aCk;intro i;by_cases hi:i<k*T.size
 ·have hq:i / T.size<k:=Nat.div_lt_of_lt_mul (by rw[aFy];exact hi);have hr:i % T.size<T.size:=Nat.mod_lt _ T.gL;have h1:(List.replicate k z)[i / T.size]?=some z:=by rw[aDc,if_pos hq]
  have h2:(T.enc z)[i % T.size]?=some ((T.enc z)[i % T.size]'(by rw[T.dR];exact hr)):=aAa _;have h3:=T.uK h1 h2;rw[show i / T.size*T.size+i % T.size=i by rw[aFy];exact Nat.div_add_mod i T.size] at h3;rw[h3];have h4:i % T.zero.cells.size<T.zero.cells.size:=by rw[hs];exact hr
  simp[madeCells,hi,Ty.enc,hz,hs];rw[getElem!_pos T.zero.cells (i % T.size) (by rw[hs];exact hr)]
 ·rw[aCo (by simp[madeCells];omega),aCo (by rw[T.bM,aAz];omega)]
theorem S.Io{t:TypeId}{x y:Operand}{k k2:IntKind}{i:Int}{z:α}{m:Nat}(ho:o.op=.makeSlice t x y)(hx:ev F x=.int k i)(hy:ev F y=.int k2 i)(hj:i.toNat=m)(h0:0≤i)(hz:T.val z=T.zero)(ht:prog.underlying t=some (.slice T.tid)){by_:Nat}(hb:T.bytes=by_)(hbig:by_*i≤281474976710656)(h63:i≤9223372036854775807) :
  gK prog N E F H o λr H1=>∃g,r=.slice (some ⟨g,0,none⟩) m m∧H1=own T (some ⟨g,0,none⟩) m m (List.replicate m z)::H:=by
 subst hj hb;intro a u ha hu Kw Q' hK;obtain⟨ti,hi,hzz,hsz,hbt⟩:=T.jA;have hrun:=run_make (P:=prog) u t T.tid ti T.zero ht hi hzz k k2 i i h0 (aCd _) (by rw[hbt];exact hbig) h63;unfold Oper.wp;rw[ha.eval];have hx2:(execOp (ev F) o).run prog u=.ok (.value (.slice (some ⟨u.heap.size,0,none⟩) i.toNat i.toNat)) (u.alloc (.cells (madeCells T.zero.cells (i.toNat*ti.size)) T.tid)):=by
  simp[execOp,ho,hx,hy,hrun]
 rw[hx2];refine hK _ _ _ ⟨u.heap.size,rfl,rfl⟩ ?_;refine hu.grow (l:=[own T (some ⟨u.heap.size,0,none⟩) i.toNat i.toNat (List.replicate i.toNat z)]) rfl rfl rfl (by simp) (λb hb=>aDu _ _ _ hb) (F1:=λb=>b=u.heap.size) ⟨_,λ_=>False,λb=>by simp,λb _ h=>h,⟨by simp,.inr ⟨u.heap.size,_,rfl,λb=>aDl,heap_alloc_new _ _,aAf _,?_,?_,?_⟩⟩,λb h=>h⟩ (λb hb=>by omega)
 ·unfold maxLen;omega
 ·rw[hsz,size_madeCells]
 ·rw[hsz,nN T z hz,aAj (by rw[T.bM];simp)]
theorem Y.O6{P:Program}{t e:TypeId}{x:Operand}{a:Addr}{m:Nat}{ti:TypeInfo}(ho:o.op=.slice t x none none none)(hx:ρ x=.pointer (some a))(ht:P.underlying t=some (.array m e))(hi:P.info? e=some ti):qB P E H ρ o (.slice (some a) m m):=by
 intro u _;have e0:(if m=0 then a else a.add 0)=a:=by split<;>simp[Addr.add]
 simp[execOp,ho,hx,Instr.sliceAt,run_underlying ht,Instr.sureAddr,Instr.sliceBounds,sizeOf,typeInfo,hi];try (intro _;simp[Addr.add])
theorem Lp{F1:Nat→Prop}{u:World}{g k j:Nat}{e e':α}{cur:Array Value}{vs:List Value}(h0:(own T (some ⟨g,0,none⟩) n c l).holds F1 u)(hh:u.heap[g]?=some (.cells cur T.tid (0,0)))(he:l[k]?=some e)
  (hjs:j+vs.length≤T.size) (hv:(T.enc e).take j++vs++(T.enc e).drop (j+vs.length)=T.enc e') :
  k*T.size+j+vs.length≤cur.size∧F1 g∧(own T (some ⟨g,0,none⟩) n c (l.set k e')).holds F1 (u.setRow g (cur.toList.take (k*T.size+j)++vs++cur.toList.drop (k*T.size+j+vs.length)).toArray):=by
 have hk:=(aAd.1 he).1;have hn:=h0.1;obtain⟨m1,_,_,cur',m2,m3,m4,m5,m6⟩:=rP (g:=g) (q:=0) h0 rfl o_;rw[hh] at m2;injection m2 with m2;injection m2 with m2 _ _
 subst m2;have hFF:∀b,F1 b↔b=g:=by
  obtain⟨_,⟨h6,_⟩|⟨g',_,h6,h7,_⟩⟩:=h0
  ·omega
  ·injection h6 with h6;injection h6 with h6;subst h6;exact h7
 have hlen:(k+1)*T.size≤n*T.size:=aBa _ o_;have hl2:(k+1)*T.size=k*T.size+T.size:=by rw[aDb,aDq]
 have hnc:n*T.size≤c*T.size:=aBa _ m3;refine⟨by omega,m1,by rw[aAt];exact hn,.inr ⟨g,_,rfl,hFF,setRow_heap u g _ _ _ _ hh,m3,m4,?_,?_⟩⟩
 ·simp;omega
 ·rw[T.Bo hk,←hv];have hgete:T.enc e=((T.bT l).drop (k*T.size)).take T.size:=by
   rw[T.gD,aAm hk,T.eW,aBj (T.dR _)];rw[(aAd.1 he).2]
  rw[hgete,←m6,hl2];refine QI _ _ _ hjs o_ ?_;rw[aDs,m5];exact hnc
theorem uA{X:Option Addr}{nx cx:Nat}{l2:List β}{u:World}(h:kV E H U X nx cx l2)(hu:St E H u):(Builtin.firstCells U.size nx (.slice X nx cx)).run prog u=.ok (U.bT l2).toArray u:=by
 obtain⟨h0,h1,h2,h3⟩:=h u hu;have hl:(U.bT l2).length=nx*U.size:=by rw[U.bM,h0]
 rcases h3 with h3|⟨a,rfl,hc⟩
 ·subst h3;have h4:U.bT l2=[]:=aBi (by rw[hl,aFx]);rw[h4];cases X with
  |none=>rfl
  |some a =>
   have:=run_loadCells_list (P:=prog) u a [] (by simp);simpa [Builtin.firstCells] using this
 ·have:=run_loadCells_list (P:=prog) u a (U.bT l2) hc;rw[hl] at this;simpa [Builtin.firstCells] using this
theorem S.RE{m:Nat}{xs:α→List β}{d s:Operand}{t t2:TypeId}{k q cd nx cx:Nat}{X:Option Addr}{l2:List β}{e e':α}(ho:o.op=.call { callee:=.builtin .copy,args:=#[d,s],argTypes:=#[t,t2] })
  (hd:ev F d=.slice (some ((ad A).add q)) m cd) (hs:ev F s=.slice X nx cx) (hA:ZO T U m xs) (hr:dT (own T A n c l) [own T A n c (l.set k e')] H H') (hrd:kV E H U X nx cx l2) (he:l[k]?=some e) (hq:q=k*T.size) (hn:nx≤m)
  (hv:xs e'=l2++(xs e).drop nx) (ht:prog.underlying t=some (.slice U.tid)) (hm:m≤maxLen):gK prog N E F H o λr H1=>r=.int .i64 (nx:Int)∧H1=H':=by
 subst hq;intro a u ha hu Kw Q' hK;obtain⟨R,hhas,F0,h0⟩:=hu.xO hr;have hk:=(aAd.1 he).1;have hn0:=h0.1;obtain⟨g,hA0⟩:∃g,A=some ⟨g,0,none⟩:=by
  obtain⟨_,⟨rfl,h2,_⟩|⟨g,cur,rfl,_⟩⟩:=h0
  ·omega
  ·exact⟨g,rfl⟩
 subst hA0;obtain⟨hF,_,_,cur,hh,h2,h3,h4,h5⟩:=rP (g:=g) (q:=0) h0 rfl o_;obtain⟨k0,_,_,_⟩:=hrd u hu;have hfc:=uA hrd hu;have hvl:(U.bT l2).length=nx*U.size:=by rw[U.bM,k0]
 have hms:m*U.size=T.size:=by have h1:=(hA e).1;have h2:=(hA e).2;rw[←T.dR e,h1,U.bM,h2]
 have hle:nx*U.size≤m*U.size:=aBa _ hn;have hpe:(T.enc e).take 0++U.bT l2++(T.enc e).drop (0+(U.bT l2).length)=T.enc e':=by
  rw[(hA e').1,hv,U.iU,(hA e).1,aCg,aBq,aCa,hvl,U.gD]
 have hp:∀F1,(own T (some ⟨g,0,none⟩) n c l).holds F1 u→_:=λF1 h=>Lp h hh he (by rw[aCa,hvl,←hms];exact hle) hpe;have hst:=run_storeCells_at prog g (k*T.size) T.tid (U.bT l2) 0 cur u hh (by have:=(hp F0 h0).1;omega) (U.kS l2);obtain⟨tu,hi,_,hsz,_⟩:=U.jA;have e0:(ad (some ⟨g,0,none⟩)).add (k*T.size)=⟨g,k*T.size,none⟩:=by show(⟨g,0,none⟩:Addr).add _=_;rw[fB,aCa]
 have hmin:Nat.min nx m=nx:=aBr hn;unfold Oper.wp;rw[ha.eval];have hw:IntKind.i64.wrap (nx:Int)=nx:=aAq _ (by unfold maxLen at hm;omega);have hrun:(execOp (ev F) o).run prog u=.ok (.value (.int .i64 (nx:Int))) (u.setRow g (cur.toList.take (k*T.size+0)++U.bT l2++cur.toList.drop (k*T.size+0+(U.bT l2).length)).toArray):=by
  simp[execOp,ho,resolve,invoke,builtin,hd,hs,Builtin.copy_,run_underlying ht,Builtin.lenOf,hmin,sizeOf,typeInfo,hi,hsz,hfc,e0,hst,goInt]
 rw[hrun];exact hK _ _ _ ⟨rfl,rfl⟩ (St.setRow hu hr g _ λF1 k1=>⟨(hp F1 k1).2.1,(hp F1 k1).2.2⟩)
theorem S.Vq{P:Program}{t:TypeId}{z:List Value}(ho:o.op=.alloc t)(hz:((P.info? t).bind (·.zero)).map (·.cells.toList)=some z):gK P N E F H o λr H'=>∃g,r=.pointer (some ⟨g,0,none⟩)∧H'=aJ g t z::H:=by
 intro a u ha hu Kw Q' hK;cases hi:P.info? t with
 |none=>simp[hi] at hz
 |some ti =>
  cases hzz:ti.zero with
  |none=>simp[hi,hzz] at hz
  |some zv =>
   simp[hi,hzz] at hz;have hrun:(execOp (ev F) o).run P u=.ok (.value (.pointer (some ⟨u.heap.size,0,none⟩))) (u.alloc (.cells zv.cells t)):=by
    simp[execOp,ho,Instr.alloc,newVar,newRow,zeroValue,typeInfo,hi,hzz]
   unfold Oper.wp;rw[ha.eval,hrun];refine hK _ _ _ ⟨u.heap.size,rfl,rfl⟩ ?_;refine hu.grow (l:=[aJ u.heap.size t z]) rfl rfl rfl (by simp) (λb hb=>aDu _ _ _ hb) (F1:=λb=>b=u.heap.size) ⟨_,λ_=>False,λb=>by simp,λb _ h=>h,⟨λb=>aDl,?_⟩,λb h=>h⟩ (λb hb=>by omega);rw[heap_alloc_new,←hz]
inductive Fm:List Value→Nat→Nat→List Value→Prop
 |done {cs:List Value}:Fm cs 0 0 []
 |aN {c:Value} {cs vs:List Value} {n:Nat} (h:Fm cs 0 n vs):Fm (c::cs) 0 (n+1) (c::vs)
 |next {c:Value} {cs vs:List Value} {k n:Nat} (h:Fm cs k n vs):Fm (c::cs) (k+1) n vs
theorem Fm.eq{cs vs:List Value}{k n:Nat}(h:Fm cs k n vs):vs.length=n∧∀j v,vs[j]?=some v→cs[k+j]?=some v:=by
 induction h with
 |done=>simp
 | @aN c cs vs n h ih =>
  refine⟨by simp[ih.1],λj v hj=>?_⟩;cases j with
  |zero=>simpa using hj
  |succ j=>have:=ih.2 j v (by simpa using hj);rw[aCa] at this⊢;simpa using this
 | @next c cs vs k n h ih =>
  refine⟨ih.1,λj v hj=>?_⟩;have:=ih.2 j v hj;rw[show k+1+j=(k+j)+1 by omega];simpa using this
theorem Cells.M5{g:Nat}{t:TypeId}{cs vs:List Value}{i m:Nat}(h:Has (Sep.aJ g t cs) H R)(hs:Fm cs i m vs):Cells E H ⟨g,i,none⟩ vs:=λw hw j u hu=>by
 obtain⟨F0,⟨_,h1⟩,_⟩:=hw.has h;rw[fB,cell_of_row _ _ _ _ _ _ h1];simpa using hs.eq.2 j u hu
theorem Y.Si{P:Program}{t:TypeId}{x:Operand}{g i m:Nat}{bt:TypeId}{cs vs:List Value}{d:TypeDesc}{ti:TypeInfo}(ho:o.op=.load t x)(hx:ρ x=.pointer (some ⟨g,i,none⟩))(ht:P.underlying t=some d)(hd:lT d=true)(hi:P.info? t=some ti)(hm:ti.size=m)
  (hb:Has (aJ g bt cs) H R) (hs:Fm cs i m vs):qB P E H ρ o (.agg vs.toArray) :=
 Y.xE ho hx ht hd hi (hm.trans hs.eq.1.symm) (Cells.M5 hb hs)
theorem Y.O5{P:Program}{t:TypeId}{x:Operand}{q j k m:Nat}{e:α}{vs:List Value}{d:TypeDesc}{ti:TypeInfo}(ho:o.op=.load t x)(hx:ρ x=.pointer (some (((ad A).add q).add j)))(h:kV E H T A n c l)(he:l[k]?=some e)(hq:q=k*T.size)(ht:P.underlying t=some d)(hd:lT d=true)(hi:P.info? t=some ti)(hm:ti.size=m)
  (hs:Fm (T.enc e) j m vs):qB P E H ρ o (.agg vs.toArray):=by
 refine Y.xE ho hx ht hd hi (hm.trans hs.eq.1.symm) λw hw i u hu=>?_;rw[jI];exact Cells.elem h he hq w hw _ u (hs.eq.2 i u hu)
theorem S.MN{P:Program}{t:TypeId}{x y:Operand}{g i:Nat}{vs:List Value}{ti:TypeInfo}{bt:TypeId}{cs cs':List Value}(ho:o.op=.store t x y)(hx:ev F x=.pointer (some ⟨g,i,none⟩))(hy:ev F y=.agg vs.toArray)(h1:vs.all Value.oneCell'=true)(hi:P.info? t=some ti)(hs:vs.length=ti.size)
  (hr:dT (aJ g bt cs) [aJ g bt cs'] H H') (hcs:Kg cs i vs cs'):gK P N E F H o λr H1=>r=undef∧H1=H':=by
 have h2:=hcs.eq;refine S.store ho hx hy ?_ hi (by simpa [Value.cells] using hs) hr (by simpa [Value.cells] using h2.1) ?_ ⟨rfl,rfl⟩
 ·intro v hv;exact aDm.1 h1 v (by simpa [Value.cells] using hv)
 ·rw[←h2.2,BN _ _ _ h2.1];simp[Value.cells]
theorem Y.Ve{P:Program}{s:TypeId}{x:Operand}{i:Nat}{fs:Array Field}{f:Field}{vs:List Value}{d:TypeDesc}{v:Value}(ho:o.op=.field s x i)(hx:ρ x=.agg vs.toArray)(hs:P.underlying s=some (.struct fs))(hf:fs[i]?=some f)
  (ht:P.underlying f.type=some d) (hd:lT d=false) (hv:vs[f.offset]?=some v):qB P E H ρ o v :=
 Y.Vt ho hx hs hf ht hd (by simpa using hv)
theorem Eh{P:Program}{u:World}(d:Nat){t e:TypeId}(ht:P.underlying t=some (.slice e))(A:Option Addr)(n c:Nat):(Op.equalIn (d+1) t (.slice A n c) (.slice none 0 0)).run P u=.ok A.isNone u:=by
 cases A<;>simp[Op.equalIn,run_underlying ht]
theorem IS{P:Program}{u:World}{t e:TypeId}(ht:P.underlying t=some (.slice e))(A:Option Addr)(n c:Nat):(binOp .eql t (.slice A n c) (.slice none 0 0)).run P u=.ok (.bool A.isNone) u:=by
 simp only[binOp];cases A<;>simp[Op.equal,Op.maxDepth,Eh 9999 ht]
theorem V.Z5{P:Program}{x y:Operand}{t t' e:TypeId}{n c:Nat}{A:Option Addr}{u:World}(ho:o.op=.binOp .eql t x y t')(ht:P.underlying t=some (.slice e))(hx:ρ x=.slice A n c)(hy:ρ y=.slice none 0 0):(execOp ρ o).run P u=.ok (.value (.bool A.isNone)) u:=by
 have h:=IS (u:=u) ht A n c;simp only[execOp,ho,hx,hy,eqGuard];simp[h]
theorem aB.oR(T:Ty α)(A:Option Addr):aB E H (own T A 0 0 []::H):=λw hw =>
 hw.grow (l:=[own T A 0 0 []]) rfl rfl rfl (aAf _) (λ_ _=>rfl) (F1:=λ_=>False) ⟨λ_=>False,λ_=>False,λb=>by simp,λ_ h=>h.elim,⟨rfl,.inl ⟨rfl,rfl,λ_ h=>h⟩⟩,λ_ h=>h⟩ (λ_ h=>h.elim)
end
theorem K6{cs:List Value}{k n:Nat}{vs:List Value}(h:Fm cs k n vs:=by(iterate 40 first|exact Fm.done|apply Fm.aN|apply Fm.next|skip);first|done|fail):Fm cs k n vs:=h
def aU:Ty UInt8 where
 val b:=.int .u8 (b.toNat:Int)
 size:=1
 bytes:=1
 tid:=5
 zero:=.int .u8 0
 hlen _:=rfl
 lJ a u h:=by simp only[Value.cells,aAp] at h;subst h;rfl
 gL:=sD
 hzero:=rfl
 fW:=q_
 nR:=.inr ⟨q_,λ_=>rfl⟩
theorem PC(x:Int)(h0:0≤x)(h1:x<256):aU.val (UInt8.ofNat x.toNat)=.int .u8 x:=by
 have e:((x.toNat % 256:Nat):Int)=x:=o_;simp[aU,e]
theorem Y.str{E:Env}{H:List aL}{ρ:Operand→Value}{o:Oper}{x:Operand}{A:Option Addr}{n c:Nat}{l:List UInt8}(ho:o.op=.convert 70 9 x)(hx:ρ x=.slice A n c)(h:kV E H aU A n c l):qB prog E H ρ o (.string (T0 l)):=by
 intro u hu;obtain⟨h0,h1,h2,h3⟩:=h u hu;have hr:Mem.Rd Fq u u.heap.size A n c l:=by
  refine⟨h0,h1,h2,?_,λhn=>?_⟩
  ·rw[Fq.bM,←h0]
  ·rcases h3 with h3|⟨ad,e,hc⟩
   ·omega
   ·have hl:0<(aU.bT l).length:=by rw[aU.bM,←h0];exact Nat.mul_pos hn aU.gL
    have:=aEk _ _ (hc 0 _ (aAa hl));exact⟨ad,e,by rwa [eQ] at this,hc⟩
 exact V.convert ho hx (VD hr)
def Ey:UInt8:=0
theorem AL{a b:List aL}{x:aL}{F:Nat→Prop}{w:World}:cT (a++x::b) F w↔cT (x::(a++b)) F w:=by
 constructor
 ·intro h;obtain⟨F1,F2,h1,h2,h3,G1,G2,g1,g2,g3,g4⟩:=aY.1 h;refine⟨G1,λk=>F1 k∨G2 k,λk=>?_,?_,g3,aY.2 ⟨F1,G2,λk=>aDl,λk hk hg=>h2 k hk ((g1 k).2 (.inr hg)),h3,g4⟩⟩
  ·rw[h1 k,g1 k];constructor<;>(rintro(h|h|h)<;>simp[h])
  ·rintro k hk (h|h)
   ·exact h2 k h ((g1 k).2 (.inl hk))
   ·exact g2 k hk h
 ·rintro⟨F1,F2,h1,h2,h3,h4⟩;obtain⟨G1,G2,g1,g2,g3,g4⟩:=aY.1 h4;refine aY.2 ⟨G1,λk=>F1 k∨G2 k,λk=>?_,?_,g3,F1,G2,λk=>aDl,λk hk hg=>h2 k hk ((g1 k).2 (.inr hg)),h3,g4⟩
  ·rw[h1 k,g1 k];constructor<;>(rintro(h|h|h)<;>simp[h])
  ·rintro k hk (h|h)
   ·exact h2 k h ((g1 k).2 (.inl hk))
   ·exact g2 k hk h
def aO{X:Type}(f:X→aL)(l:List X):aL where
 holds F w:=cT (l.map f) F w
 loc h hk:=iJ h hk
 lt h hb:=mP h hb
section
variable {X α:Type} {f:X→aL} {l l':List X} {E M:Env} {H R:List aL} {T:Ty α} {A:Option Addr} {n c:Nat} {b:List α}
theorem aB.kP(f:X→aL):aB E H (aO f []::H):=λw hw =>
 hw.grow (l:=[aO f []]) rfl rfl rfl (aAf _) (λ_ _=>rfl) (F1:=λ_=>False) ⟨λ_=>False,λ_=>False,λb=>by simp,λ_ h=>h.elim,λ_ h=>h,λ_ h=>h⟩ (λ_ h=>h.elim)
theorem aB.out{i:Nat}{x:X}(h:Has (aO f l) H R)(hx:l[i]?=some x):aB E H (f x::aO f (l.eraseIdx i)::R):=λw hw=>hw.conv λF hs=>by
 obtain⟨F1,F2,h1,h2,h3,h4⟩:=h.cT hs;obtain⟨hi,rfl⟩:=aAd.1 hx;have e1:l=l.take i++l[i]::l.drop (i+1):=by rw[List.getElem_cons_drop,aAx]
 have e2:l.eraseIdx i=l.take i++l.drop (i+1):=aDp ..;have h3':cT (l.map f) F1 w:=h3;have e3:l.map f=(l.take i).map f++f l[i]::(l.drop (i+1)).map f:=by
  have:=congrArg (List.map f) e1;rw[aBk,aCi] at this;exact this
 rw[e3] at h3';obtain⟨G1,G2,g1,g2,g3,g4⟩:=AL.1 h3';refine⟨F,⟨G1,λk=>G2 k∨F2 k,λk=>by rw[h1 k,g1 k,or_assoc],?_,g3,G2,F2,λk=>aDl,λk hk hg=>h2 k ((g1 k).2 (.inr hk)) hg,?_,h4⟩,λ_ h=>h⟩
 ·rintro k hk (hg|hg)
  ·exact g2 k hk hg
  ·exact h2 k ((g1 k).2 (.inl hk)) hg
 ·show cT ((l.eraseIdx i).map f) G2 w;rw[e2,aBk];exact g4
theorem aB.BH{i:Nat}{x:X}(h:cS [f x,aO f l] H R)(hl:l'=l.take i++x::l.drop i):aB E H (aO f l'::R):=λw hw=>(hw.aV h).conv λF hs=>by
 obtain⟨F1,F2,h1,h2,h3,G1,G2,g1,g2,g3,g4⟩:=hs;refine⟨F,⟨λk=>F1 k∨G1 k,G2,λk=>by rw[h1 k,g1 k,or_assoc],?_,?_,g4⟩,λ_ h=>h⟩
 ·rintro k (hk|hk) hg
  ·exact h2 k hk ((g1 k).2 (.inr hg))
  ·exact g2 k hk hg
 ·show cT (l'.map f) _ w;rw[hl,aBk,aCi];refine AL.2 ⟨F1,G1,λk=>aDl,λk hk hg=>h2 k hk ((g1 k).2 (.inl hg)),h3,?_⟩;rw[←aBk,aAx];exact g3
theorem aB.push{x:X}(h:cS [f x,aO f l] H R):aB E H (aO f (l++[x])::R):=aB.BH (i:=l.length) h (by simp)
theorem uO{i:Nat}{x:X}(h:i<l.length):l.set i x=(l.eraseIdx i).take i++x::(l.eraseIdx i).drop i:=by
 have e2:l.eraseIdx i=l.take i++l.drop (i+1):=aDp ..;have e3:(l.take i).length=i:=by simp;omega
 rw[e2,aBj e3,aBu e3,aDg,if_pos h]
theorem Has.aO{i:Nat}{x:X}(h:Has (Sep.aO f l) H R)(hx:l[i]?=some x){w:World}(hw:St E H w):∃F,(f x).holds F w:=by
 obtain⟨F,h1,h2⟩:=(aB.out (E:=E) h hx w hw).fp;obtain⟨F1,F2,_,_,h3,_⟩:=h1;exact⟨F1,h3⟩
theorem kV.aO{i:Nat}{x:X}(h:Has (Sep.aO f l) H R)(hx:l[i]?=some x)(hf:f x=Sep.own T A n c b):kV E H T A n c b:=λw hw=>by
 obtain⟨F,h1⟩:=h.aO hx hw;rw[hf] at h1;obtain⟨k0,k1,k2,k3⟩:=qE h1;exact⟨k0,k1,k2,k3.imp id λ⟨ad,e,_,hc⟩=>⟨ad,e,hc⟩⟩
theorem Sub.aO{R':List aL}(hE:Sub E R M){i:Nat}{x:X}(h:Has (Sep.aO f l) R R')(hx:l[i]?=some x)(hf:f x=Sep.own T A n c b):Rd M T A n c b:=by
 obtain⟨F,h1,h2⟩:=hE.fr;obtain⟨F1,F2,h3,_,h5,_⟩:=h.cT h1;obtain⟨hi,rfl⟩:=aAd.1 hx;have e1:l=l.take i++l[i]::l.drop (i+1):=by rw[List.getElem_cons_drop,aAx]
 have h5':cT (l.map f) F1 M.w:=h5;have e3:l.map f=(l.take i).map f++f l[i]::(l.drop (i+1)).map f:=by
  have:=congrArg (List.map f) e1;rw[aBk,aCi] at this;exact this
 rw[e3] at h5';obtain⟨G1,G2,g1,g2,g3,g4⟩:=AL.1 h5';rw[hf] at g3;obtain⟨k0,k1,k2,k3⟩:=qE g3;exact⟨k0,k1,k2,k3.imp id λ⟨ad,e,hF,hc⟩=>⟨ad,e,h2 _ ((h3 _).2 (.inl ((g1 _).2 (.inl hF)))),hc⟩⟩
end
section
variable {α:Type} {T:Ty α} {N:Nat} {E:Env} {F:Nat→Value} {H H':List aL} {o:Oper} {A:Option Addr} {n c:Nat} {l:List α}
theorem aB.FF{k:Nat}(hk:k≤n)(hr:dT (own T A n c l) [own T A k c (l.take k)] H H'):aB E H H':=λw hw =>
 hw.jX hr rfl rfl rfl (aAf _) (G:=λ_=>False) (λ_ _ _=>rfl) λF1 h1=>by
  refine⟨F1,⟨F1,λ_=>False,λb=>by simp,λ_ _ h=>h,?_,λ_ h=>h⟩,λb hb=>.inl hb,λb _ hb=>hb.elim⟩;obtain⟨h0,⟨rfl,h2,h3⟩|⟨g,cur,h2,h3,h4,h5,h6,h7,h8⟩⟩:=h1
  ·refine⟨by rw[aAg];omega,.inl ⟨by omega,h2,h3⟩⟩
  ·refine⟨by rw[aAg];omega,.inr ⟨g,cur,h2,h3,h4,by omega,h6,h7,?_⟩⟩;have hle:k*T.size≤n*T.size:=aBa _ hk;rw[←T.nX,←h8,aEn,aBr hle]
end
theorem Pu{P:Program}{E:Env}{H:List aL}{f:FuncId}{args:Array Value}{v:Value}(h:∀w,St E H w→Calls P f args w λe w'=>e=.returned v∧w=w'):aK P E f args H λe H'=>e=.returned v∧H'=H :=
 λ_ w hw=>(h w hw).mono λ_ _ ⟨he,hw'⟩=>⟨H,hw'▸hw,he,rfl⟩
section
variable {P:Program} {N:Nat} {E:Env} {F:Nat→Value} {H R:List aL} {o:Oper} {K:Value→List aL→Prop} {ρ:Operand→Value}
theorem V.func1{f:FuncId}{x:Operand}{v:Value}{u:World}(ho:o.op=.makeFunc (.func f) #[] #[x])(hx:ρ x=v):(execOp ρ o).run P u=.ok (.value (.func (.func f) #[] #[v])) u:=by
 simp[execOp,ho,hx,Instr.makeFunc]
theorem S.cW{f:FuncId}{fn:Func}{x:Operand}{c:Value}{ops:List Operand}{tys:Array TypeId}{Hp:List aL}{vs vs':List Value}{Q1:Ending→List aL→Prop}(ho:o.op=.call { callee:=.value x,args:=ops.toArray,argTypes:=tys })(hx:ev F x=.func (.func f) #[] #[c])(hvs:AO F ops=vs)(hv2:vs++[c]=vs')
  (hfn:P.funcs[f]?=some fn) (hname:(fn.name == "runtime.NumGoroutine")=false) (hbody:fn.body.isNone=false)
  (hp:cS Hp H R) (h:∀M,Sub E R M→aK P M f vs'.toArray Hp Q1) (hQ:∀e H',Q1 e H'→∃v,e=.returned v∧∃H2,wK H' R H2∧K v H2):gK P N E F H o K:=by
 subst hvs hv2;intro a u ha hu Kw Q' hK;obtain⟨M,hds,hE,hst,hback⟩:=(hu.aV hp).enter;unfold Oper.wp;have hr:(execOp a.eval o).run P u=.ok (.enter f (AO F ops++[c]).toArray) u:=by
  have h1:¬fn.name = "runtime.NumGoroutine" := by simpa using hname
  have h2:¬fn.body=none:=by intro h;rw[h] at hbody;cases hbody
  rw[ha.eval,AB];simp[execOp,ho,resolve,hx,Deferred.ofValue,invoke,callFunc,hfn,h1,h2]
 rw[hr];refine(h M hE hds u hst).mono ?_;rintro e w' ⟨H',h3,h4⟩;obtain⟨v,rfl,H2,hcat,h5⟩:=hQ e H' h4;exact hK v _ w' h5 (by rw[hcat.eq];exact hback H' w' h3)
theorem V.U6{t e:TypeId}{x i:Operand}{L:List Value}{k:IntKind}{j:Int}{m len:Nat}{v:Value}{ti:TypeInfo}{d:TypeDesc}{u:World}(ho:o.op=.index t x i)(hx:ρ x=.agg L.toArray)(hi:ρ i=.int k j)(ht:P.underlying t=some (.array len e))(hti:P.info? e=some ti)(hs:ti.size=1)(hd:P.underlying e=some d)(hda:lT d=false)(hj:j.toNat=m)(h0:0≤j)(hm:m<len)(hv:L[m]?=some v):(execOp ρ o).run P u=.ok (.value v) u:=by
 subst hj;have hjl:j<len:=o_;cases d<;>simp[lT] at hda<;>simp[execOp,ho,hx,hi,Instr.index,asIntOf,run_underlying ht,h0,hjl,sizeOf,typeInfo,hti,hs,part,isAgg,run_underlying hd,hv]
structure Lu(P:Program)(t:TypeId)(z:List Value)(pl:List (Nat×Nat))(sz:Nat):Prop where
 zero:((P.info? t).bind (·.zero)).map (·.cells.toList)=some z
 elem:(match P.underlying t with|some (.array _ e)=>(P.info? e).map (·.size)|_=>none)=some sz
 Iu:pl=(List.range pl.length).map λi=>(i*sz,sz)
theorem Dc{f g:Nat→Option (Nat×Nat)}(h:∀i p,f i=some p→g i=some p):∀(vs:List (Nat×Value)) (z out:Array Value),Instr.fill f z vs=some out→Instr.fill g z vs=some out
 | [],z,out,hh=>by simpa [Instr.fill] using hh
 | (i,v)::rest,z,out,hh=>by
  unfold Instr.fill at hh⊢;cases hp:f i with
  |none=>simp[hp] at hh
  |some q =>
   rw[h i q hp];rw[hp] at hh;simp only at hh⊢;split at hh
   ·cases hh
   ·rename_i hc;rw[if_neg hc];exact Dc h rest _ _ hh
theorem Y.UN{t:TypeId}{sz:Nat}{parts:List (Nat×Operand)}{vs:List (Nat×Value)}{z:List Value}{pl:List (Nat×Nat)}{cells:List Value}(ho:o.op=.build t parts.toArray)(hp:PV ρ parts vs)(hr:Lu P t z pl sz)(hb:OP pl z vs cells):qB P E H ρ o (.agg cells.toArray):=by
 intro u _;have hb:=hb.eq;have hp:=hp.eq;subst hp;have h1:=hr.zero;have h2:=hr.elem;have:P.built t (parts.toArray.map λ(i,x)=>(i,ρ x)).toList=some cells.toArray:=by
  rw[KY];unfold Program.built;cases hi:P.info? t with
  |none=>simp[hi] at h1
  |some ti =>
   cases hz:ti.zero with
   |none=>simp[hi,hz] at h1
   |some zv =>
    simp[hi,hz] at h1;cases hu:P.underlying t with
    |none=>simp[hu] at h2
    |some d =>
     cases d<;>simp[hu] at h2
     obtain⟨ie,h3,h4⟩:=h2;simp only[hz,h3];refine Dc (f:=(pl.toArray[·]?)) ?_ _ _ _ (CO pl _ _ _ (by rw[h1];exact hb));intro i p hip;simp only[List.getElem?_toArray] at hip;rw[hr.Iu] at hip;simp only[aBf] at hip;cases hq:(List.range pl.length)[i]? with
     |none=>rw[hq] at hip;cases hip
     |some j =>
      rw[hq] at hip;have hj:=(aAd.1 hq).2;simp at hj;subst hj;rw[h4];simpa using hip
 have hrun:=run_build u t _ cells.toArray this;simp only[execOp,ho,aAy];rw[hrun];rfl
end
section
variable {α:Type} {T:Ty α} {N:Nat} {E:Env} {F:Nat→Value} {H:List aL} {o:Oper}
theorem S.xQ{t:TypeId}{x y:Operand}{e1 e2:α}{v1 v2:Value}(ho:o.op=.buildSlice t 2 #[(0,x),(1,y)])(hx:ev F x=v1)(h1:T.val e1=v1)(hy:ev F y=v2)(h2:T.val e2=v2)
  (ht:prog.underlying t=some (.slice T.tid)) (hbig:2*T.size≤2 ^ 24):gK prog N E F H o λr H1=>∃g,r=.slice (some ⟨g,0,none⟩) 2 2∧H1=own T (some ⟨g,0,none⟩) 2 2 [e1,e2]::H :=
 S.pP (parts0:=[(0,x),(1,y)]) (l:=[e1,e2]) ho (by simp[pv,hx,hy,h1,h2]) ht rfl hbig
theorem S.yT{t:TypeId}{x y z:Operand}{e1 e2 e3:α}{v1 v2 v3:Value}(ho:o.op=.buildSlice t 3 #[(0,x),(1,y),(2,z)])(hx:ev F x=v1)(h1:T.val e1=v1)(hy:ev F y=v2)(h2:T.val e2=v2)(hz:ev F z=v3)(h3:T.val e3=v3)
  (ht:prog.underlying t=some (.slice T.tid)) (hbig:3*T.size≤2 ^ 24):gK prog N E F H o λr H1=>∃g,r=.slice (some ⟨g,0,none⟩) 3 3∧H1=own T (some ⟨g,0,none⟩) 3 3 [e1,e2,e3]::H :=
 S.pP (parts0:=[(0,x),(1,y),(2,z)]) (l:=[e1,e2,e3]) ho (by simp[pv,hx,hy,hz,h1,h2,h3]) ht rfl hbig
end
section
variable {P:Program} {E:Env} {F:Nat→Value} {H H' R:List aL}
theorem mL{t g:Nat}{ty bt:TypeId}{cs:List Value}{d:TypeDesc}{ti:TypeInfo}(hv:F t=.pointer (some ⟨g,0,none⟩))(ht:P.underlying ty=some d)(hd:lT d=true)(hi:P.info? ty=some ti)(hb:Has (aJ g bt cs) H R)(hm:ti.size=cs.length){w:World}(hw:St E H w) :
  (asAddr (F t)).run P w=.ok ⟨g,0,none⟩ w∧(loadVar ty ⟨g,0,none⟩).run P w=.ok (.agg cs.toArray) w:=by
 have hc:Cells E H ⟨g,0,none⟩ cs:=Cells.aJ hb rfl;rw[hv];exact⟨by simp[asAddr],sS (u:=w) ht hd hi hm (hc w hw)⟩
theorem cI{fn:Func}{Q:Ending→List aL→Prop}{t g:Nat}{ty bt:TypeId}{cs:List Value}{d:TypeDesc}{ti:TypeInfo}(hr:fn.results=#[.cell t ty])(hv:F t=.pointer (some ⟨g,0,none⟩))(ht:P.underlying ty=some d)(hd:lT d=true)(hi:P.info? ty=some ti)(hb:Has (aJ g bt cs) H R)(hm:ti.size=cs.length)
  (hc:aB E H H') (h:Q (.returned (.agg cs.toArray)) H'):gF P E fn Q .ret F H:=by
 refine⟨.agg cs.toArray,H',λw hw=>?_,hc,h⟩;obtain⟨h1,h2⟩:=mL hv ht hd hi hb hm hw;simp[yC,hr,h1,h2]
theorem gS{fn:Func}{Q:Ending→List aL→Prop}{t g u:Nat}{ty bt:TypeId}{cs:List Value}{d:TypeDesc}{ti:TypeInfo}{v:Value}(hr:fn.results=#[.cell t ty,.tmp u])(hv:F t=.pointer (some ⟨g,0,none⟩))(ht:P.underlying ty=some d)(hd:lT d=true)(hi:P.info? ty=some ti)(hb:Has (aJ g bt cs) H R)(hm:ti.size=cs.length)
  (hu:F u=v) (hc:aB E H H') (h:Q (.returned (.tuple #[.agg cs.toArray,v])) H'):gF P E fn Q .ret F H:=by
 refine⟨.tuple #[.agg cs.toArray,v],H',λw hw=>?_,hc,h⟩;subst hu;obtain⟨h1,h2⟩:=mL hv ht hd hi hb hm hw;simp[yC,hr,h1,h2]
end
def Ts(P:Program)(t:TypeId)(x:Value)(xs:List Value):Prop:=match P.underlying t with
 |some (.struct _)=>x=.agg xs.toArray
 |_=>xs=[x]
def ZA(P:Program)(ask:TypeId→List Value→List Value→Option Bool)(xs ys:List Value):List Field→Option Bool
 | []=>some true
 |f::fs=>if f.name = "_" then none else match P.info? f.type with
  |none=>none
  |some ti=>match ask f.type ((xs.drop f.offset).take ti.size) ((ys.drop f.offset).take ti.size),ZA P ask xs ys fs with
   |some a,some b=>some (a&&b)
   |_,_=>none
def eqv(P:Program):Nat→TypeId→List Value→List Value→Option Bool
 |0,_,_,_=>none
 |d+1,t,xs,ys=>match P.underlying t with
  |some (.int _)=>match xs,ys with
   | [.int k a],[.int k' b]=>if k=k' then some (decide (a=b)) else none
   |_,_=>none
  |some .bool=>match xs,ys with
   | [.bool a],[.bool b]=>some (decide (a=b))
   |_,_=>none
  |some (.struct fs)=>if P.stoodInHeld t then none else ZA P (eqv P d) xs ys fs.toList
  |_=>none
section
variable {P:Program}
theorem Ff{t : TypeId}{xs M5 ys : List Value}{off d : Nat}{ti : TypeInfo}{r : Bool}(hi : P.info? t = some ti)(hs : (xs.drop off).take ti.size = M5)(h : eqv P d t M5 ys = some r ∨ eqv P d t ys M5 = some r)(u : World) :
    ∃x, (part t xs.toArray off).run P u = .ok x u ∧ Ts P t x M5 := by
  cases d with
  |zero => simp[eqv] at h
  |succ d =>
    have one : ∀v, M5 = [v] → xs[off]? = some v := by
      intro v hv;rw[hv] at hs;cases hq : xs.drop off with
      |nil => rw[hq] at hs; simp at hs
      |cons a l =>
        rw[hq] at hs;cases hz : ti.size with
        |zero => rw[hz] at hs; simp at hs
        |succ n =>
          rw[hz, aEl] at hs;injection hs with h1 _
          have h2 : (xs.drop off)[0]? = some a := by rw[hq]; rfl
          rw[aCv] at h2;rw[←h1]; simpa using h2
    cases ht : P.underlying t with
    |none => simp[eqv, ht] at h
    |some D =>
      have sng : (∀fs, D ≠ .struct fs) → ∃v, M5 = [v] := by
        intro hD;unfold eqv at h;rw[ht] at h;cases D <;> simp only[or_self, reduceCtorEq] at h
        all_goals first
          |exact absurd rfl (hD _)
          | (rcases h with h |h
             · split at h
               · exact⟨_, rfl⟩
               · cases h
             · split at h
               · exact⟨_, rfl⟩
               · cases h)
      by_cases hD : ∃fs, D = .struct fs
      · obtain⟨fs, rfl⟩ := hD
        refine⟨.agg M5.toArray, ?_, by simp[Ts, ht]⟩;simp only[part, isAgg, sizeOf, typeInfo, aAy, run_underlying ht, aAr];simp[hi, ←hs, List.extract_eq_take_drop]
      · obtain⟨v, hv⟩ := sng (λfs e => hD ⟨fs, e⟩)
        have h1 := one v hv;unfold eqv at h;rw[ht] at h;refine⟨v, ?_, ?_⟩
        · cases D <;> simp only[or_self, reduceCtorEq] at h
          all_goals first
            |exact absurd ⟨_, rfl⟩ hD
            |simp[part, isAgg, run_underlying ht, h1]
        · unfold Ts
          rw[ht];cases D <;> first |exact absurd ⟨_, rfl⟩ hD |exact hv
theorem Qk(d:Nat):∀(k:Nat) (t:TypeId) (xs ys:List Value) (r:Bool) (x y:Value) (u:World),eqv P d t xs ys=some r→Ts P t x xs→Ts P t y ys→(Op.equalIn (d+k) t x y).run P u=.ok r u:=by
 induction d with
 |zero=>intro k t xs ys r x y u h;simp[eqv] at h
 |succ d ih =>
  intro k t xs ys r x y u h hx hy;rw[Nat.add_right_comm];unfold eqv at h;unfold Ts at hx hy;cases ht:P.underlying t with
  |none=>simp[ht] at h
  |some D =>
   rw[ht] at h hx hy;cases D<;>simp only[reduceCtorEq] at h
   case bool =>
    split at h
    ·injection hx with hx _;injection hy with hy _
     subst hx hy;injection h with h
     rw[run_equalIn_bool _ ht,←h];rename_i a b;cases a<;>cases b<;>rfl
    ·cases h
   case int =>
    split at h
    ·split at h
     ·rename_i hk;subst hk;injection hx with hx _;injection hy with hy _
      subst hx hy;injection h with h
      rw[run_equalIn_int _ _ _ _ _ _ _ ht,←h];rfl
     ·cases h
    ·cases h
   case struct fs =>
    split at h
    ·cases h
    ·rename_i hst;simp only at hx hy;subst hx hy;have hfs:P.fieldsOf t=fs:=by simp[Program.fieldsOf,ht]
     rw[run_equalIn_struct _ _ _ _ _ (by rw[hfs];exact ht) (by simpa using hst),hfs];generalize fs.toList=l at h;clear ht hfs
     induction l generalizing r u with
     |nil =>
      injection h with h
      rw[←h];simp[Op.eqFields]
     |cons f l ihl =>
      unfold ZA at h;split at h
      ·cases h
      ·rename_i hn;split at h
       ·cases h
       ·rename_i ti hi;split at h
        ·rename_i a b ha hb;injection h with h
         obtain⟨v1,h1,g1⟩:=Ff hi rfl (.inl ha) u;obtain⟨v2,h2,g2⟩:=Ff hi rfl (.inr ha) u;have h3:=ih k _ _ _ _ _ _ u ha g1 g2;simp only[Op.eqFields,ne_eq,hn,not_false_eq_true,if_true,aAy,h1,h2,h3,aAr];cases a
         ·simp only[aCx] at h;rw[←h];simp
         ·simp only[aCt] at h;subst h;simpa using ihl _ u hb
        ·cases h
structure WU(P:Program)(t:TypeId)(xs ys:Array Value)(r:Bool):Prop where
 ty:∃fs,P.underlying t=some (.struct fs)
 guard:P.eqGuardType P.depth t=false
 val:eqv P 5 t xs.toList ys.toList=some r
theorem WU.run{t:TypeId}{xs ys:Array Value}{r:Bool}(h:WU P t xs ys r)(u:World):(Op.equalIn 10000 t (.agg xs) (.agg ys)).run P u=.ok r u:=by
 obtain⟨fs,ht⟩:=h.ty;exact Qk 5 9995 t _ _ _ _ _ u h.val (by simp[Ts,ht]) (by simp[Ts,ht])
variable {ρ:Operand→Value} {o:Oper} {u:World}
theorem V.ZE{x y:Operand}{t t':TypeId}{xs ys:Array Value}{r:Bool}(ho:o.op=.binOp .eql t x y t')(hx:ρ x=.agg xs)(hy:ρ y=.agg ys)(h:WU P t xs ys r):(execOp ρ o).run P u=.ok (.value (.bool r)) u:=by
 have h1:=run_eql_struct (P:=P) u t xs ys;rw[h.run] at h1;simp[execOp,ho,hx,hy,run_eqGuard_agg u .eql t x y xs ys h.guard,h1]
theorem V.ZJ{x y:Operand}{t t':TypeId}{xs ys:Array Value}{r:Bool}(ho:o.op=.binOp .neq t x y t')(hx:ρ x=.agg xs)(hy:ρ y=.agg ys)(h:WU P t xs ys r):(execOp ρ o).run P u=.ok (.value (.bool (!r))) u:=by
 have h1:=run_neq_struct (P:=P) u t xs ys;rw[h.run] at h1;simp[execOp,ho,hx,hy,run_eqGuard_agg u .neq t x y xs ys h.guard,h1]
end
structure VP(P:Program)(t:TypeId)(xs ys:Array Value)(r:Bool):Prop where
 guard:P.eqGuardType P.depth t=false
 run:∀u,(Op.equalIn 10000 t (.agg xs) (.agg ys)).run P u=.ok r u
section
variable {P:Program} {ρ:Operand→Value} {o:Oper} {u:World}
theorem V.j0{x y:Operand}{t t':TypeId}{xs ys:Array Value}{r:Bool}(ho:o.op=.binOp .eql t x y t')(hx:ρ x=.agg xs)(hy:ρ y=.agg ys)(h:VP P t xs ys r):(execOp ρ o).run P u=.ok (.value (.bool r)) u:=by
 have h1:=run_eql_struct (P:=P) u t xs ys;rw[h.run] at h1;simp[execOp,ho,hx,hy,run_eqGuard_agg u .eql t x y xs ys h.guard,h1]
theorem xL{e:TypeId}{k:IntKind}{xs:Array Value}{i:Nat}{v:Value}(he:P.underlying e=some (.int k))(h:xs[i]?=some v):(part e xs i).run P u=.ok v u:=by
 simp[part,isAgg,run_underlying he,h]
theorem VP.four{t e:TypeId}(ht:P.underlying t=some (.array 4 e))(he:P.underlying e=some (.int .i64))(hs:(P.info? e).map (·.size)=some 1)(hg:P.eqGuardType P.depth t=false){a0 a1 a2 a3 b0 b1 b2 b3:Int} :
  VP P t #[.int .i64 a0,.int .i64 a1,.int .i64 a2,.int .i64 a3] #[.int .i64 b0,.int .i64 b1,.int .i64 b2,.int .i64 b3] (decide (a0=b0)&&(decide (a1=b1)&&(decide (a2=b2)&&decide (a3=b3)))):=by
 obtain⟨ti,hi,hs⟩:∃ti,P.info? e=some ti∧ti.size=1:=by
  cases h:P.info? e with
  |none=>rw[h] at hs;cases hs
  |some ti=>rw[h] at hs;injection hs with hs;exact⟨ti,rfl,hs⟩
 refine⟨hg,λu=>?_⟩;rw[show(10000:Nat)=9999+1 from rfl,run_equalIn_array u 9999 _ _ ht hi];have hc:P.cellsOf e=1:=by simp[Program.cellsOf,hi,hs]
 rw[hc];have hr:List.range 4=[0,1,2,3]:=rfl;rw[hr];have q:∀(a b:Int) (u:World),(Op.equalIn 9999 e (.int .i64 a) (.int .i64 b)).run P u=.ok (a == b) u:=λa b u=>run_equalIn_int u 9998 e .i64 .i64 a b he;have p0:∀(c0 c1 c2 c3:Int) (u:World),(part e #[.int .i64 c0,.int .i64 c1,.int .i64 c2,.int .i64 c3] 0).run P u=.ok (.int .i64 c0) u:=λ_ _ _ _ u=>xL he rfl;have p1:∀(c0 c1 c2 c3:Int) (u:World),(part e #[.int .i64 c0,.int .i64 c1,.int .i64 c2,.int .i64 c3] 1).run P u=.ok (.int .i64 c1) u:=λ_ _ _ _ u=>xL he rfl;have p2:∀(c0 c1 c2 c3:Int) (u:World),(part e #[.int .i64 c0,.int .i64 c1,.int .i64 c2,.int .i64 c3] 2).run P u=.ok (.int .i64 c2) u:=λ_ _ _ _ u=>xL he rfl;have p3:∀(c0 c1 c2 c3:Int) (u:World),(part e #[.int .i64 c0,.int .i64 c1,.int .i64 c2,.int .i64 c3] 3).run P u=.ok (.int .i64 c3) u:=λ_ _ _ _ u=>xL he rfl;simp only[Op.eqItems,aAy,aFx,aDq,show 2*1=2 from rfl,show 3*1=3 from rfl,p0,q,aAr];by_cases h0:a0=b0<;>by_cases h1:a1=b1<;>by_cases h2:a2=b2<;>by_cases h3:a3=b3<;>simp[h0,h1,h2,h3,p1,p2,p3,q]
end
theorem VP.eight{P:Program}{t e:TypeId}(ht:P.underlying t=some (.array 8 e))(he:P.underlying e=some (.int .i64))(hs:(P.info? e).map (·.size)=some 1)(hg:P.eqGuardType P.depth t=false){a0 a1 a2 a3 a4 a5 a6 a7 b0 b1 b2 b3 b4 b5 b6 b7:Int} :
  VP P t #[.int .i64 a0,.int .i64 a1,.int .i64 a2,.int .i64 a3,.int .i64 a4,.int .i64 a5,.int .i64 a6,.int .i64 a7] #[.int .i64 b0,.int .i64 b1,.int .i64 b2,.int .i64 b3,.int .i64 b4,.int .i64 b5,.int .i64 b6,.int .i64 b7] (decide (a0=b0)&&(decide (a1=b1)&&(decide (a2=b2)&&(decide (a3=b3)&&(decide (a4=b4)&&(decide (a5=b5)&&(decide (a6=b6)&&(decide (a7=b7))))))))):=by
 obtain⟨ti,hi,hs⟩:∃ti,P.info? e=some ti∧ti.size=1:=by
  cases h:P.info? e with
  |none=>rw[h] at hs;cases hs
  |some ti=>rw[h] at hs;injection hs with hs;exact⟨ti,rfl,hs⟩
 refine⟨hg,λu=>?_⟩;rw[show(10000:Nat)=9999+1 from rfl,run_equalIn_array u 9999 _ _ ht hi];have hc:P.cellsOf e=1:=by simp[Program.cellsOf,hi,hs]
 rw[hc];have hr:List.range 8=[0,1,2,3,4,5,6,7]:=rfl;rw[hr];have q:∀(a b:Int) (u:World),(Op.equalIn 9999 e (.int .i64 a) (.int .i64 b)).run P u=.ok (a == b) u:=λa b u=>run_equalIn_int u 9998 e .i64 .i64 a b he;have p:∀(c0 c1 c2 c3 c4 c5 c6 c7:Int) (i:Nat) (v:Value) (u:World),(#[.int .i64 c0,.int .i64 c1,.int .i64 c2,.int .i64 c3,.int .i64 c4,.int .i64 c5,.int .i64 c6,.int .i64 c7]:Array Value)[i]?=some v→(part e #[.int .i64 c0,.int .i64 c1,.int .i64 c2,.int .i64 c3,.int .i64 c4,.int .i64 c5,.int .i64 c6,.int .i64 c7] i).run P u=.ok v u:=λ_ _ _ _ _ _ _ _ i v u h=>xL he h;have pa0:=λu=>p a0 a1 a2 a3 a4 a5 a6 a7 0 _ u rfl;have pb0:=λu=>p b0 b1 b2 b3 b4 b5 b6 b7 0 _ u rfl;have pa1:=λu=>p a0 a1 a2 a3 a4 a5 a6 a7 1 _ u rfl;have pb1:=λu=>p b0 b1 b2 b3 b4 b5 b6 b7 1 _ u rfl;have pa2:=λu=>p a0 a1 a2 a3 a4 a5 a6 a7 2 _ u rfl;have pb2:=λu=>p b0 b1 b2 b3 b4 b5 b6 b7 2 _ u rfl;have pa3:=λu=>p a0 a1 a2 a3 a4 a5 a6 a7 3 _ u rfl;have pb3:=λu=>p b0 b1 b2 b3 b4 b5 b6 b7 3 _ u rfl;have pa4:=λu=>p a0 a1 a2 a3 a4 a5 a6 a7 4 _ u rfl;have pb4:=λu=>p b0 b1 b2 b3 b4 b5 b6 b7 4 _ u rfl;have pa5:=λu=>p a0 a1 a2 a3 a4 a5 a6 a7 5 _ u rfl;have pb5:=λu=>p b0 b1 b2 b3 b4 b5 b6 b7 5 _ u rfl;have pa6:=λu=>p a0 a1 a2 a3 a4 a5 a6 a7 6 _ u rfl;have pb6:=λu=>p b0 b1 b2 b3 b4 b5 b6 b7 6 _ u rfl;have pa7:=λu=>p a0 a1 a2 a3 a4 a5 a6 a7 7 _ u rfl;have pb7:=λu=>p b0 b1 b2 b3 b4 b5 b6 b7 7 _ u rfl;simp only[Op.eqItems,aAy,Nat.mul_one,pa0,pb0,aAr];by_cases h0:a0=b0
 case neg=>simp[h0,q]
 subst h0;by_cases h1:a1=b1
 case neg=>simp[h1,q,pa1,pb1]
 subst h1;by_cases h2:a2=b2
 case neg=>simp[h2,q,pa1,pb1,pa2,pb2]
 subst h2;by_cases h3:a3=b3
 case neg=>simp[h3,q,pa1,pb1,pa2,pb2,pa3,pb3]
 subst h3;by_cases h4:a4=b4
 case neg=>simp[h4,q,pa1,pb1,pa2,pb2,pa3,pb3,pa4,pb4]
 subst h4;by_cases h5:a5=b5
 case neg=>simp[h5,q,pa1,pb1,pa2,pb2,pa3,pb3,pa4,pb4,pa5,pb5]
 subst h5;by_cases h6:a6=b6
 case neg=>simp[h6,q,pa1,pb1,pa2,pb2,pa3,pb3,pa4,pb4,pa5,pb5,pa6,pb6]
 subst h6;by_cases h7:a7=b7
 case neg=>simp[h7,q,pa1,pb1,pa2,pb2,pa3,pb3,pa4,pb4,pa5,pb5,pa6,pb6,pa7,pb7]
 subst h7;simp[q,pa1,pa2,pa3,pa4,pa5,pa6,pa7]
theorem V.Hg{P:Program}{ρ:Operand→Value}{o:Oper}{t e:TypeId}{x i:Operand}{g q:Nat}{k:IntKind}{j:Int}{m len:Nat}{ti:TypeInfo}{b:Addr}{u:World}(ho:o.op=.indexAddr t x i)(hx:ρ x=.pointer (some ⟨g,q,none⟩))(hi:ρ i=.int k j)(ht:P.underlying t=some (.array len e))(hti:P.info? e=some ti)(hs:ti.size=1)(hj:j.toNat=m)(h0:0≤j)(hm:m<len)(hb:(⟨g,q,none⟩:Addr).add m=b):(execOp ρ o).run P u=.ok (.value (.pointer (some b))) u:=by
 subst hj hb;have hjl:j<len:=o_;simp[execOp,ho,hx,hi,Instr.indexAt,asIntOf,run_underlying ht,Instr.sureAddr,h0,hjl,sizeOf,typeInfo,hti,hs]
def Ba{α:Type}(T:Ty α)(e:α)(j:Nat)(v:Value)(e':α):Prop:=j+v.cells.size≤T.size∧(T.enc e).take j++v.cells.toList++(T.enc e).drop (j+v.cells.size)=T.enc e'
theorem Ba.Yu{α:Type}{T:Ty α}{e e':α}{j:Nat}{v:Value}(h1:v.cells=#[v])(hj:j<T.size)(h:(T.enc e).take j++[v]++(T.enc e).drop (j+1)=T.enc e'):Ba T e j v e':=by
 refine⟨by rw[h1];exact hj,?_⟩;rw[h1];exact h
section
variable {α:Type} {T:Ty α} {N:Nat} {E:Env} {F:Nat→Value} {H H' R:List aL} {o:Oper} {A:Option Addr} {n c:Nat} {l:List α}
theorem S.Rv{x y:Operand}{t:TypeId}{q k j:Nat}{v:Value}{e e':α}{ti:TypeInfo}(ho:o.op=.store t x y)(hx:ev F x=.pointer (some (((ad A).add q).add j)))(hy:ev F y=v)(hr:dT (own T A n c l) [own T A n c (l.set k e')] H H')
  (hf:Ba T e j v e') (hq:q=k*T.size) (he:l[k]?=some e) (h1:∀x∈v.cells.toList,x.oneCell'=true)
  (hi:prog.info? t=some ti) (hs:v.cells.size=ti.size):gK prog N E F H o λr H1=>r=undef∧H1=H':=by
 subst hq;exact S.DM (T:=T) (q:=k*T.size+j) ho hx hy (jI _ _ _) h1 hi hs rfl he hf.1 hf.2 hr ⟨rfl,rfl⟩
theorem S.wB{P:Program}{f:FuncId}{fn:Func}{x:Operand}{cs:List Value}{ops:List Operand}{tys:Array TypeId}{Hp:List aL}{vs vs':List Value}{K:Value→List aL→Prop}{Q1:Ending→List aL→Prop}(ho:o.op=.call { callee:=.value x,args:=ops.toArray,argTypes:=tys })(hx:ev F x=.func (.func f) #[] cs.toArray)(hvs:AO F ops=vs)(hv2:vs++cs=vs')
  (hfn:P.funcs[f]?=some fn) (hname:(fn.name == "runtime.NumGoroutine")=false) (hbody:fn.body.isNone=false)
  (hp:cS Hp H R) (h:∀M,Sub E R M→aK P M f vs'.toArray Hp Q1) (hQ:∀e H',Q1 e H'→∃v,e=.returned v∧∃H2,wK H' R H2∧K v H2):gK P N E F H o K:=by
 subst hvs hv2;intro a u ha hu Kw Q' hK;obtain⟨M,hds,hE,hst,hback⟩:=(hu.aV hp).enter;unfold Oper.wp;have hr:(execOp a.eval o).run P u=.ok (.enter f (AO F ops++cs).toArray) u:=by
  have h1:¬fn.name = "runtime.NumGoroutine" := by simpa using hname
  have h2:¬fn.body=none:=by intro h;rw[h] at hbody;cases hbody
  rw[ha.eval,AB];simp[execOp,ho,resolve,hx,Deferred.ofValue,invoke,callFunc,hfn,h1,h2]
 rw[hr];refine(h M hE hds u hst).mono ?_;rintro e w' ⟨H',h3,h4⟩;obtain⟨v,rfl,H2,hcat,h5⟩:=hQ e H' h4;exact hK v _ w' h5 (by rw[hcat.eq];exact hback H' w' h3)
end
end Go.Proofs.YtmilalkjbojciaaGreat.Sep
