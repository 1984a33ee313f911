/- Part AA: what it needs. No condition. -/
import Derived.Test.YtmilalkjbojciaaGreatProg
import Derived.ArgAppend
import Derived.Below
import Derived.BigQuiet
import Derived.Carry
import Derived.ChangeKeysEq
import Derived.Deep.AppendLies
import Derived.Deep.CondSized
import Derived.Deep.Draws
import Derived.Deep.Fields
import Derived.Deep.RegionHeld3
import Derived.Deep.Slices
import Derived.JoinedCond
import Derived.Laws.Concat
import Derived.Laws.Externs
import Derived.Laws.MakeOwn
import Derived.Laws.OwnMore
import Derived.Laws.StructEq
import Derived.Laws.Tables
import Derived.Lib.AppendZeros
import Derived.Lib.Hide
import Derived.Lib.SlBytesConst
import Derived.MapKept
import Derived.Maps.AppendAt
import Derived.OpenShut
import Derived.OwnWalk
import Derived.ProofKit
import Derived.RangeFuncRecord
import Derived.RecoverIn
import Derived.RegionTactic
import Derived.Room.AppendUpon
import Derived.SizedLaws
import Derived.WalkKit
import Derived.WideKeyRuns
import Derived.Test.YtmilalkjbojciaaGreatRows
set_option linter.all false
set_option maxRecDepth 100000
set_option maxHeartbeats 8000000
open Go.Proofs.Tryz
namespace Go.Proofs.YtmilalkjbojciaaGreat
open Go Go.RowKit
def o_{p:Prop}(h:p:=by omega):p:=h
def q_{p:Prop}(h:p:=by kernel_rfl):p:=h
def sD{p:Prop}(h:p:=by decide):p:=h
abbrev bS:=@List.getElem?_eq_getElem
abbrev bF:=@List.append_assoc
abbrev aY:=@List.append_nil
abbrev cH:=@List.getElem?_eq_some_iff
abbrev bR:=@List.length_append
abbrev bM:=@Nat.le_refl
abbrev dG:=@List.mem_of_getElem?
abbrev bY:=@Nat.zero_le
abbrev cZ:=@List.not_mem_nil
abbrev dR:=@List.length_take
abbrev eM:=@List.mem_singleton
abbrev fX:=@List.take_of_length_le
abbrev eL:=@List.mem_append
abbrev dY:=@Go.IntWalk.i64_in
abbrev fI:=@Bool.and_eq_true
abbrev fB:=@List.length_map
abbrev dV:=@Int.le_refl
abbrev lL:=@List.drop_eq_getElem_cons
abbrev gL:=@List.length_cons
abbrev gY:=@List.take_length
abbrev iO:=@Go.Result.andThen_ok
abbrev gP:=@List.map_append
abbrev kF:=@List.mem_cons_of_mem
abbrev jW:=@List.mem_cons_self
abbrev jK:=@Int.toNat_natCast
abbrev rS:=@List.take_succ_eq_append_getElem
abbrev iM:=@List.length_set
abbrev iN:=@Option.some.inj
abbrev mE:=@List.take_append_drop
abbrev mD:=@List.mem_of_mem_take
abbrev lA:=@Bool.false_ne_true
abbrev jD:=@List.nil_append
abbrev qS:=@List.getD_eq_getElem?_getD
abbrev lB:=@List.length_drop
abbrev iE:=@Go.Sem.run_bind
abbrev oC:=@Nat.mul_le_mul_right
abbrev iR:=@Nat.le_trans
abbrev jL:=@List.map_cons
abbrev mM:=@List.getElem?_map
abbrev oV:=@List.getElem_of_mem
abbrev tF:=@Bool.eq_false_or_eq_true
abbrev wF:=@List.eq_nil_of_length_eq_zero
abbrev mX:=@List.cons_append
abbrev jX:=@List.mem_map
abbrev pT:=@Int.toNat_of_nonneg
abbrev rR:=@List.length_replicate
abbrev oD:=@Option.getD_some
abbrev wG:=@List.getElem?_append_right
abbrev nM:=@Nat.min_eq_left
abbrev tJ:=@List.mem_append_right
abbrev lM:=@Nat.zero_add
abbrev xO:=@Array.getElem?_eq_some_iff
abbrev zE:=@Array.getD_eq_getD_getElem?
abbrev tG:=@Bool.false_eq_true
abbrev qR:=@List.all_eq_true
abbrev mY:=@Go.Sem.run_pure
abbrev vH:=@List.getElem?_of_mem
abbrev rT:=@Nat.le_add_right
abbrev qT:=@List.take_left'
abbrev pU:=@List.drop_drop
abbrev wH:=@List.pairwise_append
abbrev zI:=@Int.eq_ofNat_of_zero_le
abbrev zM:=@List.length_eq_zero_iff
abbrev Aa:=@List.getElem?_append_left
abbrev xU:=@List.length_singleton
abbrev uH:=@List.ext_getElem?
abbrev rQ:=@List.drop_left'
abbrev qU:=@List.take_zero
abbrev uF:=@List.drop_length
abbrev tH:=@List.length_nil
abbrev pI:=@Nat.lt_trans
abbrev wE:=@List.countP_append
abbrev zJ:=@List.countP_singleton
abbrev xV:=@List.mem_map_of_mem
abbrev uB:=@Bool.eq_iff_iff
abbrev uI:=@List.mem_filter
abbrev zN:=@List.mem_append_left
abbrev Ca:=@List.mem_or_eq_of_mem_set
abbrev CY:=@List.getElem?_eq_none_iff
abbrev uG:=@List.drop_zero
abbrev tK:=@List.mem_cons
abbrev pV:=@Nat.le_succ
abbrev uC:=@Bool.true_and
abbrev Cc:=@List.pairwise_singleton
abbrev zK:=@List.flatMap_cons
abbrev tI:=@List.map_nil
abbrev E6:=@List.take_append_of_le_length
abbrev BY:=@List.getElem?_set_ne
abbrev zL:=@List.getElem_mem
abbrev tL:=@Nat.add_mul
abbrev Ab:=@List.nodup_append
abbrev xP:=@Bool.false_and
abbrev CZ:=@List.mem_of_mem_drop
abbrev Dg:=@List.drop_of_length_le
abbrev Ep:=@Array.getElem?_eq_getElem
abbrev Cd:=@Nat.lt_of_lt_of_le
abbrev oB:=@Iff.rfl
abbrev zO:=@List.take_add
abbrev wI:=@Nat.one_mul
abbrev Ad:=@UInt8.toNat_lt
abbrev Db:=@Array.length_toList
abbrev GL:=@Array.getElem?_replicate
abbrev CT:=@Go.RowKit.Below.heap_alloc
abbrev Ac:=@Nat.add_assoc
abbrev Ch:=@UInt8.toNat_inj
abbrev CX:=@List.foldl_cons
abbrev Cb:=@List.nodup_cons
abbrev E0:=@List.flatMap_append
abbrev E7:=@List.take_succ_cons
abbrev Lp:=@List.set_eq_take_append_cons_drop
abbrev Lj:=@List.findIdx?_eq_some_iff_getElem
abbrev Ge:=@Go.MapKept.run_getObj_map
abbrev Dh:=@List.map_toArray
abbrev Gi:=@Nat.eq_of_beq_eq_true
abbrev GM:=@Array.getElem?_toList
abbrev FB:=@Option.isSome_some
abbrev GX:=@List.eq_nil_or_concat
abbrev FG:=@UInt8.toNat_ofNat'
abbrev GU:=@List.Perm.append_left
abbrev Li:=@List.eraseIdx_eq_take_drop_succ
abbrev Dk:=@Option.map_some
abbrev BW:=@Int.add_zero
abbrev Gj:=@Nat.pow_le_pow_right
abbrev BZ:=@Nat.sub_self
abbrev BX:=@Int.le_trans
abbrev Dd:=@Int.natCast_add
abbrev E1:=@List.flatten_cons
abbrev I1:=@Go.World.block_lt_of_cell?
abbrev FA:=@Nat.mod_eq_of_lt
abbrev E9:=@Nat.min_eq_right
abbrev E3:=@List.prefix_refl
abbrev Im:=@List.length_eq_one_iff
abbrev Ga:=@List.getElem?_drop
abbrev GY:=@List.filter_append
abbrev Ik:=@List.getElem?_eq_none
abbrev Ib:=@Array.getElem?_append
abbrev Ip:=@List.set_append_right
abbrev Gb:=@List.getElem?_set
abbrev Lk:=@List.getElem?_zip_eq_some
abbrev LQ:=@Classical.byContradiction
abbrev E8:=@List.take_take
abbrev Ez:=@List.Perm.refl
abbrev Di:=@Nat.add_comm
abbrev Gc:=@List.take_append
abbrev GV:=@List.any_eq_true
abbrev GZ:=@List.flatMap_nil
abbrev PD:=@Array.getElem?_setIfInBounds_ne
abbrev Lr:=@Nat.add_sub_cancel_left
abbrev xW:=@Ne.symm
abbrev Il:=@List.getElem?_take
abbrev PY:=@Nat.and_two_pow_sub_one_eq_mod
abbrev Io:=@List.pairwise_cons
abbrev GW:=@List.cons.injEq
abbrev Lq:=@Go.MapKept.run_setObj_map
abbrev PJ:=@List.drop_append_of_le_length
abbrev Ic:=@Bool.not_eq_true'
abbrev Iq:=@List.take_sublist
abbrev PW:=@List.take_length_add_append
abbrev Ly:=@Go.World.cell?_of_block
abbrev PG:=@Int.tdiv_eq_ediv_of_nonneg
abbrev It:=@Nat.not_lt_zero
abbrev PL:=@List.findIdx?_eq_none_iff
abbrev Ij:=@List.append_inj
abbrev PE:=@Array.setIfInBounds_comm
abbrev Gg:=@Nat.add_zero
abbrev LZ:=@Int.natCast_nonneg
abbrev PS:=@List.mem_of_mem_eraseIdx
abbrev Ld:=@List.append_of_mem
abbrev Ii:=@Go.IntWalk.u64_in
abbrev Pc:=@Go.World.putObj_heap_other
abbrev PM:=@List.getElem?_cons_succ
abbrev Ll:=@List.length_range
abbrev LR:=@Classical.not_not
abbrev PZ:=@Option.map_eq_some_iff
abbrev PC:=@Array.getElem?_eq_none
abbrev PK:=@List.drop_eq_nil_of_le
abbrev PO:=@List.getElem?_set_self
abbrev La:=@Go.IntKind.wrap_u64
abbrev PR:=@List.getElem?_toArray
abbrev PU:=@List.singleton_append
abbrev PI:=@List.concat_eq_append
abbrev PT:=@List.perm_append_comm
abbrev LN:=@Bool.or_eq_true
abbrev Iu:=@Nat.zero_mul
abbrev Ir:=@Nat.mul_comm
abbrev PN:=@List.getElem?_mapIdx
abbrev LY:=@Int.natCast_mul
abbrev Ln:=@List.nil_prefix
abbrev LM:=@Bool.not_false
abbrev LL:=@Bool.and_assoc
abbrev Is:=@Nat.mul_pos
abbrev a!:=Value.int .i64
abbrev b!:=@if_neg
abbrev c!:=@if_pos
abbrev d!:=@decide_eq_true
abbrev e!:=@decide_eq_false
abbrev g!:=@of_decide_eq_true
theorem h!{p:Prop}[Decidable p]:(decide p=true)=p:=decide_eq_true_eq
abbrev i!:=@absurd
abbrev j!:=@congrArg
theorem k!{α:Type _}{x:α}{l m:List α}:x::l++m=x::(l++m):=rfl
theorem l!{α:Type _}{l:List α}:[]++l=l:=rfl
abbrev n!:=Option Addr
abbrev o!:=List UInt8
abbrev p!:=Value
abbrev q!:=TypeId
abbrev r!:=Operand
abbrev t!:=Program
theorem d_ {p:Prop} (h:p:=by dsimp only;omega):p:=h
theorem s_ {p:Prop} (h:p:=by simp):p:=h
end Go.Proofs.YtmilalkjbojciaaGreat
namespace Go.Proofs.YtmilalkjbojciaaGreat.Mem
open Go.RowKit
def Bg(a:Addr)(n:Nat):(a.add n).block=a.block:=by unfold Addr.add;split<;>rfl
def Cj(a:Addr)(i j:Nat):(a.add i).add j=a.add (i+j):=by
 unfold Addr.add;by_cases b:i=0<;>by_cases d:j=0<;>simp[b,d,Ac]
def Reads(w:World)(B size:Nat)(A:n!)(n:Nat)(xs:List p!):Prop :=
 xs.length=n*size/\(0<n->∃ad,A=some ad/\ad.block<B/\∀j u,xs[j]?=some u->w.cell? (ad.add j)=some u)
section
variable {w w':World} {B B' size n:Nat} {A:n!} {xs:List p!}
def Reads.at_{k:Nat}(h:Reads w B 1 A n xs)(d:k<n):∃ad u,A=some ad/\ad.block<B/\xs[k]?=some u/\w.cell? (ad.add k)=some u:=by
 have⟨ad,e,hb,b⟩:=h.2 o_;have a:k<xs.length:=by have:=h.1;omega
 exact⟨ad,xs[k],e,hb,bS a,b k _ (bS a)⟩
end
section
variable {P:t!} (w:World)
def aCn(base:Nat)(t ty e:q!)(i:TypeInfo)(size:Nat)(d:P.underlying t=some (.slice e))(hi:P.info? e=some i)
  (v:p!) (n:Nat) (xs:List p!) (a:w.ownsRow base e size v n xs) (c:Nat):(Builtin.append_ #[t,t] ty #[v,.slice none 0 c]).run P w=.ok v w:=by
 rcases a.2 with⟨rfl,rfl⟩|⟨g,cap,f,rfl,_,_,b,_⟩
 ·simp[Builtin.append_,run_underlying d,sizeOf,typeInfo,hi,Builtin.lenOf,Builtin.firstCells]
 ·simp[Builtin.append_,run_underlying d,sizeOf,typeInfo,hi,Builtin.lenOf,Builtin.firstCells,b,storeCells]
def OE(base:Nat)(t ty e:q!)(i:TypeInfo)(z:p!)(size b:Nat)(J:P.underlying t=some (.slice e))(hi:P.info? e=some i)(X:i.zero=some z)
  (p:i.size=size) (y:i.bytes=b) (H:z.cells.size=size) (F:0<size)
  (v:p!) (n:Nat) (xs:List p!) (d:w.ownsRow base e size v n xs)
  (B:Nat) (A:n!) (m c:Nat) (a:List p!) (r:Reads w B size A m a) (N:∀u∈a,u.oneCell'=true)
  (x:n+m<=maxLen) (f:(n+m)*b<=140737488355328) (o:base<=w.heap.size) :
  ∃q w',(Builtin.append_ #[t,t] ty #[v,.slice A m c]).run P w=.ok q w'/\w'.ownsRow base e size q (n+m) (xs++a)/\w.grownBy w' v.ownBlock /\
   (q.ownBlock=v.ownBlock\/q.ownBlock=some w.heap.size):=by
 rcases A with _|ad
 ·have W:m=0:=by
   rcases Nat.eq_zero_or_pos m with k|k
   ·exact k
   ·have⟨ad,h,_⟩:=r.2 k;cases h
  subst W;have D:a=[]:=wF (by simpa using r.1);subst D;exact⟨v,w,aCn w base t ty e i size J hi v n xs d c,by simpa using d,World.grownBy.refl w _,.inl rfl⟩
 ·have g:∀j u,a[j]?=some u->w.cell? (ad.add j)=some u:=by
   intro j u K;rcases Nat.eq_zero_or_pos m with k|k
   ·subst k;have D:a=[]:=wF (by simpa using r.1);subst D;simp at K
   ·have⟨M,h,_,U⟩:=r.2 k;injection h with h;subst h;exact U j u K
  have⟨q,w',s,O,Q,_,R⟩:=run_append_own_at (P:=P) w base t ty e i z size b J hi X p y H F v n xs d ad m c a r.1 g N x f o;exact⟨q,w',s,O,Q,R⟩
end
structure xR(α:Type) where
 enc:α->List Value
 size:Nat
 bytes:Nat
 tid:TypeId
 Uz:TypeId
 zero:Value
 hlen:∀a,(enc a).length=size
 kL:∀a,∀u∈enc a,u.oneCell'=true
 fZ:0<size
 hzero:zero.cells.size=size
 lF:(prog.info? tid).map (λi=>(i.zero,i.size,i.bytes))=some (some zero,size,bytes)
 p9:prog.underlying Uz=some (.slice tid)
def xR.cE{α:Type}(E:xR α)(l:List α):List p!:=l.flatMap E.enc
section
variable {α:Type} {E:xR α}
def xR.wS(a:α)(b:List α):E.cE (a::b)=E.enc a++E.cE b:=zK
def xR.mH(l:List α):(E.cE l).length=l.length*E.size:=by
 induction l with
 |nil=>simp[xR.cE]
 |cons a l b=>rw[E.wS,bR,E.hlen,b,gL,tL,wI,Di]
def xR.zX(l:List α)(k:Nat):(E.cE l).drop (k*E.size)=E.cE (l.drop k):=by
 induction k generalizing l with
 |zero=>simp
 |succ k b =>
  cases l with
  |nil=>simp[xR.cE]
  |cons a l =>
   rw[E.wS,List.drop_succ_cons,<-b,tL,wI,Di,<-pU,rQ (E.hlen a)]
def xR.FO(l:List α)(k:Nat)(h:k<l.length)(j:Nat)(u:p!)(a:(E.enc l[k])[j]?=some u):(E.cE l)[k*E.size+j]?=some u:=by
 have d:j<E.size:=by
  have:=(cH.1 a).1;rw[E.hlen] at this;exact this
 have b:((E.cE l).drop (k*E.size))[j]?=some u:=by
  rw[E.zX,lL h,E.wS,Aa (by rw[E.hlen];exact d)];exact a
 rwa [Ga] at b
def Rd(E:xR α)(w:World)(B:Nat)(A:n!)(n c:Nat)(l:List α):Prop :=
 n=l.length/\n<=c/\c<=maxLen/\Reads w B E.size A n (E.cE l)
section
variable {w w':World} {base B B':Nat} {A:n!} {n c:Nat} {l l':List α}
def Rd.len(h:Rd E w B A n c l):n=l.length:=h.1
def Rd.cap(h:Rd E w B A n c l):n<=c/\c<=maxLen:=⟨h.2.1,h.2.2.1⟩
def Rd.at_(h:Rd E w B A n c l){k:Nat}(f:k<n):∃ad,A=some ad/\ad.block<B/\∃a:k<l.length,∀j u,(E.enc l[k])[j]?=some u->w.cell? (ad.add (k*E.size+j))=some u:=by
 have⟨ad,e,hb,b⟩:=h.2.2.2.2 o_;have a:k<l.length:=by have:=h.1;omega
 exact⟨ad,e,hb,a,λj u d=>b _ u (E.FO l k a j u d)⟩
end
end
def DI:xR UInt8 where
 enc b:=[.int .u8 (b.toNat:Int)]
 size:=1
 bytes:=1
 tid:=5
 Uz:=70
 zero:=.int .u8 0
 hlen _:=rfl
 kL a u h:=by simp only[eM] at h;subst h;rfl
 fZ:=sD
 hzero:=rfl
 lF:=q_
 p9:=underlying70
section
variable {w w':World} {B:Nat} {A:n!} {n c:Nat} {l:o!}
def Rd.TQ(h:Rd DI w B A n c l){k:Nat}(d:k<n) :
  ∃ad,A=some ad/\ad.block<B/\∃a:k<l.length,w.cell? (ad.add k)=some (.int .u8 (l[k].toNat:Int)):=by
 have⟨ad,e,hb,a,b⟩:=h.at_ d;exact⟨ad,e,hb,a,by have:=b 0 _ rfl;simpa [DI] using this⟩
end
def DT(l:o!):ByteArray:=⟨l.toArray⟩
def Vc(l:o!):(DT l).toList=l:=by
 rw[ByteArray.toList_eq];rfl
def aNh{w:World}{B:Nat}{A:n!}{n c:Nat}{l:o!}(h:Rd DI w B A n c l) :
  (convert 70 9 (.slice A n c)).run prog w=.ok (.string (DT l)) w:=by
 obtain⟨rfl,h2,h3,h4⟩:=h;rcases A with _|ad
 ·have hl:l=[]:=by
   rcases Nat.eq_zero_or_pos l.length with h0|h0
   ·exact wF h0
   ·have⟨ad,e,_⟩:=h4.2 h0;cases e
  subst hl;exact run_convert_bytes_nil w 70 5 underlying70 underlying5 _ _ 9 underlying9
 ·have hx:(loadCells ad l.length).run prog w=.ok ((l.map λb:UInt8=>(b.toNat:Int)).map (Value.int .u8)).toArray w:=by
   have:=run_loadCells_list (P:=prog) w ad ((l.map λb:UInt8=>(b.toNat:Int)).map (Value.int .u8)) (λj v hj=>by
    have hjl:j<l.length:=by
     rcases Nat.lt_or_ge j l.length with h|h
     ·exact h
     ·rw[Ik (show((l.map λb:UInt8=>(b.toNat:Int)).map (Value.int .u8)).length<=j by simpa using h)] at hj;cases hj
    have⟨ad',e,_,hl,hc⟩:=Rd.TQ (l:=l) (w:=w) (B:=B) (A:=some ad) (n:=l.length) (c:=c) ⟨rfl,h2,h3,h4⟩ hjl;injection e with e;subst e;rw[hc];simp[hjl] at hj;rw[hj])
   simpa using this
  rw[run_convert_bytes_string w 70 9 5 _ l.length c underlying70 underlying5 underlying9,run_bytesToString w _ l.length c _ hx,foldl_push_bytes];have e:((l.map λb:UInt8=>(b.toNat:Int)).map λn:Int=>UInt8.ofNat n.toNat)=l:=by
   rw[List.map_map];conv=>rhs;rw[<-List.map_id l]
   apply List.map_congr_left;intro b _;apply Ch.1;simp
  rw[e];simp[DT,ByteArray.empty,ByteArray.emptyWithCapacity];rfl
section
variable {α:Type} {E:xR α}
variable {w w':World} {B B':Nat} {A:n!} {n c:Nat} {ls:List (List α)}
end
def aBt{k:IntKind}{a b:Int}(h:a=b):Ending.returned (.int k a)=.returned (.int k b):=by rw[h]
def Vg{k:IntKind}{a b:Nat}(h:a=b):Value.int k (a:Int)=Value.int k (b:Int):=by rw[h]
end Go.Proofs.YtmilalkjbojciaaGreat.Mem
namespace Go.Proofs.YtmilalkjbojciaaGreat.Reg
open Go.RowKit Mem
def nth:List Oper->Nat->Option Oper
 | [],_=>none
 |o::_,0=>some o
 |_::l,i+1=>nth l i
def nW:∀(l:List Oper) (i:Nat),nth l i=l.toArray[i]?
 | [],_=>by simp[nth]
 |o::l,0=>by simp[nth]
 |o::l,i+1=>by rw[nth,nW l i];simp
section
variable {P:t!} {ops:Array Oper} {l:List Oper} {Q:Exit->Act->World->Prop} {md:Region.Mode}
end
end Go.Proofs.YtmilalkjbojciaaGreat.Reg
namespace Go.Proofs.YtmilalkjbojciaaGreat.Sep
variable{A:n!}{F:Nat->p!}{F1:Nat->Prop}{N:Nat}{P:t!}{X:n!}{a:Addr}{af:Array Edge}{c:Code}{cx:Nat}{e:q!}{f:FuncId}{g i j:Nat}{k:IntKind}{l:List Oper}{m n':Nat}{o:Oper}{q:Nat}{t t':q!}{u:World}{v:p!}{vs:List p!}{x y:r!}{z:List p!}{α:Type}{e':α}
section
open Go.RowKit Mem Reg
def uJ(B o q:Nat):(⟨B,o,none⟩:Addr).add q=⟨B,o+q,none⟩:=by
 unfold Addr.add;split
 ·subst_vars;rfl
 ·rfl
structure kD(q:Prop):Prop where
 out:q
def lY:TypeDesc->Bool
 | .struct _=>true
 | .array _ _=>true
 |_=>false
structure Ty(α:Type) where
 val:α->Value
 size:Nat
 bytes:Nat
 tid:TypeId
 zero:Value
 hlen:∀a,(val a).cells.size=size
 kL:∀a,∀u∈(val a).cells.toList,u.oneCell'=true
 fZ:0<size
 hzero:zero.cells.size=size
 lF:(prog.info? tid).map (λi=>(i.zero,i.size,i.bytes))=some (some zero,size,bytes)
 mQ:(prog.underlying tid).map lY=some true/\(∀a,∃cs,val a=.agg cs) \/
  (prog.underlying tid).map lY=some false/\∀a,(val a).oneCell'=true
section
variable {α:Type} {T:Ty α}
def Ty.enc(T:Ty α)(a:α):List p!:=(T.val a).cells.toList
def Ty.cE(T:Ty α)(l:List α):List p!:=l.flatMap T.enc
def Ty.vL(a:α):(T.enc a).length=T.size:=by simp[Ty.enc,T.hlen]
def Ty.D2(a b:List α):T.cE (a++b)=T.cE a++T.cE b:=E0
def Ty.wS(a:α)(b:List α):T.cE (a::b)=T.enc a++T.cE b:=zK
def Ty.mH(l:List α):(T.cE l).length=l.length*T.size:=by
 induction l with
 |nil=>simp[Ty.cE]
 |cons a l b=>rw[T.wS,bR,T.vL,b,gL,tL,wI,Di]
def Ty.Cw(l:List α):∀u∈T.cE l,u.oneCell'=true:=by
 intro u b;have⟨a,_,h⟩:=List.mem_flatMap.1 b;exact T.kL a u h
def Ty.zX(l:List α)(k:Nat):(T.cE l).drop (k*T.size)=T.cE (l.drop k):=by
 induction k generalizing l with
 |zero=>simp
 |succ k b =>
  cases l with
  |nil=>simp[Ty.cE]
  |cons a l =>
   rw[T.wS,List.drop_succ_cons,<-b,tL,wI,Di,<-pU,rQ (T.vL a)]
def Ty.FP(l:List α)(k:Nat):(T.cE l).take (k*T.size)=T.cE (l.take k):=by
 induction k generalizing l with
 |zero=>simp[Ty.cE]
 |succ k b =>
  cases l with
  |nil=>simp[Ty.cE]
  |cons a l =>
   rw[T.wS,E7,T.wS,<-b,tL,wI,Di,Gc,T.vL,fX (by rw[T.vL];omega)];congr 2;omega
def Ty.FO{l:List α}{k:Nat}{x:α}(h:l[k]?=some x){u:p!}(b:(T.enc x)[j]?=some u):(T.cE l)[k*T.size+j]?=some u:=by
 obtain⟨f,rfl⟩:=cH.1 h;have e:j<T.size:=by
  have:=(cH.1 b).1;rw[T.vL] at this;exact this
 have d:((T.cE l).drop (k*T.size))[j]?=some u:=by
  rw[T.zX,lL f,T.wS,Aa (by rw[T.vL];exact e)];exact b
 rwa [Ga] at d
def Ty.Ma{l:List α}{k:Nat}(b:k<l.length)(x:α):T.cE (l.set k x)=(T.cE l).take (k*T.size)++T.enc x++(T.cE l).drop ((k+1)*T.size):=by
 rw[T.FP,T.zX,Lp,c! b,T.D2,T.wS,bF]
end
structure aG where
 holds:(Nat->Prop)->World->Prop
 loc:∀ {F w w'},holds F w->(∀b,F b->w'.heap[b]?=w.heap[b]?)->holds F w'
 lt:∀ {F w b},holds F w->F b->b<w.heap.size
def fG:List aG->(Nat->Prop)->World->Prop
 | [],F,_=>∀b,¬F b
 |a::l,F,w=>∃d e,(∀b,F b↔d b\/e b)/\(∀b,d b->¬e b)/\a.holds d w/\fG l e w
def BI:∀ {l:List aG} {F w w'},fG l F w->(∀b,F b->w'.heap[b]?=w.heap[b]?)->fG l F w'
 | [],_,_,_,h,_=>h
 |a::_l,_F,_w,_w',⟨e,f,d,g,i,j⟩,hk=>⟨e,f,d,g,a.loc i λb hb=>hk b ((d b).2 (.inl hb)),BI j λb hb=>hk b ((d b).2 (.inr hb))⟩
def DQ:∀ {l:List aG} {F w b},fG l F w->F b->b<w.heap.size
 | [],_,_,b,h,hb=>i! hb (h b)
 |a::l,F,w,b,⟨g,i,d,_,e,f⟩,hb=>by
  rcases(d b).1 hb with h|h
  ·exact a.lt e h
  ·exact DQ f h
def aKf{l:List aG}{F G w}(h:fG l F w)(d:∀b,G b↔F b):fG l G w:=by
 have:G=F:=funext λb=>propext (d b);rw[this];exact h
def jU{l m:List aG}{F w}:fG (l++m) F w↔∃d e,(∀b,F b↔d b\/e b)/\(∀b,d b->¬e b)/\fG l d w/\fG m e w:=by
 induction l generalizing F with
 |nil =>
  constructor
  ·intro h;exact⟨λ_=>False,F,λb=>by simp,λb hb=>hb.elim,λb hb=>hb,h⟩
  ·rintro⟨d,e,i,_,t,k⟩;exact aKf k λb=>by rw[i b];simp[t b]
 |cons a l u =>
  constructor
  ·rintro⟨d,e,i,j,t,k⟩;have⟨o,p,g,q,r,s⟩:=u.1 k;refine⟨λb=>d b\/o b,p,λb=>by rw[i b,g b,or_assoc],?_,⟨d,o,λb=>oB,λb hb f=>j b hb ((g b).2 (.inl f)),t,r⟩,s⟩;rintro b (hb|hb) f
   ·exact j b hb ((g b).2 (.inr f))
   ·exact q b hb f
  ·rintro⟨d,e,i,j,⟨o,p,g,q,r,s⟩,k⟩;refine⟨o,λb=>p b\/e b,λb=>by rw[i b,g b,or_assoc],?_,r,u.2 ⟨p,e,λb=>oB,λb hb=>j b ((g b).2 (.inr hb)),s,k⟩⟩;rintro b hb (f|f)
   ·exact q b hb f
   ·exact j b ((g b).2 (.inl hb)) f
inductive Has:aG->List aG->List aG->Prop
 |aR {a R}:Has a (a::R) R
 |bJ {a x H R} (h:Has a H R):Has a (x::H) (x::R)
inductive fJ:List aG->List aG->List aG->Prop
 |nil {H}:fJ [] H H
 |cons {a l H R R'} (h:Has a H R) (t:fJ l R R'):fJ (a::l) H R'
inductive eQ(a:aG)(l:List aG):List aG->List aG->Prop
 |aR {R}:eQ a l (a::R) (l++R)
 |bJ {x H H'} (h:eQ a l H H'):eQ a l (x::H) (x::H')
def Has.fG{a:aG}{H R:List aG}(h:Has a H R):∀ {F w},fG H F w->fG (a::R) F w:=by
 induction h with
 |aR=>exact λh=>h
 |bJ h s =>
  rintro F w ⟨f,t,p,i,q,r⟩;have⟨j,g,e,k,m,o⟩:=s r;refine⟨j,λb=>f b\/g b,λb=>by rw[p b,e b];constructor<;>(rintro(h|h|h)<;>simp[h]),?_,m,f,g,λb=>oB,λb hb d=>i b hb ((e b).2 (.inr d)),q,o⟩;rintro b hb (d|d)
  ·exact i b d ((e b).2 (.inl hb))
  ·exact k b hb d
def fJ.fG{l H R:List aG}(h:fJ l H R):∀ {F w},fG H F w->fG (l++R) F w:=by
 induction h with
 |nil=>exact λh=>h
 |cons h t k =>
  intro F w j;have⟨b,d,e,f,g,i⟩:=h.fG j;exact⟨b,d,e,f,g,k i⟩
def eQ.fG{a:aG}{l H H':List aG}(h:eQ a l H H'):∀ {F:Nat->Prop} {w w':World} {G:Nat->Prop},Sep.fG H F w->w.heap.size<=w'.heap.size->(∀b,b<w.heap.size->¬G b->w'.heap[b]?=w.heap[b]?) ->
  (∀F1,(∀b,F1 b->F b)->a.holds F1 w->∃F1',Sep.fG l F1' w'/\(∀b,F1' b->F1 b\/w.heap.size<=b)/\∀b,b<w.heap.size->G b->F1 b) ->
  ∃F',Sep.fG H' F' w'/\(∀b,F' b->F b\/w.heap.size<=b)/\∀b,b<w.heap.size->G b->F b:=by
 induction h with
 |aR =>
  rintro F w w' G ⟨F1,F2,h1,h2,h3,h4⟩ hz hk ha;have⟨F1',k1,k2,k3⟩:=ha F1 (λb hb=>(h1 b).2 (.inl hb)) h3;have hd:∀b,F2 b->b<w.heap.size:=λb hb=>DQ h4 hb;refine⟨λb=>F1' b\/F2 b,jU.2 ⟨F1',F2,λb=>oB,?_,k1,BI h4 λb hb=>hk b (hd b hb) λhg=>h2 b (k3 b (hd b hb) hg) hb⟩,?_,λb hb hg=>(h1 b).2 (.inl (k3 b hb hg))⟩
  ·intro b hb hb2;rcases k2 b hb with h|h
   ·exact h2 b h hb2
   ·have:=hd b hb2;omega
  ·rintro b (hb|hb)
   ·rcases k2 b hb with h|h
    ·exact .inl ((h1 b).2 (.inl h))
    ·exact .inr h
   ·exact .inl ((h1 b).2 (.inr hb))
 |bJ h ih =>
  rintro F w w' G ⟨F1,F2,h1,h2,h3,h4⟩ hz hk ha;have⟨F2',k1,k2,k3⟩:=ih h4 hz hk λF3 h5 h6=>ha F3 (λb hb=>(h1 b).2 (.inr (h5 b hb))) h6;have hd:∀b,F1 b->b<w.heap.size:=λb hb=>aG.lt _ h3 hb;refine⟨λb=>F1 b\/F2' b,⟨F1,F2',λb=>oB,?_,aG.loc _ h3 λb hb=>hk b (hd b hb) λhg=>h2 b hb (k3 b (hd b hb) hg),k1⟩,?_,λb hb hg=>(h1 b).2 (.inr (k3 b hb hg))⟩
  ·intro b hb hb2;rcases k2 b hb2 with h|h
   ·exact h2 b hb h
   ·have:=hd b hb;omega
  ·rintro b (hb|hb)
   ·exact .inl ((h1 b).2 (.inl hb))
   ·rcases k2 b hb with h|h
    ·exact .inl ((h1 b).2 (.inr h))
    ·exact .inr h
structure Env where
 w:World
 D:Nat->Prop
 ds:List Deferred:=[]
structure St(E:Env)(H:List aG)(w:World):Prop where
 os:w.os=E.w.os
 tape:w.tape=E.w.tape
 output:w.output=E.w.output
 size:E.w.heap.size<=w.heap.size
 wQ:∀b,E.D b->b<E.w.heap.size
 jQ:∀b,E.D b->w.heap[b]?=E.w.heap[b]?
 fp:∃F,fG H F w/\∀b,E.D b->¬F b
section
variable {E:Env} {H H' R:List aG} {w w':World} {a:aG}
def St.drew(h:St E H w):St E H w.drew:=⟨h.os,h.tape,h.output,h.size,h.wQ,h.jQ,by have⟨F,b,d⟩:=h.fp;exact⟨F,BI b λ_ _=>rfl,d⟩⟩
def St.conv(h:St E H w)(j:∀F,fG H F w->∃d,fG H' d w/\∀b,d b->F b):St E H' w :=
 ⟨h.os,h.tape,h.output,h.size,h.wQ,h.jQ,by
  have⟨F,e,f⟩:=h.fp;have⟨d,g,i⟩:=j F e;exact⟨d,g,λb hb k=>f b hb (i b k)⟩⟩
def St.cC(h:St E H w){l:List aG}(b:fJ l H R):St E (l++R) w:=h.conv λF d=>⟨F,b.fG d,λ_ h=>h⟩
def St.left{l:List aG}(h:St E (l++R) w):St E l w:=h.conv λF g=>by
 have⟨d,i,e,_,f,_⟩:=jU.1 g;exact⟨d,f,λb hb=>(e b).2 (.inl hb)⟩
def St.right{l:List aG}(h:St E (l++R) w):St E R w:=h.conv λF g=>by
 have⟨i,d,e,_,_,f⟩:=jU.1 g;exact⟨d,f,λb hb=>(e b).2 (.inr hb)⟩
def St.weaken(h:St E H w){l:List aG}(b:fJ l H R):St E l w:=(h.cC b).left
def St.kB(h:St E H w){l:List aG}(hr:eQ a l H H')(hos:w'.os=w.os)(htape:w'.tape=w.tape)(hout:w'.output=w.output)(hz:w.heap.size<=w'.heap.size){G:Nat->Prop}
  (hk:∀b,b<w.heap.size->¬G b->w'.heap[b]?=w.heap[b]?)
  (ha:∀F1,a.holds F1 w->∃F1',fG l F1' w'/\(∀b,F1' b->F1 b\/w.heap.size<=b)/\∀b,b<w.heap.size->G b->F1 b):St E H' w':=by
 have⟨F,h1,h2⟩:=h.fp;have⟨F',k1,k2,k3⟩:=hr.fG h1 hz hk λF1 _ h3=>ha F1 h3;have hlt:∀b,E.D b->b<w.heap.size:=λb hb=>Cd (h.wQ b hb) h.size;refine⟨hos.trans h.os,htape.trans h.tape,hout.trans h.output,iR h.size hz,h.wQ,λb hb=>(hk b (hlt b hb) λhg=>h2 b hb (k3 b (hlt b hb) hg)).trans (h.jQ b hb),F',k1,λb hb hf=>?_⟩;rcases k2 b hf with h|h
 ·exact h2 b hb h
 ·have:=hlt b hb;omega
def St.grow(h:St E H w){l:List aG}(i:w'.os=w.os)(d:w'.tape=w.tape)(g:w'.output=w.output)(r:w.heap.size<=w'.heap.size)
  (o:∀b,b<w.heap.size->w'.heap[b]?=w.heap[b]?) {F1:Nat->Prop} (q:fG l F1 w') (k:∀b,F1 b->w.heap.size<=b):St E (l++H) w':=by
 have⟨F,j,p⟩:=h.fp;have f:∀b,E.D b->b<w.heap.size:=λb hb=>Cd (h.wQ b hb) h.size;have m:∀b,F b->b<w.heap.size:=λb hb=>DQ j hb;refine⟨i.trans h.os,d.trans h.tape,g.trans h.output,iR h.size r,h.wQ,λb hb=>(o b (f b hb)).trans (h.jQ b hb),λb=>F1 b\/F b,
  jU.2 ⟨F1,F,λb=>oB,λb hb e=>by have:=m b e;have:=k b hb;omega,q,BI j λb hb=>o b (m b hb)⟩,?_⟩
 rintro b hb (e|e)
 ·have:=k b e;have:=f b hb;omega
 ·exact p b hb e
def St.has(h:St E H w)(j:Has a H R):∃F,a.holds F w/\∀b,E.D b->¬F b:=by
 have⟨F,e,f⟩:=h.fp;have⟨d,m,g,_,i,_⟩:=j.fG e;exact⟨d,i,λb hb k=>f b hb ((g b).2 (.inl k))⟩
end
structure Sub(E:Env)(R:List aG)(M:Env):Prop where
 wQ:∀b,M.D b->b<M.w.heap.size
 rd:∀b,E.D b->M.D b/\M.w.heap[b]?=E.w.heap[b]?
 fr:∃F,fG R F M.w/\∀b,F b->M.D b
def St.enter{E:Env}{Hp R:List aG}{w:World}(h:St E (Hp++R) w):∃M,M.ds=[]/\Sub E R M/\St M Hp w/\∀H' w',St M H' w'->St E (H'++R) w':=by
 have⟨F,p,i⟩:=h.fp;have⟨o,e,j,q,r,g⟩:=jU.1 p;have f:∀b,E.D b->b<w.heap.size:=λb hb=>Cd (h.wQ b hb) h.size;have m:∀b,e b->b<w.heap.size:=λb hb=>DQ g hb;refine⟨{ w:=w,D:=λb=>E.D b\/e b },rfl,⟨?_,λb hb=>⟨.inl hb,h.jQ b hb⟩,e,g,λb hb=>.inr hb⟩,⟨rfl,rfl,rfl,bM _,?_,λ_ _=>rfl,o,r,?_⟩,?_⟩
 ·rintro b (hb|hb);exact f b hb;exact m b hb
 ·rintro b (hb|hb);exact f b hb;exact m b hb
 ·rintro b (hb|hb) d
  ·exact i b hb ((j b).2 (.inl d))
  ·exact q b d hb
 ·intro H' w' k;have⟨G,k1,k2⟩:=k.fp;refine⟨k.os.trans h.os,k.tape.trans h.tape,k.output.trans h.output,iR h.size k.size,h.wQ,λb hb=>(k.jQ b (.inl hb)).trans (h.jQ b hb),λb=>G b\/e b,
   jU.2 ⟨G,e,λb=>oB,λb hb d=>k2 b (.inr d) hb,k1,BI g λb hb=>k.jQ b (.inr hb)⟩,?_⟩
  rintro b hb (d|d)
  ·exact k2 b (.inl hb) d
  ·exact i b hb ((j b).2 (.inr d))
def aF(P:t!)(E:Env)(f:FuncId)(args:Array p!)(H:List aG)(Q:Ending->List aG->Prop):Prop :=
 E.ds=[]->∀w,St E H w->Calls P f args w λe w'=>∃H',St E H' w'/\Q e H'
theorem aF.mono{E:Env}{args:Array p!}{H:List aG}{Q Q':Ending->List aG->Prop}(h:aF P E f args H Q)(hq:∀e H',Q e H'->Q' e H'):aF P E f args H Q' :=
 λhd w hw=>(h hd w hw).mono λ_ _ ⟨H',h1,h2⟩=>⟨H',h1,hq _ _ h2⟩
def mS(p:Prop):aG:=⟨λF _=>p/\∀b,¬F b,λh _=>h,λh hb=>i! hb (h.2 _)⟩
def aE(g:Nat)(t:q!)(cs:List p!):aG where
 holds F w:=(∀b,F b↔b=g)/\w.heap[g]?=some (.cells cs.toArray t (0,0))
 loc h hk:=⟨h.1,(hk _ ((h.1 _).2 rfl)).trans h.2⟩
 lt h hb:=by rw[(h.1 _).1 hb];exact(xO.1 h.2).1
section
variable {α:Type}
def own(T:Ty α)(A:n!)(n c:Nat)(l:List α):aG where
 holds F w:=n=l.length/\((n=0/\c=0/\∀b,¬F b) \/
  ∃g d,A=some ⟨g,0,none⟩/\(∀b,F b↔b=g)/\w.heap[g]?=some (.cells d T.tid (0,0))/\n<=c/\c<=maxLen/\d.size=c*T.size/\d.toList.take (n*T.size)=T.cE l)
 loc:=by
  rintro F w w' ⟨f,h|⟨g,d,j,e,i,k⟩⟩ m
  ·exact⟨f,.inl h⟩
  ·exact⟨f,.inr ⟨g,d,j,e,(m _ ((e _).2 rfl)).trans i,k⟩⟩
 lt:=by
  rintro F w b ⟨f,⟨_,_,h⟩|⟨g,d,j,e,i,k⟩⟩ hb
  ·exact i! hb (h b)
  ·rw[(e _).1 hb];exact(xO.1 i).1
def pack{X:Type}(l:X->List aG):aG where
 holds F w:=∃x,fG (l x) F w
 loc:=λ⟨x,h⟩ b=>⟨x,BI h b⟩
 lt:=λ⟨_,h⟩ hb=>DQ h hb
end
def Rd(E:Env)(T:Ty α)(A:n!)(n c:Nat)(l:List α):Prop :=
 n=l.length/\n<=c/\c<=maxLen/\(n=0\/∃ad,A=some ad/\E.D ad.block/\∀j u,(T.cE l)[j]?=some u->E.w.cell? (ad.add j)=some u)
section
variable {α:Type} {T:Ty α} {E M:Env} {A:n!} {n c:Nat} {l:List α} {H R:List aG} {w:World}
def Rd.len(h:Rd E T A n c l):n=l.length:=h.1
def Rd.cap(h:Rd E T A n c l):n<=c/\c<=maxLen:=⟨h.2.1,h.2.2.1⟩
def Rd.nil(E:Env)(T:Ty α):Rd E T none 0 0 []:=⟨rfl,bM _,bY _,.inl rfl⟩
def Rd.none(h:Rd E T none n c l):n=0/\l=[]:=by
 obtain⟨b,_,_,rfl|⟨_,e,_⟩⟩:=h
 ·exact⟨rfl,wF b.symm⟩
 ·cases e
def Rd.sub(d:Sub E R M)(h:Rd E T A n c l):Rd M T A n c l:=by
 have⟨f,g,i,k⟩:=h;refine⟨f,g,i,k.imp id ?_⟩;rintro⟨ad,e,b,m⟩;refine⟨ad,e,(d.rd _ b).1,λj u o=>?_⟩;rw[Ly (w:=E.w) (by rw[Bg];exact(d.rd _ b).2)];exact m j u o
def Rd.from_(h:Rd E T A n c l){k:Nat}(o:k<=n):Rd E T (if c=k then A else A.map (·.add (k*T.size))) (n - k) (c - k) (l.drop k):=by
 have⟨d,j,m,b⟩:=h;refine⟨by rw[lB,d],o_,o_,?_⟩;by_cases g:n - k=0
 ·exact .inl g
 ·rcases b with b|⟨ad,rfl,e,f⟩
  ·omega
  ·rw[b! o_];refine .inr ⟨ad.add (k*T.size),rfl,by rw[Bg];exact e,λj u i=>?_⟩;rw[Cj];refine f _ u ?_;rw[<-i,<-T.zX,Ga]
theorem Rd.upto(h:Rd E T A n c l){k:Nat}(q:k<=n)(d:k<=m)(r:m<=c):Rd E T A k m (l.take k):=by
 have⟨i,o,p,e⟩:=h;refine⟨by rw[dR];omega,d,o_,?_⟩;rcases e with e|⟨ad,rfl,f,g⟩
 ·exact .inl o_
 ·refine .inr ⟨ad,rfl,f,λj u b=>g j u ?_⟩;rw[<-T.FP,Il] at b;split at b
  ·exact b
  ·cases b
def Rd.cut(h:Rd E T A n c l)(b:j<=m)(d:m<=n):Rd E T (if c=j then A else A.map (·.add (j*T.size))) (m - j) (c - j) ((l.take m).drop j):=by
 have e:=h.cap;exact(h.upto d (show m<=c by omega) (bM c)).from_ b
def Az{F:Nat->Prop}(h:(own T A n c l).holds F w):n=l.length/\n<=c/\c<=maxLen/\(n=0\/∃ad,A=some ad/\F ad.block/\∀j u,(T.cE l)[j]?=some u->w.cell? (ad.add j)=some u):=by
 obtain⟨d,⟨rfl,rfl,_⟩|⟨g,e,rfl,m,o,f,i,p,k⟩⟩:=h
 ·exact⟨d,bM _,bY _,.inl rfl⟩
 ·refine⟨d,f,i,.inr ⟨_,rfl,(m _).2 rfl,λj u b=>?_⟩⟩;rw[uJ,lM,cell_of_row _ _ _ _ _ _ o];rw[<-k,Il] at b;split at b
  ·simpa using b
  ·cases b
def Sub.own(j:Sub E R M){b:List aG}(h:Has (own T A n c l) R b):Rd M T A n c l:=by
 have⟨F,d,f⟩:=j.fr;have⟨p,q,g,_,i,_⟩:=h.fG d;have⟨o,k1,k2,k3⟩:=Az i;exact⟨o,k1,k2,k3.imp id λ⟨ad,e,k,m⟩=>⟨ad,e,f _ ((g _).2 (.inl k)),m⟩⟩
def eE(E:Env)(H:List aG)(T:Ty α)(A:n!)(n c:Nat)(l:List α):Prop :=
 ∀w,St E H w->n=l.length/\n<=c/\c<=maxLen/\(n=0\/∃ad,A=some ad/\∀j u,(T.cE l)[j]?=some u->w.cell? (ad.add j)=some u)
def eE.rd(h:Rd E T A n c l):eE E H T A n c l:=λw o=>by
 have⟨b,d,f,g⟩:=h;refine⟨b,d,f,g.imp id ?_⟩;rintro⟨ad,e,i,k⟩;refine⟨ad,e,λj u m=>?_⟩;rw[Ly (w:=E.w) (by rw[Bg];exact o.jQ _ i)];exact k j u m
def eE.own(h:Has (own T A n c l) H R):eE E H T A n c l:=λw f=>by
 have⟨F,b,_⟩:=f.has h;have⟨g,k1,k2,k3⟩:=Az b;exact⟨g,k1,k2,k3.imp id λ⟨ad,e,_,d⟩=>⟨ad,e,d⟩⟩
def eE.from_(h:eE E H T A n c l){k:Nat}(o:k<=n):eE E H T (if c=k then A else A.map (·.add (k*T.size))) (n - k) (c - k) (l.drop k):=λw i=>by
 have⟨d,j,m,b⟩:=h w i;refine⟨by rw[lB,d],o_,o_,?_⟩;by_cases f:n - k=0
 ·exact .inl f
 ·rcases b with b|⟨ad,rfl,e⟩
  ·omega
  ·rw[b! o_];refine .inr ⟨ad.add (k*T.size),rfl,λj u g=>?_⟩;rw[Cj];refine e _ u ?_;rw[<-g,<-T.zX,Ga]
end
def Cell(E:Env)(H:List aG)(a:Addr)(v:p!):Prop:=∀w,St E H w->w.cell? a=some v
def wD(E:Env)(a:Addr)(v:p!):Prop:=E.D a.block/\E.w.cell? a=some v
def Cell.kc{E:Env}{H:List aG}(h:wD E a v):Cell E H a v:=λw b=>by
 rw[Ly (w:=E.w) (b.jQ _ h.1)];exact h.2
def wD.sub{E M:Env}{R:List aG}(b:Sub E R M)(h:wD E a v):wD M a v:=by
 refine⟨(b.rd _ h.1).1,?_⟩;rw[Ly (w:=E.w) (b.rd _ h.1).2];exact h.2
def wD.aE{E M:Env}{R b:List aG}{cs:List p!}(k:Sub E R M)(h:Has (Sep.aE g t cs) R b)(m:cs[i]?=some v):wD M ⟨g,i,none⟩ v:=by
 have⟨F,d,e⟩:=k.fr;have⟨o,p,f,_,j,_⟩:=h.fG d;have⟨k1,k2⟩:=j;refine⟨e _ ((f _).2 (.inl ((k1 _).2 rfl))),?_⟩;rw[cell_of_row _ _ _ _ _ _ k2];simpa using m
def Cells(E:Env)(H:List aG)(a:Addr)(vs:List p!):Prop:=∀w,St E H w->∀j u,vs[j]?=some u->w.cell? (a.add j)=some u
def ad(A:n!):Addr:=A.getD ⟨0,0,none⟩
section
variable {α:Type} {T:Ty α} {E:Env} {A:n!} {n c:Nat} {l:List α} {H R:List aG}
def Cells.elem(h:eE E H T A n c l){k:Nat}{x:α}(d:l[k]?=some x)(f:q=k*T.size):Cells E H ((ad A).add q) (T.enc x):=by
 subst f;intro w i j u g;have⟨m,o,p,b⟩:=h w i;have r:=(cH.1 d).1;rcases b with b|⟨a,rfl,e⟩
 ·omega
 ·rw[Cj];exact e _ u (T.FO d g)
def Cell.elem(h:eE E H T A n c l){k:Nat}{x:α}(f:l[k]?=some x)(b:q=k*T.size)(d:(T.enc x)[j]?=some v):Cell E H (((ad A).add q).add j) v :=
 λw e=>Cells.elem h f b w e j v d
def Cell.RB(h:eE E H T A n c l){k:Nat}{x:α}(f:l[k]?=some x)(b:q=k*T.size)(d:(T.enc x)[0]?=some v):Cell E H ((ad A).add q) v :=
 λw e=>by have:=Cells.elem h f b w e 0 v d;simpa [Addr.add] using this
def Cell.aE{cs:List p!}(h:Has (aE g t cs) H R)(d:cs[i]?=some v):Cell E H ⟨g,i,none⟩ v:=λw e=>by
 have⟨F,⟨_,b⟩,_⟩:=e.has h;rw[cell_of_row _ _ _ _ _ _ b];simpa using d
def Cells.aE{cs:List p!}(h:Has (aE g t cs) H R)(e:vs=cs.drop i):Cells E H ⟨g,i,none⟩ vs:=λw f j u b=>by
 have⟨F,⟨_,d⟩,_⟩:=f.has h;rw[uJ,cell_of_row _ _ _ _ _ _ d];subst e;rw[Ga] at b;simpa using b
end
section
variable {α β:Type} {T:Ty α} {U:Ty β} {E:Env} {A:n!} {n c:Nat} {l:List α} {H R:List aG}
def LK(T:Ty α)(U:Ty β)(m:Nat)(xs:α->List β):Prop:=∀a,T.enc a=U.cE (xs a)/\(xs a).length=m
def Rd.inner{xs:α->List β}(d:LK T U m xs)(j:m<=maxLen)(h:Rd E T A n c l){k:Nat}{x:α}(f:l[k]?=some x)(o:q=k*T.size):Rd E U (some ((ad A).add q)) m m (xs x):=by
 have⟨p,r,s,b⟩:=h;have t:=(cH.1 f).1;rcases b with b|⟨a,rfl,g,i⟩
 ·omega
 ·refine⟨(d x).2.symm,bM _,j,.inr ⟨_,rfl,by rw[Bg];exact g,λj u e=>?_⟩⟩;rw[<-(d x).1] at e;rw[o,Cj];exact i _ u (T.FO f e)
end
def gK(F:Nat->p!)(d:Nat)(v:p!):Nat->p!:=λi=>bif Nat.beq i d then v else F i
def at_:List p!->Nat->p!
 | [],_=>undef
 |v::_,0=>v
 |_::l,i+1=>at_ l i
def Gr(l:List p!)(i:Nat):at_ l i=l.getD i undef:=by
 induction l generalizing i with
 |nil=>simp[at_]
 |cons v l d=>cases i<;>simp[at_,d]
def vO(args:Array p!):Nat->p!:=λi=>at_ args.toList i
def ev(F:Nat->p!):r!->p!
 | .tmp t=>F t
 | .const v=>v
 | .global g=>.pointer (some ⟨g,0,none⟩)
 | .func f=>.func (.func f) #[] #[]
structure gZ(E:Env)(N:Nat)(F:Nat->Value)(a:Act):Prop where
 defers:a.defers=E.ds
 size:a.tmps.size=N
 get:∀i,a.tmps.getD i undef=F i
def gZ.eval{E:Env}{a:Act}(h:gZ E N F a):a.eval=ev F:=by
 funext x;cases x<;>simp only[Act.eval,ev]
 exact h.get _
theorem gZ.put{E:Env}{a:Act}(h:gZ E N F a){d:Nat}(f:d<N)(v:p!):gZ E N (gK F d v) (a.put (some d) v):=by
 refine⟨h.defers,by simpa [Act.put] using h.size,λi=>?_⟩;simp only[Act.put,gK];by_cases e:i=d
 ·subst e;simp[h.size,f]
 ·have:Nat.beq i d=false:=by
   grind [Nat.beq,Nat.eq_of_beq_eq_true]
  rw[this,cond_false,<-h.get i];simp[zE,xW e]
inductive Ex where
 |normal|ret|exit (id:Nat)|panic (c:List PanicEntry)
abbrev QF:=Ex->(Nat->p!)->List aG->Prop
def lift(N:Nat)(E:Env)(Q:QF):Exit->Act->World->Prop
 | .normal,a,w=>∃F H,gZ E N F a/\St E H w/\Q .normal F H
 | .ret,a,w=>∃F H,gZ E N F a/\St E H w/\Q .ret F H
 | .exit id,a,w=>∃F H,gZ E N F a/\St E H w/\Q (.exit id) F H
 | .panic c,a,w=>a.defers=E.ds/\∃H,St E H w/\Q (.panic c) (λ_=>undef) H
 |_,_,_=>False
structure C(P:Program)(N:Nat)(E:Env)(c:Code)(Q:QF)(F:Nat->Value)(H:List aG):Prop where
 get:∀a w,gZ E N F a->St E H w->c.wp P (lift N E Q) a w
structure L(P:Program)(N:Nat)(E:Env)(ops:List Oper)(Q:QF)(l:List Oper)(F:Nat->Value)(H:List aG):Prop where
 get:∀a w,gZ E N F a->St E H w->wpList P ops.toArray (lift N E Q) l a w
def vB(k:(Nat->p!)->List aG->Prop)(Q:QF):QF
 | .normal,F,H=>k F H
 | .ret,F,H=>Q .ret F H
 | .exit id,F,H=>Q (.exit id) F H
 | .panic c,F,H=>Q (.panic c) F H
def C7(id:Nat)(Q:QF):QF
 | .exit d,F,H=>if d=id then Q .normal F H else Q (.exit d) F H
 | .normal,F,H=>Q .normal F H
 | .ret,F,H=>Q .ret F H
 | .panic c,F,H=>Q (.panic c) F H
def aB(E:Env)(H H':List aG):Prop:=∀w,St E H w->St E H' w
def gM(P:t!)(E:Env)(H:List aG)(ρ:r!->p!)(o:Oper)(v:p!):Prop:=∀u,St E H u->(execOp ρ o).run P u=.ok (.value v) u
def dF(P:t!)(N:Nat)(E:Env)(F:Nat->p!)(H:List aG)(o:Oper)(K:p!->List aG->Prop):Prop :=
 ∀a u,gZ E N F a->St E H u->∀(d:Act->World->Prop) (f:Exit->Act->World->Prop),(∀v H' e,K v H'->St E H' e->d (a.put o.dst v) e)->o.wp P a u d f
section
variable {P:t!} {N:Nat} {E:Env} {Q:QF} {F:Nat->p!} {H H' R:List aG}
def aBr{j:QF}(i:∀e F H,Q e F H->j e F H):∀e a w,lift N E Q e a w->lift N E j e a w:=by
 intro e a w h;cases e with
 |normal=>have⟨F,H,g,d,f⟩:=h;exact⟨F,H,g,d,i _ _ _ f⟩
 |ret=>have⟨F,H,g,d,f⟩:=h;exact⟨F,H,g,d,i _ _ _ f⟩
 |exit m=>have⟨F,H,g,d,f⟩:=h;exact⟨F,H,g,d,i _ _ _ f⟩
 |panic c=>have⟨l,H,d,f⟩:=h;exact⟨l,H,d,i _ _ _ f⟩
 |_=>exact h.elim
theorem aB.refl:aB E H H:=λ_ h=>h
theorem aB.trans{H1 d e:List aG}(h:aB E H1 d)(k:aB E d e):aB E H1 e:=λw f=>k w (h w f)
def aB.cC{l:List aG}(h:fJ l H R):aB E H l:=λ_ d=>d.weaken h
def T.n{k:(Nat->p!)->List aG->Prop}(h:k F H):vB k Q .normal F H:=h
def T.ret{k:(Nat->p!)->List aG->Prop}(h:Q .ret F H):vB k Q .ret F H:=h
def T.exit{k:(Nat->p!)->List aG->Prop}{id:Nat}(h:Q (.exit id) F H):vB k Q (.exit id) F H:=h
def I.n{id:Nat}(h:Q .normal F H):C7 id Q .normal F H:=h
def I.ret{id:Nat}(h:Q .ret F H):C7 id Q .ret F H:=h
theorem I.iI{id:Nat}(h:Q .normal F H):C7 id Q (.exit id) F H:=by
 show if id=id then Q .normal F H else Q (.exit id) F H
 grind
def I.J8{id d:Nat}(e:d≠id)(h:Q (.exit d) F H):C7 id Q (.exit d) F H:=by
 show if d=id then Q .normal F H else Q (.exit d) F H
 grind
theorem C.mono{d:QF}(h:C P N E c Q F H)(g:∀e F H,Q e F H->d e F H):C P N E c d F H:=⟨λa w f i=>wp_mono (h.get a w f i) (aBr g)⟩
def C.conv(e:aB E H H')(h:C P N E c Q F H'):C P N E c Q F H:=⟨λa w d f=>h.get a w d (e w f)⟩
def C.seq{x y:Code}(h:C P N E x (vB (λF H=>C P N E y Q F H) Q) F H):C P N E (.seq x y) Q F H:=by
 refine⟨λa w j l=>wp_seq (wp_mono (h.get a w j l) ?_)⟩;intro e a w d;cases e with
 |normal=>have⟨F,H,f,g,i⟩:=d;exact C.get i a w f g
 |ret=>exact d
 |exit m=>exact d
 |panic c=>exact d
 |_=>exact d.elim
def C.block{id:Nat}(h:C P N E c (C7 id Q) F H):C P N E (.block id c) Q F H:=by
 refine⟨λa w j l=>wp_block (wp_mono (h.get a w j l) ?_)⟩;intro e a w d;cases e with
 |exit m =>
  have⟨F,H,g,i,f⟩:=d;simp only[Exit.inBlock,C7] at *;split at f;rw[c! ‹_›];rotate_left;rw[b! ‹_›];all_goals
   exact⟨F,H,g,i,f⟩
 |normal=>exact d
 |ret=>exact d
 |panic c=>exact d
 |_=>exact d.elim
def C.exit{id:Nat}(h:Q (.exit id) F H):C P N E (.exit id) Q F H:=⟨λ_ _ d e=>wp_exit ⟨F,H,d,e,h⟩⟩
def C.skip(h:Q .normal F H):C P N E .skip Q F H:=⟨λ_ _ d e=>wp_skip ⟨F,H,d,e,h⟩⟩
def C.ret(h:Q .ret F H):C P N E .ret Q F H:=⟨λ_ _ d e=>wp_ret ⟨F,H,d,e,h⟩⟩
def C.cond{c:r!}{x y:Code}{b:Bool}(f:ev F c=.bool b)(g:b=true->C P N E x Q F H)(i:b=false->C P N E y Q F H):C P N E (.cond c x y) Q F H:=by
 refine⟨λa w d e=>?_⟩;exact wp_cond_split (by rw[d.eval];exact f) (λh=>(g h).get a w d e) (λh=>(i h).get a w d e)
def C.G0{c:r!}{x y:Code}{b:Bool}(d:ev F c=.bool b)(hb:b=true)(e:C P N E x Q F H):C P N E (.cond c x y) Q F H :=
 C.cond d (λ_=>e) (λh=>by rw[hb] at h;cases h)
def C.Gz{c:r!}{x y:Code}{b:Bool}(d:ev F c=.bool b)(hb:b=false)(e:C P N E y Q F H):C P N E (.cond c x y) Q F H :=
 C.cond d (λh=>by rw[hb] at h;cases h) (λ_=>e)
def C.YS{c:r!}{x y:Code}{p:Prop}[Decidable p](d:ev F c=.bool (decide p))(e:p->C P N E x Q F H)(f:¬p->C P N E y Q F H):C P N E (.cond c x y) Q F H :=
 C.cond d (λh=>e (g! h)) (λh=>f (of_decide_eq_false h))
def AQ:List (Nat×p!)->(Nat->p!)->Nat->p!
 | [],G=>G
 | (d,v)::l,G=>gK (AQ l G) d v
def rP(F:Nat->p!):List (Nat×p!)->Prop
 | []=>True
 | (d,v)::l=>F d=v/\rP F l
def Ec{F:Nat->p!}:∀ {l:List (Nat×p!)},rP F l->AQ l F=F
 | [],_=>rfl
 | (d,v)::l,h=>by
  funext i;simp only[AQ,gK];rw[Ec h.2];cases e:Nat.beq i d
  ·rfl
  ·rw[Gi e,cond_true];exact h.1.symm
theorem least{p:Nat->Prop}(h:∃m,p m):∃m,p m/\∀k,p k->m<=k:=by
 have⟨m,d⟩:=h
 induction m using Nat.strongRecOn with
 |ind m e =>
  grind
open Classical in
noncomputable def low(p:Nat->Prop):Nat:=if h:∃m,p m then Classical.choose (least h) else 0
def J1{p:Nat->Prop}(h:∃m,p m):p (low p)/\∀k,p k->low p<=k:=by
 grind [low,least]
def C.loop{X:Type}(S:X->List (Nat×p!))(HX:X->List aG)(R:X->Prop)(μ:X->Nat)(x0:X)(hF:rP F (S x0))(hH:aB E H (HX x0))(h0:R x0)
  (round:∀x G,R x->C P N E c (vB (λF' H'=>∃x',rP F' (S x')/\aB E H' (HX x')/\R x'/\μ x'<μ x) Q) (AQ (S x) G) (HX x)):C P N E (.loop c) Q F H:=by
 refine⟨λa w ha hw=>?_⟩
 let p:Act->World->Nat->Prop:=λa w m=>∃x F,gZ E N F a/\rP F (S x)/\St E (HX x) w/\R x/\μ x=m
 refine wp_loop (λa w=>∃m,p a w m) (λa w=>low (p a w)) ⟨_,x0,F,ha,hF,hH w hw,h0,rfl⟩ ?_;intro a w hI;have⟨⟨x,F,hr,hS,hw,hR,hx⟩,_⟩:=J1 hI;have h:=round x F hR;rw[Ec hS] at h;refine wp_mono (h.get a w hr hw) ?_;intro e a' w' hq;cases e with
 |normal =>
  have⟨F',H',h1,h2,x',h3,h4,h5,h6⟩:=hq;have hp:p a' w' (μ x'):=⟨x',F',h1,h3,h4 w' h2,h5,rfl⟩
  refine⟨⟨_,hp⟩,?_⟩;refine Nat.lt_of_le_of_lt ((J1 (p:=p a' w') ⟨_,hp⟩).2 _ hp) ?_;rw[<-hx];exact h6
 |ret=>exact hq
 |exit id=>exact hq
 |panic c=>exact hq
 |_=>exact hq.elim
def C.cut{x y:Code}{X:Type}(S:X->List (Nat×p!))(HX:X->List aG)(R:X->Prop)(hx:C P N E x (vB (λF' H'=>∃z,rP F' (S z)/\aB E H' (HX z)/\R z) Q) F H)
  (hy:∀z G,R z->C P N E y Q (AQ (S z) G) (HX z)):C P N E (.seq x y) Q F H:=by
 refine C.seq (hx.mono ?_);intro e F' H' hq;cases e with
 |normal=>have⟨z,hS,hH,hR⟩:=hq;have h:=hy z F' hR;rw[Ec hS] at h;exact h.conv hH
 |ret=>exact hq
 |exit id=>exact hq
 |panic c=>exact hq
def C.cW{x y:Code}{X:Type}(S:X->List (Nat×p!))(HX:X->List aG)(R:X->Prop)(hx:C P N E x (vB (λF' H'=>∃z,rP F' (S z)/\aB E H' (HX z)/\R z) Q) F H)
  (hy:∀z G,R z->C P N E y Q (AQ (S z) G) (HX z)):C P N E x (vB (λF H=>C P N E y Q F H) Q) F H:=by
 refine hx.mono ?_;intro e F' H' hq;cases e with
 |normal=>have⟨z,hS,hH,hR⟩:=hq;have h:=hy z F' hR;rw[Ec hS] at h;exact h.conv hH
 |ret=>exact hq
 |exit id=>exact hq
 |panic c=>exact hq
def C.region{id:Nat}(h:L P N E l Q l F H):C P N E (.region id l.toArray false) Q F H:=⟨λa w d e=>wp_region_lit (h.get a w d e)⟩
def vU(e:Func)(F:Nat->p!):Sem p!:=do
 let d <-e.results.mapM fun
  | .tmp t=>pure (F t)
  | .cell a t=>do loadVar t (<-asAddr (F a))
 pure (if h:d.size=1 then d[0] else .tuple d)
def DM{d:Func}{a:Act}(h:gZ E N F a):results d a.tmps=vU d F:=by
 unfold results vU;congr 1;congr 1;funext x;cases x<;>simp only[h.get]
def mB(P:t!)(E:Env)(d:Func)(R:Ending->List aG->Prop):QF
 | .normal,F,H | .ret,F,H=>∃v H',(∀w,St E H w->(vU d F).run P w=.ok v w)/\aB E H H'/\R (.returned v) H'
 | .panic c,_,H=>R (.panicked c) H
 |_,_,_=>False
def fH{j:Func}{args:Array p!}{R:Ending->List aG->Prop}(r:P.funcs[f]?=some j)(hb:j.body=some c)(A:j.ntmps=N)(s:args.size<=N)
  (h:C P N E c (mB P E j R) (vO args) H):aF P E f args H R:=by
 intro d w i;refine calls_of_wp r hb ?_;have g:gZ E N (vO args) { tmps:=args++Array.replicate (j.ntmps - args.size) undef,defers:=[] }:=by
  refine⟨d.symm,by simp;omega,λi=>?_⟩;simp only[vO,Gr,qS,GM,zE,Ib,GL]
  grind
 refine wp_mono (h.get _ w g i) ?_;intro e a w n;cases e with
 |normal=>have⟨F,H,g,i,v,H',p,l,m⟩:=n;exact⟨g.defers.trans d,v,by rw[DM g];exact p w i,H',l w i,m⟩
 |ret=>have⟨F,H,g,i,v,H',p,l,m⟩:=n;exact⟨g.defers.trans d,v,by rw[DM g];exact p w i,H',l w i,m⟩
 |exit B=>have⟨_,_,_,_,h⟩:=n;exact h.elim
 |panic c=>have⟨q,H,l,m⟩:=n;exact⟨q.trans d,H,l,m⟩
 |_=>exact n.elim
def aX{d:Func}{R:Ending->List aG->Prop}{t:Nat}(f:d.results=#[.tmp t])(g:F t=v)(e:aB E H H')(h:R (.returned v) H'):mB P E d R .ret F H:=by
 refine⟨v,H',λw _=>?_,e,h⟩;subst g;simp[vU,f]
def uX{e:Func}{R:Ending->List aG->Prop}{t u:Nat}{v':p!}(g:e.results=#[.tmp t,.tmp u])(i:F t=v)(d:F u=v')(f:aB E H H')(h:R (.returned (.tuple #[v,v'])) H'):mB P E e R .ret F H:=by
 refine⟨.tuple #[v,v'],H',λw _=>?_,f,h⟩;subst i d;simp[vU,g]
def F4{g:Func}{R:Ending->List aG->Prop}{t u s:Nat}{v' d:p!}(j:g.results=#[.tmp t,.tmp u,.tmp s])(l:F t=v)(f:F u=v')(e:F s=d)(i:aB E H H')(h:R (.returned (.tuple #[v,v',d])) H'):mB P E g R .ret F H:=by
 refine⟨.tuple #[v,v',d],H',λw _=>?_,i,h⟩;subst l f e;simp[vU,j]
def Hy{d:Func}{R:Ending->List aG->Prop}(f:d.results=#[])(e:aB E H H')(h:R (.returned (.tuple #[])) H'):mB P E d R .ret F H:=by
 refine⟨.tuple #[],H',λw _=>?_,e,h⟩;simp[vU,f]
def gG{d:Func}{R:Ending->List aG->Prop}(f:d.results=#[])(e:aB E H H')(h:R (.returned (.tuple #[])) H'):mB P E d R .normal F H:=by
 refine⟨.tuple #[],H',λw _=>?_,e,h⟩;simp[vU,f]
def L.nil{d:List Oper}(h:Q .normal F H):L P N E d Q [] F H:=⟨λ_ _ e f=>wpList_nil ⟨F,H,e,f,h⟩⟩
def L.val{f e:List Oper}{d:Nat}{m:Op}{ty:q!}{g:String}{i:Array Edge}(p:d<N)
  (q:gM P E H (ev F) ⟨some d,m,ty,g,i,none⟩ v) (h:L P N E f Q e (gK F d v) H):L P N E f Q (⟨some d,m,ty,g,i,none⟩::e) F H:=by
 refine⟨λa w j l=>wpList_plain rfl λK n=>?_⟩;unfold Oper.wp;rw[j.eval,q w l];exact n _ _ (h.get _ w (j.put p v) l)
theorem L.step{f e:List Oper}{d:Nat}{m:Op}{ty:q!}{g:String}{j:Array Edge}(p:d<N)
  (h:dF P N E F H ⟨some d,m,ty,g,j,none⟩ λv H'=>L P N E f Q e (gK F d v) H'):L P N E f Q (⟨some d,m,ty,g,j,none⟩::e) F H :=
 ⟨λa w l r=>wpList_plain rfl λ_ n=>h a w l r _ _ λv _ s q i=>n _ _ (q.get _ s (l.put p v) i)⟩
def L.aKb{e d:List Oper}{l:Op}{ty:q!}{f:String}{i:Array Edge}
  (h:dF P N E F H ⟨none,l,ty,f,i,none⟩ λ_ H'=>L P N E e Q d F H'):L P N E e Q (⟨none,l,ty,f,i,none⟩::d) F H :=
 ⟨λa w j p=>wpList_plain rfl λ_ m=>h a w j p _ _ λ_ _ q n g=>m _ _ (n.get _ q j g)⟩
def L.lI{f e:List Oper}{d:Nat}{l:Op}{ty:q!}{g:String}{j:Array Edge}{K:p!->List aG->Prop}(r:d<N)
  (h:dF P N E F H ⟨some d,l,ty,g,j,none⟩ K) (s:∀v H',K v H'->L P N E f Q e (gK F d v) H'):L P N E f Q (⟨some d,l,ty,g,j,none⟩::e) F H :=
 L.step r λa u q A m n p=>h a u q A m n λv H' B w i=>p v H' B (s v H' w) i
def L.DR{e d:List Oper}{j:Op}{ty:q!}{f:String}{i:Array Edge}{K:p!->List aG->Prop}
  (h:dF P N E F H ⟨none,j,ty,f,i,none⟩ K) (q:∀v H',K v H'->L P N E e Q d F H'):L P N E e Q (⟨none,j,ty,f,i,none⟩::d) F H :=
 L.aKb λa u p s l m n=>h a u p s l m λv H' w r g=>n v H' w (q v H' r) g
def L.on{e f:List Oper}{d:Option Nat}{p:Op}{ty:q!}{i:String}{n:Array Edge}{want b:Bool}(s:(nth e j).bind (·.dst)=some g)(r:g<N)(v:F g=.bool b)(hb:b=want)
  (h:L P N E e Q (⟨d,p,ty,i,n,none⟩::f) F H):L P N E e Q (⟨d,p,ty,i,n,some (j,want)⟩::f) F H:=by
 subst hb;refine⟨λa w m A=>?_⟩;have l:=h.get a w m A;have B:yielded e.toArray a.tmps j=some b:=by
  unfold yielded;rw[<-nW,s];have q:=m.get g;rw[v,zE,Ep (by rw[m.size];exact r)] at q;grind
 unfold wpList at l⊢;rw[c! (by simp[Region.wanted])] at l;rw[c! (by simp[Region.wanted,B])];exact l
def L.off{e f:List Oper}{d:Nat}{B:Op}{ty:q!}{l:String}{m:Array Edge}{want b:Bool}(p:d<N)(r:(nth e j).bind (·.dst)=some g)(q:g<N)(s:F g=.bool b)(hb:b = !want)
  (h:L P N E e Q f (gK F d undef) H):L P N E e Q (⟨some d,B,ty,l,m,some (j,want)⟩::f) F H:=by
 subst hb;refine⟨λa w i v=>?_⟩;have A:yielded e.toArray a.tmps j=some (!want):=by
  unfold yielded;rw[<-nW,r];have n:=i.get g;rw[s,zE,Ep (by rw[i.size];exact q)] at n;grind
 unfold wpList;rw[b! (by simp[Region.wanted,A])];exact h.get _ w (i.put p undef) v
def L.Zo{f e:List Oper}{d:Nat}{s:Op}{ty:q!}{i:String}{l:Array Edge}{p:Prop}[Decidable p](w:d<N)(n:(nth f j).bind (·.dst)=some g)(m:g<N)(r:F g=.bool (decide p))
  (h:p->L P N E f Q (⟨some d,s,ty,i,l,none⟩::e) F H) (v:¬p->L P N E f Q e (gK F d undef) H):L P N E f Q (⟨some d,s,ty,i,l,some (j,true)⟩::e) F H:=by
 by_cases q:p
 ·exact L.on n m r (by grind) (h q)
 ·exact L.off w n m r (by grind) (v q)
def L.KK{e f:List Oper}{d:Nat}{B:Op}{ty:q!}{m:String}{p:Array Edge}{want:Bool}(q:d<N)(r:(nth e j).bind (·.dst)=some g)(n:g<N)(s:F g=undef)
  (h:L P N E e Q f (gK F d undef) H):L P N E e Q (⟨some d,B,ty,m,p,some (j,want)⟩::f) F H:=by
 refine⟨λa w i v=>?_⟩;have A:yielded e.toArray a.tmps j=none:=by
  unfold yielded;rw[<-nW,r];have l:=i.get g;rw[s,zE,Ep (by rw[i.size];exact n)] at l;simp only[oD] at l;simp[Ep (show g<a.tmps.size by rw[i.size];exact n),l,undef]
 unfold wpList;rw[b! (by simp[Region.wanted,A])];exact h.get _ w (i.put q undef) v
def dF.IZ{K:p!->List aG->Prop}(g:gM P E H (ev F) o v)(h:K v H):dF P N E F H o K:=by
 intro a u f d i j e;unfold Oper.wp;rw[f.eval,g u d];exact e _ _ _ h d
def dF.conv{K:p!->List aG->Prop}(e:aB E H H')(h:dF P N E F H' o K):dF P N E F H o K:=λa u d f=>h a u d (e u f)
def BQ(F:Nat->p!):Option Nat->p!->Nat->p!
 |some d,v=>gK F d v
 |none,_=>F
def waits(l:List Oper):Nat->Nat->Nat->Bool
 |0,_,_=>false
 |k+1,j,i=>match nth l j with
  |none=>false
  |some o=>o.after.toList.any λe=>Region.binds .any e&&(Nat.beq e.on i||waits l k e.on i)
def late(l:List Oper)(z i:Nat):Bool:=Nat.ble l.length z||Nat.beq i z||waits l l.length z i
def vF(l:List Oper)(d:Array Bool):Prop:=∀j o,l.toArray[j]?=some o->d.getD j false=true->∀e∈o.after,Region.binds .any e=true->d.getD e.on false=true
def vF.start(l:List Oper):vF l (Array.replicate l.length false):=by
 intro j o _ h;rw[zE,GL] at h
 grind
def vF.set{d:Array Bool}(h:vF l d)(r:i∈Region.ready .any l.toArray d):vF l (d.setIfInBounds i true):=by
 intro j o q p e n hb;have⟨s,v,f,g⟩:=mem_ready.1 r;by_cases m:i=j
 ·subst m;rw[q] at f;injection f with f;subst f;exact getD_set_true (g e n hb)
 ·rw[getD_set_ne false m] at p;exact getD_set_true (h j o q p e n hb)
theorem Vi{d:Array Bool}(h:vF l d):∀ {k j:Nat},waits l k j i=true->d.getD j false=true->d.getD i false=true
 |0,_,f,_=>by cases f
 |k+1,j,f,p=>by
  unfold waits at f;cases g:nth l j with
  |none=>rw[g] at f;cases f
  |some o =>
   rw[g] at f;simp only[GV,fI,LN] at f;have⟨e,n,hb,f⟩:=f;have m:=h j o ((nW l j).symm.trans g) p e (Array.mem_toList_iff.1 n) hb;rcases f with f|f
   ·rwa [<-Gi f]
   ·exact Vi h f m
def CS(P:t!)(l:List Oper)(Q:Exit->Act->World->Prop)(S:World->Prop)(z:Nat):Nat->Array Bool->Act->World->Prop
 |0,listed,a,w=>Region.ready .any l.toArray listed=[]/\Q .normal a w
 |k+1,listed,a,w=>(Region.ready .any l.toArray listed=[]->Q .normal a w) /\
  ∀i∈Region.ready .any l.toArray listed,wpOp P l.toArray Q i (λa' w'=>(i≠z->S w'/\CS P l Q S z k (listed.setIfInBounds i true) a' w')/\(i=z->wpAny P .any l.toArray Q k (listed.setIfInBounds i true) a' w')) a w
def LH{P:t!}{Q:Exit->Act->World->Prop}{S:World->Prop}{z:Nat}:∀(k:Nat) (listed:Array Bool) (a:Act) (w:World),CS P l Q S z k listed a w->wpAny P .any l.toArray Q k listed a w
 |0,_,_,_,h=>h
 |k+1,_,_,_,h=>⟨h.1,λi hi=>wpOp_mono (λa' w' h'=>by
   by_cases hz:i=z
   ·exact h'.2 hz
   ·exact LH k _ a' w' (h'.1 hz).2) (h.2 i hi)⟩
def Vz{P:t!}{Q:Exit->Act->World->Prop}{S S':World->Prop}{z:Nat}(hs:∀u,S' u->S u):∀(k:Nat) (listed:Array Bool) (a:Act) (w:World),CS P l Q S' z k listed a w->CS P l Q S z k listed a w
 |0,_,_,_,h=>h
 |k+1,_,_,_,h=>⟨h.1,λi hi=>wpOp_mono (λa' w' h'=>⟨λhz=>⟨hs _ (h'.1 hz).1,Vz hs k _ a' w' (h'.1 hz).2⟩,h'.2⟩) (h.2 i hi)⟩
def SX{z:Nat}(f:late l z i=true)(A:i≠z){d:Array Bool}(j:vF l d)(q:i∈Region.ready .any l.toArray d):z∉Region.ready .any l.toArray d:=by
 intro n;have⟨_,o,p,g⟩:=mem_ready.1 n;have r:=(mem_ready.1 q).1;have v:d.getD i false≠true:=by
  grind
 unfold late at f;simp only[LN] at f;rcases f with(f|f)|f
 ·grind [Nat.le_of_ble_eq_true]
 ·grind [Nat.eq_of_beq_eq_true]
 ·cases h:l.length with
  |zero=>rw[h] at f;cases f
  |succ k =>
   rw[h] at f;unfold waits at f;rw[nW,p] at f;simp only[GV,fI,LN] at f;have⟨e,m,hb,w⟩:=f;have s:=g e (Array.mem_toList_iff.1 m) hb;grind [Nat.eq_of_beq_eq_true,Vi]
def aAe{P:t!}{Q:Exit->Act->World->Prop}{S:World->Prop}{z:Nat}{oi:Oper}(hi:l.toArray[i]?=some oi)(hsel:∀(j:Nat) (o:Oper) cs b,l.toArray[j]?=some o->o.op≠.select cs b)
  (hQ:∀c a w,Q (.panic c) (a.put oi.dst v) w->Q (.panic c) a w) (hz:late l z i=true) (hne:i≠z) :
  ∀(k:Nat) (listed:Array Bool) (a:Act) (w:World),vF l listed ->
   (∀j oj,l.toArray[j]?=some oj->j≠i->listed.getD j true=false->(∀e∈oj.after,Region.binds .any e=true->e.on≠i)->oi.apart l.toArray oj=true) ->
   i∈Region.ready .any l.toArray listed->YieldsIf P l.toArray S oi v a->S w ->
   CS P l Q S z k (listed.setIfInBounds i true) (a.put oi.dst v) w->CS P l Q S z (k+1) listed a w:=by
 intro k;induction k with
 |zero =>
  intro listed a w _ _ hr hy hS h;refine⟨λh0=>(by grind),λj hj=>?_⟩;by_cases hji:j=i
  ·subst hji;exact hy.wpOp hi hS ⟨λ_=>⟨hS,h⟩,λe=>i! e hne⟩
  ·have:=ready_mono hj hji;rw[h.1] at this;cases this
 |succ k ih =>
  intro listed a w hcl hfree hr hy hS h;refine⟨λh0=>(by grind),λj hj=>?_⟩;by_cases hji:j=i
  ·subst hji;exact hy.wpOp hi hS ⟨λ_=>⟨hS,h⟩,λe=>i! e hne⟩
  ·have hjz:j≠z:=λe=>SX hz hne hcl hr (e▸hj);have h1:=h.2 j (ready_mono hj hji);have⟨hjun,oj,hoj,hall⟩:=mem_ready.1 hj;have hnot:∀e∈oj.after,Region.binds .any e=true->e.on≠i:=λe he hb heq=>by
    have h1:=hall e he hb;grind [mem_ready,Nat.lt_or_ge]
   have h2:=wpOp_putIf hoj (hfree j oj hoj hji hjun hnot) (λcs b=>hsel i oi cs b hi) (λcs b=>hsel j oj cs b hoj) hQ hy h1;refine wpOp_mono (λa' w' h3=>⟨λ_=>⟨(h3.2.1 hjz).1,ih (listed.setIfInBounds j true) a' w' (hcl.set hj) (λm om hm hmi hun hno=>hfree m om hm hmi ?_ hno) (ready_mono hr (xW hji)) h3.1 (h3.2.1 hjz).1 ?_⟩,λe=>i! e hjz⟩) h2
   ·by_cases hjm:j=m
    ·subst hjm;exact hjun
    ·rw[getD_set_ne true hjm] at hun;exact hun
   ·rw[PE _ _ hji];exact(h3.2.1 hjz).2
inductive Td where
 |nil
 |one (i:Nat) (go:Bool) (t:Td)
 |two (i:Nat) (s:Td) (j:Nat) (t:Td)
def Td.len:Td->Nat
 | .nil=>0
 | .one _ _ t=>t.len+1
 | .two _ s _ _=>s.len+1
def dH(l:List Oper)(z:Nat):Array Bool->Td->Bool
 |d,.nil=>(Region.ready .any l.toArray d).isEmpty
 |d,.one i go t=>(bif go then Region.ready .any l.toArray d == [i] else Region.free .any l.toArray d i&&(Region.ready .any l.toArray d).contains i&&late l z i && !Nat.beq i z)&&dH l z (d.setIfInBounds i true) t
 |d,.two i s j t=>Region.ready .any l.toArray d == [i,j]&&Nat.beq s.len t.len&&dH l z (d.setIfInBounds i true) s&&dH l z (d.setIfInBounds j true) t
structure Dr(P:Program)(N:Nat)(E:Env)(z:Nat)(l:List Oper)(Q:QF)(Hk:List aG)(todo:Td)(F:Nat->Value)(H:List aG):Prop where
 get:∀listed a u,vF l listed->Region.noSelect l.toArray=true->dH l z listed todo=true->gZ E N F a->St E H u->St E Hk u->CS P l (lift N E Q) (St E Hk) z todo.len listed a u
def C.fL{id:Nat}(z:Nat)(d:Td)(g:List aG)(q:P.follows .mixedOrders=true)(e:(Region.noSelect l.toArray&&Nat.beq d.len l.length&&dH l z (Array.replicate l.length false) d)=true)(p:aB E H g)(h:Dr P N E z l Q g d F H):C P N E (.region id l.toArray true) Q F H:=by
 simp only[fI] at e;have⟨⟨j,f⟩,m⟩:=e;have f:=Gi f;refine⟨λa w n i=>?_⟩;have:=h.get _ a w.drew (vF.start l) j m n i.drew (p _ i.drew);rw[f] at this;exact wp_region_any q (LH _ _ _ _ (by simpa using this))
def aKj{b:Bool}(h:(nth l j).bind (·.dst)=some g)(f:g<N)(i:F g=.bool b){a:Act}(d:gZ E N F a):yielded l.toArray a.tmps j=some b:=by
 unfold yielded;rw[<-nW,h];have e:=d.get g;rw[i,zE,Ep (by rw[d.size];exact f)] at e;grind
inductive gV(l:List Oper)(N:Nat)(F:Nat->Value)(b:Bool):Option (Nat×Bool)->Prop
 |none (h:b=true):gV l N F b none
 |some {j g:Nat} {want c:Bool} (hn:(nth l j).bind (·.dst)=some g) (hg:g<N) (hv:F g=.bool c) (hb:(c == want)=b):gV l N F b (some (j,want))
 |undef {j g:Nat} {want:Bool} (hn:(nth l j).bind (·.dst)=some g) (hg:g<N) (hv:F g=Go.undef) (hb:b=false):gV l N F b (some (j,want))
def gV.on{want c:Bool}(e:(nth l j).bind (·.dst)=Option.some g)(d:g<N)(f:F g=.bool c)(hb:c=want):gV l N F true (Option.some (j,want)):=.some e d f (by simp[hb])
def gV.off{want c:Bool}(e:(nth l j).bind (·.dst)=Option.some g)(d:g<N)(f:F g=.bool c)(hb:c = !want):gV l N F false (Option.some (j,want)):=.some e d f (by cases want<;>simp[hb])
def gV.wanted{b:Bool}(h:gV l N F b o.guard){a:Act}(d:gZ E N F a):Region.wanted o (yielded l.toArray a.tmps)=b:=by
 generalize e:o.guard=g at h;cases h with
 |none h=>simp[Region.wanted,e,h]
 |some m f n hb=>simp[Region.wanted,e,aKj m f n d,<-hb]
 | @undef j g p m f n hb =>
  have q:yielded l.toArray a.tmps j=Option.none:=by
   unfold yielded;rw[<-nW,m];have i:=d.get g;rw[n,zE,Ep (by rw[d.size];exact f)] at i;simp only[oD] at i;simp[Ep (show g<a.tmps.size by rw[d.size];exact f),i,Go.undef]
  simp[Region.wanted,e,q,hb]
def NL{c:List PanicEntry}{a:Act}{d:Option Nat}{w:World}(h:lift N E Q (.panic c) (a.put d v) w):lift N E Q (.panic c) a w:=by
 cases d<;>exact h
def aAa{z:Nat}(h:(!Nat.beq i z)=true):i≠z:=by
 grind [Nat.beq_refl]
section
variable {z:Nat}
def Dr.first{e:Td}{j:List aG}{d:Nat}(hi:nth l i=some o)(m:o.dst=some d)(r:d<N)(A:∀a,gZ E N F a->YieldsIf P l.toArray (St E j) o v a)(h:Dr P N E z l Q j e (gK F d v) H):Dr P N E z l Q j (.one i false e) F H:=by
 refine⟨λlisted a u g q f n s p=>?_⟩;simp only[dH,cond_false,fI] at f;refine aAe ((nW l i).symm.trans hi) (Region.noSelect_spec q) (λc a w h=>NL h) f.1.1.2 (aAa f.1.2) _ _ _ _ g (Region.free_spec ((nW l i).symm.trans hi) f.1.1.1.1) (by grind) (A a n) p ?_;rw[m];exact h.get _ _ u (g.set (by grind)) q f.2 (n.put r v) s p
theorem Dr.take{e:Td}{g:List aG}{d:Nat}{m:Op}{ty:q!}{f:String}{j:Array Edge}{gd:Option (Nat×Bool)}(hi:nth l i=some ⟨some d,m,ty,f,j,gd⟩)(p:d<N)(q:gV l N F true gd)
  (s:gM P E g (ev F) ⟨some d,m,ty,f,j,gd⟩ v) (h:Dr P N E z l Q g e (gK F d v) H):Dr P N E z l Q g (.one i false e) F H :=
 Dr.first hi rfl p (λa n=>.inl ⟨q.wanted (o:=⟨some d,m,ty,f,j,gd⟩) n,λu r=>by rw[n.eval];exact s u r⟩) h
def Dr.skip{e:Td}{g:List aG}{d:Nat}{m:Op}{ty:q!}{f:String}{j:Array Edge}{gd:Option (Nat×Bool)}(hi:nth l i=some ⟨some d,m,ty,f,j,gd⟩)(p:d<N)(q:gV l N F false gd)
  (h:Dr P N E z l Q g e (gK F d undef) H):Dr P N E z l Q g (.one i false e) F H :=
 Dr.first hi rfl p (λ_a n=>.inr ⟨q.wanted (o:=⟨some d,m,ty,f,j,gd⟩) n,rfl⟩) h
theorem Dr.more{todo:Td}{Hk Hk':List aG}(h1:aB E Hk' Hk)(h2:aB E H Hk')(h:Dr P N E z l Q Hk' todo F H):Dr P N E z l Q Hk todo F H :=
 ⟨λlisted a u hcl hs hc ha hu _=>Vz (S:=St E Hk) (S':=St E Hk') h1 _ _ _ _ (h.get listed a u hcl hs hc ha hu (h2 u hu))⟩
structure lJ(P:Program)(N:Nat)(E:Env)(z:Nat)(l:List Oper)(Q:QF)(Hk:List aG)(i:Nat)(todo:Td)(F:Nat->Value)(H:List aG):Prop where
 get:∀(listed:Array Bool) (a:Act) (u:World),vF l (listed.setIfInBounds i true)->Region.noSelect l.toArray=true->dH l z (listed.setIfInBounds i true) todo=true->gZ E N F a->St E H u->St E Hk u->wpOp P l.toArray (lift N E Q) i (λa' w'=>(i≠z->St E Hk w'/\CS P l (lift N E Q) (St E Hk) z todo.len (listed.setIfInBounds i true) a' w')/\(i=z->wpAny P .any l.toArray (lift N E Q) todo.len (listed.setIfInBounds i true) a' w')) a u
theorem Dr.all{todo:Td}{Hk:List aG}(h:lJ P N E z l Q Hk i todo F H):Dr P N E z l Q Hk (.one i true todo) F H:=by
 refine⟨λlisted a u hcl hs hc ha hu hk=>?_⟩;simp only[dH,cond_true,fI,beq_iff_eq] at hc;refine⟨λh0=>i! (hc.1▸h0) s_,?_⟩;rw[hc.1];intro j hj;obtain rfl:j=i:=by simpa using hj
 exact h.get _ a u (hcl.set (by grind)) hs hc.2 ha hu hk
def Dr.two{s t:Td}{Hk:List aG}(h1:lJ P N E z l Q Hk i s F H)(h2:lJ P N E z l Q Hk j t F H):Dr P N E z l Q Hk (.two i s j t) F H:=by
 refine⟨λlisted a u hcl hs hc ha hu hk=>?_⟩;simp only[dH,fI,beq_iff_eq] at hc;have⟨⟨⟨hr,hlen⟩,hc1⟩,hc2⟩:=hc;have hlen:=Gi hlen;refine⟨λh0=>i! (hr▸h0) s_,?_⟩;rw[hr];intro m hm;rcases tK.1 hm with rfl|hm
 ·exact h1.get _ a u (hcl.set (by grind)) hs hc1 ha hu hk
 ·obtain rfl:m=j:=by simpa using hm
  have:=h2.get _ a u (hcl.set (by grind)) hs hc2 ha hu hk;grind
def lJ.go{todo:Td}{Hk:List aG}{d:Option Nat}{op:Op}{ty:q!}{pos:String}{gd:Option (Nat×Bool)}(hi:nth l i=some ⟨d,op,ty,pos,af,gd⟩)(hd:∀k,d=some k->k<N)(hg:gV l N F true gd)
  (h:dF P N E F H ⟨d,op,ty,pos,af,gd⟩ λv H'=>aB E H' Hk/\Dr P N E z l Q Hk todo (BQ F d v) H'):lJ P N E z l Q Hk i todo F H:=by
 refine⟨λlisted a u hcl hs hc ha hu hk=>?_⟩;have hi':l.toArray[i]?=some _:=(nW l i).symm.trans hi;unfold wpOp;simp only[hi',hg.wanted (o:=⟨d,op,ty,pos,af,gd⟩) ha,if_true];refine .inl (h a u ha hu _ _ ?_);rintro v H' u' ⟨hc2,hA⟩ hu';have hgo:=hA.get (listed.setIfInBounds i true) (a.put d v) u' hcl hs hc ?_ hu' (hc2 u' hu')
 ·exact⟨λ_=>⟨hc2 u' hu',hgo⟩,λ_=>LH _ _ _ _ hgo⟩
 cases d with
 |none=>exact ha
 |some k=>exact ha.put (hd k rfl) v
def Dr.go{e:Td}{g:List aG}{d:Option Nat}{m:Op}{ty:q!}{f:String}{j:Array Edge}{gd:Option (Nat×Bool)}(hi:nth l i=some ⟨d,m,ty,f,j,gd⟩)(n:∀k,d=some k->k<N)(p:gV l N F true gd)
  (h:dF P N E F H ⟨d,m,ty,f,j,gd⟩ λv H'=>aB E H' g/\Dr P N E z l Q g e (BQ F d v) H'):Dr P N E z l Q g (.one i true e) F H:=Dr.all (lJ.go hi n p h)
def lJ.mK{e:Td}{g:List aG}{d:Option Nat}{n:Op}{ty:q!}{f:String}{m:Array Edge}{gd:Option (Nat×Bool)}{K:p!->List aG->Prop}(hi:nth l i=some ⟨d,n,ty,f,m,gd⟩)(w:∀k,d=some k->k<N)(A:gV l N F true gd)
  (h:dF P N E F H ⟨d,n,ty,f,m,gd⟩ K) (B:∀v H',K v H'->aB E H' g/\Dr P N E z l Q g e (BQ F d v) H'):lJ P N E z l Q g i e F H :=
 lJ.go hi w A λa u s J p q r=>h a u s J p q λv H' M D j=>r v H' M (B v H' D) j
def Dr.mK{e:Td}{g:List aG}{d:Option Nat}{n:Op}{ty:q!}{f:String}{m:Array Edge}{gd:Option (Nat×Bool)}{K:p!->List aG->Prop}(hi:nth l i=some ⟨d,n,ty,f,m,gd⟩)(w:∀k,d=some k->k<N)(A:gV l N F true gd)
  (h:dF P N E F H ⟨d,n,ty,f,m,gd⟩ K) (B:∀v H',K v H'->aB E H' g/\Dr P N E z l Q g e (BQ F d v) H'):Dr P N E z l Q g (.one i true e) F H :=
 Dr.go hi w A λa u s J p q r=>h a u s J p q λv H' M D j=>r v H' M (B v H' D) j
def Dr.FX{Hk:List aG}{d:Option Nat}{op:Op}{ty:q!}{pos:String}{gd:Option (Nat×Bool)}{K:p!->List aG->Prop}(hi:nth l z=some ⟨d,op,ty,pos,af,gd⟩)(hd:∀k,d=some k->k<N)(hg:gV l N F true gd)
  (h:dF P N E F H ⟨d,op,ty,pos,af,gd⟩ K) (hk:∀v H',K v H'->Q .normal (BQ F d v) H'):Dr P N E z l Q Hk (.one z true .nil) F H:=by
 refine Dr.all ⟨λlisted a u hcl hs hc ha hu hk2=>?_⟩;have hi':l.toArray[z]?=some _:=(nW l z).symm.trans hi;unfold wpOp;simp only[hi',hg.wanted (o:=⟨d,op,ty,pos,af,gd⟩) ha,if_true];refine .inl (h a u ha hu _ _ ?_);intro v H' u' hA hu';refine⟨λhz=>i! rfl hz,λ_=>⟨by simpa [dH] using hc,_,H',?_,hu',hk v H' hA⟩⟩;cases d with
 |none=>exact ha
 |some k=>exact ha.put (hd k rfl) v
def Dr.Mt{e:Td}{n:List aG}{d:Nat}{s:Op}{ty:q!}{g:String}{p:Array Edge}{gd:Option (Nat×Bool)}(hi:nth l i=some ⟨some d,s,ty,g,p,gd⟩)(w:d<N)(A:gV l N F false gd)
  (h:Dr P N E z l Q n e (gK F d undef) H):Dr P N E z l Q n (.one i true e) F H:=by
 refine Dr.all ⟨λlisted a u j B v q D r=>?_⟩;have m:l.toArray[i]?=some _:=(nW l i).symm.trans hi;unfold wpOp;simp only[m,A.wanted (o:=⟨some d,s,ty,g,p,gd⟩) q];have f:=h.get _ _ u j B v (q.put w undef) D r;exact⟨λ_=>⟨r,f⟩,λ_=>LH _ _ _ _ f⟩
def Dr.done{d:List aG}(h:Q .normal F H):Dr P N E z l Q d .nil F H :=
 ⟨λlisted _ _ _ _ f e g _=>⟨by simpa [dH] using f,F,H,e,g,h⟩⟩
structure qP(P:Program)(N:Nat)(E:Env)(z:Nat)(l:List Oper)(Q:QF)(todo:Td)(F:Nat->Value)(H:List aG):Prop where
 get:∀listed a u,dH l z listed todo=true->gZ E N F a->St E H u->wpAny P .any l.toArray (lift N E Q) todo.len listed a u
def Dr.D5{todo:Td}{Hk:List aG}{d:Option Nat}{op:Op}{ty:q!}{pos:String}{gd:Option (Nat×Bool)}{K:p!->List aG->Prop}(hi:nth l z=some ⟨d,op,ty,pos,af,gd⟩)(hd:∀k,d=some k->k<N)(hg:gV l N F true gd)
  (h:dF P N E F H ⟨d,op,ty,pos,af,gd⟩ K) (hk:∀v H',K v H'->qP P N E z l Q todo (BQ F d v) H'):Dr P N E z l Q Hk (.one z true todo) F H:=by
 refine Dr.all ⟨λlisted a u hcl hs hc ha hu hk2=>?_⟩;have hi':l.toArray[z]?=some _:=(nW l z).symm.trans hi;unfold wpOp;simp only[hi',hg.wanted (o:=⟨d,op,ty,pos,af,gd⟩) ha,if_true];refine .inl (h a u ha hu _ _ ?_);intro v H' u' hA hu';refine⟨λhz=>i! rfl hz,λ_=>(hk v H' hA).get _ _ u' hc ?_ hu'⟩;cases d with
 |none=>exact ha
 |some k=>exact ha.put (hd k rfl) v
theorem qP.take{todo:Td}{d:Nat}{op:Op}{ty:q!}{pos:String}{gd:Option (Nat×Bool)}(hi:nth l i=some ⟨some d,op,ty,pos,af,gd⟩)(hd:d<N)(hg:gV l N F true gd)
  (hy:gM P E H (ev F) ⟨some d,op,ty,pos,af,gd⟩ v) (h:qP P N E z l Q todo (gK F d v) H):qP P N E z l Q (.one i true todo) F H:=by
 refine⟨λlisted a u hc ha hu=>?_⟩;simp only[dH,cond_true,fI,beq_iff_eq] at hc;refine⟨λh0=>i! (hc.1▸h0) s_,?_⟩;rw[hc.1];intro j hj;obtain rfl:j=i:=by simpa using hj
 have hi':l.toArray[j]?=some _:=(nW l j).symm.trans hi;unfold wpOp;simp only[hi',hg.wanted (o:=⟨some d,op,ty,pos,af,gd⟩) ha,if_true];refine .inl ?_;unfold Oper.wp;rw[ha.eval,hy u hu];exact h.get _ _ u hc.2 (ha.put hd v) hu
def qP.done(h:Q .normal F H):qP P N E z l Q .nil F H :=
 ⟨λlisted _ _ e d f=>⟨by simpa [dH] using e,F,H,d,f,h⟩⟩
end
end
section
variable {P:t!} {ρ:r!->p!} {o:Oper} {u:World}
def V.move(d:o.op=.move x)(e:ρ x=v):(execOp ρ o).run P u=.ok (.value v) u:=by simp[execOp,d,e]
def V.assign(d:o.op=.assign x)(e:ρ x=v):(execOp ρ o).run P u=.ok (.value v) u:=by simp[execOp,d,e]
def V.aFs{c:r!}{b:Bool}(e:o.op=.pick c x y)(d:ρ c=.bool b)(hb:b=true)(f:ρ x=v):(execOp ρ o).run P u=.ok (.value v) u:=by simp[execOp,e,d,hb,f,asBool]
def V.aLm{c:r!}{b:Bool}(e:o.op=.pick c x y)(d:ρ c=.bool b)(hb:b=false)(f:ρ y=v):(execOp ρ o).run P u=.ok (.value v) u:=by simp[execOp,e,d,hb,f,asBool]
def V.extract{t:r!}{vs:Array p!}(d:o.op=.extract t i)(e:ρ t=.tuple vs)(f:vs[i]?=some v):(execOp ρ o).run P u=.ok (.value v) u:=by simp[execOp,d,e,Instr.extract,f]
def V.nilCheck(d:o.op=.nilCheck x)(e:ρ x=.pointer (some a)):(execOp ρ o).run P u=.ok (.value (.pointer (some a))) u:=by simp[execOp,d,e]
def V.not{b:Bool}(d:o.op=.unOp .not t x)(e:ρ x=.bool b):(execOp ρ o).run P u=.ok (.value (.bool (!b))) u:=by simp[execOp,d,e,Op.unary]
section ints
variable {x y:r!} {t t':q!} {k:IntKind} {a b c:Int}
def V.add(d:o.op=.binOp .add t x y t')(f:ρ x=.int k a)(g:ρ y=.int k b)(e:k.wrap (a+b)=c):(execOp ρ o).run P u=.ok (.value (.int k c)) u:=by simp[execOp,d,f,g,eqGuard,binOp,Op.intArith,e]
def V.sub(d:o.op=.binOp .sub t x y t')(f:ρ x=.int k a)(g:ρ y=.int k b)(e:k.wrap (a - b)=c):(execOp ρ o).run P u=.ok (.value (.int k c)) u:=by simp[execOp,d,f,g,eqGuard,binOp,Op.intArith,e]
def V.mul(d:o.op=.binOp .mul t x y t')(f:ρ x=.int k a)(g:ρ y=.int k b)(e:k.wrap (a*b)=c):(execOp ρ o).run P u=.ok (.value (.int k c)) u:=by simp[execOp,d,f,g,eqGuard,binOp,Op.intArith,e]
def V.quo(d:o.op=.binOp .quo t x y t')(f:ρ x=.int k a)(g:ρ y=.int k b)(hb:b≠0)(e:k.wrap (a.tdiv b)=c):(execOp ρ o).run P u=.ok (.value (.int k c)) u:=by simp[execOp,d,f,g,eqGuard,binOp,Op.intDiv,hb,e]
def V.rem(d:o.op=.binOp .rem t x y t')(f:ρ x=.int k a)(g:ρ y=.int k b)(hb:b≠0)(e:a.tmod b=c):(execOp ρ o).run P u=.ok (.value (.int k c)) u:=by simp[execOp,d,f,g,eqGuard,binOp,Op.intDiv,hb,e]
def V.lss(d:o.op=.binOp .lss t x y t')(e:ρ x=.int k a)(f:ρ y=.int k b):(execOp ρ o).run P u=.ok (.value (.bool (decide (a<b)))) u:=by simp[execOp,d,e,f,eqGuard,binOp,Op.intCmp]
def V.leq(d:o.op=.binOp .leq t x y t')(e:ρ x=.int k a)(f:ρ y=.int k b):(execOp ρ o).run P u=.ok (.value (.bool (decide (a<=b)))) u:=by simp[execOp,d,e,f,eqGuard,binOp,Op.intCmp]
def V.gtr(d:o.op=.binOp .gtr t x y t')(e:ρ x=.int k a)(f:ρ y=.int k b):(execOp ρ o).run P u=.ok (.value (.bool (decide (b<a)))) u:=by simp[execOp,d,e,f,eqGuard,binOp,Op.intCmp]
def V.geq(d:o.op=.binOp .geq t x y t')(e:ρ x=.int k a)(f:ρ y=.int k b):(execOp ρ o).run P u=.ok (.value (.bool (decide (b<=a)))) u:=by simp[execOp,d,e,f,eqGuard,binOp,Op.intCmp]
def V.eql(d:o.op=.binOp .eql t x y t')(e:ρ x=.int k a)(f:ρ y=.int k b):(execOp ρ o).run P u=.ok (.value (.bool (decide (a=b)))) u:=by
 have:decide (a=b)=(a == b):=by grind
 simp[execOp,d,e,f,eqGuard,binOp,Op.intCmp,this]
def V.neq(d:o.op=.binOp .neq t x y t')(e:ρ x=.int k a)(f:ρ y=.int k b):(execOp ρ o).run P u=.ok (.value (.bool (decide (a≠b)))) u:=by
 have:decide (a≠b)=(a != b):=by grind
 simp[execOp,d,e,f,eqGuard,binOp,Op.intCmp,this]
def V.XU{d:BinOp}(g:o.op=.binOp d t x y t')(e:d=.and\/d=.or\/d=.xor\/d=.andNot)(h:ρ x=.int k a)(i:ρ y=.int k b)(f:Go.bits d k a b=c):(execOp ρ o).run P u=.ok (.value (.int k c)) u:=by
 rcases e with rfl|rfl|rfl|rfl<;>simp[execOp,g,h,i,eqGuard,binOp,Op.intBits,Go.bits] at f⊢ <;> exact f
def V.shl{k2:IntKind}(d:o.op=.binOp .shl t x y t')(f:ρ x=.int k a)(g:ρ y=.int k2 b)(hb:0<=b)(e:k.wrap (a*2 ^ min b.toNat k.bits)=c):(execOp ρ o).run P u=.ok (.value (.int k c)) u:=by
 simp[execOp,d,f,g,eqGuard,binOp,shift_shl_any _ _ _ _ hb,e]
def V.shr{k2:IntKind}(d:o.op=.binOp .shr t x y t')(f:ρ x=.int k a)(g:ρ y=.int k2 b)(hb:0<=b)(e:a / 2 ^ min b.toNat k.bits=c):(execOp ρ o).run P u=.ok (.value (.int k c)) u:=by
 simp[execOp,d,f,g,eqGuard,binOp,shift_shr_any _ _ _ _ hb,e]
def V.neg(d:o.op=.unOp .neg t x)(f:ρ x=.int k a)(e:k.wrap (-a)=c):(execOp ρ o).run P u=.ok (.value (.int k c)) u:=by
 simp[execOp,d,f,Op.unary,Op.intArith,e]
def V.conv{k2:IntKind}{s:TypeDesc}(e:o.op=.convert t t' x)(h:ρ x=.int k2 a)(g:P.underlying t=some s)(d:P.underlying t'=some (.int k))(f:k.wrap a=c):(execOp ρ o).run P u=.ok (.value (.int k c)) u:=by
 simp[execOp,e,h,convert,run_underlying g,run_underlying d,Conv.intToInt,f]
end ints
def run_equalIn_bool(d:Nat)(e:P.underlying t=some .bool)(a b:Bool):(Op.equalIn (d+1) t (.bool a) (.bool b)).run P u=.ok (a == b) u:=by
 simp[Op.equalIn,run_underlying e]
def run_eql_bool(d:P.underlying t=some .bool)(a b:Bool):(binOp .eql t (.bool a) (.bool b)).run P u=.ok (.bool (a == b)) u:=by
 simp only[binOp];simp[Op.equal,Op.maxDepth,run_equalIn_bool 9999 d]
def run_neq_bool(d:P.underlying t=some .bool)(a b:Bool):(binOp .neq t (.bool a) (.bool b)).run P u=.ok (.bool (!(a == b))) u:=by
 simp only[binOp];simp[Op.equal,Op.maxDepth,run_equalIn_bool 9999 d]
def V.ZD{a b:Bool}(d:o.op=.binOp .eql t x y t')(e:P.underlying t=some .bool)(f:ρ x=.bool a)(g:ρ y=.bool b):(execOp ρ o).run P u=.ok (.value (.bool (a == b))) u:=by
 have h:=run_eql_bool (u:=u) e a b;simp only[execOp,d,f,g,eqGuard];simp[h]
def V.aQt{a b:Bool}(d:o.op=.binOp .neq t x y t')(e:P.underlying t=some .bool)(f:ρ x=.bool a)(g:ρ y=.bool b):(execOp ρ o).run P u=.ok (.value (.bool (!(a == b)))) u:=by
 have h:=run_neq_bool (u:=u) e a b;simp only[execOp,d,f,g,eqGuard];simp[h]
def V.ZI{a b:o!}(d:o.op=.binOp .eql t x y t')(f:ρ x=.string (DT a))(g:ρ y=.string (DT b)):(execOp ρ o).run P u=.ok (.value (.bool (decide (a=b)))) u:=by
 have e:(a == b)=decide (a=b):=by grind
 simp[execOp,d,f,g,eqGuard,binOp_string_eql,Vc,e]
def V.aFh{a b:o!}(d:o.op=.binOp .neq t x y t')(f:ρ x=.string (DT a))(g:ρ y=.string (DT b)):(execOp ρ o).run P u=.ok (.value (.bool (decide (a≠b)))) u:=by
 have e:(a == b)=decide (a=b):=by grind
 simp[execOp,d,f,g,eqGuard,binOp_string_neq,Vc,e]
def UQ(d:Nat)(f:P.underlying t=some (.pointer e))(a:n!):(Op.equalIn (d+1) t (.pointer a) (.pointer none)).run P u=.ok a.isNone u:=by
 cases a<;>simp[Op.equalIn,run_underlying f]
def aMv(d:P.underlying t=some (.pointer e))(a:n!):(binOp .neq t (.pointer a) (.pointer none)).run P u=.ok (.bool a.isSome) u:=by
 simp only[binOp];cases a<;>simp[Op.equal,Op.maxDepth,UQ 9999 d]
def aGu(d:P.underlying t=some (.pointer e))(a:n!):(binOp .eql t (.pointer a) (.pointer none)).run P u=.ok (.bool a.isNone) u:=by
 simp only[binOp];cases a<;>simp[Op.equal,Op.maxDepth,UQ 9999 d]
def V.aFy{a:n!}(d:o.op=.binOp .neq t x y t')(f:P.underlying t=some (.pointer e))(g:ρ x=.pointer a)(i:ρ y=.pointer none):(execOp ρ o).run P u=.ok (.value (.bool a.isSome)) u:=by
 have h:=aMv (u:=u) f a;simp only[execOp,d,g,i,eqGuard];simp[h]
def V.ZG{a:n!}(d:o.op=.binOp .eql t x y t')(f:P.underlying t=some (.pointer e))(g:ρ x=.pointer a)(i:ρ y=.pointer none):(execOp ρ o).run P u=.ok (.value (.bool a.isNone)) u:=by
 have h:=aGu (u:=u) f a;simp only[execOp,d,g,i,eqGuard];simp[h]
def V.len{n:Nat}(f:o.op=.call { callee:=.builtin .len,args:=#[x],argTypes:=#[t] })(g:P.underlying t=some (.slice e))(i:ρ x=.slice A n m)(d:n<=maxLen):(execOp ρ o).run P u=.ok (.value (a! n)) u:=by
 have h:IntKind.i64.wrap (n:Int)=n:=dY _ (by unfold maxLen at d;omega);simp[execOp,f,resolve,i,invoke,builtin,Builtin.len_,run_underlying g,goInt]
def V.fieldAddr{s:q!}{d:Array Field}{f:Field}{b:Addr}{e:TypeInfo}(h:o.op=.fieldAddr s x i)(m:ρ x=.pointer (some a))(l:P.underlying s=some (.struct d))(g:d[i]?=some f)(hi:P.info? f.type=some e)(n:e.size≠0)(j:f.offset=q)(hb:a.add q=b) :
  (execOp ρ o).run P u=.ok (.value (.pointer (some b))) u:=by
 simp[execOp,h,m,Instr.fieldAt,run_underlying l,g,Instr.sureAddr,fieldPlace,sizeOf,typeInfo,hi,n,j,hb]
def V.indexAddr{i:r!}{b:Addr}{n c:Nat}{j:Int}{d:TypeInfo}(p:o.op=.indexAddr t x i)(v:ρ x=.slice (some a) n c)(hi:ρ i=.int k j)(s:P.underlying t=some (.slice e))(h:P.info? e=some d)(f:0<=j)(g:j<n)(l:j.toNat=m)(r:d.size=q)(hb:a.add (m*q)=b) :
  (execOp ρ o).run P u=.ok (.value (.pointer (some b))) u:=by
 simp[execOp,p,v,hi,Instr.indexAt,asIntOf,run_underlying s,sizeOf,typeInfo,h,f,g,l,r,hb]
def V.load{d:TypeDesc}(g:o.op=.load t x)(i:ρ x=.pointer (some a))(h:P.underlying t=some d)(f:(d matches .struct _ | .array _ _)=false)(e:u.cell? a=some v):(execOp ρ o).run P u=.ok (.value v) u:=by
 cases d<;>simp at f<;>simp[execOp,g,i,Instr.loadAt,Instr.sureAddr,loadVar,isAgg,run_underlying h,e]
def V.slice{lo hi d:Option r!}{n c:Nat}(f:o.op=.slice t x lo hi d)(i:ρ x=.slice A n c)(g:P.underlying t=some (.slice e))
  (h:(Instr.slice t (.slice A n c) (lo.map ρ) (hi.map ρ) (d.map ρ)).run P u=.ok v u):(execOp ρ o).run P u=.ok (.value v) u:=by
 simp[execOp,f,i,Instr.sliceAt,run_underlying g,h]
def S.from_{n c:Nat}{i:Int}{d:TypeInfo}(l:P.underlying t=some (.slice e))(f:P.info? e=some d)(hi:i=j)(g:j<=n)(_hc:n<=c) :
  (Instr.slice t (.slice A n c) (some (.int k i)) none none).run P u=.ok (.slice (if c=j then A else A.map (·.add (j*d.size))) (n - j) (c - j)) u:=by
 subst hi;simp[Instr.slice,Instr.sliceBounds,Instr.sliceBound,asIntOf,run_underlying l,sizeOf,typeInfo,f,g];try (intro h;omega)
theorem S.upto{n c:Nat}{i:Int}{h:TypeInfo}(g:P.underlying t=some (.slice e))(d:P.info? e=some h)(hi:i=j)(f:j<=c) :
  (Instr.slice t (.slice A n c) none (some (.int k i)) none).run P u=.ok (.slice A j c) u:=by
 subst hi;have e:(if c=0 then A else Option.map (λx=>x.add 0) A)=A:=by cases A<;>simp[Addr.add]
 simp[Instr.slice,Instr.sliceBounds,Instr.sliceBound,asIntOf,run_underlying g,sizeOf,typeInfo,d,f,e]
def S.both{n c:Nat}{k2:IntKind}{i f:Int}{g:TypeInfo}(q:P.underlying t=some (.slice e))(h:P.info? e=some g)(hi:i=j)(d:f=m)(l:j<=m)(p:m<=c) :
  (Instr.slice t (.slice A n c) (some (.int k i)) (some (.int k2 f)) none).run P u=.ok (.slice (if c=j then A else A.map (·.add (j*g.size))) (m - j) (c - j)) u:=by
 subst hi d;simp[Instr.slice,Instr.sliceBounds,Instr.sliceBound,asIntOf,run_underlying q,sizeOf,typeInfo,h,l,p]
def V.convert{d:p!}(e:o.op=.convert t t' x)(f:ρ x=d)(h:(Go.convert t t' d).run P u=.ok v u):(execOp ρ o).run P u=.ok (.value v) u:=by
 simp[execOp,e,f,h]
def V.box(d:o.op=.box t x)(e:ρ x=v):(execOp ρ o).run P u=.ok (.value (.pointer (some ⟨u.heap.size,0,none⟩))) (u.alloc (.cells v.cells t)):=by
 simp[execOp,d,e,Instr.box,newVar,newRow]
end
section
variable {P:t!} {N:Nat} {E:Env} {F:Nat->p!} {H H' R:List aG} {ρ:r!->p!} {o:Oper} {K:p!->List aG->Prop}
def V.aNw{k2:IntKind}{a c:Int}(b:o.op=.binOp .shl t x y t')(e:ρ x=.int k a)(f:ρ y=.int k2 8)(d:k.wrap (a*256)=c):(execOp ρ o).run P u=.ok (.value (.int k c)) u:=by
 refine V.shl b e f o_ ?_;subst d;cases k<;>first|rfl|(simp[IntKind.bits])
def V.max{d:Array q!}{a b:Int}(f:o.op=.call { callee:=.builtin .max,args:=#[x,y],argTypes:=d })(g:ρ x=.int k a)(i:ρ y=.int k b):(execOp ρ o).run P u=.ok (.value (.int k (Max.max a b))) u:=by
 have e:(if b > a then b else a)=Max.max a b:=by rw[Int.max_def];split<;>split<;>omega
 have h:=run_max_int2 (P:=P) (w:=u) d o.type k k a b;rw[e] at h;simp[execOp,f,resolve,g,i,invoke,builtin,h]
def V.min{d:Array q!}{a b:Int}(f:o.op=.call { callee:=.builtin .min,args:=#[x,y],argTypes:=d })(g:ρ x=.int k a)(i:ρ y=.int k b):(execOp ρ o).run P u=.ok (.value (.int k (Min.min a b))) u:=by
 have e:(if b<a then b else a)=Min.min a b:=by rw[Int.min_def];split<;>split<;>omega
 have h:=run_min_int2 (P:=P) (w:=u) d o.type k k a b;rw[e] at h;simp[execOp,f,resolve,g,i,invoke,builtin,h]
def Y.load{d:TypeDesc}(f:o.op=.load t x)(i:ρ x=.pointer (some a))(g:P.underlying t=some d)(e:lY d=false)(b:Cell E H a v):gM P E H ρ o v :=
 λu h=>V.load f i g (by cases d<;>first|rfl|cases e) (b u h)
def UU{d:TypeDesc}{b:TypeInfo}(i:P.underlying t=some d)(f:lY d=true)(hi:P.info? t=some b)(h:b.size=vs.length)
  (e:∀j v,vs[j]?=some v->u.cell? (a.add j)=some v):(loadVar t a).run P u=.ok (.agg vs.toArray) u:=by
 have g:=run_loadCells_list (P:=P) u a vs e;cases d<;>simp[lY] at f<;>simp[loadVar,isAgg,run_underlying i,sizeOf,typeInfo,hi,h,g]
def Y.HU{d:TypeDesc}{b:TypeInfo}(g:o.op=.load t x)(m:ρ x=.pointer (some a))(j:P.underlying t=some d)(f:lY d=true)(hi:P.info? t=some b)(i:b.size=vs.length)
  (e:Cells E H a vs):gM P E H ρ o (.agg vs.toArray):=by
 intro u k;have h:=UU (u:=u) j f hi i (e u k);simp[execOp,g,m,Instr.loadAt,Instr.sureAddr,h]
section
variable {α:Type} {T:Ty α} {A:n!} {n c:Nat} {l:List α}
def Y.Se{k:Nat}{e:α}(s:o.op=.load t x)(u:ρ x=.pointer (some ((ad A).add q)))(h:eE E H T A n c l)(r:l[k]?=some e)(p:q=k*T.size)(w:T.tid=t):gM prog E H ρ o (T.val e):=by
 subst p w;have i:=T.lF;cases j:prog.info? T.tid with
 |none=>simp[j] at i
 |some z =>
  simp[j] at i;rcases T.mQ with⟨a,b⟩|⟨a,b⟩
  ·have⟨d,g,m⟩:=PZ.1 a;have⟨cs,f⟩:=b e;have:=Y.HU (P:=prog) (E:=E) (H:=H) s u g m j (vs:=T.enc e) (by rw[T.vL];exact i.2.1) (Cells.elem h r rfl);have v:Value.agg (T.enc e).toArray=T.val e:=by simp[Ty.enc,f,Value.cells]
   rwa [v] at this
  ·have⟨d,g,m⟩:=PZ.1 a;have y:(T.enc e)[0]?=some (T.val e):=by
    have:=b e;unfold Ty.enc;cases p:T.val e<;>simp[p,Value.oneCell',Value.cells] at this⊢
   exact Y.load s u g m (Cell.RB h r rfl y)
def Y.indexAddr{i:r!}{j:Int}{e:α}(s:o.op=.indexAddr t x i)(y:ρ x=.slice A n c)(hi:ρ i=.int k j)(h:eE E H T A n c l)(r:j.toNat=m)(g:0<=j)(p:l[m]?=some e)(v:prog.underlying t=some (.slice T.tid))(d:m*T.size=q) :
  gM prog E H ρ o (.pointer (some ((ad A).add q))):=by
 subst d;intro u w;have⟨z,B,D,f⟩:=h u w;have J:=(cH.1 p).1;have b:=T.lF;cases d:prog.info? T.tid with
 |none=>simp[d] at b
 |some M =>
  simp[d] at b;rcases f with f|⟨a,rfl,_⟩
  ·omega
  ·exact V.indexAddr s y hi v d g o_ r b.2.1 rfl
def Y.len(d:o.op=.call { callee:=.builtin .len,args:=#[x],argTypes:=#[t] })(g:ρ x=.slice A n c)(h:eE E H T A n c l)(e:prog.underlying t=some (.slice T.tid)):gM prog E H ρ o (a! n):=by
 intro u f;have⟨_,a,b,_⟩:=h u f;exact V.len d e g (iR a b)
def Ty.sG(T:Ty α):∃a,prog.info? T.tid=some a/\a.zero=some T.zero/\a.size=T.size/\a.bytes=T.bytes:=by
 have b:=T.lF;cases d:prog.info? T.tid with
 |none=>simp[d] at b
 |some a=>simp[d] at b;exact⟨a,rfl,b.1,b.2.1,b.2.2⟩
def Y.aPk{lo:r!}{i:Int}(p:o.op=.slice t x (some lo) none none)(s:ρ x=.slice A n c)(d:ρ lo=.int k i)(h:eE E H T A n c l)(m:i.toNat=j)(f:0<=i)(b:j<=n)(q:prog.underlying t=some (.slice T.tid)) :
  gM prog E H ρ o (.slice (if c=j then A else A.map (·.add (j*T.size))) (n - j) (c - j)):=by
 intro u r;subst m;have⟨_,v,w,_⟩:=h u r;have⟨y,g,_,e,_⟩:=T.sG;have a:i.toNat<=n↔i<=n:=o_;simp[execOp,p,s,Instr.sliceAt,Instr.slice,Instr.sliceBounds,Instr.sliceBound,asIntOf,run_underlying q,sizeOf,typeInfo,g,d,f,a.1 b,e];try (intro h;omega)
def Y.aQr{hi:r!}{i:Int}(m:o.op=.slice t x none (some hi) none)(s:ρ x=.slice A n c)(b:ρ hi=.int k i)(h:eE E H T A n c l)(f:i.toNat=j)(d:0<=i)(g:j<=n)(q:prog.underlying t=some (.slice T.tid)) :
  gM prog E H ρ o (.slice A j c):=by
 intro u r;subst f;have⟨_,v,w,_⟩:=h u r;have⟨y,hi,_,p,_⟩:=T.sG;have e:(if c=0 then A else Option.map (λx=>x.add 0) A)=A:=by cases A<;>simp[Addr.add]
 have a:i<=c:=o_;simp[execOp,m,s,Instr.sliceAt,Instr.slice,Instr.sliceBounds,Instr.sliceBound,asIntOf,run_underlying q,sizeOf,typeInfo,hi,b,d,a,e]
def Y.aOk{hi q:r!}{k2:IntKind}{i a:Int}(B:o.op=.slice t x none (some hi) (some q))(O:ρ x=.slice A n c)(g:ρ hi=.int k i)(p:ρ q=.int k2 a)(h:eE E H T A n c l)(v:i.toNat=j)(s:0<=i)(z:a.toNat=m)(b:0<=a)(w:j<=m)(y:m<=n)(J:prog.underlying t=some (.slice T.tid)) :
  gM prog E H ρ o (.slice A j m):=by
 intro u M;subst v z;have⟨_,Q,U,_⟩:=h u M;have⟨W,hi,_,D,_⟩:=T.sG;have e:Option.map (λx=>x.add 0) A=A:=by cases A<;>simp[Addr.add]
 have f:a<=c:=o_;have d:i<=a:=o_;have r:max a 0=a:=o_;simp[execOp,B,O,Instr.sliceAt,Instr.slice,Instr.sliceBounds,Instr.sliceBound,asIntOf,run_underlying J,sizeOf,typeInfo,hi,g,p,s,b,f,d,e,r]
def Y.aLg{lo hi:r!}{k2:IntKind}{i a:Int}(z:o.op=.slice t x (some lo) (some hi) none)(J:ρ x=.slice A n c)(g:ρ lo=.int k i)(f:ρ hi=.int k2 a)(h:eE E H T A n c l)(s:i.toNat=j)(r:0<=i)(y:a.toNat=m)(b:0<=a)(v:j<=m)(w:m<=n)(B:prog.underlying t=some (.slice T.tid)) :
  gM prog E H ρ o (.slice (if c=j then A else A.map (·.add (j*T.size))) (m - j) (c - j)):=by
 intro u D;subst s y;have⟨_,M,O,_⟩:=h u D;have⟨Q,hi,_,p,_⟩:=T.sG;have e:a<=c:=o_;have d:i<=a:=o_;have q:max a 0=a:=o_;simp[execOp,z,J,Instr.sliceAt,Instr.slice,Instr.sliceBounds,Instr.sliceBound,asIntOf,run_underlying B,sizeOf,typeInfo,hi,g,f,r,b,e,d,p,q]
end
def Y.ZU{s:q!}{a:Array Field}{f:Field}{cs:Array p!}{d:TypeDesc}(g:o.op=.field s x i)(m:ρ x=.agg cs)(h:P.underlying s=some (.struct a))(e:a[i]?=some f)
  (j:P.underlying f.type=some d) (b:lY d=false) (k:cs[f.offset]?=some v):gM P E H ρ o v:=by
 intro u _;cases d<;>simp[lY] at b<;>simp[execOp,g,m,Instr.field,run_underlying h,e,asAgg,part,isAgg,run_underlying j,k]
structure Rec(P:Program)(t:TypeId)(z:List Value)(pl:List (Nat×Nat)):Prop where
 zero:((P.info? t).bind (·.zero)).map (·.cells.toList)=some z
 Nr:(match P.underlying t with|some (.struct fields)=>fields.toList.mapM (λf=>(P.info? f.type).map λi=>(f.offset,i.size))|_=>none)=some pl
def vT:List p!->Nat->List p!->List p!
 |cs,_,[]=>cs
 | [],_,_=>[]
 |_::cs,0,v::a=>v::vT cs 0 a
 |c::cs,k+1,a=>c::vT cs k a
def FT(a:List (Nat×Nat))(z:List p!):List (Nat×p!)->Option (List p!)
 | []=>some z
 | (i,v)::rest=>match a[i]? with
  |none=>none
  |some (off,size)=>bif Nat.beq v.cells.toList.length size&&Nat.ble (off+v.cells.toList.length) z.length then FT a (vT z off v.cells.toList) rest else none
def KV:∀(cs:List p!) (k:Nat) (a:List p!),k+a.length<=cs.length->vT cs k a=cs.take k++a++cs.drop (k+a.length)
 |cs,k,[],_=>by cases cs<;>simp[vT]
 | [],k,v::a,h=>by simp at h
 |c::cs,0,v::a,h=>by rw[vT,KV cs 0 a (by simp at h⊢;omega)];simp[Di]
 |c::cs,k+1,v::a,h=>by
  have b:vT (c::cs) (k+1) (v::a)=c::vT cs k (v::a):=by simp[vT]
  rw[b,KV cs k (v::a) (by simp at h⊢;omega)];rw[show k+1+(v::a).length=(k+(v::a).length)+1 by omega];simp
def Mm(d:List (Nat×Nat)):∀(parts:List (Nat×p!)) (z:Array p!) (out:List p!),FT d z.toList parts=some out->Instr.fill (d.toArray[·]?) z parts=some out.toArray
 | [],z,out,h=>by simp[FT] at h;subst h;simp[Instr.fill]
 | (i,v)::rest,z,out,h=>by
  unfold FT at h;cases g:d[i]? with
  |none=>simp[g] at h
  |some q =>
   have⟨off,size⟩:=q;simp only[g] at h;cases b:(Nat.beq v.cells.toList.length size&&Nat.ble (off+v.cells.toList.length) z.toList.length) with
   |false=>rw[b] at h;cases h
   |true =>
    rw[b,cond_true] at h;rw[fI] at b;have k:v.cells.toList.length=size:=Gi b.1;have f:off+v.cells.toList.length<=z.toList.length:=Nat.le_of_ble_eq_true b.2;rw[KV _ _ _ f] at h;have r:∀(cs:List p!) (j:Nat) (a:Array p!),off+j+cs.length<=a.size->((cs.zipIdx j).foldl (λcs (x:p!×Nat)=>cs.setIfInBounds (off+x.2) x.1) a).toList=a.toList.take (off+j)++cs++a.toList.drop (off+j+cs.length):=by
     intro cs
     induction cs with
     |nil=>intro j a _;simp
     |cons c cs t =>
      intro j a s;simp only[gL] at s;rw[List.zipIdx_cons,CX,t (j+1) _ (by simp;omega)];simp only[Array.toList_setIfInBounds,gL];have e:=list_seg_step a.toList (off+j) c cs (by simp;omega);simpa [Ac] using e
    have m:=r v.cells.toList 0 z (by simpa using f);have p:=Mm d rest (v.cells.zipIdx.foldl (λcs (x:p!×Nat)=>cs.setIfInBounds (off+x.2) x.1) z) out (by
     rw[<-Array.foldl_toList,Array.toList_zipIdx,m];simpa using h)
    rw[Instr.fill];simp only[PR,g];rw[b! (by simp at k f⊢;omega)];simpa using p
def pv(ρ:r!->p!):List (Nat×r!)->List (Nat×p!)
 | []=>[]
 | (i,x)::l=>(i,ρ x)::pv ρ l
def KW(ρ:r!->p!):∀l:List (Nat×r!),(l.toArray.map λ(i,x)=>(i,ρ x)).toList=pv ρ l
 | []=>by simp[pv]
 | (i,x)::l=>by have:=KW ρ l;simp[pv] at this⊢;exact this
inductive PV(ρ:Operand->Value):List (Nat×Operand)->List (Nat×Value)->Prop
 |nil:PV ρ [] []
 |cons {i:Nat} {x:Operand} {v:Value} {l:List (Nat×Operand)} {vs:List (Nat×Value)} (h:ρ x=v) (t:PV ρ l vs):PV ρ ((i,x)::l) ((i,v)::vs)
def PV.eq{ρ:r!->p!}{l:List (Nat×r!)}{vs:List (Nat×p!)}(h:PV ρ l vs):pv ρ l=vs:=by
 induction h with
 |nil=>rfl
 |cons h _ a=>rw[pv,h,a]
inductive xQ:Value->List Value->Prop
 |agg {l:List Value}:xQ (.agg l.toArray) l
 |one {v:Value} (h:v.oneCell'=true):xQ v [v]
def xQ.eq{l:List p!}(h:xQ v l):v.cells.toList=l:=by
 cases h with
 |agg=>simp[Value.cells]
 |one h=>cases v<;>first|rfl|cases h
inductive vI:List Value->Nat->List Value->List Value->Prop
 |done {cs:List Value}:vI cs 0 [] cs
 |aR {c v:Value} {cs vs out:List Value} (h:vI cs 0 vs out):vI (c::cs) 0 (v::vs) (v::out)
 |next {c:Value} {cs vs out:List Value} {k:Nat} (h:vI cs k vs out):vI (c::cs) (k+1) vs (c::out)
def vI.eq{k:Nat}{out:List p!}(h:vI z k vs out):k+vs.length<=z.length/\vT z k vs=out:=by
 induction h with
 |done=>simp[vT]
 |aR h a=>exact⟨by have:=a.1;simp at this⊢;omega,by rw[vT,a.2]⟩
 | @next c cs vs out k h a =>
  refine⟨by have:=a.1;simp at this⊢;omega,?_⟩;rw[<-a.2];cases vs with
  |nil=>simp[vT]
  |cons v vs=>simp[vT]
inductive zG(pl:List (Nat×Nat)):List Value->List (Nat×Value)->List Value->Prop
 |nil {z:List Value}:zG pl z [] z
 |cons {z z' cs out:List Value} {i off size:Nat} {v:Value} {rest:List (Nat×Value)} (h:pl[i]?=some (off,size)) (hc:xQ v cs) (hp:vI z off cs z') (hs:cs.length=size) (t:zG pl z' rest out):zG pl z ((i,v)::rest) out
def zG.eq{b:List (Nat×Nat)}{out:List p!}{vs:List (Nat×p!)}(h:zG b z vs out):FT b z vs=some out:=by
 induction h with
 |nil=>rfl
 |cons h d a e t f =>
  rw[FT,h];simp only;rw[d.eq,show Nat.beq _ _=true from(by subst e;exact Nat.beq_refl _),show Nat.ble _ _=true from Nat.ble_eq_true_of_le a.eq.1];simp only[Bool.and_self,cond_true];rw[a.eq.2,f]
def Y.build{a:List (Nat×r!)}{vs:List (Nat×p!)}{k:List (Nat×Nat)}{cells:List p!}(q:o.op=.build t a.toArray)(h:PV ρ a vs)(m:Rec P t z k)(hb:zG k z vs cells):gM P E H ρ o (.agg cells.toArray):=by
 intro u _;have hb:=hb.eq;have h:=h.eq;subst h;have e:=m.zero;have f:=m.Nr;have:P.built t (a.toArray.map λ(i,x)=>(i,ρ x)).toList=some cells.toArray:=by
  rw[KW];unfold Program.built;cases g:P.info? t with
  |none=>simp[g] at e
  |some r =>
   cases j:r.zero with
   |none=>simp[g,j] at e
   |some s =>
    simp[g,j] at e;cases p:P.underlying t with
    |none=>simp[p] at f
    |some d =>
     cases d<;>simp[p] at f
     simp only[j,f];exact Mm k _ _ _ (by rw[e];exact hb)
 have b:=run_build u t _ cells.toArray this;simp only[execOp,q,iE];rw[b];rfl
def S.box{cs:List p!}(i:o.op=.box t x)(k:ev F x=v)(d:xQ v cs)(h:∀g,K (.pointer (some ⟨g,0,none⟩)) (aE g t cs::H)):dF P N E F H o K:=by
 intro a u f j m p e;unfold Oper.wp;rw[f.eval,V.box (u:=u) i k];refine e _ _ _ (h u.heap.size) ?_;refine j.grow (l:=[aE u.heap.size t cs]) rfl rfl rfl s_ (λb hb=>CT _ _ _ hb) (F1:=λb=>b=u.heap.size) ⟨_,λ_=>False,λb=>by simp,λb _ h=>h,⟨λb=>oB,?_⟩,λb h=>h⟩ (λb hb=>by omega);rw[heap_alloc_new,<-d.eq]
def run_storeVar_row{b:TypeInfo}{a:Array p!}(hi:P.info? t=some b)(i:v.cells.size=b.size)(d:∀x∈v.cells.toList,x.oneCell'=true)(f:u.heap[g]?=some (.cells a e (0,0)))(h:q+v.cells.size<=a.size) :
  (storeVar t ⟨g,q,none⟩ v).run P u=.ok () (u.setRow g (a.toList.take q++v.cells.toList++a.toList.drop (q+v.cells.size)).toArray):=by
 have:=run_storeCells_at P g q e v.cells.toList 0 a u f (by simpa using h) d;simp[storeVar,sizeOf,typeInfo,hi,i] at this⊢;exact this
def St.setRow(p:St E H u){a b:aG}(m:eQ a [b] H H')(g:Nat)(cs:Array p!)(i:∀F1,a.holds F1 u->F1 g/\b.holds F1 (u.setRow g cs)):St E H' (u.setRow g cs):=by
 refine p.kB m rfl rfl rfl s_ (G:=λk=>k=g) (λk _ j=>setRow_other u g k cs j) λF1 d=>?_;have⟨e,f⟩:=i F1 d;exact⟨F1,⟨F1,λ_=>False,λb=>by simp,λ_ _ h=>h,f,λ_ h=>h⟩,λb hb=>.inl hb,λb _ hb=>by rw[hb];exact e⟩
def S.store{s:TypeInfo}{cs b:List p!}(O:o.op=.store t x y)(W:ev F x=.pointer (some ⟨g,i,none⟩))(X:ev F y=v)(D:∀x∈v.cells.toList,x.oneCell'=true)(hi:P.info? t=some s)(U:v.cells.size=s.size)
  (k:eQ (aE g e cs) [aE g e b] H H') (Q:i+v.cells.size<=cs.length) (m:cs.take i++v.cells.toList++cs.drop (i+v.cells.size)=b) (h:K undef H'):dF P N E F H o K:=by
 intro a u M r Kw Q' J;have p:u.heap[g]?=some (.cells cs.toArray e (0,0)):=by
  have⟨j,B,_⟩:=r.fp;have:∀ {H H':List aG} {j},eQ (aE g e cs) [aE g e b] H H'->fG H j u->u.heap[g]?=some (.cells cs.toArray e (0,0)):=by
   intro H H' j k
   induction k generalizing j with
   |aR=>rintro⟨w,z,_,_,⟨_,h⟩,_⟩;exact h
   |bJ _ Z=>rintro⟨w,z,_,_,_,h⟩;exact Z h
  exact this k B
 have d:=run_storeVar_row (u:=u) (q:=i) hi U D p (by simpa using Q);unfold Oper.wp;rw[M.eval];have f:(execOp (ev F) o).run P u=.ok .skip (u.setRow g b.toArray):=by
  simp only[] at d;rw[m] at d;simp[execOp,O,W,X,Instr.storeAt,Instr.sureAddr,d]
 rw[f];refine J undef _ _ h (St.setRow r k g _ λF1 ⟨k1,k2⟩=>⟨(k1 _).2 rfl,k1,?_⟩);exact setRow_heap u g _ _ _ _ p
section
variable {α:Type} {T:Ty α} {A:n!} {n c:Nat} {l:List α}
def KM(m:c≠0)(h:(own T A n c l).holds F1 u):u.ownsRow 0 T.tid T.size (.slice A n c) n (T.cE l)/\(∀b,F1 b↔Value.ownBlock (.slice A n c)=some b):=by
 obtain⟨d,⟨_,h,_⟩|⟨g,a,rfl,k,p,e,f,i,j⟩⟩:=h
 ·exact i! h m
 ·exact⟨⟨by rw[T.mH,<-d],.inr ⟨g,c,a,rfl,bY _,p,e,f,i,j⟩⟩,λb=>by simp[Value.ownBlock,k b,eq_comm]⟩
def aKa{ty:q!}{nx:Nat}(i:prog.underlying t=some (.slice T.tid))(A:n!)(b:nx=0):(Builtin.append_ #[t,t] ty #[.slice A 0 0,.slice X nx cx]).run prog u=.ok (.slice A 0 0) u:=by
 subst b;have⟨k,e,j,g,d⟩:=T.sG;have f:∀a:Addr,(loadCells a 0).run prog u=.ok #[] u:=λa=>run_loadCells_list (P:=prog) u a [] (λj v h=>by simp at h);cases A<;>cases X<;>simp[Builtin.append_,run_underlying i,sizeOf,typeInfo,e,Builtin.lenOf,Builtin.firstCells,storeCells,f]
def aPq{ty:q!}{nx:Nat}(r:prog.underlying t=some (.slice T.tid))(A:n!)(e:nx≠0)(p:nx<=140737488355328)(hb:nx*T.bytes<=140737488355328):(Builtin.append_ #[t,t] ty #[.slice A 0 0,.slice X nx cx]).run prog u=(Builtin.append_ #[t,t] ty #[.slice none 0 0,.slice X nx cx]).run prog u:=by
 have⟨d,j,s,q,b⟩:=T.sG;have k:∀(a:Addr) (w:World),(loadCells a 0).run prog w=.ok #[] w:=λa w=>run_loadCells_list (P:=prog) w a [] (λj v h=>by simp at h);have g:¬((9223372036854775807:Int)<nx/\d.bytes=0):=o_;have i:(Question.appendCap nx 0 T.tid).forced=false:=rfl;have m:Builtin.nextslicecap nx 0=nx:=by unfold Builtin.nextslicecap;rw[c! o_]
 have f:¬(281474976710656<nx*d.bytes):=by rw[b];omega
 cases A with
 |none=>rfl
 |some a =>
  simp[Builtin.append_,run_underlying r,sizeOf,typeInfo,j,Builtin.lenOf,Builtin.firstCells,e,m,f,g,i,k]
def Ni(i:n=l.length)(h:u.ownsRow 0 T.tid T.size (.slice A n c) n (T.cE l)):(own T A n c l).holds (λb=>Value.ownBlock (.slice A n c)=some b) u:=by
 obtain⟨_,⟨f,r⟩|⟨g,cap,e,f,_,q,j,k,m,p⟩⟩:=h
 ·injection f with a b d;subst a;subst d;exact⟨i,.inl ⟨r,rfl,λb hb=>by simp[Value.ownBlock] at hb⟩⟩
 ·injection f with a b d;subst a;subst d;exact⟨i,.inr ⟨g,e,rfl,λb=>by simp[Value.ownBlock,eq_comm],q,j,k,m,p⟩⟩
def eQ.has{a:aG}{l:List aG}(h:eQ a l H H'):∃R,Has a H R:=by
 induction h with
 |aR=>exact⟨_,.aR⟩
 |bJ _ b=>have⟨R,h⟩:=b;exact⟨_,.bJ h⟩
def S.append_{s:r!}{nx:Nat}{l2:List α}(ho:o.op=.call { callee:=.builtin .append,args:=#[s,x],argTypes:=#[t,t] })
  (hs:ev F s=.slice A n c) (hx:ev F x=.slice X nx cx) {HX:n!->Nat->List aG} (hr:∀f d,eQ (own T A n c l) [own T f (n+nx) d (l++l2)] H (HX f d)) (b2:eE E H T X nx cx l2) (ht:prog.underlying t=some (.slice T.tid)) {by_:Nat} (k:T.bytes=by_) (b6:n+nx<=140737488355328) (v:(n+nx)*by_<=140737488355328)
  (h:∀f d,n+nx<=d->d<=maxLen->K (.slice f (n+nx) d) (HX f d)):dF prog N E F H o K:=by
 subst k;intro a u ha Z Kw Q' hK;have⟨R,Q⟩:=(hr none 0).has;have⟨F0,J,_⟩:=Z.has Q;have hn:=J.1;have⟨ti,hi,hz,W,O⟩:=T.sG;have⟨k0,k1,k2,k3⟩:=b2 u Z;have b0:=(Az J).2.1;have p:Reads u u.heap.size T.size X nx (T.cE l2):=⟨by rw[T.mH,<-k0],λfZ=>by
  rcases k3 with k3|⟨ad,e,hc⟩
  ·omega
  ·refine⟨ad,e,?_,hc⟩;have hl:0<(T.cE l2).length:=by rw[T.mH,<-k0];exact Is fZ T.fZ
   have:=I1 _ _ (hc 0 _ (bS hl));rwa [Bg] at this⟩
 by_cases z:c=0
 ·subst z;obtain rfl:n=0:=o_;obtain rfl:l=[]:=wF hn.symm;by_cases a8:nx=0
  ·subst a8;obtain rfl:l2=[]:=wF k0.symm;have j:=aKa (T:=T) (ty:=o.type) (X:=X) (cx:=cx) (u:=u) ht A rfl;unfold Oper.wp;rw[ha.eval];have r:(execOp (ev F) o).run prog u=.ok (.value (.slice A 0 0)) u:=by
    unfold execOp;simp only[ho,resolve,invoke,builtin,iE,mY,iO,Dh,jL,tI,hs,hx,j]
   rw[r];refine hK _ _ _ (h A 0 (bM _) (bY _)) ?_;exact Z.kB (hr A 0) rfl rfl rfl (bM _) (G:=λ_=>False) (λ_ _ _=>rfl) λF1 h1=>⟨λ_=>False,⟨λ_=>False,λ_=>False,λb=>by simp,λ_ h=>h.elim,⟨rfl,.inl ⟨rfl,rfl,λ_ h=>h⟩⟩,λ_ h=>h⟩,λb hb=>hb.elim,λb _ hb=>hb.elim⟩
  ·have⟨w,y,j,i,q,hb⟩:=OE u 0 t o.type T.tid ti T.zero T.size T.bytes ht hi hz W O T.hzero T.fZ (.slice none 0 0) 0 [] (World.ownsRow_nil u 0 _ _) u.heap.size X nx cx (T.cE l2) p (T.Cw _) (by unfold maxLen;omega) v (bY _);rw[<-aPq (T:=T) ht A a8 o_ (by rw[lM] at v;exact v)] at j;obtain⟨f,d,rfl⟩:∃f d,w=.slice f (0+nx) d:=by
    rcases i.2 with⟨rfl,J⟩|⟨g,cap,a9,rfl,_⟩
    ·omega
    ·exact⟨_,_,rfl⟩
   have M:=Ni (T:=T) (A:=f) (n:=0+nx) (c:=d) (l:=l2) (by rw[lM];exact k0) i;have m:=Az M;unfold Oper.wp;rw[ha.eval];have r:(execOp (ev F) o).run prog u=.ok (.value (.slice f (0+nx) d)) y:=by
    unfold execOp;simp only[ho,resolve,invoke,builtin,iE,mY,iO,Dh,jL,tI,hs,hx,j]
   rw[r];refine hK _ _ _ (h f d m.2.1 m.2.2.1) ?_;refine Z.kB (hr f d) q.os q.tape q.output q.size (G:=λ_=>False) (λb B _=>q.block b B (by simp[Value.ownBlock])) λF1 h1=>?_;refine⟨λb=>Value.ownBlock (.slice f (0+nx) d)=some b,⟨λb=>Value.ownBlock (.slice f (0+nx) d)=some b,λ_=>False,λb=>by simp,λ_ _ h=>h,by rw[jD];exact M,λ_ h=>h⟩,λb k=>?_,λb _ hG=>hG.elim⟩;rcases hb with hb|hb
   ·rw[hb] at k;simp[Value.ownBlock] at k
   ·right;have:some b=some u.heap.size:=by rw[<-k,hb]
    injection this with this;omega
 have⟨U,_⟩:=KM z J;have b5:∃w y,(Builtin.append_ #[t,t] o.type #[.slice A n c,.slice X nx cx]).run prog u=.ok w y/\y.ownsRow 0 T.tid T.size w (n+nx) (T.cE l++T.cE l2)/\u.grownBy y (Value.ownBlock (.slice A n c)) /\
   (w.ownBlock=Value.ownBlock (.slice A n c)\/w.ownBlock=some u.heap.size):=by
  exact OE u 0 t o.type T.tid ti T.zero T.size T.bytes ht hi hz W O T.hzero T.fZ _ n _ U u.heap.size X nx cx (T.cE l2) p (T.Cw _) (by unfold maxLen;omega) v (bY _)
 have⟨w,y,j,i,q,hb⟩:=b5;obtain⟨f,d,rfl⟩:∃f d,w=.slice f (n+nx) d:=by
  rcases i.2 with⟨rfl,J⟩|⟨g,cap,a9,rfl,_⟩
  ·exact⟨none,0,by rw[J]⟩
  ·exact⟨_,_,rfl⟩
 have D:y.ownsRow 0 T.tid T.size (.slice f (n+nx) d) (n+nx) (T.cE (l++l2)):=by rw[T.D2];exact i
 have M:=Ni (T:=T) (l:=l++l2) (by rw[bR,hn,k0]) D;have m:=Az M;unfold Oper.wp;rw[ha.eval];have r:(execOp (ev F) o).run prog u=.ok (.value (.slice f (n+nx) d)) y:=by
  unfold execOp;simp only[ho,resolve,invoke,builtin,iE,mY,iO,Dh,jL,tI,hs,hx,j]
 rw[r];refine hK _ _ _ (h f d m.2.1 m.2.2.1) ?_;refine Z.kB (hr f d) q.os q.tape q.output q.size (G:=λb=>Value.ownBlock (.slice A n c)=some b) (λb B b1=>q.block b B (λe=>b1 e.symm)) λF1 h1=>?_;have⟨_,hF⟩:=KM z h1;refine⟨λb=>Value.ownBlock (.slice f (n+nx) d)=some b,⟨λb=>Value.ownBlock (.slice f (n+nx) d)=some b,λ_=>False,λb=>by simp,λ_ _ h=>h,M,λ_ h=>h⟩,λb k=>?_,λb _ hG=>(hF b).2 hG⟩;rcases hb with hb|hb
 ·exact .inl ((hF b).2 (hb▸k))
 ·right;have:some b=some u.heap.size:=by rw[<-k,hb]
  injection this with this;omega
def S.Wt{s:r!}{nx:Nat}{l2:List α}(ho:o.op=.call { callee:=.builtin .append,args:=#[s,x],argTypes:=#[t,t] })
  (hs:ev F s=.slice A n c) (hx:ev F x=.slice X nx cx) {HX:n!->Nat->List aG} (hr:∀A' c',eQ (own T A n c l) [own T A' (n+nx) c' (l++l2)] H (HX A' c')) (ht:prog.underlying t=some (.slice T.tid)) {by_:Nat} (hbb:T.bytes=by_) (hlen:n+nx<=140737488355328) (hby:(n+nx)*by_<=140737488355328)
  (h:∀A' c',n+nx<=c'->c'<=maxLen->K (.slice A' (n+nx) c') (HX A' c')):dF prog N E F (own T X nx cx l2::H) o K:=by
 intro a u ha hu Kw Q' hK;exact S.append_ ho hs hx (HX:=λA' c'=>own T X nx cx l2::HX A' c') (K:=λv H'=>∃H2,H'=own T X nx cx l2::H2/\K v H2) (λA' c'=>.bJ (hr A' c')) (eE.own .aR) ht hbb hlen hby (λA' c' h1 h2=>⟨_,rfl,h A' c' h1 h2⟩) a u ha hu Kw Q' λv H' u' ⟨H2,e,hk⟩ hu'=>hK v H2 u' hk (by subst e;exact hu'.right (l:=[own T X nx cx l2]))
theorem S.append{s:r!}{nx:Nat}{l2 l':List α}(k:o.op=.call { callee:=.builtin .append,args:=#[s,x],argTypes:=#[t,t] })
  (p:ev F s=.slice A n c) (r:ev F x=.slice X nx cx) (i:n+nx=n') {HX:n!->Nat->List aG} (m:∀b a,eQ (own T A n c l) [own T b n' a l'] H (HX b a)) (j:eE E H T X nx cx l2) (g:l++l2=l') (q:prog.underlying t=some (.slice T.tid)) {by_:Nat} (e:T.bytes=by_) (d:n'<=140737488355328) (f:n'*by_<=140737488355328)
  (h:∀b a,n'<=a->a<=maxLen->K (.slice b n' a) (HX b a)):dF prog N E F H o K:=by
 subst i g;exact S.append_ k p r m j q e d f h
def S.Wq{s:r!}{nx:Nat}{l2 l':List α}(m:o.op=.call { callee:=.builtin .append,args:=#[s,x],argTypes:=#[t,t] })
  (q:ev F s=.slice A n c) (u:ev F x=.slice X nx cx) {j:List aG} (k:j=own T X nx cx l2::H) (i:n+nx=n') {HX:n!->Nat->List aG} (p:∀b a,eQ (own T A n c l) [own T b n' a l'] H (HX b a)) (g:l++l2=l') (r:prog.underlying t=some (.slice T.tid)) {by_:Nat} (e:T.bytes=by_) (d:n'<=140737488355328) (f:n'*by_<=140737488355328)
  (h:∀b a,n'<=a->a<=maxLen->K (.slice b n' a) (HX b a)):dF prog N E F j o K:=by
 subst i g k;exact S.Wt m q u p r e d f h
def S.Wu{s:r!}{nx:Nat}{l2:List α}(ho:o.op=.call { callee:=.builtin .append,args:=#[s,x],argTypes:=#[t,t] })
  (hs:ev F s=.slice none 0 0) (hx:ev F x=.slice X nx cx) (hrd:eE E H T X nx cx l2) (ht:prog.underlying t=some (.slice T.tid)) {by_:Nat} (hbb:T.bytes=by_) (hlen:nx<=140737488355328) (hby:nx*by_<=140737488355328)
  (h:∀A' c',nx<=c'->c'<=maxLen->K (.slice A' nx c') (own T A' nx c' l2::H)):dF prog N E F H o K:=by
 have hc:aB E H (own T none 0 0 []::H):=λw hw=>by
  have:=hw.grow (l:=[own T none 0 0 []]) rfl rfl rfl (bM _) (λ_ _=>rfl) (F1:=λ_=>False) ⟨λ_=>False,λ_=>False,λb=>by simp,λ_ h=>h.elim,⟨rfl,.inl ⟨rfl,rfl,λ_ h=>h⟩⟩,λ_ h=>h⟩ (λ_ h=>h.elim);exact this
 refine dF.conv hc (S.append_ (T:=T) (l2:=l2) (l:=[]) ho hs hx (HX:=λA' c'=>own T A' (0+nx) c' ([]++l2)::H) (λA' c'=>eQ.aR) (λw hw=>hrd w (hw.right (l:=[own T none 0 0 []]))) ht hbb o_ (by rw[lM];exact hby) ?_);intro A' c' h1 h2;rw[lM] at h1⊢;exact h A' c' h1 h2
def RP{sz:Nat}:∀(d:List p!) (k:Nat) (cells:Array p!),(∀v∈d,v.cells.size=sz)->k*sz+d.length*sz=cells.size ->
  ∃out,Instr.fill (λi=>some (i*sz,sz)) cells (d.zipIdx k |>.map λp=>(p.2,p.1))=some out/\out.toList=cells.toList.take (k*sz)++d.flatMap (λv=>v.cells.toList)
 | [],k,cells,_,h=>⟨cells,rfl,by simp at h⊢;rw[fX (by simp;omega)]⟩
 |v::d,k,cells,u,h=>by
  have f:=u v s_;have q:(d.length+1)*sz=d.length*sz+sz:=by rw[tL,wI]
  have g:(k+1)*sz=k*sz+sz:=by rw[tL,wI]
  rw[gL,q] at h;have r:k*sz+v.cells.size<=cells.size:=by rw[f];omega
  have y:∀(cs:List p!) (j:Nat) (a:Array p!),k*sz+j+cs.length<=a.size->((cs.zipIdx j).foldl (λcs (x:p!×Nat)=>cs.setIfInBounds (k*sz+x.2) x.1) a).toList=a.toList.take (k*sz+j)++cs++a.toList.drop (k*sz+j+cs.length):=by
   intro cs
   induction cs with
   |nil=>intro j a _;simp
   |cons c cs J =>
    intro j a z;simp only[gL] at z;rw[List.zipIdx_cons,CX,J (j+1) _ (by simp;omega)];simp only[Array.toList_setIfInBounds,gL];have e:=list_seg_step a.toList (k*sz+j) c cs (by simp;omega);simpa [Ac] using e
  have w:=y v.cells.toList 0 cells (by simpa using r);have⟨a,b⟩:∃a,a=(v.cells.zipIdx.foldl (λcs (x:p!×Nat)=>cs.setIfInBounds (k*sz+x.2) x.1) cells):=⟨_,rfl⟩
  have t:a.toList=cells.toList.take (k*sz)++v.cells.toList++cells.toList.drop (k*sz+v.cells.size):=by
   rw[b,<-Array.foldl_toList,Array.toList_zipIdx];simpa using w
  have s:a.size=cells.size:=by rw[<-Db,t];simp;omega
  have⟨out,B,m⟩:=RP d (k+1) a (λx D=>u x (by simp[D])) (by rw[s,g];omega);refine⟨out,?_,?_⟩
  ·rw[List.zipIdx_cons,jL,Instr.fill];simp only[f];rw[b! (by rw[f] at r;simp[];omega),<-b];exact B
  ·rw[m,zK,<-bF];congr 1;rw[t,g,qT (by simp[f];rw[f] at r;omega)]
def S.buildSlice{parts0:List (Nat×r!)}{l:List α}(s:o.op=.buildSlice t m parts0.toArray)(q:pv (ev F) parts0=(l.map T.val).zipIdx.map λp=>(p.2,p.1))
  (Q:prog.underlying t=some (.slice T.tid)) (hm:l.length=m) (O:m*T.size<=2 ^ 24)
  (h:∀g,K (.slice (some ⟨g,0,none⟩) m m) (own T (some ⟨g,0,none⟩) m m l::H)):dF prog N E F H o K:=by
 subst hm;rw[<-KW] at q;have⟨d,f⟩:∃d,d=parts0.toArray:=⟨_,rfl⟩;rw[<-f] at s q;clear f;intro a u X hu Kw Q' W;have⟨ti,r,hz,B,Z⟩:=T.sG;unfold Oper.wp;rw[X.eval];have J:∃out:Array p!,(execOp (ev F) o).run prog u=.ok (.value (.slice (some ⟨u.heap.size,0,none⟩) l.length l.length)) (u.alloc (.cells out T.tid))/\out.toList=T.cE l:=by
  by_cases M:l.length*T.size=0
  ·have hl:l=[]:=by
    rcases Nat.mul_eq_zero.1 M with h|h
    ·exact wF h
    ·have:=T.fZ;omega
   subst hl;refine⟨#[],?_,by simp[Ty.cE]⟩;have y:d.map (λ(i,x)=>(i,ev F x))=#[]:=by apply Array.ext';simpa using q
   simp[execOp,s,Instr.buildSlice,run_underlying Q,sizeOf,typeInfo,r,y,Instr.fill,newRow,Array.range_zero']
  ·have⟨out,w,e⟩:=RP (sz:=T.size) (l.map T.val) 0 ((Array.range (l.length*T.size)).map (λi=>T.zero.cells[i % T.zero.cells.size]!)) (by intro v hv;obtain⟨x,_,rfl⟩:=jX.1 hv;exact T.hlen x) s_;refine⟨out,?_,?_⟩
   ·have U:¬l.length*T.size > 2 ^ 24:=o_;have j:(d.map λ(i,x)=>(i,ev F x)).toList=((l.map T.val).zipIdx 0).map λp=>(p.2,p.1):=q;have z:(sizeOf T.tid).run prog u=.ok T.size u:=by simp[sizeOf,typeInfo,r,B]
    have D:(zeroValue T.tid).run prog u=.ok T.zero u:=by simp[zeroValue,typeInfo,r,hz]
    simp only[execOp,s,Instr.buildSlice,iE,run_underlying Q,iO,z,b! U,b! M,mY,D,j,w];simp[newRow]
   ·rw[e];simp[Ty.cE,List.flatMap_map];rfl
 have⟨out,k,e⟩:=J;rw[k];refine W _ _ _ (h u.heap.size) ?_;refine hu.grow (l:=[own T (some ⟨u.heap.size,0,none⟩) l.length l.length l]) rfl rfl rfl s_ (λb hb=>CT _ _ _ hb) (F1:=λb=>b=u.heap.size) ⟨_,λ_=>False,λb=>by simp,λb _ h=>h,⟨rfl,.inr ⟨u.heap.size,out,rfl,λb=>oB,heap_alloc_new _ _,bM _,?_,?_,?_⟩⟩,λb h=>h⟩ (λb hb=>by omega)
 ·have:l.length*1<=l.length*T.size:=Nat.mul_le_mul_left _ T.fZ;unfold maxLen;omega
 ·rw[<-Db,e,T.mH]
 ·rw[e,<-T.mH];simp
def EL(h:(own T A n c l).holds F1 u)(m:ad A=⟨g,q,none⟩)(s:0<n):F1 g/\q=0/\A=some ⟨g,0,none⟩/\∃a:Array p!,u.heap[g]?=some (.cells a T.tid (0,0))/\n<=c/\c<=maxLen/\a.size=c*T.size/\a.toList.take (n*T.size)=T.cE l:=by
 obtain⟨r,⟨rfl,rfl,b⟩|⟨d,a,rfl,b,p,f,i,j,k⟩⟩:=h
 ·omega
 ·have e:d=g/\0=q:=by simpa [ad] using m
  obtain⟨rfl,rfl⟩:=e;exact⟨(b _).2 rfl,rfl,rfl,a,p,f,i,j,k⟩
def S.Xf{e:α}(b:o.op=.buildSlice t 1 #[(0,x)])(i:ev F x=v)(f:T.val e=v)
  (d:prog.underlying t=some (.slice T.tid)) (a:1*T.size<=2 ^ 24)
  (h:∀g,K (.slice (some ⟨g,0,none⟩) 1 1) (own T (some ⟨g,0,none⟩) 1 1 [e]::H)):dF prog N E F H o K :=
 S.buildSlice (l:=[e]) (parts0:=[(0,x)]) b (by simp[pv,i,f]) d rfl a h
def eQ.one{a b:aG}{R:List aG}:eQ a [b] (a::R) (b::R):=eQ.aR
def S.aLz{P:t!}{m:TypeInfo}{f:q!}{cs a:List p!}(p:o.op=.store t x y)(d:ev F x=.pointer (some ⟨g,i,none⟩))(s:ev F y=v)(j:v.oneCell'=true)(hi:P.info? t=some m)(r:m.size=1)
  (q:eQ (aE g f cs) [aE g f a] H H') (k:i<cs.length) (e:cs.set i v=a) (h:K undef H'):dF P N E F H o K:=by
 have b:v.cells=#[v]:=by cases v<;>first|rfl|cases j
 refine S.store p d s ?_ hi ?_ q ?_ ?_ h
 ·rw[b];intro x d;simp at d;subst d;exact j
 ·rw[b,r];rfl
 ·rw[b];exact k
 ·rw[b,<-e,Lp,c! k];simp
def St.CF(i:St E H u){a b:aG}(g:eQ a [b] H H'):∃R,Has a H R/\∃e,a.holds e u:=by
 have⟨R,h⟩:=g.has;have⟨d,f,_⟩:=i.has h;exact⟨R,h,d,f⟩
def aMn{j:Type}(a b c d e f vs:List j)(i:vs.length=c.length) :
  ((a++(b++(c++(d++(e++f))))).take (a.length+b.length)++vs++(a++(b++(c++(d++(e++f))))).drop (a.length+b.length+vs.length)).take (a.length+b.length+c.length+d.length+e.length) =
   a++(b++vs++d)++e:=by
 rw[i];have g:(a++(b++(c++(d++(e++f))))).take (a.length+b.length)=a++b:=by
  rw[<-bF,qT s_]
 have h:(a++(b++(c++(d++(e++f))))).drop (a.length+b.length+c.length)=d++(e++f):=by
  rw[<-bF,<-bF,rQ (by simp;omega)]
 rw[g,h];have:a++b++vs++(d++(e++f))=(a++(b++vs++d)++e)++f:=s_
 rw[this,qT (by simp;omega)]
def Um{y:Type}(L vs:List y)(g:Nat){h:Nat}(J:j+vs.length<=h)(z:g+h<=i)(r:i<=L.length) :
  (L.take (g+j)++vs++L.drop (g+j+vs.length)).take i=(L.take i).take g++((((L.take i).drop g).take h).take j++vs++(((L.take i).drop g).take h).drop (j+vs.length))++(L.take i).drop (g+h):=by
 obtain⟨a,k,rfl,s⟩:∃a k,L=a++k/\a.length=g:=⟨L.take g,L.drop g,s_,by simp;omega⟩
 obtain⟨b,m,rfl,hb⟩:∃b m,k=b++m/\b.length=j:=⟨k.take j,k.drop j,s_,by simp at r⊢;omega⟩
 obtain⟨c,p,rfl,x⟩:∃c p,m=c++p/\c.length=vs.length:=⟨m.take vs.length,m.drop vs.length,s_,by simp at r⊢;omega⟩
 obtain⟨d,q,rfl,B⟩:∃d q,p=d++q/\d.length=h - j - vs.length:=⟨p.take (h - j - vs.length),p.drop (h - j - vs.length),s_,by simp at r⊢;omega⟩
 obtain⟨e,f,rfl,D⟩:∃e f,q=e++f/\e.length=i - g - h:=⟨q.take (i - g - h),q.drop (i - g - h),s_,by simp at r⊢;omega⟩
 have w:(a++(b++(c++(d++(e++f))))).take i=a++(b++(c++(d++e))):=by
  have:a++(b++(c++(d++(e++f))))=(a++(b++(c++(d++e))))++f:=s_
  rw[this,qT (by simp;omega)]
 have t:(a++(b++(c++(d++e)))).drop (g+h)=e:=by
  have:a++(b++(c++(d++e)))=(a++(b++(c++d)))++e:=s_
  rw[this,rQ (by simp;omega)]
 have u:((a++(b++(c++(d++e)))).drop g).take h=b++(c++d):=by
  rw[rQ s];have:b++(c++(d++e))=(b++(c++d))++e:=s_
  rw[this,qT (by simp;omega)]
 have v:(b++(c++d)).drop (j+vs.length)=d:=by
  rw[<-bF,rQ (by simp;omega)]
 rw[w,t,u,qT s,qT hb,v];have:=aMn a b c d e f vs x.symm;rw[s,hb] at this;rw[<-this];congr 1;omega
def S.VC{ti:TypeInfo}{k:Nat}{e e':α}{Q:Addr}(ho:o.op=.store t x y)(hx:ev F x=.pointer (some Q))(hy:ev F y=v)(z:Q=(ad A).add q)(h1:∀x∈v.cells.toList,x.oneCell'=true)
  (hi:prog.info? t=some ti) (hs:v.cells.size=ti.size) (hq:q=k*T.size+j) (W:l[k]?=some e) (D:j+v.cells.size<=T.size) (hv:(T.enc e).take j++v.cells.toList++(T.enc e).drop (j+v.cells.size)=T.enc e')
  (hr:eQ (own T A n c l) [own T A n c (l.set k e')] H H') (h:K undef H'):dF prog N E F H o K:=by
 subst z hq;intro a u z hu Kw Q' hK;have⟨R,X,F0,s⟩:=hu.CF hr;have Z:=(cH.1 W).1;have hn:=s.1;have⟨g,hA⟩:∃g,A=some ⟨g,0,none⟩:=by
  obtain⟨_,⟨rfl,h2,_⟩|⟨g,d,rfl,_⟩⟩:=s
  ·omega
  ·exact⟨g,rfl⟩
 subst hA;have⟨hF,_,_,d,B,h2,h3,h4,h5⟩:=EL (g:=g) (q:=0) s rfl o_;have f:k*T.size+j+v.cells.size<=d.size:=by
  have e1:(k+1)*T.size<=c*T.size:=oC _ o_;rw[tL,wI] at e1;omega
 have M:=run_storeVar_row (P:=prog) (u:=u) (q:=k*T.size+j) hi hs h1 B f;have e0:(ad (some ⟨g,0,none⟩)).add (k*T.size+j)=⟨g,k*T.size+j,none⟩:=by show(⟨g,0,none⟩:Addr).add _=_;rw[uJ,lM]
 unfold Oper.wp;rw[z.eval];have r:(execOp (ev F) o).run prog u=.ok .skip (u.setRow g (d.toList.take (k*T.size+j)++v.cells.toList++d.toList.drop (k*T.size+j+v.cells.size)).toArray):=by
  simp only[execOp,ho,hx,hy,Instr.storeAt,Instr.sureAddr,e0,iE,mY,iO,M]
 rw[r];refine hK undef _ _ h (St.setRow hu hr g _ λF1 k1=>?_);have⟨m1,_,_,U,p,m3,m4,m5,m6⟩:=EL (g:=g) (q:=0) k1 rfl o_;rw[B] at p;injection p with p;injection p with p _ _;subst p;have w:∀b,F1 b↔b=g:=by
  obtain⟨_,⟨m,_⟩|⟨g',_,m,h7,_⟩⟩:=k1
  ·omega
  ·injection m with m;injection m with m;subst m;exact h7
 have a8:(k+1)*T.size<=n*T.size:=oC _ o_;have J:(k+1)*T.size=k*T.size+T.size:=by rw[tL,wI]
 refine⟨m1,by rw[iM];exact hn,.inr ⟨g,_,rfl,w,setRow_heap u g _ _ _ _ B,m3,m4,?_,?_⟩⟩
 ·simp;omega
 ·rw[T.Ma Z,<-hv];have i:T.enc e=((T.cE l).drop (k*T.size)).take T.size:=by
   rw[T.zX,lL Z,T.wS,qT (T.vL _)];rw[(cH.1 W).2]
  rw[i,<-m6];have O:v.cells.size=v.cells.toList.length:=s_
  rw[O,J];refine Um _ _ _ (by simpa using D) o_ ?_;rw[Db,m5];exact oC _ m3
def L.fact{b:List Oper}{Q:QF}{os:List Oper}{p:Prop}{P:t!}(f:∀w,St E H w->p)(h:p->L P N E b Q os F H):L P N E b Q os F H:=⟨λa w e d=>(h (f w d)).get a w e d⟩
def aF.fact{args:Array p!}{Q:Ending->List aG->Prop}{p:Prop}{P:t!}(hp:∀w,St E H w->p)(h:p->aF P E f args H Q):aF P E f args H Q:=λhd w hw=>h (hp w hw) hd w hw
def L.conv{b:List Oper}{Q:QF}{os:List Oper}{P:t!}(e:aB E H H')(h:L P N E b Q os F H'):L P N E b Q os F H:=⟨λa w d f=>h.get a w d (e w f)⟩
def aF.conv{args:Array p!}{Q:Ending->List aG->Prop}{P:t!}(hc:aB E H H')(h:aF P E f args H' Q):aF P E f args H Q:=λhd w hw=>h hd w (hc w hw)
def St.unpack{X:Type}{l:X->List aG}(h:St E H u)(m:Has (pack l) H R):∃x,St E (l x++R) u:=by
 have⟨a,e,f⟩:=h.fp;have⟨b,d,g,i,⟨x,j⟩,k⟩:=m.fG e;exact⟨x,h.os,h.tape,h.output,h.size,h.wQ,h.jQ,a,jU.2 ⟨b,d,g,i,j,k⟩,f⟩
def aF.unpack{args:Array p!}{Q:Ending->List aG->Prop}{P:t!}{X:Type}{l:X->List aG}(hh:Has (pack l) H R)(h:∀x,aF P E f args (l x++R) Q):aF P E f args H Q:=λhd w hw=>by
 have⟨x,hx⟩:=St.unpack hw hh;exact h x hd w hx
def aB.pack{X:Type}{l:X->List aG}(x:X)(hp:fJ (l x) H R):aB E H (pack l::R):=λw hw=>by
 have h:=hw.cC hp;refine h.conv λF0 hs=>⟨F0,?_,λ_ h=>h⟩
 have⟨F1,F2,h3,h4,h5,h6⟩:=jU.1 hs;exact⟨F1,F2,h3,h4,⟨x,h5⟩,h6⟩
def aB.nil(T:Ty α):aB E H (own T none 0 0 []::H):=λw a =>
 a.grow (l:=[own T none 0 0 []]) rfl rfl rfl (bM _) (λ_ _=>rfl) (F1:=λ_=>False) ⟨λ_=>False,λ_=>False,λb=>by simp,λ_ h=>h.elim,⟨rfl,.inl ⟨rfl,rfl,λ_ h=>h⟩⟩,λ_ h=>h⟩ (λ_ h=>h.elim)
def mI(F:Nat->p!):List r!->List p!
 | []=>[]
 |x::l=>ev F x::mI F l
def FQ(F:Nat->p!)(l:List r!):mI F l=l.map (ev F):=by
 induction l with
 |nil=>rfl
 |cons x l a=>simp[mI,a]
inductive kE:List aG->List aG->List aG->Prop
 |nil {R:List aG}:kE [] R R
 |cons {a:aG} {l R H:List aG} (h:kE l R H):kE (a::l) R (a::H)
def kE.eq{l R H:List aG}(h:kE l R H):H=l++R:=by
 induction h with
 |nil=>rfl
 |cons _ a=>rw[a];rfl
def S.call{P:t!}{j:Func}{i:List r!}{t:Array q!}{Hp:List aG}{w:Ending->List aG->Prop}(X:o.op=.call { callee:=.value (.func f),args:=i.toArray,argTypes:=t })(s:mI F i=vs)
  (q:P.funcs[f]?=some j) (g:(j.name == "runtime.NumGoroutine")=false) (b:j.body.isNone=false)
  (Z:fJ Hp H R) (h:∀M,Sub E R M->aF P M f vs.toArray Hp w) (U:∀e H',w e H'->∃v,e=.returned v/\∃m,kE H' R m/\K v m):dF P N E F H o K:=by
 subst s;intro a u W hu Kw Q' Q;have⟨M,p,O,r,d⟩:=(hu.cC Z).enter;unfold Oper.wp;have hr:(execOp a.eval o).run P u=.ok (.enter f (mI F i).toArray) u:=by
  have y:¬j.name = "runtime.NumGoroutine" := by simpa using g
  have z:¬j.body=none:=by intro h;rw[h] at b;cases b
  rw[W.eval,FQ];simp[execOp,X,resolve,ev,Deferred.ofValue,invoke,callFunc,q,y,z]
 rw[hr];refine(h M O p u r).mono ?_;rintro e x ⟨H',B,D⟩;obtain⟨v,rfl,m,k,J⟩:=U e H' D;exact Q v _ x J (by rw[k.eq];exact d H' x B)
def S.XX{P:t!}{cs:List p!}(b:o.op=.box t x)(d:ev F x=v)(a:xQ v cs):dF P N E F H o λr H'=>∃g,r=.pointer (some ⟨g,0,none⟩)/\H'=aE g t cs::H :=
 S.box b d a λg=>⟨g,rfl,rfl⟩
def S.aMo{P:t!}{e:TypeInfo}{d:q!}{cs a:List p!}(j:o.op=.store t x y)(q:ev F x=.pointer (some ⟨g,i,none⟩))(s:ev F y=v)(h:v.oneCell'=true)(hi:P.info? t=some e)(p:e.size=1)
  (m:eQ (aE g d cs) [aE g d a] H H') (k:i<cs.length) (b:cs.set i v=a):dF P N E F H o λr f=>r=undef/\f=H':=S.aLz j q s h hi p m k b ⟨rfl,rfl⟩
def S.Pw{s:r!}{nx:Nat}{l2 l':List α}(ho:o.op=.call { callee:=.builtin .append,args:=#[s,x],argTypes:=#[t,t] })
  (hs:ev F s=.slice A n c) (hx:ev F x=.slice X nx cx) (hn':n+nx=n') {HX:n!->Nat->List aG} (hr:∀A' c',eQ (own T A n c l) [own T A' n' c' l'] H (HX A' c')) (hrd:eE E H T X nx cx l2) (hl':l++l2=l') (ht:prog.underlying t=some (.slice T.tid)) {by_:Nat} (hbb:T.bytes=by_) (hlen:n'<=140737488355328) (hby:n'*by_<=140737488355328) :
  dF prog N E F H o λr H1=>∃A' c',(n'<=c'/\c'<=maxLen)/\r=.slice A' n' c'/\H1=HX A' c':=S.append ho hs hx hn' hr hrd hl' ht hbb hlen hby λA' c' h1 h2=>⟨A',c',⟨h1,h2⟩,rfl,rfl⟩
def S.Ws{s:r!}{nx:Nat}{l2 l':List α}(ho:o.op=.call { callee:=.builtin .append,args:=#[s,x],argTypes:=#[t,t] })
  (hs:ev F s=.slice A n c) (hx:ev F x=.slice X nx cx) {H0:List aG} (hH:H0=own T X nx cx l2::H) (hn':n+nx=n') {HX:n!->Nat->List aG} (hr:∀A' c',eQ (own T A n c l) [own T A' n' c' l'] H (HX A' c')) (hl':l++l2=l') (ht:prog.underlying t=some (.slice T.tid)) {by_:Nat} (hbb:T.bytes=by_) (hlen:n'<=140737488355328) (hby:n'*by_<=140737488355328) :
  dF prog N E F H0 o λr H1=>∃A' c',(n'<=c'/\c'<=maxLen)/\r=.slice A' n' c'/\H1=HX A' c':=S.Wq ho hs hx hH hn' hr hl' ht hbb hlen hby λA' c' h1 h2=>⟨A',c',⟨h1,h2⟩,rfl,rfl⟩
def S.Ww{s:r!}{nx:Nat}{l2:List α}(ho:o.op=.call { callee:=.builtin .append,args:=#[s,x],argTypes:=#[t,t] })
  (hs:ev F s=.slice none 0 0) (hx:ev F x=.slice X nx cx) (hrd:eE E H T X nx cx l2) (ht:prog.underlying t=some (.slice T.tid)) {by_:Nat} (hbb:T.bytes=by_) (hlen:nx<=140737488355328) (hby:nx*by_<=140737488355328) :
  dF prog N E F H o λr H1=>∃A' c',(nx<=c'/\c'<=maxLen)/\r=.slice A' nx c'/\H1=own T A' nx c' l2::H:=S.Wu ho hs hx hrd ht hbb hlen hby λA' c' h1 h2=>⟨A',c',⟨h1,h2⟩,rfl,rfl⟩
def S.JB{parts0:List (Nat×r!)}{l:List α}(e:o.op=.buildSlice t m parts0.toArray)(f:pv (ev F) parts0=(l.map T.val).zipIdx.map λp=>(p.2,p.1))
  (h:prog.underlying t=some (.slice T.tid)) (d:l.length=m) (a:m*T.size<=2 ^ 24):dF prog N E F H o λr b=>∃g,r=.slice (some ⟨g,0,none⟩) m m/\b=own T (some ⟨g,0,none⟩) m m l::H :=
 S.buildSlice e f h d a λg=>⟨g,rfl,rfl⟩
def S.pY{e:α}(d:o.op=.buildSlice t 1 #[(0,x)])(i:ev F x=v)(h:T.val e=v)
  (f:prog.underlying t=some (.slice T.tid)) (a:1*T.size<=2 ^ 24):dF prog N E F H o λr b=>∃g,r=.slice (some ⟨g,0,none⟩) 1 1/\b=own T (some ⟨g,0,none⟩) 1 1 [e]::H :=
 S.Xf d i h f a λg=>⟨g,rfl,rfl⟩
end
end
def S.aBz{T:Ty α}{E:Env}{H H':List aG}{n c:Nat}{l:List α}{k:Nat}{e:α}(g:o.op=.store t x y)(s:ev F x=.pointer (some ((ad A).add q)))(u:ev F y=v)(i:eQ (own T A n c l) [own T A n c (l.set k e')] H H')
  (d:l[k]?=some e) (h:q=k*T.size) (a:T.val e'=v) (p:T.tid=t):dF prog N E F H o λr b=>r=undef/\b=H':=by
 subst p;have⟨w,f,_,m,_⟩:=T.sG;refine S.VC (k:=k) (j:=0) (e:=e) (e':=e') g s u rfl (by rw[<-a];exact T.kL e') f (by rw[<-a,T.hlen,m]) (by rw[h];rfl) d (by rw[<-a,T.hlen];omega) ?_ i ⟨rfl,rfl⟩;rw[<-a,T.hlen,qU,jD,lM,Dg (by rw[T.vL];exact bM _),aY];rfl
def aV{a:aG}{H R:List aG}(h:Has a H R:=by(iterate 30 first|with_reducible exact Has.aR|apply Has.bJ|skip);first|done|fail):Has a H R:=h
def aH{l H R:List aG}(h:fJ l H R:=by(iterate 24 first|with_reducible exact fJ.nil|(apply fJ.cons;(· exact aV))|skip);first|done|fail):fJ l H R:=h
def gR{a b:aG}{H H':List aG}(h:eQ a [b] H H':=by(iterate 30 first|with_reducible exact eQ.one|apply eQ.bJ|skip);first|done|fail):eQ a [b] H H':=h
def bU{l R H:List aG}(h:kE l R H:=by(iterate 30 first|with_reducible exact kE.nil|apply kE.cons|skip);first|done|fail):kE l R H:=h
def cQ{a b:α}(h:a=b:=by conv=>lhs;whnf):a=b:=h
def aJ{a b:α}(h:a=b:=by(conv=>lhs;whnf);first|done|rfl):a=b:=h
def CH{a b:Int}(h:a=b:=by first|with_reducible assumption|exact dY _ o_|exact IntWalk.u8_in _ o_|exact Ii _ o_|exact IntWalk.u32_in _ o_|exact IntWalk.i32_in _ o_|exact IntKind.wrap_u8 _|exact La _|exact IntKind.wrap_u32 _|rfl):a=b:=h
def aNr{a b:Int}(h:a=b:=by first|with_reducible assumption|exact IntWalk.i64_quo _ _ o_|exact IntWalk.u8_quo _ _ o_|exact IntWalk.u64_quo _ _ o_|exact IntWalk.u32_quo _ _ o_|exact IntWalk.i32_quo _ _ o_|rfl):a=b:=h
def aNx{a b:Int}(h:a=b:=by first|with_reducible assumption|exact IntWalk.rem_in _ _ o_|rfl):a=b:=h
def rG{a b:Bool}(h:a=b:=by first|rfl|assumption|exact d! o_|exact e! o_|exact j! not (e! o_)|exact j! not (d! o_)):a=b:=h
def eZ{p:Prop}(h:p:=by omega):p:=h
def mT{p:Prop}(h:p:=by with_reducible assumption):p:=h
def lU{a b:α}(h:a=b:=by rfl):a=b:=h
def H8{p:Prop}(h:p:=by first|assumption|(unfold maxLen at *;omega)):p:=h
def bK{M:Env}{T:Ty α}{n c:Nat}{l:List α}(h:Rd M T A n c l:=by first|exact Rd.sub (by assumption) mT|exact Sub.own (by assumption) aV|exact Sub.sl (by assumption) aV|exact Rd.nil _ _):Rd M T A n c l:=h
def H9{E:Env}{H:List aG}{T:Ty α}{n c:Nat}{l:List α}(h:eE E H T A n c l:=by first|exact eE.rd mT|exact eE.own aV|exact eE.sl aV):eE E H T A n c l:=h
def pC{E:Env}{H:List aG}{T:Ty α}{n c:Nat}{l:List α}(h:eE E H T A n c l:=by first|exact eE.rd mT|exact eE.own aV|exact eE.sl aV|exact eE.rd (Rd.nil _ _)|(apply eE.inner;(· exact mT);(· exact H8);(· exact H9);rotate_left;(· exact lU);rotate_right;(· exact mT))|exact eE.from_ H9 eZ|exact eE.cut H9 eZ eZ|exact eE.up H9 eZ|exact eE.upto H9 eZ eZ eZ):eE E H T A n c l:=h
def aOi{E:Env}{H:List aG}(h:Cell E H a v:=by first|exact Cell.aE aV lU|(apply Cell.elem;(· exact pC);rotate_left;(· exact lU);rotate_right;(· exact mT);(· exact lU))|(apply Cell.RB;(· exact pC);rotate_left;(· exact lU);rotate_right;(· exact mT);(· exact lU))|exact Cell.kc mT):Cell E H a v:=h
def Uf{a b:List p!}(h:a=b:=by first|(conv=>lhs;simp only[List.set_cons_zero,List.set_cons_succ])|rfl):a=b:=h
def UX{b:Addr}(h:a=b:=by first|(conv=>lhs;simp only[uJ,lM,Gg,Iu,Nat.mul_one,Nat.reduceAdd,Nat.reduceMul])|rfl):a=b:=h
def sJ{a b:Nat}(h:a=b:=by first|(conv=>lhs;simp only[jK,Int.reduceToNat])|exact jK (@OfNat.ofNat Nat _ (instOfNatNat _))|rfl):a=b:=h
def Uc{a b:Nat}(h:a=b:=by first|(conv=>lhs;simp only[lM,Gg])|rfl):a=b:=h
def OI{a b:List α}(h:a=b:=by first|(conv=>lhs;simp only[jD])|rfl):a=b:=h
def OH{p:Prop}(h:p:=by simp only[gL,tH];omega):p:=h
def UY{l:List p!}(h:xQ v l:=by first|exact xQ.agg|exact xQ.one rfl|exact xQ.one (by assumption)):xQ v l:=h
def Ud{cs:List p!}{k:Nat}{o:List p!}(h:vI cs k vs o:=by(iterate 40 first|exact vI.done|apply vI.aR|apply vI.next|skip);first|done|fail):vI cs k vs o:=h
def Ua{pl:List (Nat×Nat)}{vs:List (Nat×p!)}{o:List p!}(h:zG pl z vs o:=by(iterate 24 first|exact zG.nil|(apply zG.cons;(· exact rfl);(· exact UY);(· exact Ud);(· exact rfl))|skip);first|done|fail):zG pl z vs o:=h
def Ue{ρ:r!->p!}{l:List (Nat×r!)}{vs:List (Nat×p!)}(h:PV ρ l vs:=by(iterate 24 first|exact PV.nil|(apply PV.cons;(· exact cQ))|skip);first|done|fail):PV ρ l vs:=h
def aK{l:List (Nat×p!)}(h:rP F l:=by(iterate 60 first|exact trivial|(apply And.intro;(· (first|rfl|assumption|((conv=>lhs;whnf);first|done|(congr 1;first|omega|(dsimp only;omega)|(simp[*];done)|(simp[*];omega))))))|skip);first|done|fail):rP F l:=h
def aC{E:Env}{H H':List aG}(h:aB E H H':=by first|first|exact aB.refl|exact aB.cC aH|(simp only[Bool.not_true,LM,Bool.or_true,Bool.or_false,Bool.false_or,Bool.true_or,Bool.and_true,Bool.and_false,uC,xP];first|exact aB.refl|exact aB.cC aH)):aB E H H':=h
def bB{g:Option (Nat×Bool)}(h:gV l N F true g:=by first|exact gV.none rfl|exact gV.on rfl sD rfl rG):gV l N F true g:=h
def F7{g:Option (Nat×Bool)}(h:gV l N F false g:=by first|exact gV.off rfl sD rfl rG|exact gV.KK rfl sD rfl):gV l N F false g:=h
end
section
open Go.RowKit Reg
open Mem hiding Rd
section
variable {N:Nat} {E:Env} {F:Nat->p!} {H H' R:List aG} {ρ:r!->p!} {o:Oper} {α β:Type} {T:Ty α} {U:Ty β} {A:n!} {n c:Nat} {l:List α}
def J6(T:Ty α)(z:α)(j:T.val z=T.zero)(k:Nat):(madeCells T.zero.cells (k*T.size)).toList=T.cE (List.replicate k z):=by
 have b:=T.hzero;apply uH;intro i;by_cases e:i<k*T.size
 ·have h:i / T.size<k:=Nat.div_lt_of_lt_mul (by rw[Ir];exact e);have a:i % T.size<T.size:=Nat.mod_lt _ T.fZ;have f:(List.replicate k z)[i / T.size]?=some z:=by rw[List.getElem?_replicate,c! h]
  have g:(T.enc z)[i % T.size]?=some ((T.enc z)[i % T.size]'(by rw[T.vL];exact a)):=bS _;have d:=T.FO f g;rw[show i / T.size*T.size+i % T.size=i by rw[Ir];exact Nat.div_add_mod i T.size] at d;rw[d];have m:i % T.zero.cells.size<T.zero.cells.size:=by rw[b];exact a
  simp[madeCells,e,Ty.enc,j,b];rw[getElem!_pos T.zero.cells (i % T.size) (by rw[b];exact a)]
 ·rw[Ik (by simp[madeCells];omega),Ik (by rw[T.mH,rR];omega)]
def S.aPw{k2:IntKind}{i:Int}{z:α}(O:o.op=.makeSlice t x y)(X:ev F x=.int k i)(Z:ev F y=.int k2 i)(M:i.toNat=m)(B:0<=i)(hz:T.val z=T.zero)(Q:prog.underlying t=some (.slice T.tid)){by_:Nat}(hb:T.bytes=by_)(d:by_*i<=281474976710656)(j:i<=9223372036854775807) :
  dF prog N E F H o λr w=>∃g,r=.slice (some ⟨g,0,none⟩) m m/\w=own T (some ⟨g,0,none⟩) m m (List.replicate m z)::H:=by
 subst M hb;intro a u J W Kw Q' D;have⟨v,K,s,f,p⟩:=T.sG;have e:=run_make (P:=prog) u t T.tid v T.zero Q K s k k2 i i B (dV _) (by rw[p];exact d) j;unfold Oper.wp;rw[J.eval];have q:(execOp (ev F) o).run prog u=.ok (.value (.slice (some ⟨u.heap.size,0,none⟩) i.toNat i.toNat)) (u.alloc (.cells (madeCells T.zero.cells (i.toNat*v.size)) T.tid)):=by
  simp[execOp,O,X,Z,e]
 rw[q];refine D _ _ _ ⟨u.heap.size,rfl,rfl⟩ ?_;refine W.grow (l:=[own T (some ⟨u.heap.size,0,none⟩) i.toNat i.toNat (List.replicate i.toNat z)]) rfl rfl rfl s_ (λb hb=>CT _ _ _ hb) (F1:=λb=>b=u.heap.size) ⟨_,λ_=>False,λb=>by simp,λb _ h=>h,⟨s_,.inr ⟨u.heap.size,_,rfl,λb=>oB,heap_alloc_new _ _,bM _,?_,?_,?_⟩⟩,λb h=>h⟩ (λb hb=>by omega)
 ·unfold maxLen;omega
 ·rw[f,size_madeCells]
 ·rw[f,J6 T z hz,fX (by rw[T.mH];simp)]
def Y.aEe{g:TypeInfo}(b:o.op=.slice t x none none none)(f:ρ x=.pointer (some a))(d:P.underlying t=some (.array m e))(hi:P.info? e=some g):gM P E H ρ o (.slice (some a) m m):=by
 intro u _;have h:(if m=0 then a else a.add 0)=a:=by split<;>simp[Addr.add]
 simp[execOp,b,f,Instr.sliceAt,run_underlying d,Instr.sureAddr,Instr.sliceBounds,sizeOf,typeInfo,hi];try (intro _;simp[Addr.add])
def aDa{k:Nat}{e e':α}{a:Array p!}(i:(own T (some ⟨g,0,none⟩) n c l).holds F1 u)(w:u.heap[g]?=some (.cells a T.tid (0,0)))(v:l[k]?=some e)
  (p:j+vs.length<=T.size) (J:(T.enc e).take j++vs++(T.enc e).drop (j+vs.length)=T.enc e') :
  k*T.size+j+vs.length<=a.size/\F1 g/\(own T (some ⟨g,0,none⟩) n c (l.set k e')).holds F1 (u.setRow g (a.toList.take (k*T.size+j)++vs++a.toList.drop (k*T.size+j+vs.length)).toArray):=by
 have x:=(cH.1 v).1;have D:=i.1;have⟨K,_,_,t,h,z,M,O,P⟩:=EL (g:=g) (q:=0) i rfl o_;rw[w] at h;injection h with h;injection h with h _ _;subst h;have m:∀b,F1 b↔b=g:=by
  obtain⟨_,⟨f,_⟩|⟨Q,_,f,B,_⟩⟩:=i
  ·omega
  ·injection f with f;injection f with f;subst f;exact B
 have y:(k+1)*T.size<=n*T.size:=oC _ o_;have r:(k+1)*T.size=k*T.size+T.size:=by rw[tL,wI]
 have s:n*T.size<=c*T.size:=oC _ z;refine⟨o_,K,by rw[iM];exact D,.inr ⟨g,_,rfl,m,setRow_heap u g _ _ _ _ w,z,M,?_,?_⟩⟩
 ·simp;omega
 ·rw[T.Ma x,<-J];have d:T.enc e=((T.cE l).drop (k*T.size)).take T.size:=by
   rw[T.zX,lL x,T.wS,qT (T.vL _)];rw[(cH.1 v).2]
  rw[d,<-P,r];refine Um _ _ _ p o_ ?_;rw[Db,O];exact s
def UT{nx:Nat}{l2:List β}(h:eE E H U X nx cx l2)(i:St E H u):(Builtin.firstCells U.size nx (.slice X nx cx)).run prog u=.ok (U.cE l2).toArray u:=by
 have⟨e,j,k,b⟩:=h u i;have d:(U.cE l2).length=nx*U.size:=by rw[U.mH,e]
 rcases b with b|⟨a,rfl,g⟩
 ·subst b;have f:U.cE l2=[]:=wF (by rw[d,Iu]);rw[f];cases X with
  |none=>rfl
  |some a =>
   have:=run_loadCells_list (P:=prog) u a [] s_;simpa [Builtin.firstCells] using this
 ·have:=run_loadCells_list (P:=prog) u a (U.cE l2) g;rw[d] at this;simpa [Builtin.firstCells] using this
def S.YV{xs:α->List β}{d s:r!}{t2:q!}{k cd nx:Nat}{l2:List β}{e e':α}(ho:o.op=.call { callee:=.builtin .copy,args:=#[d,s],argTypes:=#[t,t2] })
  (hd:ev F d=.slice (some ((ad A).add q)) m cd) (hs:ev F s=.slice X nx cx) (hA:LK T U m xs) (hr:eQ (own T A n c l) [own T A n c (l.set k e')] H H') (hrd:eE E H U X nx cx l2) (he:l[k]?=some e) (hq:q=k*T.size) (hn:nx<=m)
  (hv:xs e'=l2++(xs e).drop nx) (ht:prog.underlying t=some (.slice U.tid)) (hm:m<=maxLen):dF prog N E F H o λr H1=>r=a! (nx:Int)/\H1=H':=by
 subst hq;intro a u ha hu Kw Q' hK;have⟨R,hhas,F0,h0⟩:=hu.CF hr;have hk:=(cH.1 he).1;have hn0:=h0.1;have⟨g,hA0⟩:∃g,A=some ⟨g,0,none⟩:=by
  obtain⟨_,⟨rfl,h2,_⟩|⟨g,cur,rfl,_⟩⟩:=h0
  ·omega
  ·exact⟨g,rfl⟩
 subst hA0;have⟨hF,_,_,cur,hh,h2,h3,h4,h5⟩:=EL (g:=g) (q:=0) h0 rfl o_;have⟨k0,_,_,_⟩:=hrd u hu;have hfc:=UT hrd hu;have hvl:(U.cE l2).length=nx*U.size:=by rw[U.mH,k0]
 have hms:m*U.size=T.size:=by have h1:=(hA e).1;have h2:=(hA e).2;rw[<-T.vL e,h1,U.mH,h2]
 have hle:nx*U.size<=m*U.size:=oC _ hn;have hpe:(T.enc e).take 0++U.cE l2++(T.enc e).drop (0+(U.cE l2).length)=T.enc e':=by
  rw[(hA e').1,hv,U.D2,(hA e).1,qU,jD,lM,hvl,U.zX]
 have hp:∀F1,(own T (some ⟨g,0,none⟩) n c l).holds F1 u->_:=λF1 h=>aDa h hh he (by rw[lM,hvl,<-hms];exact hle) hpe;have hst:=run_storeCells_at prog g (k*T.size) T.tid (U.cE l2) 0 cur u hh (by have:=(hp F0 h0).1;omega) (U.Cw l2);have⟨tu,hi,_,hsz,_⟩:=U.sG;have e0:(ad (some ⟨g,0,none⟩)).add (k*T.size)=⟨g,k*T.size,none⟩:=by show(⟨g,0,none⟩:Addr).add _=_;rw[uJ,lM]
 have hmin:Nat.min nx m=nx:=nM hn;unfold Oper.wp;rw[ha.eval];have hw:IntKind.i64.wrap (nx:Int)=nx:=dY _ (by unfold maxLen at hm;omega);have hrun:(execOp (ev F) o).run prog u=.ok (.value (a! (nx:Int))) (u.setRow g (cur.toList.take (k*T.size+0)++U.cE l2++cur.toList.drop (k*T.size+0+(U.cE l2).length)).toArray):=by
  simp[execOp,ho,resolve,invoke,builtin,hd,hs,Builtin.copy_,run_underlying ht,Builtin.lenOf,hmin,sizeOf,typeInfo,hi,hsz,hfc,e0,hst,goInt]
 rw[hrun];exact hK _ _ _ ⟨rfl,rfl⟩ (St.setRow hu hr g _ λF1 k1=>⟨(hp F1 k1).2.1,(hp F1 k1).2.2⟩)
def S.Wd(m:o.op=.alloc t)(i:((P.info? t).bind (·.zero)).map (·.cells.toList)=some z):dF P N E F H o λr H'=>∃g,r=.pointer (some ⟨g,0,none⟩)/\H'=aE g t z::H:=by
 intro a u k p v w j;cases f:P.info? t with
 |none=>simp[f] at i
 |some q =>
  cases d:q.zero with
  |none=>simp[f,d] at i
  |some s =>
   simp[f,d] at i;have e:(execOp (ev F) o).run P u=.ok (.value (.pointer (some ⟨u.heap.size,0,none⟩))) (u.alloc (.cells s.cells t)):=by
    simp[execOp,m,Instr.alloc,newVar,newRow,zeroValue,typeInfo,f,d]
   unfold Oper.wp;rw[k.eval,e];refine j _ _ _ ⟨u.heap.size,rfl,rfl⟩ ?_;refine p.grow (l:=[aE u.heap.size t z]) rfl rfl rfl s_ (λb hb=>CT _ _ _ hb) (F1:=λb=>b=u.heap.size) ⟨_,λ_=>False,λb=>by simp,λb _ h=>h,⟨λb=>oB,?_⟩,λb h=>h⟩ (λb hb=>by omega);rw[heap_alloc_new,<-i]
inductive rU:List Value->Nat->Nat->List Value->Prop
 |done {cs:List Value}:rU cs 0 0 []
 |aR {c:Value} {cs vs:List Value} {n:Nat} (h:rU cs 0 n vs):rU (c::cs) 0 (n+1) (c::vs)
 |next {c:Value} {cs vs:List Value} {k n:Nat} (h:rU cs k n vs):rU (c::cs) (k+1) n vs
def rU.eq{cs:List p!}{k n:Nat}(h:rU cs k n vs):vs.length=n/\∀j v,vs[j]?=some v->cs[k+j]?=some v:=by
 induction h with
 |done=>simp
 | @aR c cs vs n h a =>
  refine⟨by simp[a.1],λj v b=>?_⟩;cases j with
  |zero=>simpa using b
  |succ j=>have:=a.2 j v (by simpa using b);rw[lM] at this⊢;simpa using this
 | @next c cs vs k n h a =>
  refine⟨a.1,λj v b=>?_⟩;have:=a.2 j v b;rw[show k+1+j=(k+j)+1 by omega];simpa using this
def Cells.xF{cs:List p!}(h:Has (Sep.aE g t cs) H R)(b:rU cs i m vs):Cells E H ⟨g,i,none⟩ vs:=λw e j u d=>by
 have⟨f,⟨_,a⟩,_⟩:=e.has h;rw[uJ,cell_of_row _ _ _ _ _ _ a];simpa using b.eq.2 j u d
def Y.aEk{cs:List p!}{d:TypeDesc}{b:TypeInfo}(j:o.op=.load t x)(p:ρ x=.pointer (some ⟨g,i,none⟩))(k:P.underlying t=some d)(f:lY d=true)(hi:P.info? t=some b)(h:b.size=m)
  (hb:Has (aE g e cs) H R) (a:rU cs i m vs):gM P E H ρ o (.agg vs.toArray) :=
 Y.HU j p k f hi (h.trans a.eq.1.symm) (Cells.xF hb a)
def Y.aMw{k:Nat}{e:α}{d:TypeDesc}{b:TypeInfo}(r:o.op=.load t x)(B:ρ x=.pointer (some (((ad A).add q).add j)))(h:eE E H T A n c l)(g:l[k]?=some e)(s:q=k*T.size)(v:P.underlying t=some d)(f:lY d=true)(hi:P.info? t=some b)(p:b.size=m)
  (a:rU (T.enc e) j m vs):gM P E H ρ o (.agg vs.toArray):=by
 refine Y.HU r B v f hi (p.trans a.eq.1.symm) λw z i u y=>?_;rw[Cj];exact Cells.elem h g s w z _ u (a.eq.2 i u y)
def S.aNm{f:TypeInfo}{cs a:List p!}(k:o.op=.store t x y)(s:ev F x=.pointer (some ⟨g,i,none⟩))(u:ev F y=.agg vs.toArray)(j:vs.all Value.oneCell'=true)(hi:P.info? t=some f)(p:vs.length=f.size)
  (m:eQ (aE g e cs) [aE g e a] H H') (d:vI cs i vs a):dF P N E F H o λr h=>r=undef/\h=H':=by
 have b:=d.eq;refine S.store k s u ?_ hi (by simpa [Value.cells] using p) m (by simpa [Value.cells] using b.1) ?_ ⟨rfl,rfl⟩
 ·intro v q;exact qR.1 j v (by simpa [Value.cells] using q)
 ·rw[<-b.2,KV _ _ _ b.1];simp[Value.cells]
def Y.ZV{s:q!}{a:Array Field}{f:Field}{d:TypeDesc}(g:o.op=.field s x i)(m:ρ x=.agg vs.toArray)(h:P.underlying s=some (.struct a))(e:a[i]?=some f)
  (j:P.underlying f.type=some d) (b:lY d=false) (k:vs[f.offset]?=some v):gM P E H ρ o v :=
 Y.ZU g m h e j b (by simpa using k)
def aNs(d:Nat)(a:P.underlying t=some (.slice e))(A:n!)(n c:Nat):(Op.equalIn (d+1) t (.slice A n c) (.slice none 0 0)).run P u=.ok A.isNone u:=by
 cases A<;>simp[Op.equalIn,run_underlying a]
def aQf(a:P.underlying t=some (.slice e))(A:n!)(n c:Nat):(binOp .eql t (.slice A n c) (.slice none 0 0)).run P u=.ok (.bool A.isNone) u:=by
 simp only[binOp];cases A<;>simp[Op.equal,Op.maxDepth,aNs 9999 a]
def V.ZF{n c:Nat}{A:n!}(a:o.op=.binOp .eql t x y t')(b:P.underlying t=some (.slice e))(d:ρ x=.slice A n c)(f:ρ y=.slice none 0 0):(execOp ρ o).run P u=.ok (.value (.bool A.isNone)) u:=by
 have h:=aQf (u:=u) b A n c;simp only[execOp,a,d,f,eqGuard];simp[h]
def aB.mR(T:Ty α)(A:n!):aB E H (own T A 0 0 []::H):=λw a =>
 a.grow (l:=[own T A 0 0 []]) rfl rfl rfl (bM _) (λ_ _=>rfl) (F1:=λ_=>False) ⟨λ_=>False,λ_=>False,λb=>by simp,λ_ h=>h.elim,⟨rfl,.inl ⟨rfl,rfl,λ_ h=>h⟩⟩,λ_ h=>h⟩ (λ_ h=>h.elim)
end
def F9{cs:List p!}{k n:Nat}(h:rU cs k n vs:=by(iterate 40 first|exact rU.done|apply rU.aR|apply rU.next|skip);first|done|fail):rU cs k n vs:=h
def OZ{a b:List aG}{x:aG}{F:Nat->Prop}{w:World}:fG (a++x::b) F w↔fG (x::(a++b)) F w:=by
 constructor
 ·intro h;have⟨d,t,v,p,q,g,e,i,u,j,m⟩:=jU.1 h;refine⟨g,λk=>d k\/e k,λk=>?_,?_,j,jU.2 ⟨d,e,λk=>oB,λk s r=>p k s ((i k).2 (.inr r)),q,m⟩⟩;all_goals grind
 ·rintro⟨d,t,v,p,q,y⟩;have⟨g,e,i,u,j,m⟩:=jU.1 y;refine jU.2 ⟨g,λk=>d k\/e k,λk=>?_,?_,j,d,e,λk=>oB,λk s r=>p k s ((i k).2 (.inr r)),q,m⟩;all_goals grind
def aT{X:Type}(f:X->aG)(l:List X):aG where
 holds F w:=fG (l.map f) F w
 loc h hk:=BI h hk
 lt h hb:=DQ h hb
section
variable {X α:Type} {f:X->aG} {l l':List X} {E M:Env} {H R:List aG} {T:Ty α} {A:n!} {n c:Nat} {b:List α}
def aB.pK(f:X->aG):aB E H (aT f []::H):=λw a =>
 a.grow (l:=[aT f []]) rfl rfl rfl (bM _) (λ_ _=>rfl) (F1:=λ_=>False) ⟨λ_=>False,λ_=>False,λb=>by simp,λ_ h=>h.elim,λ_ h=>h,λ_ h=>h⟩ (λ_ h=>h.elim)
def aB.out{x:X}(h:Has (aT f l) H R)(P:l[i]?=some x):aB E H (f x::aT f (l.eraseIdx i)::R):=λw O=>O.conv λF K=>by
 have⟨q,m,B,p,D,J⟩:=h.fG K;obtain⟨Q,rfl⟩:=cH.1 P;have s:l=l.take i++l[i]::l.drop (i+1):=by rw[List.getElem_cons_drop,mE]
 have t:l.eraseIdx i=l.take i++l.drop (i+1):=Li ..;have a:fG (l.map f) q w:=D;have u:l.map f=(l.take i).map f++f l[i]::(l.drop (i+1)).map f:=by
  have:=j! (List.map f) s;rw[gP,jL] at this;exact this
 rw[u] at a;have⟨r,g,j,v,y,z⟩:=OZ.1 a;refine⟨F,⟨r,λk=>g k\/m k,λk=>by rw[B k,j k,or_assoc],?_,y,g,m,λk=>oB,λk e d=>p k ((j k).2 (.inr e)) d,?_,J⟩,λ_ h=>h⟩
 ·rintro k e (d|d)
  ·exact v k e d
  ·exact p k ((j k).2 (.inl e)) d
 ·show fG ((l.eraseIdx i).map f) g w;rw[t,gP];exact z
def aB.nC{x:X}(h:fJ [f x,aT f l] H R)(u:l'=l.take i++x::l.drop i):aB E H (aT f l'::R):=λw y=>(y.cC h).conv λF v=>by
 have⟨a,z,p,q,r,d,g,e,B,j,m⟩:=v;refine⟨F,⟨λk=>a k\/d k,g,λk=>by rw[p k,e k,or_assoc],?_,?_,m⟩,λ_ h=>h⟩
 ·grind
 ·show fG (l'.map f) _ w;rw[u,gP,jL];refine OZ.2 ⟨a,d,λk=>oB,λk t s=>q k t ((e k).2 (.inl s)),r,?_⟩;rw[<-gP,mE];exact j
def aB.push{x:X}(h:fJ [f x,aT f l] H R):aB E H (aT f (l++[x])::R):=aB.nC (i:=l.length) h s_
def JV{x:X}(h:i<l.length):l.set i x=(l.eraseIdx i).take i++x::(l.eraseIdx i).drop i:=by
 grind [List.eraseIdx_eq_take_drop_succ,List.take_left',List.drop_left',List.set_eq_take_append_cons_drop]
def Has.aT{x:X}(h:Has (Sep.aT f l) H R)(e:l[i]?=some x){w:World}(d:St E H w):∃F,(f x).holds F w:=by
 have⟨F,a,k⟩:=(aB.out (E:=E) h e w d).fp;have⟨g,j,_,_,m,_⟩:=a
 grind
def eE.aT{x:X}(h:Has (Sep.aT f l) H R)(g:l[i]?=some x)(d:f x=Sep.own T A n c b):eE E H T A n c b:=λw e=>by
 have⟨F,a⟩:=h.aT g e;rw[d] at a;have⟨j,k1,k2,k3⟩:=Az a
 grind
def Sub.aT{j:List aG}(t:Sub E R M){x:X}(h:Has (Sep.aT f l) R j)(y:l[i]?=some x)(w:f x=Sep.own T A n c b):Rd M T A n c b:=by
 have⟨F,p,q⟩:=t.fr;have⟨g,B,r,_,s,_⟩:=h.fG p;obtain⟨Q,rfl⟩:=cH.1 y;have K:l=l.take i++l[i]::l.drop (i+1):=by rw[List.getElem_cons_drop,mE]
 have a:fG (l.map f) g M.w:=s;have k:l.map f=(l.take i).map f++f l[i]::(l.drop (i+1)).map f:=by
  grind
 rw[k] at a;have⟨D,J,m,O,d,P⟩:=OZ.1 a;rw[w] at d;have⟨z,k1,k2,k3⟩:=Az d;exact⟨z,k1,k2,k3.imp id λ⟨ad,e,u,v⟩=>⟨ad,e,q _ ((r _).2 (.inl ((m _).2 (.inl u)))),v⟩⟩
end
section
variable {α:Type} {T:Ty α} {N:Nat} {E:Env} {F:Nat->p!} {H H':List aG} {o:Oper} {A:n!} {n c:Nat} {l:List α}
def aB.Ng{k:Nat}(hk:k<=n)(hr:eQ (own T A n c l) [own T A k c (l.take k)] H H'):aB E H H':=λw hw =>
 hw.kB hr rfl rfl rfl (bM _) (G:=λ_=>False) (λ_ _ _=>rfl) λF1 h1=>by
  refine⟨F1,⟨F1,λ_=>False,λb=>by simp,λ_ _ h=>h,?_,λ_ h=>h⟩,λb hb=>.inl hb,λb _ hb=>hb.elim⟩;obtain⟨h0,⟨rfl,h2,h3⟩|⟨g,cur,h2,h3,h4,h5,h6,h7,h8⟩⟩:=h1
  ·refine⟨by rw[dR];omega,.inl ⟨o_,h2,h3⟩⟩
  ·refine⟨by rw[dR];omega,.inr ⟨g,cur,h2,h3,h4,o_,h6,h7,?_⟩⟩;have hle:k*T.size<=n*T.size:=oC _ hk;rw[<-T.FP,<-h8,E8,nM hle]
end
def aRq{E:Env}{H:List aG}{args:Array p!}(h:∀w,St E H w->Calls P f args w λe i=>e=.returned v/\w=i):aF P E f args H λe H'=>e=.returned v/\H'=H :=
 λ_ w d=>(h w d).mono λ_ _ ⟨g,a⟩=>⟨H,a▸d,g,rfl⟩
section
variable {P:t!} {N:Nat} {E:Env} {F:Nat->p!} {H R:List aG} {o:Oper} {K:p!->List aG->Prop} {ρ:r!->p!}
def V.func1(a:o.op=.makeFunc (.func f) #[] #[x])(b:ρ x=v):(execOp ρ o).run P u=.ok (.value (.func (.func f) #[] #[v])) u:=by
 simp[execOp,a,b,Instr.makeFunc]
def S.fN{j:Func}{c:p!}{i:List r!}{t:Array q!}{Hp:List aG}{l:List p!}{w:Ending->List aG->Prop}(X:o.op=.call { callee:=.value x,args:=i.toArray,argTypes:=t })(hx:ev F x=.func (.func f) #[] #[c])(s:mI F i=vs)(r:vs++[c]=l)
  (p:P.funcs[f]?=some j) (g:(j.name == "runtime.NumGoroutine")=false) (b:j.body.isNone=false)
  (Z:fJ Hp H R) (h:∀M,Sub E R M->aF P M f l.toArray Hp w) (U:∀e H',w e H'->∃v,e=.returned v/\∃m,kE H' R m/\K v m):dF P N E F H o K:=by
 subst s r;intro a u W hu Kw Q' Q;have⟨M,n,O,q,d⟩:=(hu.cC Z).enter;unfold Oper.wp;have hr:(execOp a.eval o).run P u=.ok (.enter f (mI F i++[c]).toArray) u:=by
  have z:¬j.name = "runtime.NumGoroutine" := by simpa using g
  have A:¬j.body=none:=by intro h;rw[h] at b;cases b
  rw[W.eval,FQ];simp[execOp,X,resolve,hx,Deferred.ofValue,invoke,callFunc,p,z,A]
 rw[hr];refine(h M O n u q).mono ?_;rintro e y ⟨H',B,D⟩;obtain⟨v,rfl,m,k,J⟩:=U e H' D;exact Q v _ y J (by rw[k.eq];exact d H' y B)
def V.v5{i:r!}{L:List p!}{j:Int}{len:Nat}{f:TypeInfo}{d:TypeDesc}(n:o.op=.index t x i)(s:ρ x=.agg L.toArray)(hi:ρ i=.int k j)(q:P.underlying t=some (.array len e))(c:P.info? e=some f)(p:f.size=1)(h:P.underlying e=some d)(a:lY d=false)(l:j.toNat=m)(g:0<=j)(w:m<len)(r:L[m]?=some v):(execOp ρ o).run P u=.ok (.value v) u:=by
 subst l;have b:j<len:=o_;cases d<;>simp[lY] at a<;>simp[execOp,n,s,hi,Instr.index,asIntOf,run_underlying q,g,b,sizeOf,typeInfo,c,p,part,isAgg,run_underlying h,r]
structure FD(P:Program)(t:TypeId)(z:List Value)(pl:List (Nat×Nat))(sz:Nat):Prop where
 zero:((P.info? t).bind (·.zero)).map (·.cells.toList)=some z
 elem:(match P.underlying t with|some (.array _ e)=>(P.info? e).map (·.size)|_=>none)=some sz
 Nr:pl=(List.range pl.length).map λi=>(i*sz,sz)
def RQ{f g:Nat->Option (Nat×Nat)}(h:∀i p,f i=some p->g i=some p):∀(c:List (Nat×p!)) (z out:Array p!),Instr.fill f z c=some out->Instr.fill g z c=some out
 | [],z,out,a=>by simpa [Instr.fill] using a
 | (i,v)::rest,z,out,a=>by
  unfold Instr.fill at a⊢;cases b:f i with
  |none=>simp[b] at a
  |some q =>
   rw[h i q b];rw[b] at a;simp only at a⊢;split at a
   ·cases a
   ·rename_i d;rw[b! d];exact RQ h rest _ _ a
def Y.Xe{sz:Nat}{b:List (Nat×r!)}{vs:List (Nat×p!)}{e:List (Nat×Nat)}{cells:List p!}(y:o.op=.build t b.toArray)(l:PV ρ b vs)(n:FD P t z e sz)(hb:zG e z vs cells):gM P E H ρ o (.agg cells.toArray):=by
 intro u _;have hb:=hb.eq;have l:=l.eq;subst l;have g:=n.zero;have h:=n.elem;have:P.built t (b.toArray.map λ(i,x)=>(i,ρ x)).toList=some cells.toArray:=by
  rw[KW];unfold Program.built;cases k:P.info? t with
  |none=>simp[k] at g
  |some A =>
   cases q:A.zero with
   |none=>simp[k,q] at g
   |some D =>
    simp[k,q] at g;cases s:P.underlying t with
    |none=>simp[s] at h
    |some d =>
     cases d<;>simp[s] at h
     have⟨B,v,w⟩:=h;simp only[q,v];refine RQ (f:=(e.toArray[·]?)) ?_ _ _ _ (Mm e _ _ _ (by rw[g];exact hb));intro i p a;simp only[PR] at a;rw[n.Nr] at a;simp only[mM] at a;cases m:(List.range e.length)[i]? with
     |none=>rw[m] at a;cases a
     |some j =>
      rw[m] at a;have r:=(cH.1 m).2;simp at r;subst r;rw[w];simpa using a
 have c:=run_build u t _ cells.toArray this;simp only[execOp,y,iE];rw[c];rfl
end
section
variable {α:Type} {T:Ty α} {N:Nat} {E:Env} {F:Nat->p!} {H:List aG} {o:Oper}
def S.QG{e1 e2:α}{b c:p!}(h:o.op=.buildSlice t 2 #[(0,x),(1,y)])(j:ev F x=b)(e:T.val e1=b)(k:ev F y=c)(f:T.val e2=c)
  (i:prog.underlying t=some (.slice T.tid)) (a:2*T.size<=2 ^ 24):dF prog N E F H o λr d=>∃g,r=.slice (some ⟨g,0,none⟩) 2 2/\d=own T (some ⟨g,0,none⟩) 2 2 [e1,e2]::H :=
 S.JB (parts0:=[(0,x),(1,y)]) (l:=[e1,e2]) h (by simp[pv,j,k,e,f]) i rfl a
def S.QH{z:r!}{e1 e2 b:α}{c d e:p!}(k:o.op=.buildSlice t 3 #[(0,x),(1,y),(2,z)])(n:ev F x=c)(h:T.val e1=c)(p:ev F y=d)(i:T.val e2=d)(q:ev F z=e)(j:T.val b=e)
  (m:prog.underlying t=some (.slice T.tid)) (a:3*T.size<=2 ^ 24):dF prog N E F H o λr f=>∃g,r=.slice (some ⟨g,0,none⟩) 3 3/\f=own T (some ⟨g,0,none⟩) 3 3 [e1,e2,b]::H :=
 S.JB (parts0:=[(0,x),(1,y),(2,z)]) (l:=[e1,e2,b]) k (by simp[pv,n,p,q,h,i,j]) m rfl a
end
end
end Go.Proofs.YtmilalkjbojciaaGreat.Sep
