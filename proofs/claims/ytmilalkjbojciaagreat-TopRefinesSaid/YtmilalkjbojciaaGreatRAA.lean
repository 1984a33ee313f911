/- Part AA: what it needs. No condition. -/
import Derived.Test.YtmilalkjbojciaaGreatProg
import Derived.ArgAppend
import Derived.Below
import Derived.BigQuiet
import Derived.Carry
import Derived.ChangeKeysEq
import Derived.Deep.AppendLies
import Derived.Deep.CondSized
import Derived.Deep.Draws
import Derived.Deep.Fields
import Derived.Deep.RegionHeld3
import Derived.Deep.Slices
import Derived.JoinedCond
import Derived.Laws.Concat
import Derived.Laws.Externs
import Derived.Laws.MakeOwn
import Derived.Laws.OwnMore
import Derived.Laws.StructEq
import Derived.Laws.Tables
import Derived.Lib.AppendZeros
import Derived.Lib.Hide
import Derived.Lib.SlBytesConst
import Derived.MapKept
import Derived.Maps.AppendAt
import Derived.OpenShut
import Derived.OwnWalk
import Derived.ProofKit
import Derived.RangeFuncRecord
import Derived.RecoverIn
import Derived.RegionTactic
import Derived.Room.AppendUpon
import Derived.SizedLaws
import Derived.WalkKit
import Derived.WideKeyRuns
import Derived.Test.YtmilalkjbojciaaGreatRows
set_option maxRecDepth 100000
set_option maxHeartbeats 8000000
open Go.Proofs.Tryz
namespace Go.Proofs.YtmilalkjbojciaaGreat
open Go Go.RowKit
theorem o_{p:Prop}(h:p:=by omega):p:=h
theorem q_{p:Prop}(h:p:=by kernel_rfl):p:=h
theorem sD{p:Prop}(h:p:=by decide):p:=h
abbrev aAa:=@List.getElem?_eq_getElem
abbrev aAb:=@List.append_assoc
abbrev aAc:=@List.append_nil
abbrev aAd:=@List.getElem?_eq_some_iff
abbrev aAe:=@List.length_append
abbrev aAf:=@Nat.le_refl
abbrev aAg:=@List.length_take
abbrev aAi:=@List.mem_of_getElem?
abbrev aAj:=@List.take_of_length_le
abbrev aAh:=@Nat.zero_le
abbrev aAk:=@List.not_mem_nil
abbrev aAp:=@List.mem_singleton
abbrev aAm:=@List.drop_eq_getElem_cons
abbrev aAl:=@Bool.false_ne_true
abbrev aAn:=@List.take_succ_eq_append_getElem
abbrev aAr:=@Go.Result.andThen_ok
abbrev aAq:=@Go.IntWalk.i64_in
abbrev aAo:=@List.take_length
abbrev aAs:=@List.length_cons
abbrev aBl:=@List.mem_cons_of_mem
abbrev aAx:=@List.take_append_drop
abbrev aAv:=@Bool.and_eq_true
abbrev aAu:=@Int.toNat_natCast
abbrev aAt:=@List.length_set
abbrev aBo:=@List.mem_cons_self
abbrev aAw:=@List.length_map
abbrev aBg:=@List.mem_append
abbrev aAy:=@Go.Sem.run_bind
abbrev aBb:=@List.getD_eq_getElem?_getD
abbrev aBk:=@List.map_append
abbrev aDk:=@Option.some.inj
abbrev aAz:=@List.length_replicate
abbrev aBa:=@Nat.mul_le_mul_right
abbrev aBs:=@List.mem_of_mem_take
abbrev aBf:=@List.getElem?_map
abbrev aBc:=@List.getElem?_append_right
abbrev aBq:=@List.nil_append
abbrev aBd:=@List.length_drop
abbrev aBe:=@Option.getD_some
abbrev aBh:=@Bool.eq_false_or_eq_true
abbrev aBi:=@List.eq_nil_of_length_eq_zero
abbrev aBj:=@List.take_left'
abbrev aBr:=@Nat.min_eq_left
abbrev aBm:=@List.getElem_of_mem
abbrev aBn:=@Int.toNat_of_nonneg
abbrev aBp:=@List.getElem?_append_left
abbrev aBt:=@List.drop_drop
abbrev aCj:=@List.cons_append
abbrev aBw:=@Nat.le_trans
abbrev aBu:=@List.drop_left'
abbrev aBv:=@Array.getElem?_eq_some_iff
abbrev aCp:=@List.mem_append_right
abbrev aBz:=@Bool.eq_iff_iff
abbrev aCi:=@List.map_cons
abbrev aBx:=@List.getElem?_eq_none_iff
abbrev aBy:=@Array.getD_eq_getD_getElem?
abbrev aCa:=@Nat.zero_add
abbrev aCd:=@Int.le_refl
abbrev aCb:=@Bool.false_eq_true
abbrev aCc:=@Go.Sem.run_pure
abbrev aCe:=@Nat.le_add_right
abbrev aCf:=@Int.eq_ofNat_of_zero_le
abbrev aCo:=@List.getElem?_eq_none
abbrev aCk:=@List.ext_getElem?
abbrev aCg:=@List.take_zero
abbrev aCh:=@List.drop_zero
abbrev aDn:=@List.mem_append_left
abbrev aCl:=@Nat.lt_trans
abbrev aCm:=@Array.getElem?_eq_getElem
abbrev aCr:=@List.mem_or_eq_of_mem_set
abbrev aCn:=@List.drop_of_length_le
abbrev aCq:=@Nat.le_succ
abbrev aDm:=@List.all_eq_true
abbrev aCs:=@List.getElem_mem
abbrev aCy:=@List.drop_length
abbrev aCu:=@Array.getElem?_eq_none
abbrev aCt:=@Bool.true_and
abbrev aDy:=@List.flatMap_cons
abbrev aCw:=@List.take_append_of_le_length
abbrev aCv:=@List.getElem?_drop
abbrev aDg:=@List.set_eq_take_append_cons_drop
abbrev aCz:=@Nat.eq_of_beq_eq_true
abbrev aDa:=@List.length_singleton
abbrev aDb:=@Nat.add_mul
abbrev aDc:=@List.getElem?_replicate
abbrev aCx:=@Bool.false_and
abbrev aDd:=@List.take_add
abbrev aDe:=@Nat.lt_of_lt_of_le
abbrev aDw:=@List.mem_of_mem_drop
abbrev aEc:=@Nat.mod_eq_of_lt
abbrev aDf:=@List.getElem?_zip_eq_some
abbrev aEj:=@List.mem_cons
abbrev aDq:=@Nat.one_mul
abbrev aDh:=@List.length_nil
abbrev aDi:=@Option.map_some
abbrev aDj:=@List.findIdx?_eq_some_iff_getElem
abbrev aDl:=@Iff.rfl
abbrev aDo:=@List.map_nil
abbrev aDp:=@List.eraseIdx_eq_take_drop_succ
abbrev aEr:=@UInt8.toNat_lt
abbrev aDr:=@List.getElem?_set
abbrev aDs:=@Array.length_toList
abbrev aDt:=@Array.getElem?_replicate
abbrev aDu:=@Go.RowKit.Below.heap_alloc
abbrev aFz:=@List.prefix_refl
abbrev aDv:=@Nat.add_assoc
abbrev aDx:=@Nat.pow_le_pow_right
abbrev aEg:=@UInt8.toNat_inj
abbrev aDz:=@List.flatMap_append
abbrev aEa:=@Go.MapKept.run_getObj_map
abbrev aEb:=@List.map_toArray
abbrev aEd:=@List.getElem?_take
abbrev aEe:=@Array.getElem?_toList
abbrev aEn:=@List.take_take
abbrev aEf:=@Option.isSome_some
abbrev aEy:=@UInt8.toNat_ofNat'
abbrev aEh:=@List.getElem?_mapIdx
abbrev aEi:=@Nat.sub_self
abbrev aEq:=@List.getElem?_set_ne
abbrev aEk:=@Go.World.block_lt_of_cell?
abbrev aEl:=@List.take_succ_cons
abbrev aEm:=@List.any_eq_true
abbrev aFe:=@Nat.min_eq_right
abbrev aFn:=@List.mem_map
abbrev aEo:=@Array.getElem?_append
abbrev aGa:=@List.cons.injEq
abbrev aEp:=@List.findIdx?_eq_none_iff
abbrev aEs:=@Nat.add_comm
abbrev aEt:=@List.take_append
abbrev aEu:=@List.flatMap_nil
abbrev aEv:=@Array.getElem?_setIfInBounds_ne
abbrev aEw:=@Nat.add_sub_cancel_left
abbrev aFj:=@List.foldl_cons
abbrev aEx:=@Nat.and_two_pow_sub_one_eq_mod
abbrev aEz:=@Go.MapKept.run_setObj_map
abbrev aFa:=@List.drop_append_of_le_length
abbrev aFu:=@List.length_range
abbrev aFh:=@Ne.symm
abbrev aFb:=@Nat.add_zero
abbrev aFc:=@List.take_length_add_append
abbrev aFd:=@Go.World.cell?_of_block
abbrev aFf:=@List.pairwise_append
abbrev aFg:=@Int.tdiv_eq_ediv_of_nonneg
abbrev aFi:=@List.mem_map_of_mem
abbrev aFk:=@Nat.not_lt_zero
abbrev aGb:=@List.mem_filter
abbrev aGc:=@List.append_inj
abbrev aFl:=@List.length_zip
abbrev aGd:=@List.nil_prefix
abbrev aFm:=@Array.setIfInBounds_comm
abbrev aFx:=@Nat.zero_mul
abbrev aFo:=@Int.natCast_nonneg
abbrev aGe:=@List.mem_of_mem_eraseIdx
abbrev aGf:=@List.prefix_append
abbrev aFp:=@Go.IntWalk.u64_in
abbrev aFq:=@List.pairwise_singleton
abbrev aFr:=@List.getElem?_cons_succ
abbrev aFs:=@List.flatten_cons
abbrev aFt:=@List.take_sublist
abbrev aGg:=@Option.map_eq_some_iff
abbrev aFv:=@List.length_eq_one_iff
abbrev aGh:=@List.getElem?_set_self
abbrev aGi:=@List.map_take
abbrev aGj:=@List.drop_append
abbrev aFw:=@Nat.beq_refl
abbrev aFy:=@Nat.mul_comm
abbrev aGk:=@List.set_set
end Go.Proofs.YtmilalkjbojciaaGreat
namespace Go.Proofs.YtmilalkjbojciaaGreat.Mem
open Go.RowKit
theorem eQ(a:Addr)(n:Nat):(a.add n).block=a.block:=by unfold Addr.add;split<;>rfl
theorem jI(a:Addr)(i j:Nat):(a.add i).add j=a.add (i+j):=by
 unfold Addr.add;by_cases hi:i=0<;>by_cases hj:j=0<;>simp[hi,hj,aDv]
def Reads(w:World)(B size:Nat)(A:Option Addr)(n:Nat)(xs:List Value):Prop :=
 xs.length=n*size∧(0<n→∃ad,A=some ad∧ad.block<B∧∀j u,xs[j]?=some u→w.cell? (ad.add j)=some u)
section
variable {w w':World} {B B' size n:Nat} {A:Option Addr} {xs:List Value}
theorem Reads.at_{k:Nat}(h:Reads w B 1 A n xs)(hk:k<n):∃ad u,A=some ad∧ad.block<B∧xs[k]?=some u∧w.cell? (ad.add k)=some u:=by
 obtain⟨ad,e,hb,hc⟩:=h.2 o_;have hl:k<xs.length:=by have:=h.1;omega
 exact⟨ad,xs[k],e,hb,aAa hl,hc k _ (aAa hl)⟩
end
section
variable {P:Program} (w:World)
theorem xK(base:Nat)(t ty e:TypeId)(i:TypeInfo)(size:Nat)(ht:P.underlying t=some (.slice e))(hi:P.info? e=some i)
  (v:Value) (n:Nat) (xs:List Value) (hown:w.ownsRow base e size v n xs) (c:Nat):(Builtin.append_ #[t,t] ty #[v,.slice none 0 c]).run P w=.ok v w:=by
 rcases hown.2 with⟨rfl,rfl⟩|⟨g,cap,cur,rfl,_,_,hnc,_⟩
 ·simp[Builtin.append_,run_underlying ht,sizeOf,typeInfo,hi,Builtin.lenOf,Builtin.firstCells]
 ·simp[Builtin.append_,run_underlying ht,sizeOf,typeInfo,hi,Builtin.lenOf,Builtin.firstCells,hnc,storeCells]
theorem oF(base:Nat)(t ty e:TypeId)(i:TypeInfo)(z:Value)(size bytes:Nat)(ht:P.underlying t=some (.slice e))(hi:P.info? e=some i)(hz:i.zero=some z)
  (hsize:i.size=size) (hby:i.bytes=bytes) (hzs:z.cells.size=size) (hsz:0<size)
  (v:Value) (n:Nat) (xs:List Value) (hown:w.ownsRow base e size v n xs)
  (B:Nat) (A:Option Addr) (m c:Nat) (news:List Value) (hr:Reads w B size A m news) (h1:∀u∈news,u.oneCell'=true)
  (h63:n+m≤maxLen) (hbytes:(n+m)*bytes≤140737488355328) (hbase:base≤w.heap.size) :
  ∃v' w',(Builtin.append_ #[t,t] ty #[v,.slice A m c]).run P w=.ok v' w'∧w'.ownsRow base e size v' (n+m) (xs++news)∧w.grownBy w' v.ownBlock ∧
   (v'.ownBlock=v.ownBlock∨v'.ownBlock=some w.heap.size):=by
 rcases A with _|ad
 ·have hm:m=0:=by
   rcases Nat.eq_zero_or_pos m with h0|h0
   ·exact h0
   ·obtain⟨ad,h,_⟩:=hr.2 h0;cases h
  subst hm;have hn:news=[]:=aBi (by simpa using hr.1);subst hn;exact⟨v,w,xK w base t ty e i size ht hi v n xs hown c,by simpa using hown,World.grownBy.refl w _,.inl rfl⟩
 ·have hcells:∀j u,news[j]?=some u→w.cell? (ad.add j)=some u:=by
   intro j u hu;rcases Nat.eq_zero_or_pos m with h0|h0
   ·subst h0;have hn:news=[]:=aBi (by simpa using hr.1);subst hn;simp at hu
   ·obtain⟨ad',h,_,hc⟩:=hr.2 h0;injection h with h
    subst h;exact hc j u hu
  obtain⟨v',w',hrun,h2,h3,_,h5⟩:=run_append_own_at (P:=P) w base t ty e i z size bytes ht hi hz hsize hby hzs hsz v n xs hown ad m c news hr.1 hcells h1 h63 hbytes hbase;exact⟨v',w',hrun,h2,h3,h5⟩
end
structure Ap(α:Type) where
 enc:α→List Value
 size:Nat
 bytes:Nat
 tid:TypeId
 j7:TypeId
 zero:Value
 hlen:∀a,(enc a).length=size
 lJ:∀a,∀u∈enc a,u.oneCell'=true
 gL:0<size
 hzero:zero.cells.size=size
 fW:(prog.info? tid).map (λi=>(i.zero,i.size,i.bytes))=some (some zero,size,bytes)
 U4:prog.underlying j7=some (.slice tid)
def Ap.bT{α:Type}(E:Ap α)(l:List α):List Value:=l.flatMap E.enc
section
variable {α:Type} {E:Ap α}
theorem Ap.eW(a:α)(b:List α):E.bT (a::b)=E.enc a++E.bT b:=aDy
theorem Ap.bM(l:List α):(E.bT l).length=l.length*E.size:=by
 induction l with
 |nil=>simp[Ap.bT]
 |cons a l ih=>rw[E.eW,aAe,E.hlen,ih,aAs,aDb,aDq,aEs]
theorem Ap.gD(l:List α)(k:Nat):(E.bT l).drop (k*E.size)=E.bT (l.drop k):=by
 induction k generalizing l with
 |zero=>simp
 |succ k ih =>
  cases l with
  |nil=>simp[Ap.bT]
  |cons a l =>
   rw[E.eW,List.drop_succ_cons,←ih,aDb,aDq,aEs,←aBt,aBu (E.hlen a)]
theorem Ap.uK(l:List α)(k:Nat)(h:k<l.length)(j:Nat)(u:Value)(hu:(E.enc l[k])[j]?=some u):(E.bT l)[k*E.size+j]?=some u:=by
 have hj:j<E.size:=by
  have:=(aAd.1 hu).1;rw[E.hlen] at this;exact this
 have h1:((E.bT l).drop (k*E.size))[j]?=some u:=by
  rw[E.gD,aAm h,E.eW,aBp (by rw[E.hlen];exact hj)];exact hu
 rwa [aCv] at h1
def Rd(E:Ap α)(w:World)(B:Nat)(A:Option Addr)(n c:Nat)(l:List α):Prop :=
 n=l.length∧n≤c∧c≤maxLen∧Reads w B E.size A n (E.bT l)
section
variable {w w':World} {base B B':Nat} {A:Option Addr} {n c:Nat} {l l':List α}
theorem Rd.len(h:Rd E w B A n c l):n=l.length:=h.1
theorem Rd.cap(h:Rd E w B A n c l):n≤c∧c≤maxLen:=⟨h.2.1,h.2.2.1⟩
theorem Rd.at_(h:Rd E w B A n c l){k:Nat}(hk:k<n):∃ad,A=some ad∧ad.block<B∧∃hl:k<l.length,∀j u,(E.enc l[k])[j]?=some u→w.cell? (ad.add (k*E.size+j))=some u:=by
 obtain⟨ad,e,hb,hc⟩:=h.2.2.2.2 o_;have hl:k<l.length:=by have:=h.1;omega
 exact⟨ad,e,hb,hl,λj u hu=>hc _ u (E.uK l k hl j u hu)⟩
end
end
def Fq:Ap UInt8 where
 enc b:=[.int .u8 (b.toNat:Int)]
 size:=1
 bytes:=1
 tid:=5
 j7:=70
 zero:=.int .u8 0
 hlen _:=rfl
 lJ a u h:=by simp only[aAp] at h;subst h;rfl
 gL:=sD
 hzero:=rfl
 fW:=q_
 U4:=underlying70
section
variable {w w':World} {B:Nat} {A:Option Addr} {n c:Nat} {l:List UInt8}
theorem Rd.j9(h:Rd Fq w B A n c l){k:Nat}(hk:k<n) :
  ∃ad,A=some ad∧ad.block<B∧∃hl:k<l.length,w.cell? (ad.add k)=some (.int .u8 (l[k].toNat:Int)):=by
 obtain⟨ad,e,hb,hl,hc⟩:=h.at_ hk;exact⟨ad,e,hb,hl,by have:=hc 0 _ rfl;simpa [Fq] using this⟩
end
def T0(l:List UInt8):ByteArray:=⟨l.toArray⟩
theorem Ci(l:List UInt8):(T0 l).toList=l:=by
 rw[ByteArray.toList_eq];rfl
theorem VD{w:World}{B:Nat}{A:Option Addr}{n c:Nat}{l:List UInt8}(h:Rd Fq w B A n c l) :
  (convert 70 9 (.slice A n c)).run prog w=.ok (.string (T0 l)) w:=by
 obtain⟨rfl,h2,h3,h4⟩:=h;rcases A with _|ad
 ·have hl:l=[]:=by
   rcases Nat.eq_zero_or_pos l.length with h0|h0
   ·exact aBi h0
   ·obtain⟨ad,e,_⟩:=h4.2 h0;cases e
  subst hl;exact run_convert_bytes_nil w 70 5 underlying70 underlying5 _ _ 9 underlying9
 ·have hx:(loadCells ad l.length).run prog w=.ok ((l.map λb:UInt8=>(b.toNat:Int)).map (Value.int .u8)).toArray w:=by
   have:=run_loadCells_list (P:=prog) w ad ((l.map λb:UInt8=>(b.toNat:Int)).map (Value.int .u8)) (λj v hj=>by
    have hjl:j<l.length:=by
     rcases Nat.lt_or_ge j l.length with h|h
     ·exact h
     ·rw[aCo (show((l.map λb:UInt8=>(b.toNat:Int)).map (Value.int .u8)).length≤j by simpa using h)] at hj;cases hj
    obtain⟨ad',e,_,hl,hc⟩:=Rd.j9 (l:=l) (w:=w) (B:=B) (A:=some ad) (n:=l.length) (c:=c) ⟨rfl,h2,h3,h4⟩ hjl;injection e with e
    subst e;rw[hc];simp[hjl] at hj;rw[hj])
   simpa using this
  rw[run_convert_bytes_string w 70 9 5 _ l.length c underlying70 underlying5 underlying9,run_bytesToString w _ l.length c _ hx,foldl_push_bytes];have e:((l.map λb:UInt8=>(b.toNat:Int)).map λn:Int=>UInt8.ofNat n.toNat)=l:=by
   rw[List.map_map]
   conv=>rhs;rw[←List.map_id l]
   apply List.map_congr_left;intro b _;apply aEg.1;simp
  rw[e];simp[T0,ByteArray.empty,ByteArray.emptyWithCapacity];rfl
section
variable {α:Type} {E:Ap α}
variable {w w':World} {B B':Nat} {A:Option Addr} {n c:Nat} {ls:List (List α)}
end
theorem SP{k:IntKind}{a b:Int}(h:a=b):Ending.returned (.int k a)=.returned (.int k b):=by rw[h]
theorem J7{k:IntKind}{a b:Nat}(h:a=b):Value.int k (a:Int)=Value.int k (b:Int):=by rw[h]
end Go.Proofs.YtmilalkjbojciaaGreat.Mem
namespace Go.Proofs.YtmilalkjbojciaaGreat.Reg
open Go.RowKit Mem
def nth:List Oper→Nat→Option Oper
 | [],_=>none
 |o::_,0=>some o
 |_::l,i+1=>nth l i
theorem eX:∀(l:List Oper) (i:Nat),nth l i=l.toArray[i]?
 | [],_=>by simp[nth]
 |o::l,0=>by simp[nth]
 |o::l,i+1=>by rw[nth,eX l i];simp
section
variable {P:Program} {ops:Array Oper} {l:List Oper} {Q:Exit→Act→World→Prop} {md:Region.Mode}
end
end Go.Proofs.YtmilalkjbojciaaGreat.Reg
namespace Go.Proofs.YtmilalkjbojciaaGreat.Sep
open Go.RowKit Mem Reg
theorem fB(B o q:Nat):(⟨B,o,none⟩:Addr).add q=⟨B,o+q,none⟩:=by
 unfold Addr.add;split
 ·subst_vars;rfl
 ·rfl
structure wA(q:Prop):Prop where
 out:q
def lT:TypeDesc→Bool
 | .struct _=>true
 | .array _ _=>true
 |_=>false
structure Ty(α:Type) where
 val:α→Value
 size:Nat
 bytes:Nat
 tid:TypeId
 zero:Value
 hlen:∀a,(val a).cells.size=size
 lJ:∀a,∀u∈(val a).cells.toList,u.oneCell'=true
 gL:0<size
 hzero:zero.cells.size=size
 fW:(prog.info? tid).map (λi=>(i.zero,i.size,i.bytes))=some (some zero,size,bytes)
 nR:(prog.underlying tid).map lT=some true∧(∀a,∃cs,val a=.agg cs) ∨
  (prog.underlying tid).map lT=some false∧∀a,(val a).oneCell'=true
section
variable {α:Type} {T:Ty α}
def Ty.enc(T:Ty α)(a:α):List Value:=(T.val a).cells.toList
def Ty.bT(T:Ty α)(l:List α):List Value:=l.flatMap T.enc
theorem Ty.dR(a:α):(T.enc a).length=T.size:=by simp[Ty.enc,T.hlen]
theorem Ty.iU(a b:List α):T.bT (a++b)=T.bT a++T.bT b:=aDz
theorem Ty.eW(a:α)(b:List α):T.bT (a::b)=T.enc a++T.bT b:=aDy
theorem Ty.bM(l:List α):(T.bT l).length=l.length*T.size:=by
 induction l with
 |nil=>simp[Ty.bT]
 |cons a l ih=>rw[T.eW,aAe,T.dR,ih,aAs,aDb,aDq,aEs]
theorem Ty.kS(l:List α):∀u∈T.bT l,u.oneCell'=true:=by
 intro u hu;obtain⟨a,_,h⟩:=List.mem_flatMap.1 hu;exact T.lJ a u h
theorem Ty.gD(l:List α)(k:Nat):(T.bT l).drop (k*T.size)=T.bT (l.drop k):=by
 induction k generalizing l with
 |zero=>simp
 |succ k ih =>
  cases l with
  |nil=>simp[Ty.bT]
  |cons a l =>
   rw[T.eW,List.drop_succ_cons,←ih,aDb,aDq,aEs,←aBt,aBu (T.dR a)]
theorem Ty.nX(l:List α)(k:Nat):(T.bT l).take (k*T.size)=T.bT (l.take k):=by
 induction k generalizing l with
 |zero=>simp[Ty.bT]
 |succ k ih =>
  cases l with
  |nil=>simp[Ty.bT]
  |cons a l =>
   rw[T.eW,aEl,T.eW,←ih,aDb,aDq,aEs,aEt,T.dR,aAj (by rw[T.dR];omega)];congr 2;omega
theorem Ty.uK{l:List α}{k:Nat}{x:α}(h:l[k]?=some x){j:Nat}{u:Value}(hu:(T.enc x)[j]?=some u):(T.bT l)[k*T.size+j]?=some u:=by
 obtain⟨hk,rfl⟩:=aAd.1 h;have hj:j<T.size:=by
  have:=(aAd.1 hu).1;rw[T.dR] at this;exact this
 have h1:((T.bT l).drop (k*T.size))[j]?=some u:=by
  rw[T.gD,aAm hk,T.eW,aBp (by rw[T.dR];exact hj)];exact hu
 rwa [aCv] at h1
theorem Ty.Bo{l:List α}{k:Nat}(hk:k<l.length)(x:α):T.bT (l.set k x)=(T.bT l).take (k*T.size)++T.enc x++(T.bT l).drop ((k+1)*T.size):=by
 rw[T.nX,T.gD,aDg,if_pos hk,T.iU,T.eW,aAb]
end
structure aL where
 holds:(Nat→Prop)→World→Prop
 loc:∀ {F w w'},holds F w→(∀b,F b→w'.heap[b]?=w.heap[b]?)→holds F w'
 lt:∀ {F w b},holds F w→F b→b<w.heap.size
def cT:List aL→(Nat→Prop)→World→Prop
 | [],F,_=>∀b,¬F b
 |a::l,F,w=>∃F1 F2,(∀b,F b↔F1 b∨F2 b)∧(∀b,F1 b→¬F2 b)∧a.holds F1 w∧cT l F2 w
theorem iJ:∀ {l:List aL} {F w w'},cT l F w→(∀b,F b→w'.heap[b]?=w.heap[b]?)→cT l F w'
 | [],_,_,_,h,_=>h
 |a::_l,_F,_w,_w',⟨F1,F2,h1,h2,h3,h4⟩,hk=>⟨F1,F2,h1,h2,a.loc h3 λb hb=>hk b ((h1 b).2 (.inl hb)),iJ h4 λb hb=>hk b ((h1 b).2 (.inr hb))⟩
theorem mP:∀ {l:List aL} {F w b},cT l F w→F b→b<w.heap.size
 | [],_,_,b,h,hb=>absurd hb (h b)
 |a::l,F,w,b,⟨F1,F2,h1,_,h3,h4⟩,hb=>by
  rcases(h1 b).1 hb with h|h
  ·exact a.lt h3 h
  ·exact mP h4 h
theorem Fy{l:List aL}{F G w}(h:cT l F w)(hFG:∀b,G b↔F b):cT l G w:=by
 have:G=F:=funext λb=>propext (hFG b);rw[this];exact h
theorem aY{l m:List aL}{F w}:cT (l++m) F w↔∃F1 F2,(∀b,F b↔F1 b∨F2 b)∧(∀b,F1 b→¬F2 b)∧cT l F1 w∧cT m F2 w:=by
 induction l generalizing F with
 |nil =>
  constructor
  ·intro h;exact⟨λ_=>False,F,λb=>by simp,λb hb=>hb.elim,λb hb=>hb,h⟩
  ·rintro⟨F1,F2,h1,_,h3,h4⟩;exact Fy h4 λb=>by rw[h1 b];simp[h3 b]
 |cons a l ih =>
  constructor
  ·rintro⟨F1,F2,h1,h2,h3,h4⟩;obtain⟨G1,G2,g1,g2,g3,g4⟩:=ih.1 h4;refine⟨λb=>F1 b∨G1 b,G2,λb=>by rw[h1 b,g1 b,or_assoc],?_,⟨F1,G1,λb=>aDl,λb hb hg=>h2 b hb ((g1 b).2 (.inl hg)),h3,g3⟩,g4⟩;rintro b (hb|hb) hg
   ·exact h2 b hb ((g1 b).2 (.inr hg))
   ·exact g2 b hb hg
  ·rintro⟨F1,F2,h1,h2,⟨G1,G2,g1,g2,g3,g4⟩,h4⟩;refine⟨G1,λb=>G2 b∨F2 b,λb=>by rw[h1 b,g1 b,or_assoc],?_,g3,ih.2 ⟨G2,F2,λb=>aDl,λb hb=>h2 b ((g1 b).2 (.inr hb)),g4,h4⟩⟩;rintro b hb (hg|hg)
   ·exact g2 b hb hg
   ·exact h2 b ((g1 b).2 (.inl hb)) hg
inductive Has:aL→List aL→List aL→Prop
 |aN {a R}:Has a (a::R) R
 |aM {a x H R} (h:Has a H R):Has a (x::H) (x::R)
inductive cS:List aL→List aL→List aL→Prop
 |nil {H}:cS [] H H
 |cons {a l H R R'} (h:Has a H R) (t:cS l R R'):cS (a::l) H R'
inductive dT(a:aL)(l:List aL):List aL→List aL→Prop
 |aN {R}:dT a l (a::R) (l++R)
 |aM {x H H'} (h:dT a l H H'):dT a l (x::H) (x::H')
theorem Has.cT{a:aL}{H R:List aL}(h:Has a H R):∀ {F w},cT H F w→cT (a::R) F w:=by
 induction h with
 |aN=>exact λh=>h
 |aM h ih =>
  rintro F w ⟨F1,F2,h1,h2,h3,h4⟩;obtain⟨G1,G2,g1,g2,g3,g4⟩:=ih h4;refine⟨G1,λb=>F1 b∨G2 b,λb=>by rw[h1 b,g1 b];constructor<;>(rintro(h|h|h)<;>simp[h]),?_,g3,F1,G2,λb=>aDl,λb hb hg=>h2 b hb ((g1 b).2 (.inr hg)),h3,g4⟩;rintro b hb (hg|hg)
  ·exact h2 b hg ((g1 b).2 (.inl hb))
  ·exact g2 b hb hg
theorem cS.cT{l H R:List aL}(h:cS l H R):∀ {F w},cT H F w→cT (l++R) F w:=by
 induction h with
 |nil=>exact λh=>h
 |cons h t ih =>
  intro F w hs;obtain⟨F1,F2,h1,h2,h3,h4⟩:=h.cT hs;exact⟨F1,F2,h1,h2,h3,ih h4⟩
theorem dT.cT{a:aL}{l H H':List aL}(h:dT a l H H'):∀ {F:Nat→Prop} {w w':World} {G:Nat→Prop},Sep.cT H F w→w.heap.size≤w'.heap.size→(∀b,b<w.heap.size→¬G b→w'.heap[b]?=w.heap[b]?) →
  (∀F1,(∀b,F1 b→F b)→a.holds F1 w→∃F1',Sep.cT l F1' w'∧(∀b,F1' b→F1 b∨w.heap.size≤b)∧∀b,b<w.heap.size→G b→F1 b) →
  ∃F',Sep.cT H' F' w'∧(∀b,F' b→F b∨w.heap.size≤b)∧∀b,b<w.heap.size→G b→F b:=by
 induction h with
 |aN =>
  rintro F w w' G ⟨F1,F2,h1,h2,h3,h4⟩ hz hk ha;obtain⟨F1',k1,k2,k3⟩:=ha F1 (λb hb=>(h1 b).2 (.inl hb)) h3;have hd:∀b,F2 b→b<w.heap.size:=λb hb=>mP h4 hb;refine⟨λb=>F1' b∨F2 b,aY.2 ⟨F1',F2,λb=>aDl,?_,k1,iJ h4 λb hb=>hk b (hd b hb) λhg=>h2 b (k3 b (hd b hb) hg) hb⟩,?_,λb hb hg=>(h1 b).2 (.inl (k3 b hb hg))⟩
  ·intro b hb hb2;rcases k2 b hb with h|h
   ·exact h2 b h hb2
   ·have:=hd b hb2;omega
  ·rintro b (hb|hb)
   ·rcases k2 b hb with h|h
    ·exact .inl ((h1 b).2 (.inl h))
    ·exact .inr h
   ·exact .inl ((h1 b).2 (.inr hb))
 |aM h ih =>
  rintro F w w' G ⟨F1,F2,h1,h2,h3,h4⟩ hz hk ha;obtain⟨F2',k1,k2,k3⟩:=ih h4 hz hk λF3 h5 h6=>ha F3 (λb hb=>(h1 b).2 (.inr (h5 b hb))) h6;have hd:∀b,F1 b→b<w.heap.size:=λb hb=>aL.lt _ h3 hb;refine⟨λb=>F1 b∨F2' b,⟨F1,F2',λb=>aDl,?_,aL.loc _ h3 λb hb=>hk b (hd b hb) λhg=>h2 b hb (k3 b (hd b hb) hg),k1⟩,?_,λb hb hg=>(h1 b).2 (.inr (k3 b hb hg))⟩
  ·intro b hb hb2;rcases k2 b hb2 with h|h
   ·exact h2 b hb h
   ·have:=hd b hb;omega
  ·rintro b (hb|hb)
   ·exact .inl ((h1 b).2 (.inl hb))
   ·rcases k2 b hb with h|h
    ·exact .inl ((h1 b).2 (.inr h))
    ·exact .inr h
structure Env where
 w:World
 D:Nat→Prop
 ds:List Deferred:=[]
structure St(E:Env)(H:List aL)(w:World):Prop where
 os:w.os=E.w.os
 tape:w.tape=E.w.tape
 output:w.output=E.w.output
 size:E.w.heap.size≤w.heap.size
 MH:∀b,E.D b→b<E.w.heap.size
 lB:∀b,E.D b→w.heap[b]?=E.w.heap[b]?
 fp:∃F,cT H F w∧∀b,E.D b→¬F b
section
variable {E:Env} {H H' R:List aL} {w w':World} {a:aL}
theorem St.drew(h:St E H w):St E H w.drew:=⟨h.os,h.tape,h.output,h.size,h.MH,h.lB,by obtain⟨F,h1,h2⟩:=h.fp;exact⟨F,iJ h1 λ_ _=>rfl,h2⟩⟩
theorem St.conv(h:St E H w)(hc:∀F,cT H F w→∃F',cT H' F' w∧∀b,F' b→F b):St E H' w :=
 ⟨h.os,h.tape,h.output,h.size,h.MH,h.lB,by
  obtain⟨F,h1,h2⟩:=h.fp;obtain⟨F',h3,h4⟩:=hc F h1;exact⟨F',h3,λb hb hf=>h2 b hb (h4 b hf)⟩⟩
theorem St.aV(h:St E H w){l:List aL}(hp:cS l H R):St E (l++R) w:=h.conv λF hs=>⟨F,hp.cT hs,λ_ h=>h⟩
theorem St.left{l:List aL}(h:St E (l++R) w):St E l w:=h.conv λF hs=>by
 obtain⟨F1,F2,h1,_,h3,_⟩:=aY.1 hs;exact⟨F1,h3,λb hb=>(h1 b).2 (.inl hb)⟩
theorem St.right{l:List aL}(h:St E (l++R) w):St E R w:=h.conv λF hs=>by
 obtain⟨F1,F2,h1,_,_,h3⟩:=aY.1 hs;exact⟨F2,h3,λb hb=>(h1 b).2 (.inr hb)⟩
theorem St.weaken(h:St E H w){l:List aL}(hp:cS l H R):St E l w:=(h.aV hp).left
theorem St.jX(h:St E H w){l:List aL}(hr:dT a l H H')(hos:w'.os=w.os)(htape:w'.tape=w.tape)(hout:w'.output=w.output)(hz:w.heap.size≤w'.heap.size){G:Nat→Prop}
  (hk:∀b,b<w.heap.size→¬G b→w'.heap[b]?=w.heap[b]?)
  (ha:∀F1,a.holds F1 w→∃F1',cT l F1' w'∧(∀b,F1' b→F1 b∨w.heap.size≤b)∧∀b,b<w.heap.size→G b→F1 b):St E H' w':=by
 obtain⟨F,h1,h2⟩:=h.fp;obtain⟨F',k1,k2,k3⟩:=hr.cT h1 hz hk λF1 _ h3=>ha F1 h3;have hlt:∀b,E.D b→b<w.heap.size:=λb hb=>aDe (h.MH b hb) h.size;refine⟨hos.trans h.os,htape.trans h.tape,hout.trans h.output,aBw h.size hz,h.MH,λb hb=>(hk b (hlt b hb) λhg=>h2 b hb (k3 b (hlt b hb) hg)).trans (h.lB b hb),F',k1,λb hb hf=>?_⟩;rcases k2 b hf with h|h
 ·exact h2 b hb h
 ·have:=hlt b hb;omega
theorem St.grow(h:St E H w){l:List aL}(hos:w'.os=w.os)(htape:w'.tape=w.tape)(hout:w'.output=w.output)(hz:w.heap.size≤w'.heap.size)
  (hk:∀b,b<w.heap.size→w'.heap[b]?=w.heap[b]?) {F1:Nat→Prop} (hl:cT l F1 w') (hF:∀b,F1 b→w.heap.size≤b):St E (l++H) w':=by
 obtain⟨F,h1,h2⟩:=h.fp;have hlt:∀b,E.D b→b<w.heap.size:=λb hb=>aDe (h.MH b hb) h.size;have hd:∀b,F b→b<w.heap.size:=λb hb=>mP h1 hb;refine⟨hos.trans h.os,htape.trans h.tape,hout.trans h.output,aBw h.size hz,h.MH,λb hb=>(hk b (hlt b hb)).trans (h.lB b hb),λb=>F1 b∨F b,
  aY.2 ⟨F1,F,λb=>aDl,λb hb hf=>by have:=hd b hf;have:=hF b hb;omega,hl,iJ h1 λb hb=>hk b (hd b hb)⟩,?_⟩
 rintro b hb (hf|hf)
 ·have:=hF b hf;have:=hlt b hb;omega
 ·exact h2 b hb hf
theorem St.has(h:St E H w)(ha:Has a H R):∃F,a.holds F w∧∀b,E.D b→¬F b:=by
 obtain⟨F,h1,h2⟩:=h.fp;obtain⟨F1,F2,h3,_,h5,_⟩:=ha.cT h1;exact⟨F1,h5,λb hb hf=>h2 b hb ((h3 b).2 (.inl hf))⟩
end
structure Sub(E:Env)(R:List aL)(M:Env):Prop where
 MH:∀b,M.D b→b<M.w.heap.size
 rd:∀b,E.D b→M.D b∧M.w.heap[b]?=E.w.heap[b]?
 fr:∃F,cT R F M.w∧∀b,F b→M.D b
theorem St.enter{E:Env}{Hp R:List aL}{w:World}(h:St E (Hp++R) w):∃M,M.ds=[]∧Sub E R M∧St M Hp w∧∀H' w',St M H' w'→St E (H'++R) w':=by
 obtain⟨F,h1,h2⟩:=h.fp;obtain⟨F1,F2,h3,h4,h5,h6⟩:=aY.1 h1;have hlt:∀b,E.D b→b<w.heap.size:=λb hb=>aDe (h.MH b hb) h.size;have hd:∀b,F2 b→b<w.heap.size:=λb hb=>mP h6 hb;refine⟨{ w:=w,D:=λb=>E.D b∨F2 b },rfl,⟨?_,λb hb=>⟨.inl hb,h.lB b hb⟩,F2,h6,λb hb=>.inr hb⟩,⟨rfl,rfl,rfl,aAf _,?_,λ_ _=>rfl,F1,h5,?_⟩,?_⟩
 ·rintro b (hb|hb);exact hlt b hb;exact hd b hb
 ·rintro b (hb|hb);exact hlt b hb;exact hd b hb
 ·rintro b (hb|hb) hf
  ·exact h2 b hb ((h3 b).2 (.inl hf))
  ·exact h4 b hf hb
 ·intro H' w' k;obtain⟨G,k1,k2⟩:=k.fp;refine⟨k.os.trans h.os,k.tape.trans h.tape,k.output.trans h.output,aBw h.size k.size,h.MH,λb hb=>(k.lB b (.inl hb)).trans (h.lB b hb),λb=>G b∨F2 b,
   aY.2 ⟨G,F2,λb=>aDl,λb hb hf=>k2 b (.inr hf) hb,k1,iJ h6 λb hb=>k.lB b (.inr hb)⟩,?_⟩
  rintro b hb (hf|hf)
  ·exact k2 b (.inl hb) hf
  ·exact h2 b hb ((h3 b).2 (.inr hf))
def aK(P:Program)(E:Env)(f:FuncId)(args:Array Value)(H:List aL)(Q:Ending→List aL→Prop):Prop :=
 E.ds=[]→∀w,St E H w→Calls P f args w λe w'=>∃H',St E H' w'∧Q e H'
theorem aK.mono{P:Program}{E:Env}{f:FuncId}{args:Array Value}{H:List aL}{Q Q':Ending→List aL→Prop}(h:aK P E f args H Q)(hq:∀e H',Q e H'→Q' e H'):aK P E f args H Q' :=
 λhd w hw=>(h hd w hw).mono λ_ _ ⟨H',h1,h2⟩=>⟨H',h1,hq _ _ h2⟩
def iE(p:Prop):aL:=⟨λF _=>p∧∀b,¬F b,λh _=>h,λh hb=>absurd hb (h.2 _)⟩
def aJ(g:Nat)(t:TypeId)(cs:List Value):aL where
 holds F w:=(∀b,F b↔b=g)∧w.heap[g]?=some (.cells cs.toArray t (0,0))
 loc h hk:=⟨h.1,(hk _ ((h.1 _).2 rfl)).trans h.2⟩
 lt h hb:=by rw[(h.1 _).1 hb];exact(aBv.1 h.2).1
section
variable {α:Type}
def own(T:Ty α)(A:Option Addr)(n c:Nat)(l:List α):aL where
 holds F w:=n=l.length∧((n=0∧c=0∧∀b,¬F b) ∨
  ∃g cur,A=some ⟨g,0,none⟩∧(∀b,F b↔b=g)∧w.heap[g]?=some (.cells cur T.tid (0,0))∧n≤c∧c≤maxLen∧cur.size=c*T.size∧cur.toList.take (n*T.size)=T.bT l)
 loc:=by
  rintro F w w' ⟨h0,h|⟨g,cur,h1,h2,h3,h4⟩⟩ hk
  ·exact⟨h0,.inl h⟩
  ·exact⟨h0,.inr ⟨g,cur,h1,h2,(hk _ ((h2 _).2 rfl)).trans h3,h4⟩⟩
 lt:=by
  rintro F w b ⟨h0,⟨_,_,h⟩|⟨g,cur,h1,h2,h3,h4⟩⟩ hb
  ·exact absurd hb (h b)
  ·rw[(h2 _).1 hb];exact(aBv.1 h3).1
def pack{X:Type}(l:X→List aL):aL where
 holds F w:=∃x,cT (l x) F w
 loc:=λ⟨x,h⟩ hk=>⟨x,iJ h hk⟩
 lt:=λ⟨_,h⟩ hb=>mP h hb
end
def Rd{α:Type}(E:Env)(T:Ty α)(A:Option Addr)(n c:Nat)(l:List α):Prop :=
 n=l.length∧n≤c∧c≤maxLen∧(n=0∨∃ad,A=some ad∧E.D ad.block∧∀j u,(T.bT l)[j]?=some u→E.w.cell? (ad.add j)=some u)
section
variable {α:Type} {T:Ty α} {E M:Env} {A:Option Addr} {n c:Nat} {l:List α} {H R:List aL} {w:World}
theorem Rd.len(h:Rd E T A n c l):n=l.length:=h.1
theorem Rd.cap(h:Rd E T A n c l):n≤c∧c≤maxLen:=⟨h.2.1,h.2.2.1⟩
theorem Rd.nil(E:Env)(T:Ty α):Rd E T none 0 0 []:=⟨rfl,aAf _,aAh _,.inl rfl⟩
theorem Rd.none(h:Rd E T none n c l):n=0∧l=[]:=by
 obtain⟨h0,_,_,rfl|⟨_,e,_⟩⟩:=h
 ·exact⟨rfl,aBi h0.symm⟩
 ·cases e
theorem Rd.sub(hE:Sub E R M)(h:Rd E T A n c l):Rd M T A n c l:=by
 obtain⟨h0,h1,h2,h3⟩:=h;refine⟨h0,h1,h2,h3.imp id ?_⟩;rintro⟨ad,e,hD,hc⟩;refine⟨ad,e,(hE.rd _ hD).1,λj u hu=>?_⟩;rw[aFd (w:=E.w) (by rw[eQ];exact(hE.rd _ hD).2)];exact hc j u hu
theorem Rd.from_(h:Rd E T A n c l){k:Nat}(hk:k≤n):Rd E T (if c=k then A else A.map (·.add (k*T.size))) (n - k) (c - k) (l.drop k):=by
 obtain⟨h1,h2,h3,h4⟩:=h;refine⟨by rw[aBd,h1],by omega,by omega,?_⟩;by_cases hn:n - k=0
 ·exact .inl hn
 ·rcases h4 with h4|⟨ad,rfl,hD,hc⟩
  ·omega
  ·rw[if_neg o_];refine .inr ⟨ad.add (k*T.size),rfl,by rw[eQ];exact hD,λj u hu=>?_⟩;rw[jI];refine hc _ u ?_;rw[←hu,←T.gD,aCv]
theorem Rd.upto(h:Rd E T A n c l){k m:Nat}(hk:k≤n)(hkm:k≤m)(hm:m≤c):Rd E T A k m (l.take k):=by
 obtain⟨h1,h2,h3,h4⟩:=h;refine⟨by rw[aAg];omega,hkm,by omega,?_⟩;rcases h4 with h4|⟨ad,rfl,hD,hc⟩
 ·exact .inl o_
 ·refine .inr ⟨ad,rfl,hD,λj u hu=>hc j u ?_⟩;rw[←T.nX,aEd] at hu;split at hu
  ·exact hu
  ·cases hu
theorem Rd.cut(h:Rd E T A n c l){j m:Nat}(hj:j≤m)(hm:m≤n):Rd E T (if c=j then A else A.map (·.add (j*T.size))) (m - j) (c - j) ((l.take m).drop j):=by
 have h1:=h.cap;exact(h.upto hm (show m≤c by omega) (aAf c)).from_ hj
theorem qE{F:Nat→Prop}(h:(own T A n c l).holds F w):n=l.length∧n≤c∧c≤maxLen∧(n=0∨∃ad,A=some ad∧F ad.block∧∀j u,(T.bT l)[j]?=some u→w.cell? (ad.add j)=some u):=by
 obtain⟨h0,⟨rfl,rfl,_⟩|⟨g,cur,rfl,hF,hh,h1,h2,h3,h4⟩⟩:=h
 ·exact⟨h0,aAf _,aAh _,.inl rfl⟩
 ·refine⟨h0,h1,h2,.inr ⟨_,rfl,(hF _).2 rfl,λj u hu=>?_⟩⟩;rw[fB,aCa,cell_of_row _ _ _ _ _ _ hh];rw[←h4,aEd] at hu;split at hu
  ·simpa using hu
  ·cases hu
theorem Sub.own(hE:Sub E R M){R':List aL}(h:Has (own T A n c l) R R'):Rd M T A n c l:=by
 obtain⟨F,h1,h2⟩:=hE.fr;obtain⟨F1,F2,h3,_,h5,_⟩:=h.cT h1;obtain⟨k0,k1,k2,k3⟩:=qE h5;exact⟨k0,k1,k2,k3.imp id λ⟨ad,e,hF,hc⟩=>⟨ad,e,h2 _ ((h3 _).2 (.inl hF)),hc⟩⟩
def kV(E:Env)(H:List aL)(T:Ty α)(A:Option Addr)(n c:Nat)(l:List α):Prop :=
 ∀w,St E H w→n=l.length∧n≤c∧c≤maxLen∧(n=0∨∃ad,A=some ad∧∀j u,(T.bT l)[j]?=some u→w.cell? (ad.add j)=some u)
theorem kV.rd(h:Rd E T A n c l):kV E H T A n c l:=λw hw=>by
 obtain⟨h0,h1,h2,h3⟩:=h;refine⟨h0,h1,h2,h3.imp id ?_⟩;rintro⟨ad,e,hD,hc⟩;refine⟨ad,e,λj u hu=>?_⟩;rw[aFd (w:=E.w) (by rw[eQ];exact hw.lB _ hD)];exact hc j u hu
theorem kV.own(h:Has (own T A n c l) H R):kV E H T A n c l:=λw hw=>by
 obtain⟨F,h1,_⟩:=hw.has h;obtain⟨k0,k1,k2,k3⟩:=qE h1;exact⟨k0,k1,k2,k3.imp id λ⟨ad,e,_,hc⟩=>⟨ad,e,hc⟩⟩
theorem kV.from_(h:kV E H T A n c l){k:Nat}(hk:k≤n):kV E H T (if c=k then A else A.map (·.add (k*T.size))) (n - k) (c - k) (l.drop k):=λw hw=>by
 obtain⟨h1,h2,h3,h4⟩:=h w hw;refine⟨by rw[aBd,h1],by omega,by omega,?_⟩;by_cases hn:n - k=0
 ·exact .inl hn
 ·rcases h4 with h4|⟨ad,rfl,hc⟩
  ·omega
  ·rw[if_neg o_];refine .inr ⟨ad.add (k*T.size),rfl,λj u hu=>?_⟩;rw[jI];refine hc _ u ?_;rw[←hu,←T.gD,aCv]
end
def Cell(E:Env)(H:List aL)(a:Addr)(v:Value):Prop:=∀w,St E H w→w.cell? a=some v
def qP(E:Env)(a:Addr)(v:Value):Prop:=E.D a.block∧E.w.cell? a=some v
theorem Cell.kc{E:Env}{H:List aL}{a:Addr}{v:Value}(h:qP E a v):Cell E H a v:=λw hw=>by
 rw[aFd (w:=E.w) (hw.lB _ h.1)];exact h.2
theorem qP.sub{E M:Env}{R:List aL}{a:Addr}{v:Value}(hE:Sub E R M)(h:qP E a v):qP M a v:=by
 refine⟨(hE.rd _ h.1).1,?_⟩;rw[aFd (w:=E.w) (hE.rd _ h.1).2];exact h.2
theorem qP.aJ{E M:Env}{R R':List aL}{g:Nat}{t:TypeId}{cs:List Value}(hE:Sub E R M)(h:Has (Sep.aJ g t cs) R R'){i:Nat}{v:Value}(hv:cs[i]?=some v):qP M ⟨g,i,none⟩ v:=by
 obtain⟨F,h1,h2⟩:=hE.fr;obtain⟨F1,F2,h3,_,h5,_⟩:=h.cT h1;obtain⟨k1,k2⟩:=h5;refine⟨h2 _ ((h3 _).2 (.inl ((k1 _).2 rfl))),?_⟩;rw[cell_of_row _ _ _ _ _ _ k2];simpa using hv
def Cells(E:Env)(H:List aL)(a:Addr)(vs:List Value):Prop:=∀w,St E H w→∀j u,vs[j]?=some u→w.cell? (a.add j)=some u
def ad(A:Option Addr):Addr:=A.getD ⟨0,0,none⟩
section
variable {α:Type} {T:Ty α} {E:Env} {A:Option Addr} {n c:Nat} {l:List α} {H R:List aL}
theorem Cells.elem(h:kV E H T A n c l){k:Nat}{x:α}(hx:l[k]?=some x){q:Nat}(hq:q=k*T.size):Cells E H ((ad A).add q) (T.enc x):=by
 subst hq;intro w hw j u hu;obtain⟨h0,h1,h2,h3⟩:=h w hw;have hk:=(aAd.1 hx).1;rcases h3 with h3|⟨a,rfl,hc⟩
 ·omega
 ·rw[jI];exact hc _ u (T.uK hx hu)
theorem Cell.elem(h:kV E H T A n c l){k:Nat}{x:α}(hx:l[k]?=some x){q j:Nat}(hq:q=k*T.size){v:Value}(hv:(T.enc x)[j]?=some v):Cell E H (((ad A).add q).add j) v :=
 λw hw=>Cells.elem h hx hq w hw j v hv
theorem Cell.Tw(h:kV E H T A n c l){k:Nat}{x:α}(hx:l[k]?=some x){q:Nat}(hq:q=k*T.size){v:Value}(hv:(T.enc x)[0]?=some v):Cell E H ((ad A).add q) v :=
 λw hw=>by have:=Cells.elem h hx hq w hw 0 v hv;simpa [Addr.add] using this
theorem Cell.aJ{g:Nat}{t:TypeId}{cs:List Value}(h:Has (aJ g t cs) H R){i:Nat}{v:Value}(hv:cs[i]?=some v):Cell E H ⟨g,i,none⟩ v:=λw hw=>by
 obtain⟨F,⟨_,h1⟩,_⟩:=hw.has h;rw[cell_of_row _ _ _ _ _ _ h1];simpa using hv
theorem Cells.aJ{g:Nat}{t:TypeId}{cs:List Value}(h:Has (aJ g t cs) H R){i:Nat}{vs:List Value}(hv:vs=cs.drop i):Cells E H ⟨g,i,none⟩ vs:=λw hw j u hu=>by
 obtain⟨F,⟨_,h1⟩,_⟩:=hw.has h;rw[fB,cell_of_row _ _ _ _ _ _ h1];subst hv;rw[aCv] at hu;simpa using hu
end
section
variable {α β:Type} {T:Ty α} {U:Ty β} {E:Env} {A:Option Addr} {n c:Nat} {l:List α} {H R:List aL}
def ZO(T:Ty α)(U:Ty β)(m:Nat)(xs:α→List β):Prop:=∀a,T.enc a=U.bT (xs a)∧(xs a).length=m
theorem Rd.inner{m:Nat}{xs:α→List β}(hA:ZO T U m xs)(hm:m≤maxLen)(h:Rd E T A n c l){k q:Nat}{x:α}(hx:l[k]?=some x)(hq:q=k*T.size):Rd E U (some ((ad A).add q)) m m (xs x):=by
 obtain⟨h0,h1,h2,h3⟩:=h;have hk:=(aAd.1 hx).1;rcases h3 with h3|⟨a,rfl,hD,hc⟩
 ·omega
 ·refine⟨(hA x).2.symm,aAf _,hm,.inr ⟨_,rfl,by rw[eQ];exact hD,λj u hu=>?_⟩⟩;rw[←(hA x).1] at hu;rw[hq,jI];exact hc _ u (T.uK hx hu)
end
def pT(F:Nat→Value)(d:Nat)(v:Value):Nat→Value:=λi=>bif Nat.beq i d then v else F i
def at_:List Value→Nat→Value
 | [],_=>undef
 |v::_,0=>v
 |_::l,i+1=>at_ l i
theorem Fl(l:List Value)(i:Nat):at_ l i=l.getD i undef:=by
 induction l generalizing i with
 |nil=>simp[at_]
 |cons v l ih=>cases i<;>simp[at_,ih]
def Jr(args:Array Value):Nat→Value:=λi=>at_ args.toList i
def ev(F:Nat→Value):Operand→Value
 | .tmp t=>F t
 | .const v=>v
 | .global g=>.pointer (some ⟨g,0,none⟩)
 | .func f=>.func (.func f) #[] #[]
structure qX(E:Env)(N:Nat)(F:Nat→Value)(a:Act):Prop where
 defers:a.defers=E.ds
 size:a.tmps.size=N
 get:∀i,a.tmps.getD i undef=F i
theorem qX.eval{E:Env}{N:Nat}{F:Nat→Value}{a:Act}(h:qX E N F a):a.eval=ev F:=by
 funext x;cases x<;>simp only[Act.eval,ev]
 exact h.get _
theorem qX.put{E:Env}{N:Nat}{F:Nat→Value}{a:Act}(h:qX E N F a){d:Nat}(hd:d<N)(v:Value):qX E N (pT F d v) (a.put (some d) v):=by
 refine⟨h.defers,by simpa [Act.put] using h.size,λi=>?_⟩;simp only[Act.put,pT];by_cases hi:i=d
 ·subst hi;simp[h.size,hd]
 ·have:Nat.beq i d=false:=by
   cases h:Nat.beq i d
   ·rfl
   ·exact absurd (aCz h) hi
  rw[this,cond_false,←h.get i];simp[aFh hi]
inductive Ex where
 |normal|ret|exit (id:Nat)|panic (c:List PanicEntry)
abbrev QF:=Ex→(Nat→Value)→List aL→Prop
def lift(N:Nat)(E:Env)(Q:QF):Exit→Act→World→Prop
 | .normal,a,w=>∃F H,qX E N F a∧St E H w∧Q .normal F H
 | .ret,a,w=>∃F H,qX E N F a∧St E H w∧Q .ret F H
 | .exit id,a,w=>∃F H,qX E N F a∧St E H w∧Q (.exit id) F H
 | .panic c,a,w=>a.defers=E.ds∧∃H,St E H w∧Q (.panic c) (λ_=>undef) H
 |_,_,_=>False
structure C(P:Program)(N:Nat)(E:Env)(c:Code)(Q:QF)(F:Nat→Value)(H:List aL):Prop where
 get:∀a w,qX E N F a→St E H w→c.wp P (lift N E Q) a w
structure L(P:Program)(N:Nat)(E:Env)(ops:List Oper)(Q:QF)(l:List Oper)(F:Nat→Value)(H:List aL):Prop where
 get:∀a w,qX E N F a→St E H w→wpList P ops.toArray (lift N E Q) l a w
def oQ(k:(Nat→Value)→List aL→Prop)(Q:QF):QF
 | .normal,F,H=>k F H
 | .ret,F,H=>Q .ret F H
 | .exit id,F,H=>Q (.exit id) F H
 | .panic c,F,H=>Q (.panic c) F H
def Tg(id:Nat)(Q:QF):QF
 | .exit id',F,H=>if id'=id then Q .normal F H else Q (.exit id') F H
 | .normal,F,H=>Q .normal F H
 | .ret,F,H=>Q .ret F H
 | .panic c,F,H=>Q (.panic c) F H
def aB(E:Env)(H H':List aL):Prop:=∀w,St E H w→St E H' w
def qB(P:Program)(E:Env)(H:List aL)(ρ:Operand→Value)(o:Oper)(v:Value):Prop:=∀u,St E H u→(execOp ρ o).run P u=.ok (.value v) u
def gK(P:Program)(N:Nat)(E:Env)(F:Nat→Value)(H:List aL)(o:Oper)(K:Value→List aL→Prop):Prop :=
 ∀a u,qX E N F a→St E H u→∀(Kw:Act→World→Prop) (Q':Exit→Act→World→Prop),(∀v H' u',K v H'→St E H' u'→Kw (a.put o.dst v) u')→o.wp P a u Kw Q'
section
variable {P:Program} {N:Nat} {E:Env} {Q:QF} {F:Nat→Value} {H H' R:List aL}
theorem Mt{Q':QF}(hq:∀e F H,Q e F H→Q' e F H):∀e a w,lift N E Q e a w→lift N E Q' e a w:=by
 intro e a w h;cases e with
 |normal=>obtain⟨F,H,h1,h2,h3⟩:=h;exact⟨F,H,h1,h2,hq _ _ _ h3⟩
 |ret=>obtain⟨F,H,h1,h2,h3⟩:=h;exact⟨F,H,h1,h2,hq _ _ _ h3⟩
 |exit id=>obtain⟨F,H,h1,h2,h3⟩:=h;exact⟨F,H,h1,h2,hq _ _ _ h3⟩
 |panic c=>obtain⟨h0,H,h2,h3⟩:=h;exact⟨h0,H,h2,hq _ _ _ h3⟩
 |_=>exact h.elim
theorem aB.refl:aB E H H:=λ_ h=>h
theorem aB.trans{H1 H2 H3:List aL}(h:aB E H1 H2)(k:aB E H2 H3):aB E H1 H3:=λw hw=>k w (h w hw)
theorem aB.aV{l:List aL}(h:cS l H R):aB E H l:=λ_ hw=>hw.weaken h
theorem T.n{k:(Nat→Value)→List aL→Prop}(h:k F H):oQ k Q .normal F H:=h
theorem T.ret{k:(Nat→Value)→List aL→Prop}(h:Q .ret F H):oQ k Q .ret F H:=h
theorem T.exit{k:(Nat→Value)→List aL→Prop}{id:Nat}(h:Q (.exit id) F H):oQ k Q (.exit id) F H:=h
theorem I.n{id:Nat}(h:Q .normal F H):Tg id Q .normal F H:=h
theorem I.ret{id:Nat}(h:Q .ret F H):Tg id Q .ret F H:=h
theorem I.tA{id:Nat}(h:Q .normal F H):Tg id Q (.exit id) F H:=by
 show if id=id then Q .normal F H else Q (.exit id) F H
 rw[if_pos rfl];exact h
theorem I.TE{id id':Nat}(hne:id'≠id)(h:Q (.exit id') F H):Tg id Q (.exit id') F H:=by
 show if id'=id then Q .normal F H else Q (.exit id') F H
 rw[if_neg hne];exact h
theorem C.mono{c:Code}{Q':QF}(h:C P N E c Q F H)(hq:∀e F H,Q e F H→Q' e F H):C P N E c Q' F H:=⟨λa w ha hw=>wp_mono (h.get a w ha hw) (Mt hq)⟩
theorem C.conv{c:Code}(hc:aB E H H')(h:C P N E c Q F H'):C P N E c Q F H:=⟨λa w ha hw=>h.get a w ha (hc w hw)⟩
theorem C.seq{x y:Code}(h:C P N E x (oQ (λF H=>C P N E y Q F H) Q) F H):C P N E (.seq x y) Q F H:=by
 refine⟨λa w ha hw=>wp_seq (wp_mono (h.get a w ha hw) ?_)⟩;intro e a w hq;cases e with
 |normal=>obtain⟨F,H,h1,h2,h3⟩:=hq;exact C.get h3 a w h1 h2
 |ret=>exact hq
 |exit id=>exact hq
 |panic c=>exact hq
 |_=>exact hq.elim
theorem C.block{id:Nat}{c:Code}(h:C P N E c (Tg id Q) F H):C P N E (.block id c) Q F H:=by
 refine⟨λa w ha hw=>wp_block (wp_mono (h.get a w ha hw) ?_)⟩;intro e a w hq;cases e with
 |exit id' =>
  obtain⟨F,H,h1,h2,h3⟩:=hq;simp only[Exit.inBlock,Tg] at *;split at h3
  ·rw[if_pos ‹_›];exact⟨F,H,h1,h2,h3⟩
  ·rw[if_neg ‹_›];exact⟨F,H,h1,h2,h3⟩
 |normal=>exact hq
 |ret=>exact hq
 |panic c=>exact hq
 |_=>exact hq.elim
theorem C.exit{id:Nat}(h:Q (.exit id) F H):C P N E (.exit id) Q F H:=⟨λ_ _ ha hw=>wp_exit ⟨F,H,ha,hw,h⟩⟩
theorem C.skip(h:Q .normal F H):C P N E .skip Q F H:=⟨λ_ _ ha hw=>wp_skip ⟨F,H,ha,hw,h⟩⟩
theorem C.ret(h:Q .ret F H):C P N E .ret Q F H:=⟨λ_ _ ha hw=>wp_ret ⟨F,H,ha,hw,h⟩⟩
theorem C.cond{c:Operand}{x y:Code}{b:Bool}(hc:ev F c=.bool b)(hx:b=true→C P N E x Q F H)(hy:b=false→C P N E y Q F H):C P N E (.cond c x y) Q F H:=by
 refine⟨λa w ha hw=>?_⟩;exact wp_cond_split (by rw[ha.eval];exact hc) (λh=>(hx h).get a w ha hw) (λh=>(hy h).get a w ha hw)
theorem C.Fx{c:Operand}{x y:Code}{b:Bool}(hc:ev F c=.bool b)(hb:b=true)(hx:C P N E x Q F H):C P N E (.cond c x y) Q F H :=
 C.cond hc (λ_=>hx) (λh=>by rw[hb] at h;cases h)
theorem C.GC{c:Operand}{x y:Code}{b:Bool}(hc:ev F c=.bool b)(hb:b=false)(hy:C P N E y Q F H):C P N E (.cond c x y) Q F H :=
 C.cond hc (λh=>by rw[hb] at h;cases h) (λ_=>hy)
theorem C.XE{c:Operand}{x y:Code}{p:Prop}[Decidable p](hc:ev F c=.bool (decide p))(hx:p→C P N E x Q F H)(hy:¬p→C P N E y Q F H):C P N E (.cond c x y) Q F H :=
 C.cond hc (λh=>hx (of_decide_eq_true h)) (λh=>hy (of_decide_eq_false h))
def OQ:List (Nat×Value)→(Nat→Value)→Nat→Value
 | [],G=>G
 | (d,v)::l,G=>pT (OQ l G) d v
def nH(F:Nat→Value):List (Nat×Value)→Prop
 | []=>True
 | (d,v)::l=>F d=v∧nH F l
theorem oH{F:Nat→Value}:∀ {l:List (Nat×Value)},nH F l→OQ l F=F
 | [],_=>rfl
 | (d,v)::l,h=>by
  funext i;simp only[OQ,pT];rw[oH h.2];cases e:Nat.beq i d
  ·rfl
  ·rw[aCz e,cond_true];exact h.1.symm
theorem least{p:Nat→Prop}(h:∃m,p m):∃m,p m∧∀k,p k→m≤k:=by
 obtain⟨m,hm⟩:=h
 induction m using Nat.strongRecOn with
 |ind m ih =>
  by_cases hk:∃k,k<m∧p k
  ·obtain⟨k,h1,h2⟩:=hk;exact ih k h1 h2
  ·exact⟨m,hm,λk hp=>Nat.le_of_not_lt λhlt=>hk ⟨k,hlt,hp⟩⟩
open Classical in
noncomputable def low(p:Nat→Prop):Nat:=if h:∃m,p m then Classical.choose (least h) else 0
theorem yD{p:Nat→Prop}(h:∃m,p m):p (low p)∧∀k,p k→low p≤k:=by
 unfold low;rw[dif_pos h];exact Classical.choose_spec (least h)
theorem C.loop{c:Code}{X:Type}(S:X→List (Nat×Value))(HX:X→List aL)(R:X→Prop)(μ:X→Nat)(x0:X)(hF:nH F (S x0))(hH:aB E H (HX x0))(h0:R x0)
  (round:∀x G,R x→C P N E c (oQ (λF' H'=>∃x',nH F' (S x')∧aB E H' (HX x')∧R x'∧μ x'<μ x) Q) (OQ (S x) G) (HX x)):C P N E (.loop c) Q F H:=by
 refine⟨λa w ha hw=>?_⟩
 let p:Act→World→Nat→Prop:=λa w m=>∃x F,qX E N F a∧nH F (S x)∧St E (HX x) w∧R x∧μ x=m
 refine wp_loop (λa w=>∃m,p a w m) (λa w=>low (p a w)) ⟨_,x0,F,ha,hF,hH w hw,h0,rfl⟩ ?_;intro a w hI;obtain⟨⟨x,F,hr,hS,hw,hR,hx⟩,_⟩:=yD hI;have h:=round x F hR;rw[oH hS] at h;refine wp_mono (h.get a w hr hw) ?_;intro e a' w' hq;cases e with
 |normal =>
  obtain⟨F',H',h1,h2,x',h3,h4,h5,h6⟩:=hq;have hp:p a' w' (μ x'):=⟨x',F',h1,h3,h4 w' h2,h5,rfl⟩
  refine⟨⟨_,hp⟩,?_⟩;refine Nat.lt_of_le_of_lt ((yD (p:=p a' w') ⟨_,hp⟩).2 _ hp) ?_;rw[←hx];exact h6
 |ret=>exact hq
 |exit id=>exact hq
 |panic c=>exact hq
 |_=>exact hq.elim
theorem C.cut{x y:Code}{X:Type}(S:X→List (Nat×Value))(HX:X→List aL)(R:X→Prop)(hx:C P N E x (oQ (λF' H'=>∃z,nH F' (S z)∧aB E H' (HX z)∧R z) Q) F H)
  (hy:∀z G,R z→C P N E y Q (OQ (S z) G) (HX z)):C P N E (.seq x y) Q F H:=by
 refine C.seq (hx.mono ?_);intro e F' H' hq;cases e with
 |normal=>obtain⟨z,hS,hH,hR⟩:=hq;have h:=hy z F' hR;rw[oH hS] at h;exact h.conv hH
 |ret=>exact hq
 |exit id=>exact hq
 |panic c=>exact hq
theorem C.BI{x y:Code}{X:Type}(S:X→List (Nat×Value))(HX:X→List aL)(R:X→Prop)(hx:C P N E x (oQ (λF' H'=>∃z,nH F' (S z)∧aB E H' (HX z)∧R z) Q) F H)
  (hy:∀z G,R z→C P N E y Q (OQ (S z) G) (HX z)):C P N E x (oQ (λF H=>C P N E y Q F H) Q) F H:=by
 refine hx.mono ?_;intro e F' H' hq;cases e with
 |normal=>obtain⟨z,hS,hH,hR⟩:=hq;have h:=hy z F' hR;rw[oH hS] at h;exact h.conv hH
 |ret=>exact hq
 |exit id=>exact hq
 |panic c=>exact hq
theorem C.region{id:Nat}{l:List Oper}(h:L P N E l Q l F H):C P N E (.region id l.toArray false) Q F H:=⟨λa w ha hw=>wp_region_lit (h.get a w ha hw)⟩
def yC(fn:Func)(F:Nat→Value):Sem Value:=do
 let vs ←fn.results.mapM fun
  | .tmp t=>pure (F t)
  | .cell a t=>do loadVar t (←asAddr (F a))
 pure (if h:vs.size=1 then vs[0] else .tuple vs)
theorem pV{fn:Func}{a:Act}(h:qX E N F a):results fn a.tmps=yC fn F:=by
 unfold results yC;congr 1;congr 1;funext x;cases x<;>simp only[h.get]
def gF(P:Program)(E:Env)(fn:Func)(R:Ending→List aL→Prop):QF
 | .normal,F,H | .ret,F,H=>∃v H',(∀w,St E H w→(yC fn F).run P w=.ok v w)∧aB E H H'∧R (.returned v) H'
 | .panic c,_,H=>R (.panicked c) H
 |_,_,_=>False
theorem DG{f:FuncId}{fn:Func}{c:Code}{args:Array Value}{R:Ending→List aL→Prop}(hf:P.funcs[f]?=some fn)(hb:fn.body=some c)(hn:fn.ntmps=N)(ha:args.size≤N)
  (h:C P N E c (gF P E fn R) (Jr args) H):aK P E f args H R:=by
 intro hds w hw;refine calls_of_wp hf hb ?_;have hr:qX E N (Jr args) { tmps:=args++Array.replicate (fn.ntmps - args.size) undef,defers:=[] }:=by
  refine⟨hds.symm,by simp;omega,λi=>?_⟩;simp only[Jr,Fl,aBb,aEe,aBy,aEo,aDt];split
  ·rfl
  ·rename_i h;rw[aCu o_];split<;>rfl
 refine wp_mono (h.get _ w hr hw) ?_;intro e a w hq;cases e with
 |normal=>obtain⟨F,H,hr,hw,v,H',h1,h2,h3⟩:=hq;exact⟨hr.defers.trans hds,v,by rw[pV hr];exact h1 w hw,H',h2 w hw,h3⟩
 |ret=>obtain⟨F,H,hr,hw,v,H',h1,h2,h3⟩:=hq;exact⟨hr.defers.trans hds,v,by rw[pV hr];exact h1 w hw,H',h2 w hw,h3⟩
 |exit id=>obtain⟨_,_,_,_,h⟩:=hq;exact h.elim
 |panic c=>obtain⟨h0,H,h2,h3⟩:=hq;exact⟨h0.trans hds,H,h2,h3⟩
 |_=>exact hq.elim
theorem aR{fn:Func}{R:Ending→List aL→Prop}{t:Nat}{v:Value}(hr:fn.results=#[.tmp t])(hv:F t=v)(hc:aB E H H')(h:R (.returned v) H'):gF P E fn R .ret F H:=by
 refine⟨v,H',λw _=>?_,hc,h⟩;subst hv;simp[yC,hr]
theorem vT{fn:Func}{R:Ending→List aL→Prop}{t u:Nat}{v v':Value}(hr:fn.results=#[.tmp t,.tmp u])(hv:F t=v)(hv':F u=v')(hc:aB E H H')(h:R (.returned (.tuple #[v,v'])) H'):gF P E fn R .ret F H:=by
 refine⟨.tuple #[v,v'],H',λw _=>?_,hc,h⟩;subst hv hv';simp[yC,hr]
theorem Ma{fn:Func}{R:Ending→List aL→Prop}{t u s:Nat}{v v' v'':Value}(hr:fn.results=#[.tmp t,.tmp u,.tmp s])(hv:F t=v)(hv':F u=v')(hv'':F s=v'')(hc:aB E H H')(h:R (.returned (.tuple #[v,v',v''])) H'):gF P E fn R .ret F H:=by
 refine⟨.tuple #[v,v',v''],H',λw _=>?_,hc,h⟩;subst hv hv' hv'';simp[yC,hr]
theorem VL{fn:Func}{R:Ending→List aL→Prop}(hr:fn.results=#[])(hc:aB E H H')(h:R (.returned (.tuple #[])) H'):gF P E fn R .ret F H:=by
 refine⟨.tuple #[],H',λw _=>?_,hc,h⟩;simp[yC,hr]
theorem gO{fn:Func}{R:Ending→List aL→Prop}(hr:fn.results=#[])(hc:aB E H H')(h:R (.returned (.tuple #[])) H'):gF P E fn R .normal F H:=by
 refine⟨.tuple #[],H',λw _=>?_,hc,h⟩;simp[yC,hr]
theorem L.nil{ops:List Oper}(h:Q .normal F H):L P N E ops Q [] F H:=⟨λ_ _ ha hw=>wpList_nil ⟨F,H,ha,hw,h⟩⟩
theorem L.val{ops rest:List Oper}{d:Nat}{op:Op}{ty:TypeId}{pos:String}{af:Array Edge}{v:Value}(hd:d<N)
  (hr:qB P E H (ev F) ⟨some d,op,ty,pos,af,none⟩ v) (h:L P N E ops Q rest (pT F d v) H):L P N E ops Q (⟨some d,op,ty,pos,af,none⟩::rest) F H:=by
 refine⟨λa w ha hw=>wpList_plain rfl λK hK=>?_⟩;unfold Oper.wp;rw[ha.eval,hr w hw];exact hK _ _ (h.get _ w (ha.put hd v) hw)
theorem L.step{ops rest:List Oper}{d:Nat}{op:Op}{ty:TypeId}{pos:String}{af:Array Edge}(hd:d<N)
  (h:gK P N E F H ⟨some d,op,ty,pos,af,none⟩ λv H'=>L P N E ops Q rest (pT F d v) H'):L P N E ops Q (⟨some d,op,ty,pos,af,none⟩::rest) F H :=
 ⟨λa w ha hw=>wpList_plain rfl λ_ hK=>h a w ha hw _ _ λv _ u' hl hw'=>hK _ _ (hl.get _ u' (ha.put hd v) hw')⟩
theorem L.Xj{ops rest:List Oper}{op:Op}{ty:TypeId}{pos:String}{af:Array Edge}
  (h:gK P N E F H ⟨none,op,ty,pos,af,none⟩ λ_ H'=>L P N E ops Q rest F H'):L P N E ops Q (⟨none,op,ty,pos,af,none⟩::rest) F H :=
 ⟨λa w ha hw=>wpList_plain rfl λ_ hK=>h a w ha hw _ _ λ_ _ u' hl hw'=>hK _ _ (hl.get _ u' ha hw')⟩
theorem L.fQ{ops rest:List Oper}{d:Nat}{op:Op}{ty:TypeId}{pos:String}{af:Array Edge}{K:Value→List aL→Prop}(hd:d<N)
  (h:gK P N E F H ⟨some d,op,ty,pos,af,none⟩ K) (hk:∀v H',K v H'→L P N E ops Q rest (pT F d v) H'):L P N E ops Q (⟨some d,op,ty,pos,af,none⟩::rest) F H :=
 L.step hd λa u ha hu Kw Q' hK=>h a u ha hu Kw Q' λv H' u' hq hu'=>hK v H' u' (hk v H' hq) hu'
theorem L.pX{ops rest:List Oper}{op:Op}{ty:TypeId}{pos:String}{af:Array Edge}{K:Value→List aL→Prop}
  (h:gK P N E F H ⟨none,op,ty,pos,af,none⟩ K) (hk:∀v H',K v H'→L P N E ops Q rest F H'):L P N E ops Q (⟨none,op,ty,pos,af,none⟩::rest) F H :=
 L.Xj λa u ha hu Kw Q' hK=>h a u ha hu Kw Q' λv H' u' hq hu'=>hK v H' u' (hk v H' hq) hu'
theorem L.on{ops rest:List Oper}{d:Option Nat}{op:Op}{ty:TypeId}{pos:String}{af:Array Edge}{j g:Nat}{want b:Bool}(hn:(nth ops j).bind (·.dst)=some g)(hg:g<N)(hv:F g=.bool b)(hb:b=want)
  (h:L P N E ops Q (⟨d,op,ty,pos,af,none⟩::rest) F H):L P N E ops Q (⟨d,op,ty,pos,af,some (j,want)⟩::rest) F H:=by
 subst hb;refine⟨λa w ha hw=>?_⟩;have h2:=h.get a w ha hw;have hy:yielded ops.toArray a.tmps j=some b:=by
  unfold yielded;rw[←eX,hn];have h3:=ha.get g;rw[hv,aBy,aCm (by rw[ha.size];exact hg)] at h3;simp only[aBe] at h3;simp[aCm (show g<a.tmps.size by rw[ha.size];exact hg),h3]
 unfold wpList at h2⊢;rw[if_pos (by simp[Region.wanted])] at h2;rw[if_pos (by simp[Region.wanted,hy])];exact h2
theorem L.off{ops rest:List Oper}{d:Nat}{op:Op}{ty:TypeId}{pos:String}{af:Array Edge}{j g:Nat}{want b:Bool}(hd:d<N)(hn:(nth ops j).bind (·.dst)=some g)(hg:g<N)(hv:F g=.bool b)(hb:b = !want)
  (h:L P N E ops Q rest (pT F d undef) H):L P N E ops Q (⟨some d,op,ty,pos,af,some (j,want)⟩::rest) F H:=by
 subst hb;refine⟨λa w ha hw=>?_⟩;have hy:yielded ops.toArray a.tmps j=some (!want):=by
  unfold yielded;rw[←eX,hn];have h3:=ha.get g;rw[hv,aBy,aCm (by rw[ha.size];exact hg)] at h3;simp only[aBe] at h3;simp[aCm (show g<a.tmps.size by rw[ha.size];exact hg),h3]
 unfold wpList;rw[if_neg (by simp[Region.wanted,hy])];exact h.get _ w (ha.put hd undef) hw
theorem L.YQ{ops rest:List Oper}{d:Nat}{op:Op}{ty:TypeId}{pos:String}{af:Array Edge}{j g:Nat}{p:Prop}[Decidable p](hd:d<N)(hn:(nth ops j).bind (·.dst)=some g)(hg:g<N)(hv:F g=.bool (decide p))
  (h:p→L P N E ops Q (⟨some d,op,ty,pos,af,none⟩::rest) F H) (h':¬p→L P N E ops Q rest (pT F d undef) H):L P N E ops Q (⟨some d,op,ty,pos,af,some (j,true)⟩::rest) F H:=by
 by_cases hp:p
 ·exact L.on hn hg hv (by simpa using hp) (h hp)
 ·exact L.off hd hn hg hv (by simpa using hp) (h' hp)
theorem L.Sg{ops rest:List Oper}{d:Nat}{op:Op}{ty:TypeId}{pos:String}{af:Array Edge}{j g:Nat}{want:Bool}(hd:d<N)(hn:(nth ops j).bind (·.dst)=some g)(hg:g<N)(hv:F g=undef)
  (h:L P N E ops Q rest (pT F d undef) H):L P N E ops Q (⟨some d,op,ty,pos,af,some (j,want)⟩::rest) F H:=by
 refine⟨λa w ha hw=>?_⟩;have hy:yielded ops.toArray a.tmps j=none:=by
  unfold yielded;rw[←eX,hn];have h3:=ha.get g;rw[hv,aBy,aCm (by rw[ha.size];exact hg)] at h3;simp only[aBe] at h3;simp[aCm (show g<a.tmps.size by rw[ha.size];exact hg),h3,undef]
 unfold wpList;rw[if_neg (by simp[Region.wanted,hy])];exact h.get _ w (ha.put hd undef) hw
theorem gK.Yd{o:Oper}{K:Value→List aL→Prop}{v:Value}(hr:qB P E H (ev F) o v)(h:K v H):gK P N E F H o K:=by
 intro a u ha hu Kw Q' hK;unfold Oper.wp;rw[ha.eval,hr u hu];exact hK _ _ _ h hu
theorem gK.conv{o:Oper}{K:Value→List aL→Prop}(hc:aB E H H')(h:gK P N E F H' o K):gK P N E F H o K:=λa u ha hu=>h a u ha (hc u hu)
def DJ(F:Nat→Value):Option Nat→Value→Nat→Value
 |some d,v=>pT F d v
 |none,_=>F
def waits(l:List Oper):Nat→Nat→Nat→Bool
 |0,_,_=>false
 |k+1,j,i=>match nth l j with
  |none=>false
  |some o=>o.after.toList.any λe=>Region.binds .any e&&(Nat.beq e.on i||waits l k e.on i)
def late(l:List Oper)(z i:Nat):Bool:=Nat.ble l.length z||Nat.beq i z||waits l l.length z i
def kX(l:List Oper)(listed:Array Bool):Prop:=∀j o,l.toArray[j]?=some o→listed.getD j false=true→∀e∈o.after,Region.binds .any e=true→listed.getD e.on false=true
theorem kX.start(l:List Oper):kX l (Array.replicate l.length false):=by
 intro j o _ h;rw[aBy,aDt] at h;split at h<;>cases h
theorem kX.set{l:List Oper}{listed:Array Bool}{i:Nat}(h:kX l listed)(hr:i∈Region.ready .any l.toArray listed):kX l (listed.setIfInBounds i true):=by
 intro j o ho hj e he hb;obtain⟨h0,o',ho',hall⟩:=mem_ready.1 hr;by_cases hij:i=j
 ·subst hij;rw[ho] at ho';injection ho' with ho'
  subst ho';exact getD_set_true (hall e he hb)
 ·rw[getD_set_ne false hij] at hj;exact getD_set_true (h j o ho hj e he hb)
theorem zH{l:List Oper}{listed:Array Bool}(h:kX l listed){i:Nat}:∀ {k j:Nat},waits l k j i=true→listed.getD j false=true→listed.getD i false=true
 |0,_,hw,_=>by cases hw
 |k+1,j,hw,hj=>by
  unfold waits at hw;cases ho:nth l j with
  |none=>rw[ho] at hw;cases hw
  |some o =>
   rw[ho] at hw;simp only[aEm,aAv,Bool.or_eq_true] at hw;obtain⟨e,he,hb,hw⟩:=hw;have h1:=h j o ((eX l j).symm.trans ho) hj e (Array.mem_toList_iff.1 he) hb;rcases hw with hw|hw
   ·rwa [←aCz hw]
   ·exact zH h hw h1
def Rp(P:Program)(l:List Oper)(Q:Exit→Act→World→Prop)(S:World→Prop)(z:Nat):Nat→Array Bool→Act→World→Prop
 |0,listed,a,w=>Region.ready .any l.toArray listed=[]∧Q .normal a w
 |k+1,listed,a,w=>(Region.ready .any l.toArray listed=[]→Q .normal a w) ∧
  ∀i∈Region.ready .any l.toArray listed,wpOp P l.toArray Q i (λa' w'=>(i≠z→S w'∧Rp P l Q S z k (listed.setIfInBounds i true) a' w')∧(i=z→wpAny P .any l.toArray Q k (listed.setIfInBounds i true) a' w')) a w
theorem BB{P:Program}{l:List Oper}{Q:Exit→Act→World→Prop}{S:World→Prop}{z:Nat}:∀(k:Nat) (listed:Array Bool) (a:Act) (w:World),Rp P l Q S z k listed a w→wpAny P .any l.toArray Q k listed a w
 |0,_,_,_,h=>h
 |k+1,_,_,_,h=>⟨h.1,λi hi=>wpOp_mono (λa' w' h'=>by
   by_cases hz:i=z
   ·exact h'.2 hz
   ·exact BB k _ a' w' (h'.1 hz).2) (h.2 i hi)⟩
theorem HZ{P:Program}{l:List Oper}{Q:Exit→Act→World→Prop}{S S':World→Prop}{z:Nat}(hs:∀u,S' u→S u):∀(k:Nat) (listed:Array Bool) (a:Act) (w:World),Rp P l Q S' z k listed a w→Rp P l Q S z k listed a w
 |0,_,_,_,h=>h
 |k+1,_,_,_,h=>⟨h.1,λi hi=>wpOp_mono (λa' w' h'=>⟨λhz=>⟨hs _ (h'.1 hz).1,HZ hs k _ a' w' (h'.1 hz).2⟩,h'.2⟩) (h.2 i hi)⟩
theorem GR{l:List Oper}{z i:Nat}(hl:late l z i=true)(hz:i≠z){listed:Array Bool}(hcl:kX l listed)(hr:i∈Region.ready .any l.toArray listed):z∉Region.ready .any l.toArray listed:=by
 intro hm;obtain⟨_,o,ho,hall⟩:=mem_ready.1 hm;have h0:=(mem_ready.1 hr).1;have h3:listed.getD i false≠true:=by
  intro h;rcases Nat.lt_or_ge i listed.size with h'|h'
  ·simp[h'] at h0 h;rw[h0] at h;cases h
  ·simp[aCu h'] at h
 unfold late at hl;simp only[Bool.or_eq_true] at hl;rcases hl with(hl|hl)|hl
 ·have h4:=Nat.le_of_ble_eq_true hl;rw[aCu (by simpa using h4)] at ho;cases ho
 ·exact hz (aCz hl)
 ·cases hll:l.length with
  |zero=>rw[hll] at hl;cases hl
  |succ k =>
   rw[hll] at hl;unfold waits at hl;rw[eX,ho] at hl;simp only[aEm,aAv,Bool.or_eq_true] at hl;obtain⟨e,he,hb,hw⟩:=hl;have h1:=hall e (Array.mem_toList_iff.1 he) hb;rcases hw with hw|hw
   ·rw[aCz hw] at h1;exact h3 h1
   ·exact h3 (zH hcl hw h1)
theorem LD{P:Program}{l:List Oper}{Q:Exit→Act→World→Prop}{S:World→Prop}{z i:Nat}{oi:Oper}{v:Value}(hi:l.toArray[i]?=some oi)(hsel:∀(j:Nat) (o:Oper) cs b,l.toArray[j]?=some o→o.op≠.select cs b)
  (hQ:∀c a w,Q (.panic c) (a.put oi.dst v) w→Q (.panic c) a w) (hz:late l z i=true) (hne:i≠z) :
  ∀(k:Nat) (listed:Array Bool) (a:Act) (w:World),kX l listed →
   (∀j oj,l.toArray[j]?=some oj→j≠i→listed.getD j true=false→(∀e∈oj.after,Region.binds .any e=true→e.on≠i)→oi.apart l.toArray oj=true) →
   i∈Region.ready .any l.toArray listed→YieldsIf P l.toArray S oi v a→S w →
   Rp P l Q S z k (listed.setIfInBounds i true) (a.put oi.dst v) w→Rp P l Q S z (k+1) listed a w:=by
 intro k
 induction k with
 |zero =>
  intro listed a w _ _ hr hy hS h;refine⟨λh0=>(by rw[h0] at hr;cases hr),λj hj=>?_⟩;by_cases hji:j=i
  ·subst hji;exact hy.wpOp hi hS ⟨λ_=>⟨hS,h⟩,λe=>absurd e hne⟩
  ·have:=ready_mono hj hji;rw[h.1] at this;cases this
 |succ k ih =>
  intro listed a w hcl hfree hr hy hS h;refine⟨λh0=>(by rw[h0] at hr;cases hr),λj hj=>?_⟩;by_cases hji:j=i
  ·subst hji;exact hy.wpOp hi hS ⟨λ_=>⟨hS,h⟩,λe=>absurd e hne⟩
  ·have hjz:j≠z:=λe=>GR hz hne hcl hr (e▸hj);have h1:=h.2 j (ready_mono hj hji);obtain⟨hjun,oj,hoj,hall⟩:=mem_ready.1 hj;have hnot:∀e∈oj.after,Region.binds .any e=true→e.on≠i:=λe he hb heq=>by
    have h1:=hall e he hb;have h0:=(mem_ready.1 hr).1;rw[heq] at h1;rcases Nat.lt_or_ge i listed.size with h'|h'
    ·simp[h'] at h0 h1;rw[h0] at h1;cases h1
    ·simp[aCu h'] at h1
   have h2:=wpOp_putIf hoj (hfree j oj hoj hji hjun hnot) (λcs b=>hsel i oi cs b hi) (λcs b=>hsel j oj cs b hoj) hQ hy h1;refine wpOp_mono (λa' w' h3=>⟨λ_=>⟨(h3.2.1 hjz).1,ih (listed.setIfInBounds j true) a' w' (hcl.set hj) (λm om hm hmi hun hno=>hfree m om hm hmi ?_ hno) (ready_mono hr (aFh hji)) h3.1 (h3.2.1 hjz).1 ?_⟩,λe=>absurd e hjz⟩) h2
   ·by_cases hjm:j=m
    ·subst hjm;exact hjun
    ·rw[getD_set_ne true hjm] at hun;exact hun
   ·rw[aFm _ _ hji];exact(h3.2.1 hjz).2
inductive Td where
 |nil
 |one (i:Nat) (go:Bool) (t:Td)
 |two (i:Nat) (s:Td) (j:Nat) (t:Td)
def Td.len:Td→Nat
 | .nil=>0
 | .one _ _ t=>t.len+1
 | .two _ s _ _=>s.len+1
def hU(l:List Oper)(z:Nat):Array Bool→Td→Bool
 |listed,.nil=>(Region.ready .any l.toArray listed).isEmpty
 |listed,.one i go t=>(bif go then Region.ready .any l.toArray listed == [i] else Region.free .any l.toArray listed i&&(Region.ready .any l.toArray listed).contains i&&late l z i && !Nat.beq i z)&&hU l z (listed.setIfInBounds i true) t
 |listed,.two i s j t=>Region.ready .any l.toArray listed == [i,j]&&Nat.beq s.len t.len&&hU l z (listed.setIfInBounds i true) s&&hU l z (listed.setIfInBounds j true) t
structure Dr(P:Program)(N:Nat)(E:Env)(z:Nat)(l:List Oper)(Q:QF)(Hk:List aL)(todo:Td)(F:Nat→Value)(H:List aL):Prop where
 get:∀listed a u,kX l listed→Region.noSelect l.toArray=true→hU l z listed todo=true→qX E N F a→St E H u→St E Hk u→Rp P l (lift N E Q) (St E Hk) z todo.len listed a u
theorem C.bL{id:Nat}{l:List Oper}(z:Nat)(todo:Td)(Hk:List aL)(hm:P.follows .mixedOrders=true)(hchk:(Region.noSelect l.toArray&&Nat.beq todo.len l.length&&hU l z (Array.replicate l.length false) todo)=true)(hk:aB E H Hk)(h:Dr P N E z l Q Hk todo F H):C P N E (.region id l.toArray true) Q F H:=by
 simp only[aAv] at hchk;obtain⟨⟨h1,h2⟩,h3⟩:=hchk;have h2:=aCz h2;refine⟨λa w ha hw=>?_⟩;have:=h.get _ a w.drew (kX.start l) h1 h3 ha hw.drew (hk _ hw.drew);rw[h2] at this;exact wp_region_any hm (BB _ _ _ _ (by simpa using this))
theorem PJ{l:List Oper}{j g:Nat}{b:Bool}(hn:(nth l j).bind (·.dst)=some g)(hg:g<N)(hv:F g=.bool b){a:Act}(ha:qX E N F a):yielded l.toArray a.tmps j=some b:=by
 unfold yielded;rw[←eX,hn];have h3:=ha.get g;rw[hv,aBy,aCm (by rw[ha.size];exact hg)] at h3;simp only[aBe] at h3;simp[aCm (show g<a.tmps.size by rw[ha.size];exact hg),h3]
inductive rE(l:List Oper)(N:Nat)(F:Nat→Value)(b:Bool):Option (Nat×Bool)→Prop
 |none (h:b=true):rE l N F b none
 |some {j g:Nat} {want c:Bool} (hn:(nth l j).bind (·.dst)=some g) (hg:g<N) (hv:F g=.bool c) (hb:(c == want)=b):rE l N F b (some (j,want))
 |undef {j g:Nat} {want:Bool} (hn:(nth l j).bind (·.dst)=some g) (hg:g<N) (hv:F g=Go.undef) (hb:b=false):rE l N F b (some (j,want))
theorem rE.on{l:List Oper}{j g:Nat}{want c:Bool}(hn:(nth l j).bind (·.dst)=Option.some g)(hg:g<N)(hv:F g=.bool c)(hb:c=want):rE l N F true (Option.some (j,want)):=.some hn hg hv (by simp[hb])
theorem rE.off{l:List Oper}{j g:Nat}{want c:Bool}(hn:(nth l j).bind (·.dst)=Option.some g)(hg:g<N)(hv:F g=.bool c)(hb:c = !want):rE l N F false (Option.some (j,want)):=.some hn hg hv (by cases want<;>simp[hb])
theorem rE.wanted{l:List Oper}{b:Bool}{o:Oper}(h:rE l N F b o.guard){a:Act}(ha:qX E N F a):Region.wanted o (yielded l.toArray a.tmps)=b:=by
 generalize e:o.guard=g at h;cases h with
 |none h=>simp[Region.wanted,e,h]
 |some hn hg hv hb=>simp[Region.wanted,e,PJ hn hg hv ha,←hb]
 | @undef j g want hn hg hv hb =>
  have hy:yielded l.toArray a.tmps j=Option.none:=by
   unfold yielded;rw[←eX,hn];have h3:=ha.get g;rw[hv,aBy,aCm (by rw[ha.size];exact hg)] at h3;simp only[aBe] at h3;simp[aCm (show g<a.tmps.size by rw[ha.size];exact hg),h3,Go.undef]
  simp[Region.wanted,e,hy,hb]
theorem wT{c:List PanicEntry}{a:Act}{d:Option Nat}{v:Value}{w:World}(h:lift N E Q (.panic c) (a.put d v) w):lift N E Q (.panic c) a w:=by
 cases d<;>exact h
theorem LQ{i z:Nat}(h:(!Nat.beq i z)=true):i≠z:=by
 rintro rfl;rw[aFw] at h;cases h
section
variable {z:Nat}
theorem Dr.first{i:Nat}{todo:Td}{l:List Oper}{Hk:List aL}{o:Oper}{d:Nat}{v:Value}(hi:nth l i=some o)(hod:o.dst=some d)(hd:d<N)(hy:∀a,qX E N F a→YieldsIf P l.toArray (St E Hk) o v a)(h:Dr P N E z l Q Hk todo (pT F d v) H):Dr P N E z l Q Hk (.one i false todo) F H:=by
 refine⟨λlisted a u hcl hs hc ha hu hk=>?_⟩;simp only[hU,cond_false,aAv] at hc;refine LD ((eX l i).symm.trans hi) (Region.noSelect_spec hs) (λc a w h=>wT h) hc.1.1.2 (LQ hc.1.2) _ _ _ _ hcl (Region.free_spec ((eX l i).symm.trans hi) hc.1.1.1.1) (by simpa using hc.1.1.1.2) (hy a ha) hk ?_;rw[hod];exact h.get _ _ u (hcl.set (by simpa using hc.1.1.1.2)) hs hc.2 (ha.put hd v) hu hk
theorem Dr.take{i:Nat}{todo:Td}{l:List Oper}{Hk:List aL}{d:Nat}{op:Op}{ty:TypeId}{pos:String}{af:Array Edge}{gd:Option (Nat×Bool)}{v:Value}(hi:nth l i=some ⟨some d,op,ty,pos,af,gd⟩)(hd:d<N)(hg:rE l N F true gd)
  (hy:qB P E Hk (ev F) ⟨some d,op,ty,pos,af,gd⟩ v) (h:Dr P N E z l Q Hk todo (pT F d v) H):Dr P N E z l Q Hk (.one i false todo) F H :=
 Dr.first hi rfl hd (λa ha=>.inl ⟨hg.wanted (o:=⟨some d,op,ty,pos,af,gd⟩) ha,λu hu=>by rw[ha.eval];exact hy u hu⟩) h
theorem Dr.skip{i:Nat}{todo:Td}{l:List Oper}{Hk:List aL}{d:Nat}{op:Op}{ty:TypeId}{pos:String}{af:Array Edge}{gd:Option (Nat×Bool)}(hi:nth l i=some ⟨some d,op,ty,pos,af,gd⟩)(hd:d<N)(hg:rE l N F false gd)
  (h:Dr P N E z l Q Hk todo (pT F d undef) H):Dr P N E z l Q Hk (.one i false todo) F H :=
 Dr.first hi rfl hd (λ_a ha=>.inr ⟨hg.wanted (o:=⟨some d,op,ty,pos,af,gd⟩) ha,rfl⟩) h
theorem Dr.more{todo:Td}{l:List Oper}{Hk Hk':List aL}(h1:aB E Hk' Hk)(h2:aB E H Hk')(h:Dr P N E z l Q Hk' todo F H):Dr P N E z l Q Hk todo F H :=
 ⟨λlisted a u hcl hs hc ha hu _=>HZ (S:=St E Hk) (S':=St E Hk') h1 _ _ _ _ (h.get listed a u hcl hs hc ha hu (h2 u hu))⟩
structure zL(P:Program)(N:Nat)(E:Env)(z:Nat)(l:List Oper)(Q:QF)(Hk:List aL)(i:Nat)(todo:Td)(F:Nat→Value)(H:List aL):Prop where
 get:∀(listed:Array Bool) (a:Act) (u:World),kX l (listed.setIfInBounds i true)→Region.noSelect l.toArray=true→hU l z (listed.setIfInBounds i true) todo=true→qX E N F a→St E H u→St E Hk u→wpOp P l.toArray (lift N E Q) i (λa' w'=>(i≠z→St E Hk w'∧Rp P l (lift N E Q) (St E Hk) z todo.len (listed.setIfInBounds i true) a' w')∧(i=z→wpAny P .any l.toArray (lift N E Q) todo.len (listed.setIfInBounds i true) a' w')) a u
theorem Dr.all{i:Nat}{todo:Td}{l:List Oper}{Hk:List aL}(h:zL P N E z l Q Hk i todo F H):Dr P N E z l Q Hk (.one i true todo) F H:=by
 refine⟨λlisted a u hcl hs hc ha hu hk=>?_⟩;simp only[hU,cond_true,aAv,beq_iff_eq] at hc;refine⟨λh0=>absurd (hc.1▸h0) (by simp),?_⟩;rw[hc.1];intro j hj;obtain rfl:j=i:=by simpa using hj
 exact h.get _ a u (hcl.set (by rw[hc.1];simp)) hs hc.2 ha hu hk
theorem Dr.two{i j:Nat}{s t:Td}{l:List Oper}{Hk:List aL}(h1:zL P N E z l Q Hk i s F H)(h2:zL P N E z l Q Hk j t F H):Dr P N E z l Q Hk (.two i s j t) F H:=by
 refine⟨λlisted a u hcl hs hc ha hu hk=>?_⟩;simp only[hU,aAv,beq_iff_eq] at hc;obtain⟨⟨⟨hr,hlen⟩,hc1⟩,hc2⟩:=hc;have hlen:=aCz hlen;refine⟨λh0=>absurd (hr▸h0) (by simp),?_⟩;rw[hr];intro m hm;rcases aEj.1 hm with rfl|hm
 ·exact h1.get _ a u (hcl.set (by rw[hr];simp)) hs hc1 ha hu hk
 ·obtain rfl:m=j:=by simpa using hm
  have:=h2.get _ a u (hcl.set (by rw[hr];simp)) hs hc2 ha hu hk;rw[←hlen] at this;exact this
theorem zL.go{i:Nat}{todo:Td}{l:List Oper}{Hk:List aL}{d:Option Nat}{op:Op}{ty:TypeId}{pos:String}{af:Array Edge}{gd:Option (Nat×Bool)}(hi:nth l i=some ⟨d,op,ty,pos,af,gd⟩)(hd:∀k,d=some k→k<N)(hg:rE l N F true gd)
  (h:gK P N E F H ⟨d,op,ty,pos,af,gd⟩ λv H'=>aB E H' Hk∧Dr P N E z l Q Hk todo (DJ F d v) H'):zL P N E z l Q Hk i todo F H:=by
 refine⟨λlisted a u hcl hs hc ha hu hk=>?_⟩;have hi':l.toArray[i]?=some _:=(eX l i).symm.trans hi;unfold wpOp;simp only[hi',hg.wanted (o:=⟨d,op,ty,pos,af,gd⟩) ha,if_true];refine .inl (h a u ha hu _ _ ?_);rintro v H' u' ⟨hc2,hA⟩ hu';have hgo:=hA.get (listed.setIfInBounds i true) (a.put d v) u' hcl hs hc ?_ hu' (hc2 u' hu')
 ·exact⟨λ_=>⟨hc2 u' hu',hgo⟩,λ_=>BB _ _ _ _ hgo⟩
 cases d with
 |none=>exact ha
 |some k=>exact ha.put (hd k rfl) v
theorem Dr.go{i:Nat}{todo:Td}{l:List Oper}{Hk:List aL}{d:Option Nat}{op:Op}{ty:TypeId}{pos:String}{af:Array Edge}{gd:Option (Nat×Bool)}(hi:nth l i=some ⟨d,op,ty,pos,af,gd⟩)(hd:∀k,d=some k→k<N)(hg:rE l N F true gd)
  (h:gK P N E F H ⟨d,op,ty,pos,af,gd⟩ λv H'=>aB E H' Hk∧Dr P N E z l Q Hk todo (DJ F d v) H'):Dr P N E z l Q Hk (.one i true todo) F H:=Dr.all (zL.go hi hd hg h)
theorem zL.Aw{i:Nat}{todo:Td}{l:List Oper}{Hk:List aL}{d:Option Nat}{op:Op}{ty:TypeId}{pos:String}{af:Array Edge}{gd:Option (Nat×Bool)}{K:Value→List aL→Prop}(hi:nth l i=some ⟨d,op,ty,pos,af,gd⟩)(hd:∀k,d=some k→k<N)(hg:rE l N F true gd)
  (h:gK P N E F H ⟨d,op,ty,pos,af,gd⟩ K) (hk:∀v H',K v H'→aB E H' Hk∧Dr P N E z l Q Hk todo (DJ F d v) H'):zL P N E z l Q Hk i todo F H :=
 zL.go hi hd hg λa u ha hu Kw Q' hK=>h a u ha hu Kw Q' λv H' u' hq hu'=>hK v H' u' (hk v H' hq) hu'
theorem Dr.Aw{i:Nat}{todo:Td}{l:List Oper}{Hk:List aL}{d:Option Nat}{op:Op}{ty:TypeId}{pos:String}{af:Array Edge}{gd:Option (Nat×Bool)}{K:Value→List aL→Prop}(hi:nth l i=some ⟨d,op,ty,pos,af,gd⟩)(hd:∀k,d=some k→k<N)(hg:rE l N F true gd)
  (h:gK P N E F H ⟨d,op,ty,pos,af,gd⟩ K) (hk:∀v H',K v H'→aB E H' Hk∧Dr P N E z l Q Hk todo (DJ F d v) H'):Dr P N E z l Q Hk (.one i true todo) F H :=
 Dr.go hi hd hg λa u ha hu Kw Q' hK=>h a u ha hu Kw Q' λv H' u' hq hu'=>hK v H' u' (hk v H' hq) hu'
theorem Dr.WZ{l:List Oper}{Hk:List aL}{d:Option Nat}{op:Op}{ty:TypeId}{pos:String}{af:Array Edge}{gd:Option (Nat×Bool)}{K:Value→List aL→Prop}(hi:nth l z=some ⟨d,op,ty,pos,af,gd⟩)(hd:∀k,d=some k→k<N)(hg:rE l N F true gd)
  (h:gK P N E F H ⟨d,op,ty,pos,af,gd⟩ K) (hk:∀v H',K v H'→Q .normal (DJ F d v) H'):Dr P N E z l Q Hk (.one z true .nil) F H:=by
 refine Dr.all ⟨λlisted a u hcl hs hc ha hu hk2=>?_⟩;have hi':l.toArray[z]?=some _:=(eX l z).symm.trans hi;unfold wpOp;simp only[hi',hg.wanted (o:=⟨d,op,ty,pos,af,gd⟩) ha,if_true];refine .inl (h a u ha hu _ _ ?_);intro v H' u' hA hu';refine⟨λhz=>absurd rfl hz,λ_=>⟨by simpa [hU] using hc,_,H',?_,hu',hk v H' hA⟩⟩;cases d with
 |none=>exact ha
 |some k=>exact ha.put (hd k rfl) v
theorem Dr.Ht{i:Nat}{todo:Td}{l:List Oper}{Hk:List aL}{d:Nat}{op:Op}{ty:TypeId}{pos:String}{af:Array Edge}{gd:Option (Nat×Bool)}(hi:nth l i=some ⟨some d,op,ty,pos,af,gd⟩)(hd:d<N)(hg:rE l N F false gd)
  (h:Dr P N E z l Q Hk todo (pT F d undef) H):Dr P N E z l Q Hk (.one i true todo) F H:=by
 refine Dr.all ⟨λlisted a u hcl hs hc ha hu hk=>?_⟩;have hi':l.toArray[i]?=some _:=(eX l i).symm.trans hi;unfold wpOp;simp only[hi',hg.wanted (o:=⟨some d,op,ty,pos,af,gd⟩) ha];have hgo:=h.get _ _ u hcl hs hc (ha.put hd undef) hu hk;exact⟨λ_=>⟨hk,hgo⟩,λ_=>BB _ _ _ _ hgo⟩
theorem Dr.done{l:List Oper}{Hk:List aL}(h:Q .normal F H):Dr P N E z l Q Hk .nil F H :=
 ⟨λlisted _ _ _ _ hc ha hu _=>⟨by simpa [hU] using hc,F,H,ha,hu,h⟩⟩
structure FU(P:Program)(N:Nat)(E:Env)(z:Nat)(l:List Oper)(Q:QF)(todo:Td)(F:Nat→Value)(H:List aL):Prop where
 get:∀listed a u,hU l z listed todo=true→qX E N F a→St E H u→wpAny P .any l.toArray (lift N E Q) todo.len listed a u
theorem Dr.Iq{todo:Td}{l:List Oper}{Hk:List aL}{d:Option Nat}{op:Op}{ty:TypeId}{pos:String}{af:Array Edge}{gd:Option (Nat×Bool)}{K:Value→List aL→Prop}(hi:nth l z=some ⟨d,op,ty,pos,af,gd⟩)(hd:∀k,d=some k→k<N)(hg:rE l N F true gd)
  (h:gK P N E F H ⟨d,op,ty,pos,af,gd⟩ K) (hk:∀v H',K v H'→FU P N E z l Q todo (DJ F d v) H'):Dr P N E z l Q Hk (.one z true todo) F H:=by
 refine Dr.all ⟨λlisted a u hcl hs hc ha hu hk2=>?_⟩;have hi':l.toArray[z]?=some _:=(eX l z).symm.trans hi;unfold wpOp;simp only[hi',hg.wanted (o:=⟨d,op,ty,pos,af,gd⟩) ha,if_true];refine .inl (h a u ha hu _ _ ?_);intro v H' u' hA hu';refine⟨λhz=>absurd rfl hz,λ_=>(hk v H' hA).get _ _ u' hc ?_ hu'⟩;cases d with
 |none=>exact ha
 |some k=>exact ha.put (hd k rfl) v
theorem FU.take{i:Nat}{todo:Td}{l:List Oper}{d:Nat}{op:Op}{ty:TypeId}{pos:String}{af:Array Edge}{gd:Option (Nat×Bool)}{v:Value}(hi:nth l i=some ⟨some d,op,ty,pos,af,gd⟩)(hd:d<N)(hg:rE l N F true gd)
  (hy:qB P E H (ev F) ⟨some d,op,ty,pos,af,gd⟩ v) (h:FU P N E z l Q todo (pT F d v) H):FU P N E z l Q (.one i true todo) F H:=by
 refine⟨λlisted a u hc ha hu=>?_⟩;simp only[hU,cond_true,aAv,beq_iff_eq] at hc;refine⟨λh0=>absurd (hc.1▸h0) (by simp),?_⟩;rw[hc.1];intro j hj;obtain rfl:j=i:=by simpa using hj
 have hi':l.toArray[j]?=some _:=(eX l j).symm.trans hi;unfold wpOp;simp only[hi',hg.wanted (o:=⟨some d,op,ty,pos,af,gd⟩) ha,if_true];refine .inl ?_;unfold Oper.wp;rw[ha.eval,hy u hu];exact h.get _ _ u hc.2 (ha.put hd v) hu
theorem FU.done{l:List Oper}(h:Q .normal F H):FU P N E z l Q .nil F H :=
 ⟨λlisted _ _ hc ha hu=>⟨by simpa [hU] using hc,F,H,ha,hu,h⟩⟩
end
end
section
variable {P:Program} {ρ:Operand→Value} {o:Oper} {u:World}
theorem V.move{x:Operand}{v:Value}(ho:o.op=.move x)(hv:ρ x=v):(execOp ρ o).run P u=.ok (.value v) u:=by simp[execOp,ho,hv]
theorem V.assign{x:Operand}{v:Value}(ho:o.op=.assign x)(hv:ρ x=v):(execOp ρ o).run P u=.ok (.value v) u:=by simp[execOp,ho,hv]
theorem V.Xv{c x y:Operand}{b:Bool}{v:Value}(ho:o.op=.pick c x y)(hc:ρ c=.bool b)(hb:b=true)(hv:ρ x=v):(execOp ρ o).run P u=.ok (.value v) u:=by simp[execOp,ho,hc,hb,hv,asBool]
theorem V.YI{c x y:Operand}{b:Bool}{v:Value}(ho:o.op=.pick c x y)(hc:ρ c=.bool b)(hb:b=false)(hv:ρ y=v):(execOp ρ o).run P u=.ok (.value v) u:=by simp[execOp,ho,hc,hb,hv,asBool]
theorem V.extract{t:Operand}{i:Nat}{vs:Array Value}{v:Value}(ho:o.op=.extract t i)(ht:ρ t=.tuple vs)(hv:vs[i]?=some v):(execOp ρ o).run P u=.ok (.value v) u:=by simp[execOp,ho,ht,Instr.extract,hv]
theorem V.nilCheck{x:Operand}{a:Addr}(ho:o.op=.nilCheck x)(hx:ρ x=.pointer (some a)):(execOp ρ o).run P u=.ok (.value (.pointer (some a))) u:=by simp[execOp,ho,hx]
theorem V.not{t:TypeId}{x:Operand}{b:Bool}(ho:o.op=.unOp .not t x)(hx:ρ x=.bool b):(execOp ρ o).run P u=.ok (.value (.bool (!b))) u:=by simp[execOp,ho,hx,Op.unary]
section ints
variable {x y:Operand} {t t':TypeId} {k:IntKind} {a b c:Int}
theorem V.add(ho:o.op=.binOp .add t x y t')(hx:ρ x=.int k a)(hy:ρ y=.int k b)(hr:k.wrap (a+b)=c):(execOp ρ o).run P u=.ok (.value (.int k c)) u:=by simp[execOp,ho,hx,hy,eqGuard,binOp,Op.intArith,hr]
theorem V.sub(ho:o.op=.binOp .sub t x y t')(hx:ρ x=.int k a)(hy:ρ y=.int k b)(hr:k.wrap (a - b)=c):(execOp ρ o).run P u=.ok (.value (.int k c)) u:=by simp[execOp,ho,hx,hy,eqGuard,binOp,Op.intArith,hr]
theorem V.mul(ho:o.op=.binOp .mul t x y t')(hx:ρ x=.int k a)(hy:ρ y=.int k b)(hr:k.wrap (a*b)=c):(execOp ρ o).run P u=.ok (.value (.int k c)) u:=by simp[execOp,ho,hx,hy,eqGuard,binOp,Op.intArith,hr]
theorem V.quo(ho:o.op=.binOp .quo t x y t')(hx:ρ x=.int k a)(hy:ρ y=.int k b)(hb:b≠0)(hr:k.wrap (a.tdiv b)=c):(execOp ρ o).run P u=.ok (.value (.int k c)) u:=by simp[execOp,ho,hx,hy,eqGuard,binOp,Op.intDiv,hb,hr]
theorem V.rem(ho:o.op=.binOp .rem t x y t')(hx:ρ x=.int k a)(hy:ρ y=.int k b)(hb:b≠0)(hr:a.tmod b=c):(execOp ρ o).run P u=.ok (.value (.int k c)) u:=by simp[execOp,ho,hx,hy,eqGuard,binOp,Op.intDiv,hb,hr]
theorem V.lss(ho:o.op=.binOp .lss t x y t')(hx:ρ x=.int k a)(hy:ρ y=.int k b):(execOp ρ o).run P u=.ok (.value (.bool (decide (a<b)))) u:=by simp[execOp,ho,hx,hy,eqGuard,binOp,Op.intCmp]
theorem V.leq(ho:o.op=.binOp .leq t x y t')(hx:ρ x=.int k a)(hy:ρ y=.int k b):(execOp ρ o).run P u=.ok (.value (.bool (decide (a≤b)))) u:=by simp[execOp,ho,hx,hy,eqGuard,binOp,Op.intCmp]
theorem V.gtr(ho:o.op=.binOp .gtr t x y t')(hx:ρ x=.int k a)(hy:ρ y=.int k b):(execOp ρ o).run P u=.ok (.value (.bool (decide (b<a)))) u:=by simp[execOp,ho,hx,hy,eqGuard,binOp,Op.intCmp]
theorem V.geq(ho:o.op=.binOp .geq t x y t')(hx:ρ x=.int k a)(hy:ρ y=.int k b):(execOp ρ o).run P u=.ok (.value (.bool (decide (b≤a)))) u:=by simp[execOp,ho,hx,hy,eqGuard,binOp,Op.intCmp]
theorem V.eql(ho:o.op=.binOp .eql t x y t')(hx:ρ x=.int k a)(hy:ρ y=.int k b):(execOp ρ o).run P u=.ok (.value (.bool (decide (a=b)))) u:=by
 have:decide (a=b)=(a == b):=by rw[aBz];simp
 simp[execOp,ho,hx,hy,eqGuard,binOp,Op.intCmp,this]
theorem V.neq(ho:o.op=.binOp .neq t x y t')(hx:ρ x=.int k a)(hy:ρ y=.int k b):(execOp ρ o).run P u=.ok (.value (.bool (decide (a≠b)))) u:=by
 have:decide (a≠b)=(a != b):=by rw[aBz];simp
 simp[execOp,ho,hx,hy,eqGuard,binOp,Op.intCmp,this]
theorem V.Wc{op:BinOp}(ho:o.op=.binOp op t x y t')(hop:op=.and∨op=.or∨op=.xor∨op=.andNot)(hx:ρ x=.int k a)(hy:ρ y=.int k b)(hr:Go.bits op k a b=c):(execOp ρ o).run P u=.ok (.value (.int k c)) u:=by
 rcases hop with rfl|rfl|rfl|rfl<;>simp[execOp,ho,hx,hy,eqGuard,binOp,Op.intBits,Go.bits] at hr⊢ <;> exact hr
theorem V.shl{k2:IntKind}(ho:o.op=.binOp .shl t x y t')(hx:ρ x=.int k a)(hy:ρ y=.int k2 b)(hb:0≤b)(hr:k.wrap (a*2 ^ min b.toNat k.bits)=c):(execOp ρ o).run P u=.ok (.value (.int k c)) u:=by
 simp[execOp,ho,hx,hy,eqGuard,binOp,shift_shl_any _ _ _ _ hb,hr]
theorem V.shr{k2:IntKind}(ho:o.op=.binOp .shr t x y t')(hx:ρ x=.int k a)(hy:ρ y=.int k2 b)(hb:0≤b)(hr:a / 2 ^ min b.toNat k.bits=c):(execOp ρ o).run P u=.ok (.value (.int k c)) u:=by
 simp[execOp,ho,hx,hy,eqGuard,binOp,shift_shr_any _ _ _ _ hb,hr]
theorem V.neg(ho:o.op=.unOp .neg t x)(hx:ρ x=.int k a)(hr:k.wrap (-a)=c):(execOp ρ o).run P u=.ok (.value (.int k c)) u:=by
 simp[execOp,ho,hx,Op.unary,Op.intArith,hr]
theorem V.conv{k2:IntKind}{s:TypeDesc}(ho:o.op=.convert t t' x)(hx:ρ x=.int k2 a)(hs:P.underlying t=some s)(hd:P.underlying t'=some (.int k))(hr:k.wrap a=c):(execOp ρ o).run P u=.ok (.value (.int k c)) u:=by
 simp[execOp,ho,hx,convert,run_underlying hs,run_underlying hd,Conv.intToInt,hr]
end ints
theorem run_equalIn_bool(d:Nat){t:TypeId}(ht:P.underlying t=some .bool)(a b:Bool):(Op.equalIn (d+1) t (.bool a) (.bool b)).run P u=.ok (a == b) u:=by
 simp[Op.equalIn,run_underlying ht]
theorem run_eql_bool{t:TypeId}(ht:P.underlying t=some .bool)(a b:Bool):(binOp .eql t (.bool a) (.bool b)).run P u=.ok (.bool (a == b)) u:=by
 simp only[binOp];simp[Op.equal,Op.maxDepth,run_equalIn_bool 9999 ht]
theorem run_neq_bool{t:TypeId}(ht:P.underlying t=some .bool)(a b:Bool):(binOp .neq t (.bool a) (.bool b)).run P u=.ok (.bool (!(a == b))) u:=by
 simp only[binOp];simp[Op.equal,Op.maxDepth,run_equalIn_bool 9999 ht]
theorem V.ZY{x y:Operand}{t t':TypeId}{a b:Bool}(ho:o.op=.binOp .eql t x y t')(ht:P.underlying t=some .bool)(hx:ρ x=.bool a)(hy:ρ y=.bool b):(execOp ρ o).run P u=.ok (.value (.bool (a == b))) u:=by
 have h:=run_eql_bool (u:=u) ht a b;simp only[execOp,ho,hx,hy,eqGuard];simp[h]
theorem V.Zb{x y:Operand}{t t':TypeId}{a b:Bool}(ho:o.op=.binOp .neq t x y t')(ht:P.underlying t=some .bool)(hx:ρ x=.bool a)(hy:ρ y=.bool b):(execOp ρ o).run P u=.ok (.value (.bool (!(a == b)))) u:=by
 have h:=run_neq_bool (u:=u) ht a b;simp only[execOp,ho,hx,hy,eqGuard];simp[h]
theorem V.Zk{x y:Operand}{t t':TypeId}{a b:List UInt8}(ho:o.op=.binOp .eql t x y t')(hx:ρ x=.string (T0 a))(hy:ρ y=.string (T0 b)):(execOp ρ o).run P u=.ok (.value (.bool (decide (a=b)))) u:=by
 have e:(a == b)=decide (a=b):=by rw[aBz];simp
 simp[execOp,ho,hx,hy,eqGuard,binOp_string_eql,Ci,e]
theorem V.Zq{x y:Operand}{t t':TypeId}{a b:List UInt8}(ho:o.op=.binOp .neq t x y t')(hx:ρ x=.string (T0 a))(hy:ρ y=.string (T0 b)):(execOp ρ o).run P u=.ok (.value (.bool (decide (a≠b)))) u:=by
 have e:(a == b)=decide (a=b):=by rw[aBz];simp
 simp[execOp,ho,hx,hy,eqGuard,binOp_string_neq,Ci,e]
theorem vH(d:Nat){t e:TypeId}(ht:P.underlying t=some (.pointer e))(a:Option Addr):(Op.equalIn (d+1) t (.pointer a) (.pointer none)).run P u=.ok a.isNone u:=by
 cases a<;>simp[Op.equalIn,run_underlying ht]
theorem Gx{t e:TypeId}(ht:P.underlying t=some (.pointer e))(a:Option Addr):(binOp .neq t (.pointer a) (.pointer none)).run P u=.ok (.bool a.isSome) u:=by
 simp only[binOp];cases a<;>simp[Op.equal,Op.maxDepth,vH 9999 ht]
theorem Fb{t e:TypeId}(ht:P.underlying t=some (.pointer e))(a:Option Addr):(binOp .eql t (.pointer a) (.pointer none)).run P u=.ok (.bool a.isNone) u:=by
 simp only[binOp];cases a<;>simp[Op.equal,Op.maxDepth,vH 9999 ht]
theorem V.Z0{x y:Operand}{t t' e:TypeId}{a:Option Addr}(ho:o.op=.binOp .neq t x y t')(ht:P.underlying t=some (.pointer e))(hx:ρ x=.pointer a)(hy:ρ y=.pointer none):(execOp ρ o).run P u=.ok (.value (.bool a.isSome)) u:=by
 have h:=Gx (u:=u) ht a;simp only[execOp,ho,hx,hy,eqGuard];simp[h]
theorem V.Zv{x y:Operand}{t t' e:TypeId}{a:Option Addr}(ho:o.op=.binOp .eql t x y t')(ht:P.underlying t=some (.pointer e))(hx:ρ x=.pointer a)(hy:ρ y=.pointer none):(execOp ρ o).run P u=.ok (.value (.bool a.isNone)) u:=by
 have h:=Fb (u:=u) ht a;simp only[execOp,ho,hx,hy,eqGuard];simp[h]
theorem V.len{x:Operand}{t e:TypeId}{A:Option Addr}{n m:Nat}(ho:o.op=.call { callee:=.builtin .len,args:=#[x],argTypes:=#[t] })(ht:P.underlying t=some (.slice e))(hx:ρ x=.slice A n m)(hn:n≤maxLen):(execOp ρ o).run P u=.ok (.value (.int .i64 n)) u:=by
 have h:IntKind.i64.wrap (n:Int)=n:=aAq _ (by unfold maxLen at hn;omega);simp[execOp,ho,resolve,hx,invoke,builtin,Builtin.len_,run_underlying ht,goInt]
theorem V.fieldAddr{s:TypeId}{x:Operand}{i q:Nat}{fs:Array Field}{f:Field}{a b:Addr}{ti:TypeInfo}(ho:o.op=.fieldAddr s x i)(hx:ρ x=.pointer (some a))(hs:P.underlying s=some (.struct fs))(hf:fs[i]?=some f)(hi:P.info? f.type=some ti)(hz:ti.size≠0)(hq:f.offset=q)(hb:a.add q=b) :
  (execOp ρ o).run P u=.ok (.value (.pointer (some b))) u:=by
 simp[execOp,ho,hx,Instr.fieldAt,run_underlying hs,hf,Instr.sureAddr,fieldPlace,sizeOf,typeInfo,hi,hz,hq,hb]
theorem V.indexAddr{t e:TypeId}{x i:Operand}{a b:Addr}{n c:Nat}{k:IntKind}{j:Int}{ti:TypeInfo}(ho:o.op=.indexAddr t x i)(hx:ρ x=.slice (some a) n c)(hi:ρ i=.int k j)(ht:P.underlying t=some (.slice e))(he:P.info? e=some ti)(h0:0≤j)(h1:j<n){m q:Nat}(hj:j.toNat=m)(hq:ti.size=q)(hb:a.add (m*q)=b) :
  (execOp ρ o).run P u=.ok (.value (.pointer (some b))) u:=by
 simp[execOp,ho,hx,hi,Instr.indexAt,asIntOf,run_underlying ht,sizeOf,typeInfo,he,h0,h1,hj,hq,hb]
theorem V.load{t:TypeId}{x:Operand}{a:Addr}{v:Value}{d:TypeDesc}(ho:o.op=.load t x)(hx:ρ x=.pointer (some a))(ht:P.underlying t=some d)(hd:(d matches .struct _ | .array _ _)=false)(hc:u.cell? a=some v):(execOp ρ o).run P u=.ok (.value v) u:=by
 cases d<;>simp at hd<;>simp[execOp,ho,hx,Instr.loadAt,Instr.sureAddr,loadVar,isAgg,run_underlying ht,hc]
theorem V.slice{t e:TypeId}{x:Operand}{lo hi mx:Option Operand}{A:Option Addr}{n c:Nat}{v:Value}(ho:o.op=.slice t x lo hi mx)(hx:ρ x=.slice A n c)(ht:P.underlying t=some (.slice e))
  (hv:(Instr.slice t (.slice A n c) (lo.map ρ) (hi.map ρ) (mx.map ρ)).run P u=.ok v u):(execOp ρ o).run P u=.ok (.value v) u:=by
 simp[execOp,ho,hx,Instr.sliceAt,run_underlying ht,hv]
theorem S.from_{t e:TypeId}{A:Option Addr}{n c j:Nat}{k:IntKind}{i:Int}{ti:TypeInfo}(ht:P.underlying t=some (.slice e))(he:P.info? e=some ti)(hi:i=j)(hj:j≤n)(_hc:n≤c) :
  (Instr.slice t (.slice A n c) (some (.int k i)) none none).run P u=.ok (.slice (if c=j then A else A.map (·.add (j*ti.size))) (n - j) (c - j)) u:=by
 subst hi;simp[Instr.slice,Instr.sliceBounds,Instr.sliceBound,asIntOf,run_underlying ht,sizeOf,typeInfo,he,hj];try (intro h;omega)
theorem S.upto{t e:TypeId}{A:Option Addr}{n c j:Nat}{k:IntKind}{i:Int}{ti:TypeInfo}(ht:P.underlying t=some (.slice e))(he:P.info? e=some ti)(hi:i=j)(hj:j≤c) :
  (Instr.slice t (.slice A n c) none (some (.int k i)) none).run P u=.ok (.slice A j c) u:=by
 subst hi;have e:(if c=0 then A else Option.map (λx=>x.add 0) A)=A:=by cases A<;>simp[Addr.add]
 simp[Instr.slice,Instr.sliceBounds,Instr.sliceBound,asIntOf,run_underlying ht,sizeOf,typeInfo,he,hj,e]
theorem S.both{t e:TypeId}{A:Option Addr}{n c j m:Nat}{k k2:IntKind}{i i2:Int}{ti:TypeInfo}(ht:P.underlying t=some (.slice e))(he:P.info? e=some ti)(hi:i=j)(hi2:i2=m)(hj:j≤m)(hm:m≤c) :
  (Instr.slice t (.slice A n c) (some (.int k i)) (some (.int k2 i2)) none).run P u=.ok (.slice (if c=j then A else A.map (·.add (j*ti.size))) (m - j) (c - j)) u:=by
 subst hi hi2;simp[Instr.slice,Instr.sliceBounds,Instr.sliceBound,asIntOf,run_underlying ht,sizeOf,typeInfo,he,hj,hm]
theorem V.convert{t t':TypeId}{x:Operand}{vx v:Value}(ho:o.op=.convert t t' x)(hx:ρ x=vx)(h:(Go.convert t t' vx).run P u=.ok v u):(execOp ρ o).run P u=.ok (.value v) u:=by
 simp[execOp,ho,hx,h]
theorem V.box{t:TypeId}{x:Operand}{v:Value}(ho:o.op=.box t x)(hx:ρ x=v):(execOp ρ o).run P u=.ok (.value (.pointer (some ⟨u.heap.size,0,none⟩))) (u.alloc (.cells v.cells t)):=by
 simp[execOp,ho,hx,Instr.box,newVar,newRow]
end
end Go.Proofs.YtmilalkjbojciaaGreat.Sep
