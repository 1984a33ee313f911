/- Part AA: what it needs. No condition. -/
import Derived.Test.YtmilalkjbojciaaGreatProg
import Derived.ArgAppend
import Derived.Below
import Derived.BigQuiet
import Derived.Carry
import Derived.ChangeKeysEq
import Derived.Deep.AppendLies
import Derived.Deep.CondSized
import Derived.Deep.Draws
import Derived.Deep.Fields
import Derived.Deep.RegionHeld3
import Derived.Deep.Slices
import Derived.JoinedCond
import Derived.Laws.Concat
import Derived.Laws.Externs
import Derived.Laws.MakeOwn
import Derived.Laws.OwnMore
import Derived.Laws.StructEq
import Derived.Laws.Tables
import Derived.Lib.AppendZeros
import Derived.Lib.Hide
import Derived.Lib.SlBytesConst
import Derived.MapKept
import Derived.Maps.AppendAt
import Derived.OpenShut
import Derived.OwnWalk
import Derived.ProofKit
import Derived.RangeFuncRecord
import Derived.RecoverIn
import Derived.RegionTactic
import Derived.Room.AppendUpon
import Derived.SizedLaws
import Derived.WalkKit
import Derived.WideKeyRuns
import Derived.Test.YtmilalkjbojciaaGreatRows
set_option maxRecDepth 100000
set_option maxHeartbeats 8000000
open Go.Proofs.Tryz
namespace Go.Proofs.YtmilalkjbojciaaGreat
open Go Go.RowKit
theorem o_{p:Prop}(h:p:=by omega):p:=h
theorem q_{p:Prop}(h:p:=by kernel_rfl):p:=h
theorem sD{p:Prop}(h:p:=by decide):p:=h
abbrev aAa:=@List.getElem?_eq_getElem
abbrev aAb:=@List.append_assoc
abbrev aAe:=@List.length_append
abbrev aAd:=@List.getElem?_eq_some_iff
abbrev aAc:=@List.append_nil
abbrev aAf:=@Nat.le_refl
abbrev aAg:=@List.length_take
abbrev aAh:=@Nat.zero_le
abbrev aAi:=@List.mem_of_getElem?
abbrev aAp:=@List.mem_singleton
abbrev aAk:=@List.not_mem_nil
abbrev aAj:=@List.take_of_length_le
abbrev aAq:=@Go.IntWalk.i64_in
abbrev aAs:=@List.length_cons
abbrev aAl:=@Bool.false_ne_true
abbrev aAr:=@Go.Result.andThen_ok
abbrev aAw:=@List.length_map
abbrev aBx:=@List.getElem?_eq_none_iff
abbrev aAv:=@Bool.and_eq_true
abbrev aAn:=@List.take_succ_eq_append_getElem
abbrev aAx:=@List.take_append_drop
abbrev aBl:=@List.mem_cons_of_mem
abbrev aBo:=@List.mem_cons_self
abbrev aAm:=@List.drop_eq_getElem_cons
abbrev aCf:=@Int.eq_ofNat_of_zero_le
abbrev aBg:=@List.mem_append
abbrev aAu:=@Int.toNat_natCast
abbrev aBq:=@List.nil_append
abbrev aAo:=@List.take_length
abbrev aBc:=@List.getElem?_append_right
abbrev aBf:=@List.getElem?_map
abbrev aBp:=@List.getElem?_append_left
abbrev aAt:=@List.length_set
abbrev aDa:=@List.length_singleton
abbrev aAy:=@Go.Sem.run_bind
abbrev aBk:=@List.map_append
abbrev aBa:=@Nat.mul_le_mul_right
abbrev aAz:=@List.length_replicate
abbrev aBm:=@List.getElem_of_mem
abbrev aBd:=@List.length_drop
abbrev aBi:=@List.eq_nil_of_length_eq_zero
abbrev aDh:=@List.length_nil
abbrev aBs:=@List.mem_of_mem_take
abbrev aBb:=@List.getD_eq_getElem?_getD
abbrev aBh:=@Bool.eq_false_or_eq_true
abbrev aCi:=@List.map_cons
abbrev aCa:=@Nat.zero_add
abbrev aBr:=@Nat.min_eq_left
abbrev aDk:=@Option.some.inj
abbrev aBj:=@List.take_left'
abbrev aBv:=@Array.getElem?_eq_some_iff
abbrev aBw:=@Nat.le_trans
abbrev aBy:=@Array.getD_eq_getD_getElem?
abbrev aEq:=@List.getElem?_set_ne
abbrev aBz:=@Bool.eq_iff_iff
abbrev aCc:=@Go.Sem.run_pure
abbrev aCd:=@Int.le_refl
abbrev aCk:=@List.ext_getElem?
abbrev aCj:=@List.cons_append
abbrev aBu:=@List.drop_left'
abbrev aBn:=@Int.toNat_of_nonneg
abbrev aBt:=@List.drop_drop
abbrev aFf:=@List.pairwise_append
abbrev aCe:=@Nat.le_add_right
abbrev aCz:=@Nat.eq_of_beq_eq_true
abbrev aCm:=@Array.getElem?_eq_getElem
abbrev aCn:=@List.drop_of_length_le
abbrev aBe:=@Option.getD_some
abbrev aFn:=@List.mem_map
abbrev aEj:=@List.mem_cons
abbrev aCq:=@Nat.le_succ
abbrev aQq:=@List.length_eq_zero_iff
abbrev aDm:=@List.all_eq_true
abbrev aCu:=@Array.getElem?_eq_none
abbrev aCo:=@List.getElem?_eq_none
abbrev aCp:=@List.mem_append_right
abbrev aDo:=@List.map_nil
abbrev aCr:=@List.mem_or_eq_of_mem_set
abbrev aCb:=@Bool.false_eq_true
abbrev aDj:=@List.findIdx?_eq_some_iff_getElem
abbrev aCg:=@List.take_zero
abbrev aDb:=@Nat.add_mul
abbrev aCh:=@List.drop_zero
abbrev aCv:=@List.getElem?_drop
abbrev aEh:=@List.getElem?_mapIdx
abbrev aDl:=@Iff.rfl
abbrev aDf:=@List.getElem?_zip_eq_some
abbrev aDy:=@List.flatMap_cons
abbrev aDq:=@Nat.one_mul
abbrev aDg:=@List.set_eq_take_append_cons_drop
abbrev aDi:=@Option.map_some
abbrev aCs:=@List.getElem_mem
abbrev aCt:=@Bool.true_and
abbrev aDp:=@List.eraseIdx_eq_take_drop_succ
abbrev aCx:=@Bool.false_and
abbrev aDr:=@List.getElem?_set
abbrev aDs:=@Array.length_toList
abbrev aDe:=@Nat.lt_of_lt_of_le
abbrev aEd:=@List.getElem?_take
abbrev aDt:=@Array.getElem?_replicate
abbrev aDu:=@Go.RowKit.Below.heap_alloc
abbrev aEi:=@Nat.sub_self
abbrev aDd:=@List.take_add
abbrev aFq:=@List.pairwise_singleton
abbrev aDz:=@List.flatMap_append
abbrev aEa:=@Go.MapKept.run_getObj_map
abbrev aDv:=@Nat.add_assoc
abbrev aEb:=@List.map_toArray
abbrev aCy:=@List.drop_length
abbrev aFh:=@Ne.symm
abbrev aEe:=@Array.getElem?_toList
abbrev aQr:=@List.Perm.append_left
abbrev aDn:=@List.mem_append_left
abbrev aQs:=@Int.natCast_add
abbrev aFs:=@List.flatten_cons
abbrev aCw:=@List.take_append_of_le_length
abbrev aEk:=@Go.World.block_lt_of_cell?
abbrev aDc:=@List.getElem?_replicate
abbrev aEl:=@List.take_succ_cons
abbrev aFi:=@List.mem_map_of_mem
abbrev aEm:=@List.any_eq_true
abbrev aEn:=@List.take_take
abbrev aEc:=@Nat.mod_eq_of_lt
abbrev aQt:=@List.Perm.refl
abbrev aFv:=@List.length_eq_one_iff
abbrev aCl:=@Nat.lt_trans
abbrev aEo:=@Array.getElem?_append
abbrev aFk:=@Nat.not_lt_zero
abbrev aDx:=@Nat.pow_le_pow_right
abbrev aEp:=@List.findIdx?_eq_none_iff
abbrev aQu:=@List.pairwise_iff_getElem
abbrev aEs:=@Nat.add_comm
abbrev aEt:=@List.take_append
abbrev aEu:=@List.flatMap_nil
abbrev aEv:=@Array.getElem?_setIfInBounds_ne
abbrev aEg:=@UInt8.toNat_inj
abbrev aFj:=@List.foldl_cons
abbrev aEx:=@Nat.and_two_pow_sub_one_eq_mod
abbrev aGg:=@Option.map_eq_some_iff
abbrev aEz:=@Go.MapKept.run_setObj_map
abbrev aFa:=@List.drop_append_of_le_length
abbrev aQv:=@List.nodup_append
abbrev aEr:=@UInt8.toNat_lt
abbrev aFd:=@Go.World.cell?_of_block
abbrev aQw:=@Go.Region.noSelect_spec
abbrev aDw:=@List.mem_of_mem_drop
abbrev aFe:=@Nat.min_eq_right
abbrev aQx:=@List.getElem?_of_mem
abbrev aGb:=@List.mem_filter
abbrev aFl:=@List.length_zip
abbrev aQy:=@List.nodup_cons
abbrev aFm:=@Array.setIfInBounds_comm
abbrev aFb:=@Nat.add_zero
abbrev aFx:=@Nat.zero_mul
abbrev aQz:=@List.filter_append
abbrev aFp:=@Go.IntWalk.u64_in
abbrev aRa:=@Bool.not_false
abbrev aFr:=@List.getElem?_cons_succ
abbrev aFu:=@List.length_range
abbrev aGh:=@List.getElem?_set_self
abbrev aRc:=@List.getElem_map
abbrev aFw:=@Nat.beq_refl
abbrev aFy:=@Nat.mul_comm
abbrev aFo:=@Int.natCast_nonneg
abbrev aRb:=@Bool.and_true
abbrev aFg:=@Int.tdiv_eq_ediv_of_nonneg
abbrev aGj:=@List.drop_append
abbrev aGe:=@List.mem_of_mem_eraseIdx
abbrev aEw:=@Nat.add_sub_cancel_left
abbrev aGi:=@List.map_take
abbrev aRt:=@Bool.true_or
abbrev aEf:=@Option.isSome_some
abbrev aFt:=@List.take_sublist
abbrev aGa:=@List.cons.injEq
abbrev aEy:=@UInt8.toNat_ofNat'
end Go.Proofs.YtmilalkjbojciaaGreat
namespace Go.Proofs.YtmilalkjbojciaaGreat.Mem
open Go.RowKit
theorem eQ(a:Addr)(n:Nat):(a.add n).block=a.block:=by unfold Addr.add;split<;>rfl
theorem jI(a:Addr)(i j:Nat):(a.add i).add j=a.add (i+j):=by
 unfold Addr.add;by_cases hi:i=0<;>by_cases hj:j=0<;>simp[hi,hj,aDv]
def Reads(w:World)(B size:Nat)(A:Option Addr)(n:Nat)(xs:List Value):Prop :=
 xs.length=n*size∧(0<n→∃ad,A=some ad∧ad.block<B∧∀j u,xs[j]?=some u→w.cell? (ad.add j)=some u)
section
variable {w w':World} {B B' size n:Nat} {A:Option Addr} {xs:List Value}
theorem Reads.at_{k:Nat}(h:Reads w B 1 A n xs)(hk:k<n):∃ad u,A=some ad∧ad.block<B∧xs[k]?=some u∧w.cell? (ad.add k)=some u:=by
 obtain⟨ad,e,hb,hc⟩:=h.2 o_;have hl:k<xs.length:=by have:=h.1;omega
 exact⟨ad,xs[k],e,hb,aAa hl,hc k _ (aAa hl)⟩
end
section
variable {P:Program} (w:World)
theorem xK(base:Nat)(t ty e:TypeId)(i:TypeInfo)(size:Nat)(ht:P.underlying t=some (.slice e))(hi:P.info? e=some i)
  (v:Value) (n:Nat) (xs:List Value) (hown:w.ownsRow base e size v n xs) (c:Nat):(Builtin.append_ #[t,t] ty #[v,.slice none 0 c]).run P w=.ok v w:=by
 rcases hown.2 with⟨rfl,rfl⟩|⟨g,cap,cur,rfl,_,_,hnc,_⟩
 ·simp[Builtin.append_,run_underlying ht,sizeOf,typeInfo,hi,Builtin.lenOf,Builtin.firstCells]
 ·simp[Builtin.append_,run_underlying ht,sizeOf,typeInfo,hi,Builtin.lenOf,Builtin.firstCells,hnc,storeCells]
theorem oF(base:Nat)(t ty e:TypeId)(i:TypeInfo)(z:Value)(size bytes:Nat)(ht:P.underlying t=some (.slice e))(hi:P.info? e=some i)(hz:i.zero=some z)
  (hsize:i.size=size) (hby:i.bytes=bytes) (hzs:z.cells.size=size) (hsz:0<size)
  (v:Value) (n:Nat) (xs:List Value) (hown:w.ownsRow base e size v n xs)
  (B:Nat) (A:Option Addr) (m c:Nat) (news:List Value) (hr:Reads w B size A m news) (h1:∀u∈news,u.oneCell'=true)
  (h63:n+m≤maxLen) (hbytes:(n+m)*bytes≤140737488355328) (hbase:base≤w.heap.size) :
  ∃v' w',(Builtin.append_ #[t,t] ty #[v,.slice A m c]).run P w=.ok v' w'∧w'.ownsRow base e size v' (n+m) (xs++news)∧w.grownBy w' v.ownBlock ∧
   (v'.ownBlock=v.ownBlock∨v'.ownBlock=some w.heap.size):=by
 rcases A with _|ad
 ·have hm:m=0:=by
   rcases Nat.eq_zero_or_pos m with h0|h0
   ·exact h0
   ·obtain⟨ad,h,_⟩:=hr.2 h0;cases h
  subst hm;have hn:news=[]:=aBi (by simpa using hr.1);subst hn;exact⟨v,w,xK w base t ty e i size ht hi v n xs hown c,by simpa using hown,World.grownBy.refl w _,.inl rfl⟩
 ·have hcells:∀j u,news[j]?=some u→w.cell? (ad.add j)=some u:=by
   intro j u hu;rcases Nat.eq_zero_or_pos m with h0|h0
   ·subst h0;have hn:news=[]:=aBi (by simpa using hr.1);subst hn;simp at hu
   ·obtain⟨ad',h,_,hc⟩:=hr.2 h0;injection h with h
    subst h;exact hc j u hu
  obtain⟨v',w',hrun,h2,h3,_,h5⟩:=run_append_own_at (P:=P) w base t ty e i z size bytes ht hi hz hsize hby hzs hsz v n xs hown ad m c news hr.1 hcells h1 h63 hbytes hbase;exact⟨v',w',hrun,h2,h3,h5⟩
end
structure Ap(α:Type) where
 enc:α→List Value
 size:Nat
 bytes:Nat
 tid:TypeId
 j7:TypeId
 zero:Value
 hlen:∀a,(enc a).length=size
 lJ:∀a,∀u∈enc a,u.oneCell'=true
 gL:0<size
 hzero:zero.cells.size=size
 fW:(prog.info? tid).map (λi=>(i.zero,i.size,i.bytes))=some (some zero,size,bytes)
 U4:prog.underlying j7=some (.slice tid)
def Ap.bT{α:Type}(E:Ap α)(l:List α):List Value:=l.flatMap E.enc
section
variable {α:Type} {E:Ap α}
theorem Ap.eW(a:α)(b:List α):E.bT (a::b)=E.enc a++E.bT b:=aDy
theorem Ap.bM(l:List α):(E.bT l).length=l.length*E.size:=by
 induction l with
 |nil=>simp[Ap.bT]
 |cons a l ih=>rw[E.eW,aAe,E.hlen,ih,aAs,aDb,aDq,aEs]
theorem Ap.gD(l:List α)(k:Nat):(E.bT l).drop (k*E.size)=E.bT (l.drop k):=by
 induction k generalizing l with
 |zero=>simp
 |succ k ih =>
  cases l with
  |nil=>simp[Ap.bT]
  |cons a l =>
   rw[E.eW,List.drop_succ_cons,←ih,aDb,aDq,aEs,←aBt,aBu (E.hlen a)]
theorem Ap.uK(l:List α)(k:Nat)(h:k<l.length)(j:Nat)(u:Value)(hu:(E.enc l[k])[j]?=some u):(E.bT l)[k*E.size+j]?=some u:=by
 have hj:j<E.size:=by
  have:=(aAd.1 hu).1;rw[E.hlen] at this;exact this
 have h1:((E.bT l).drop (k*E.size))[j]?=some u:=by
  rw[E.gD,aAm h,E.eW,aBp (by rw[E.hlen];exact hj)];exact hu
 rwa [aCv] at h1
def Rd(E:Ap α)(w:World)(B:Nat)(A:Option Addr)(n c:Nat)(l:List α):Prop :=
 n=l.length∧n≤c∧c≤maxLen∧Reads w B E.size A n (E.bT l)
section
variable {w w':World} {base B B':Nat} {A:Option Addr} {n c:Nat} {l l':List α}
theorem Rd.len(h:Rd E w B A n c l):n=l.length:=h.1
theorem Rd.cap(h:Rd E w B A n c l):n≤c∧c≤maxLen:=⟨h.2.1,h.2.2.1⟩
theorem Rd.at_(h:Rd E w B A n c l){k:Nat}(hk:k<n):∃ad,A=some ad∧ad.block<B∧∃hl:k<l.length,∀j u,(E.enc l[k])[j]?=some u→w.cell? (ad.add (k*E.size+j))=some u:=by
 obtain⟨ad,e,hb,hc⟩:=h.2.2.2.2 o_;have hl:k<l.length:=by have:=h.1;omega
 exact⟨ad,e,hb,hl,λj u hu=>hc _ u (E.uK l k hl j u hu)⟩
end
end
def Fq:Ap UInt8 where
 enc b:=[.int .u8 (b.toNat:Int)]
 size:=1
 bytes:=1
 tid:=5
 j7:=70
 zero:=.int .u8 0
 hlen _:=rfl
 lJ a u h:=by simp only[aAp] at h;subst h;rfl
 gL:=sD
 hzero:=rfl
 fW:=q_
 U4:=underlying70
section
variable {w w':World} {B:Nat} {A:Option Addr} {n c:Nat} {l:List UInt8}
theorem Rd.j9(h:Rd Fq w B A n c l){k:Nat}(hk:k<n) :
  ∃ad,A=some ad∧ad.block<B∧∃hl:k<l.length,w.cell? (ad.add k)=some (.int .u8 (l[k].toNat:Int)):=by
 obtain⟨ad,e,hb,hl,hc⟩:=h.at_ hk;exact⟨ad,e,hb,hl,by have:=hc 0 _ rfl;simpa [Fq] using this⟩
end
def T0(l:List UInt8):ByteArray:=⟨l.toArray⟩
theorem Ci(l:List UInt8):(T0 l).toList=l:=by
 rw[ByteArray.toList_eq];rfl
theorem VD{w:World}{B:Nat}{A:Option Addr}{n c:Nat}{l:List UInt8}(h:Rd Fq w B A n c l) :
  (convert 70 9 (.slice A n c)).run prog w=.ok (.string (T0 l)) w:=by
 obtain⟨rfl,h2,h3,h4⟩:=h;rcases A with _|ad
 ·have hl:l=[]:=by
   rcases Nat.eq_zero_or_pos l.length with h0|h0
   ·exact aBi h0
   ·obtain⟨ad,e,_⟩:=h4.2 h0;cases e
  subst hl;exact run_convert_bytes_nil w 70 5 underlying70 underlying5 _ _ 9 underlying9
 ·have hx:(loadCells ad l.length).run prog w=.ok ((l.map λb:UInt8=>(b.toNat:Int)).map (Value.int .u8)).toArray w:=by
   have:=run_loadCells_list (P:=prog) w ad ((l.map λb:UInt8=>(b.toNat:Int)).map (Value.int .u8)) (λj v hj=>by
    have hjl:j<l.length:=by
     rcases Nat.lt_or_ge j l.length with h|h
     ·exact h
     ·rw[aCo (show((l.map λb:UInt8=>(b.toNat:Int)).map (Value.int .u8)).length≤j by simpa using h)] at hj;cases hj
    obtain⟨ad',e,_,hl,hc⟩:=Rd.j9 (l:=l) (w:=w) (B:=B) (A:=some ad) (n:=l.length) (c:=c) ⟨rfl,h2,h3,h4⟩ hjl;injection e with e
    subst e;rw[hc];simp[hjl] at hj;rw[hj])
   simpa using this
  rw[run_convert_bytes_string w 70 9 5 _ l.length c underlying70 underlying5 underlying9,run_bytesToString w _ l.length c _ hx,foldl_push_bytes];have e:((l.map λb:UInt8=>(b.toNat:Int)).map λn:Int=>UInt8.ofNat n.toNat)=l:=by
   rw[List.map_map]
   conv=>rhs;rw[←List.map_id l]
   apply List.map_congr_left;intro b _;apply aEg.1;simp
  rw[e];simp[T0,ByteArray.empty,ByteArray.emptyWithCapacity];rfl
section
variable {α:Type} {E:Ap α}
variable {w w':World} {B B':Nat} {A:Option Addr} {n c:Nat} {ls:List (List α)}
end
theorem SP{k:IntKind}{a b:Int}(h:a=b):Ending.returned (.int k a)=.returned (.int k b):=by rw[h]
theorem J7{k:IntKind}{a b:Nat}(h:a=b):Value.int k (a:Int)=Value.int k (b:Int):=by rw[h]
end Go.Proofs.YtmilalkjbojciaaGreat.Mem
namespace Go.Proofs.YtmilalkjbojciaaGreat.Reg
open Go.RowKit Mem
def nth:List Oper→Nat→Option Oper
 | [],_=>none
 |o::_,0=>some o
 |_::l,i+1=>nth l i
theorem eX:∀(l:List Oper) (i:Nat),nth l i=l.toArray[i]?
 | [],_=>by simp[nth]
 |o::l,0=>by simp[nth]
 |o::l,i+1=>by rw[nth,eX l i];simp
section
variable {P:Program} {ops:Array Oper} {l:List Oper} {Q:Exit→Act→World→Prop} {md:Region.Mode}
end
end Go.Proofs.YtmilalkjbojciaaGreat.Reg
namespace Go.Proofs.YtmilalkjbojciaaGreat.Sep
section
open Go.RowKit Mem Reg
theorem fB(B o q:Nat):(⟨B,o,none⟩:Addr).add q=⟨B,o+q,none⟩:=by
 unfold Addr.add;split
 ·subst_vars;rfl
 ·rfl
structure wA(q:Prop):Prop where
 out:q
def lT:TypeDesc→Bool
 | .struct _=>true
 | .array _ _=>true
 |_=>false
structure Ty(α:Type) where
 val:α→Value
 size:Nat
 bytes:Nat
 tid:TypeId
 zero:Value
 hlen:∀a,(val a).cells.size=size
 lJ:∀a,∀u∈(val a).cells.toList,u.oneCell'=true
 gL:0<size
 hzero:zero.cells.size=size
 fW:(prog.info? tid).map (λi=>(i.zero,i.size,i.bytes))=some (some zero,size,bytes)
 nR:(prog.underlying tid).map lT=some true∧(∀a,∃cs,val a=.agg cs) ∨
  (prog.underlying tid).map lT=some false∧∀a,(val a).oneCell'=true
section
variable {α:Type} {T:Ty α}
def Ty.enc(T:Ty α)(a:α):List Value:=(T.val a).cells.toList
def Ty.bT(T:Ty α)(l:List α):List Value:=l.flatMap T.enc
theorem Ty.dR(a:α):(T.enc a).length=T.size:=by simp[Ty.enc,T.hlen]
theorem Ty.iU(a b:List α):T.bT (a++b)=T.bT a++T.bT b:=aDz
theorem Ty.eW(a:α)(b:List α):T.bT (a::b)=T.enc a++T.bT b:=aDy
theorem Ty.bM(l:List α):(T.bT l).length=l.length*T.size:=by
 induction l with
 |nil=>simp[Ty.bT]
 |cons a l ih=>rw[T.eW,aAe,T.dR,ih,aAs,aDb,aDq,aEs]
theorem Ty.kS(l:List α):∀u∈T.bT l,u.oneCell'=true:=by
 intro u hu;obtain⟨a,_,h⟩:=List.mem_flatMap.1 hu;exact T.lJ a u h
theorem Ty.gD(l:List α)(k:Nat):(T.bT l).drop (k*T.size)=T.bT (l.drop k):=by
 induction k generalizing l with
 |zero=>simp
 |succ k ih =>
  cases l with
  |nil=>simp[Ty.bT]
  |cons a l =>
   rw[T.eW,List.drop_succ_cons,←ih,aDb,aDq,aEs,←aBt,aBu (T.dR a)]
theorem Ty.nX(l:List α)(k:Nat):(T.bT l).take (k*T.size)=T.bT (l.take k):=by
 induction k generalizing l with
 |zero=>simp[Ty.bT]
 |succ k ih =>
  cases l with
  |nil=>simp[Ty.bT]
  |cons a l =>
   rw[T.eW,aEl,T.eW,←ih,aDb,aDq,aEs,aEt,T.dR,aAj (by rw[T.dR];omega)];congr 2;omega
theorem Ty.uK{l:List α}{k:Nat}{x:α}(h:l[k]?=some x){j:Nat}{u:Value}(hu:(T.enc x)[j]?=some u):(T.bT l)[k*T.size+j]?=some u:=by
 obtain⟨hk,rfl⟩:=aAd.1 h;have hj:j<T.size:=by
  have:=(aAd.1 hu).1;rw[T.dR] at this;exact this
 have h1:((T.bT l).drop (k*T.size))[j]?=some u:=by
  rw[T.gD,aAm hk,T.eW,aBp (by rw[T.dR];exact hj)];exact hu
 rwa [aCv] at h1
theorem Ty.Bo{l:List α}{k:Nat}(hk:k<l.length)(x:α):T.bT (l.set k x)=(T.bT l).take (k*T.size)++T.enc x++(T.bT l).drop ((k+1)*T.size):=by
 rw[T.nX,T.gD,aDg,if_pos hk,T.iU,T.eW,aAb]
end
structure aL where
 holds:(Nat→Prop)→World→Prop
 loc:∀ {F w w'},holds F w→(∀b,F b→w'.heap[b]?=w.heap[b]?)→holds F w'
 lt:∀ {F w b},holds F w→F b→b<w.heap.size
def cT:List aL→(Nat→Prop)→World→Prop
 | [],F,_=>∀b,¬F b
 |a::l,F,w=>∃F1 F2,(∀b,F b↔F1 b∨F2 b)∧(∀b,F1 b→¬F2 b)∧a.holds F1 w∧cT l F2 w
theorem iJ:∀ {l:List aL} {F w w'},cT l F w→(∀b,F b→w'.heap[b]?=w.heap[b]?)→cT l F w'
 | [],_,_,_,h,_=>h
 |a::_l,_F,_w,_w',⟨F1,F2,h1,h2,h3,h4⟩,hk=>⟨F1,F2,h1,h2,a.loc h3 λb hb=>hk b ((h1 b).2 (.inl hb)),iJ h4 λb hb=>hk b ((h1 b).2 (.inr hb))⟩
theorem mP:∀ {l:List aL} {F w b},cT l F w→F b→b<w.heap.size
 | [],_,_,b,h,hb=>absurd hb (h b)
 |a::l,F,w,b,⟨F1,F2,h1,_,h3,h4⟩,hb=>by
  rcases(h1 b).1 hb with h|h
  ·exact a.lt h3 h
  ·exact mP h4 h
theorem Fy{l:List aL}{F G w}(h:cT l F w)(hFG:∀b,G b↔F b):cT l G w:=by
 have:G=F:=funext λb=>propext (hFG b);rw[this];exact h
theorem aY{l m:List aL}{F w}:cT (l++m) F w↔∃F1 F2,(∀b,F b↔F1 b∨F2 b)∧(∀b,F1 b→¬F2 b)∧cT l F1 w∧cT m F2 w:=by
 induction l generalizing F with
 |nil =>
  constructor
  ·intro h;exact⟨λ_=>False,F,λb=>by simp,λb hb=>hb.elim,λb hb=>hb,h⟩
  ·rintro⟨F1,F2,h1,_,h3,h4⟩;exact Fy h4 λb=>by rw[h1 b];simp[h3 b]
 |cons a l ih =>
  constructor
  ·rintro⟨F1,F2,h1,h2,h3,h4⟩;obtain⟨G1,G2,g1,g2,g3,g4⟩:=ih.1 h4;refine⟨λb=>F1 b∨G1 b,G2,λb=>by rw[h1 b,g1 b,or_assoc],?_,⟨F1,G1,λb=>aDl,λb hb hg=>h2 b hb ((g1 b).2 (.inl hg)),h3,g3⟩,g4⟩;rintro b (hb|hb) hg
   ·exact h2 b hb ((g1 b).2 (.inr hg))
   ·exact g2 b hb hg
  ·rintro⟨F1,F2,h1,h2,⟨G1,G2,g1,g2,g3,g4⟩,h4⟩;refine⟨G1,λb=>G2 b∨F2 b,λb=>by rw[h1 b,g1 b,or_assoc],?_,g3,ih.2 ⟨G2,F2,λb=>aDl,λb hb=>h2 b ((g1 b).2 (.inr hb)),g4,h4⟩⟩;rintro b hb (hg|hg)
   ·exact g2 b hb hg
   ·exact h2 b ((g1 b).2 (.inl hb)) hg
inductive Has:aL→List aL→List aL→Prop
 |aN {a R}:Has a (a::R) R
 |aM {a x H R} (h:Has a H R):Has a (x::H) (x::R)
inductive cS:List aL→List aL→List aL→Prop
 |nil {H}:cS [] H H
 |cons {a l H R R'} (h:Has a H R) (t:cS l R R'):cS (a::l) H R'
inductive dT(a:aL)(l:List aL):List aL→List aL→Prop
 |aN {R}:dT a l (a::R) (l++R)
 |aM {x H H'} (h:dT a l H H'):dT a l (x::H) (x::H')
theorem Has.cT{a:aL}{H R:List aL}(h:Has a H R):∀ {F w},cT H F w→cT (a::R) F w:=by
 induction h with
 |aN=>exact λh=>h
 |aM h ih =>
  rintro F w ⟨F1,F2,h1,h2,h3,h4⟩;obtain⟨G1,G2,g1,g2,g3,g4⟩:=ih h4;refine⟨G1,λb=>F1 b∨G2 b,λb=>by rw[h1 b,g1 b];constructor<;>(rintro(h|h|h)<;>simp[h]),?_,g3,F1,G2,λb=>aDl,λb hb hg=>h2 b hb ((g1 b).2 (.inr hg)),h3,g4⟩;rintro b hb (hg|hg)
  ·exact h2 b hg ((g1 b).2 (.inl hb))
  ·exact g2 b hb hg
theorem cS.cT{l H R:List aL}(h:cS l H R):∀ {F w},cT H F w→cT (l++R) F w:=by
 induction h with
 |nil=>exact λh=>h
 |cons h t ih =>
  intro F w hs;obtain⟨F1,F2,h1,h2,h3,h4⟩:=h.cT hs;exact⟨F1,F2,h1,h2,h3,ih h4⟩
theorem dT.cT{a:aL}{l H H':List aL}(h:dT a l H H'):∀ {F:Nat→Prop} {w w':World} {G:Nat→Prop},Sep.cT H F w→w.heap.size≤w'.heap.size→(∀b,b<w.heap.size→¬G b→w'.heap[b]?=w.heap[b]?) →
  (∀F1,(∀b,F1 b→F b)→a.holds F1 w→∃F1',Sep.cT l F1' w'∧(∀b,F1' b→F1 b∨w.heap.size≤b)∧∀b,b<w.heap.size→G b→F1 b) →
  ∃F',Sep.cT H' F' w'∧(∀b,F' b→F b∨w.heap.size≤b)∧∀b,b<w.heap.size→G b→F b:=by
 induction h with
 |aN =>
  rintro F w w' G ⟨F1,F2,h1,h2,h3,h4⟩ hz hk ha;obtain⟨F1',k1,k2,k3⟩:=ha F1 (λb hb=>(h1 b).2 (.inl hb)) h3;have hd:∀b,F2 b→b<w.heap.size:=λb hb=>mP h4 hb;refine⟨λb=>F1' b∨F2 b,aY.2 ⟨F1',F2,λb=>aDl,?_,k1,iJ h4 λb hb=>hk b (hd b hb) λhg=>h2 b (k3 b (hd b hb) hg) hb⟩,?_,λb hb hg=>(h1 b).2 (.inl (k3 b hb hg))⟩
  ·intro b hb hb2;rcases k2 b hb with h|h
   ·exact h2 b h hb2
   ·have:=hd b hb2;omega
  ·rintro b (hb|hb)
   ·rcases k2 b hb with h|h
    ·exact .inl ((h1 b).2 (.inl h))
    ·exact .inr h
   ·exact .inl ((h1 b).2 (.inr hb))
 |aM h ih =>
  rintro F w w' G ⟨F1,F2,h1,h2,h3,h4⟩ hz hk ha;obtain⟨F2',k1,k2,k3⟩:=ih h4 hz hk λF3 h5 h6=>ha F3 (λb hb=>(h1 b).2 (.inr (h5 b hb))) h6;have hd:∀b,F1 b→b<w.heap.size:=λb hb=>aL.lt _ h3 hb;refine⟨λb=>F1 b∨F2' b,⟨F1,F2',λb=>aDl,?_,aL.loc _ h3 λb hb=>hk b (hd b hb) λhg=>h2 b hb (k3 b (hd b hb) hg),k1⟩,?_,λb hb hg=>(h1 b).2 (.inr (k3 b hb hg))⟩
  ·intro b hb hb2;rcases k2 b hb2 with h|h
   ·exact h2 b hb h
   ·have:=hd b hb;omega
  ·rintro b (hb|hb)
   ·exact .inl ((h1 b).2 (.inl hb))
   ·rcases k2 b hb with h|h
    ·exact .inl ((h1 b).2 (.inr h))
    ·exact .inr h
structure Env where
 w:World
 D:Nat→Prop
 ds:List Deferred:=[]
structure St(E:Env)(H:List aL)(w:World):Prop where
 os:w.os=E.w.os
 tape:w.tape=E.w.tape
 output:w.output=E.w.output
 size:E.w.heap.size≤w.heap.size
 MH:∀b,E.D b→b<E.w.heap.size
 lB:∀b,E.D b→w.heap[b]?=E.w.heap[b]?
 fp:∃F,cT H F w∧∀b,E.D b→¬F b
section
variable {E:Env} {H H' R:List aL} {w w':World} {a:aL}
theorem St.drew(h:St E H w):St E H w.drew:=⟨h.os,h.tape,h.output,h.size,h.MH,h.lB,by obtain⟨F,h1,h2⟩:=h.fp;exact⟨F,iJ h1 λ_ _=>rfl,h2⟩⟩
theorem St.conv(h:St E H w)(hc:∀F,cT H F w→∃F',cT H' F' w∧∀b,F' b→F b):St E H' w :=
 ⟨h.os,h.tape,h.output,h.size,h.MH,h.lB,by
  obtain⟨F,h1,h2⟩:=h.fp;obtain⟨F',h3,h4⟩:=hc F h1;exact⟨F',h3,λb hb hf=>h2 b hb (h4 b hf)⟩⟩
theorem St.aV(h:St E H w){l:List aL}(hp:cS l H R):St E (l++R) w:=h.conv λF hs=>⟨F,hp.cT hs,λ_ h=>h⟩
theorem St.left{l:List aL}(h:St E (l++R) w):St E l w:=h.conv λF hs=>by
 obtain⟨F1,F2,h1,_,h3,_⟩:=aY.1 hs;exact⟨F1,h3,λb hb=>(h1 b).2 (.inl hb)⟩
theorem St.right{l:List aL}(h:St E (l++R) w):St E R w:=h.conv λF hs=>by
 obtain⟨F1,F2,h1,_,_,h3⟩:=aY.1 hs;exact⟨F2,h3,λb hb=>(h1 b).2 (.inr hb)⟩
theorem St.weaken(h:St E H w){l:List aL}(hp:cS l H R):St E l w:=(h.aV hp).left
theorem St.jX(h:St E H w){l:List aL}(hr:dT a l H H')(hos:w'.os=w.os)(htape:w'.tape=w.tape)(hout:w'.output=w.output)(hz:w.heap.size≤w'.heap.size){G:Nat→Prop}
  (hk:∀b,b<w.heap.size→¬G b→w'.heap[b]?=w.heap[b]?)
  (ha:∀F1,a.holds F1 w→∃F1',cT l F1' w'∧(∀b,F1' b→F1 b∨w.heap.size≤b)∧∀b,b<w.heap.size→G b→F1 b):St E H' w':=by
 obtain⟨F,h1,h2⟩:=h.fp;obtain⟨F',k1,k2,k3⟩:=hr.cT h1 hz hk λF1 _ h3=>ha F1 h3;have hlt:∀b,E.D b→b<w.heap.size:=λb hb=>aDe (h.MH b hb) h.size;refine⟨hos.trans h.os,htape.trans h.tape,hout.trans h.output,aBw h.size hz,h.MH,λb hb=>(hk b (hlt b hb) λhg=>h2 b hb (k3 b (hlt b hb) hg)).trans (h.lB b hb),F',k1,λb hb hf=>?_⟩;rcases k2 b hf with h|h
 ·exact h2 b hb h
 ·have:=hlt b hb;omega
theorem St.grow(h:St E H w){l:List aL}(hos:w'.os=w.os)(htape:w'.tape=w.tape)(hout:w'.output=w.output)(hz:w.heap.size≤w'.heap.size)
  (hk:∀b,b<w.heap.size→w'.heap[b]?=w.heap[b]?) {F1:Nat→Prop} (hl:cT l F1 w') (hF:∀b,F1 b→w.heap.size≤b):St E (l++H) w':=by
 obtain⟨F,h1,h2⟩:=h.fp;have hlt:∀b,E.D b→b<w.heap.size:=λb hb=>aDe (h.MH b hb) h.size;have hd:∀b,F b→b<w.heap.size:=λb hb=>mP h1 hb;refine⟨hos.trans h.os,htape.trans h.tape,hout.trans h.output,aBw h.size hz,h.MH,λb hb=>(hk b (hlt b hb)).trans (h.lB b hb),λb=>F1 b∨F b,
  aY.2 ⟨F1,F,λb=>aDl,λb hb hf=>by have:=hd b hf;have:=hF b hb;omega,hl,iJ h1 λb hb=>hk b (hd b hb)⟩,?_⟩
 rintro b hb (hf|hf)
 ·have:=hF b hf;have:=hlt b hb;omega
 ·exact h2 b hb hf
theorem St.has(h:St E H w)(ha:Has a H R):∃F,a.holds F w∧∀b,E.D b→¬F b:=by
 obtain⟨F,h1,h2⟩:=h.fp;obtain⟨F1,F2,h3,_,h5,_⟩:=ha.cT h1;exact⟨F1,h5,λb hb hf=>h2 b hb ((h3 b).2 (.inl hf))⟩
end
structure Sub(E:Env)(R:List aL)(M:Env):Prop where
 MH:∀b,M.D b→b<M.w.heap.size
 rd:∀b,E.D b→M.D b∧M.w.heap[b]?=E.w.heap[b]?
 fr:∃F,cT R F M.w∧∀b,F b→M.D b
theorem St.enter{E:Env}{Hp R:List aL}{w:World}(h:St E (Hp++R) w):∃M,M.ds=[]∧Sub E R M∧St M Hp w∧∀H' w',St M H' w'→St E (H'++R) w':=by
 obtain⟨F,h1,h2⟩:=h.fp;obtain⟨F1,F2,h3,h4,h5,h6⟩:=aY.1 h1;have hlt:∀b,E.D b→b<w.heap.size:=λb hb=>aDe (h.MH b hb) h.size;have hd:∀b,F2 b→b<w.heap.size:=λb hb=>mP h6 hb;refine⟨{ w:=w,D:=λb=>E.D b∨F2 b },rfl,⟨?_,λb hb=>⟨.inl hb,h.lB b hb⟩,F2,h6,λb hb=>.inr hb⟩,⟨rfl,rfl,rfl,aAf _,?_,λ_ _=>rfl,F1,h5,?_⟩,?_⟩
 ·rintro b (hb|hb);exact hlt b hb;exact hd b hb
 ·rintro b (hb|hb);exact hlt b hb;exact hd b hb
 ·rintro b (hb|hb) hf
  ·exact h2 b hb ((h3 b).2 (.inl hf))
  ·exact h4 b hf hb
 ·intro H' w' k;obtain⟨G,k1,k2⟩:=k.fp;refine⟨k.os.trans h.os,k.tape.trans h.tape,k.output.trans h.output,aBw h.size k.size,h.MH,λb hb=>(k.lB b (.inl hb)).trans (h.lB b hb),λb=>G b∨F2 b,
   aY.2 ⟨G,F2,λb=>aDl,λb hb hf=>k2 b (.inr hf) hb,k1,iJ h6 λb hb=>k.lB b (.inr hb)⟩,?_⟩
  rintro b hb (hf|hf)
  ·exact k2 b (.inl hb) hf
  ·exact h2 b hb ((h3 b).2 (.inr hf))
def aK(P:Program)(E:Env)(f:FuncId)(args:Array Value)(H:List aL)(Q:Ending→List aL→Prop):Prop :=
 E.ds=[]→∀w,St E H w→Calls P f args w λe w'=>∃H',St E H' w'∧Q e H'
theorem aK.mono{P:Program}{E:Env}{f:FuncId}{args:Array Value}{H:List aL}{Q Q':Ending→List aL→Prop}(h:aK P E f args H Q)(hq:∀e H',Q e H'→Q' e H'):aK P E f args H Q' :=
 λhd w hw=>(h hd w hw).mono λ_ _ ⟨H',h1,h2⟩=>⟨H',h1,hq _ _ h2⟩
def iE(p:Prop):aL:=⟨λF _=>p∧∀b,¬F b,λh _=>h,λh hb=>absurd hb (h.2 _)⟩
def aJ(g:Nat)(t:TypeId)(cs:List Value):aL where
 holds F w:=(∀b,F b↔b=g)∧w.heap[g]?=some (.cells cs.toArray t (0,0))
 loc h hk:=⟨h.1,(hk _ ((h.1 _).2 rfl)).trans h.2⟩
 lt h hb:=by rw[(h.1 _).1 hb];exact(aBv.1 h.2).1
section
variable {α:Type}
def own(T:Ty α)(A:Option Addr)(n c:Nat)(l:List α):aL where
 holds F w:=n=l.length∧((n=0∧c=0∧∀b,¬F b) ∨
  ∃g cur,A=some ⟨g,0,none⟩∧(∀b,F b↔b=g)∧w.heap[g]?=some (.cells cur T.tid (0,0))∧n≤c∧c≤maxLen∧cur.size=c*T.size∧cur.toList.take (n*T.size)=T.bT l)
 loc:=by
  rintro F w w' ⟨h0,h|⟨g,cur,h1,h2,h3,h4⟩⟩ hk
  ·exact⟨h0,.inl h⟩
  ·exact⟨h0,.inr ⟨g,cur,h1,h2,(hk _ ((h2 _).2 rfl)).trans h3,h4⟩⟩
 lt:=by
  rintro F w b ⟨h0,⟨_,_,h⟩|⟨g,cur,h1,h2,h3,h4⟩⟩ hb
  ·exact absurd hb (h b)
  ·rw[(h2 _).1 hb];exact(aBv.1 h3).1
def pack{X:Type}(l:X→List aL):aL where
 holds F w:=∃x,cT (l x) F w
 loc:=λ⟨x,h⟩ hk=>⟨x,iJ h hk⟩
 lt:=λ⟨_,h⟩ hb=>mP h hb
end
def Rd{α:Type}(E:Env)(T:Ty α)(A:Option Addr)(n c:Nat)(l:List α):Prop :=
 n=l.length∧n≤c∧c≤maxLen∧(n=0∨∃ad,A=some ad∧E.D ad.block∧∀j u,(T.bT l)[j]?=some u→E.w.cell? (ad.add j)=some u)
section
variable {α:Type} {T:Ty α} {E M:Env} {A:Option Addr} {n c:Nat} {l:List α} {H R:List aL} {w:World}
theorem Rd.len(h:Rd E T A n c l):n=l.length:=h.1
theorem Rd.cap(h:Rd E T A n c l):n≤c∧c≤maxLen:=⟨h.2.1,h.2.2.1⟩
theorem Rd.nil(E:Env)(T:Ty α):Rd E T none 0 0 []:=⟨rfl,aAf _,aAh _,.inl rfl⟩
theorem Rd.none(h:Rd E T none n c l):n=0∧l=[]:=by
 obtain⟨h0,_,_,rfl|⟨_,e,_⟩⟩:=h
 ·exact⟨rfl,aBi h0.symm⟩
 ·cases e
theorem Rd.sub(hE:Sub E R M)(h:Rd E T A n c l):Rd M T A n c l:=by
 obtain⟨h0,h1,h2,h3⟩:=h;refine⟨h0,h1,h2,h3.imp id ?_⟩;rintro⟨ad,e,hD,hc⟩;refine⟨ad,e,(hE.rd _ hD).1,λj u hu=>?_⟩;rw[aFd (w:=E.w) (by rw[eQ];exact(hE.rd _ hD).2)];exact hc j u hu
theorem Rd.from_(h:Rd E T A n c l){k:Nat}(hk:k≤n):Rd E T (if c=k then A else A.map (·.add (k*T.size))) (n - k) (c - k) (l.drop k):=by
 obtain⟨h1,h2,h3,h4⟩:=h;refine⟨by rw[aBd,h1],by omega,by omega,?_⟩;by_cases hn:n - k=0
 ·exact .inl hn
 ·rcases h4 with h4|⟨ad,rfl,hD,hc⟩
  ·omega
  ·rw[if_neg o_];refine .inr ⟨ad.add (k*T.size),rfl,by rw[eQ];exact hD,λj u hu=>?_⟩;rw[jI];refine hc _ u ?_;rw[←hu,←T.gD,aCv]
theorem Rd.upto(h:Rd E T A n c l){k m:Nat}(hk:k≤n)(hkm:k≤m)(hm:m≤c):Rd E T A k m (l.take k):=by
 obtain⟨h1,h2,h3,h4⟩:=h;refine⟨by rw[aAg];omega,hkm,by omega,?_⟩;rcases h4 with h4|⟨ad,rfl,hD,hc⟩
 ·exact .inl o_
 ·refine .inr ⟨ad,rfl,hD,λj u hu=>hc j u ?_⟩;rw[←T.nX,aEd] at hu;split at hu
  ·exact hu
  ·cases hu
theorem Rd.cut(h:Rd E T A n c l){j m:Nat}(hj:j≤m)(hm:m≤n):Rd E T (if c=j then A else A.map (·.add (j*T.size))) (m - j) (c - j) ((l.take m).drop j):=by
 have h1:=h.cap;exact(h.upto hm (show m≤c by omega) (aAf c)).from_ hj
theorem qE{F:Nat→Prop}(h:(own T A n c l).holds F w):n=l.length∧n≤c∧c≤maxLen∧(n=0∨∃ad,A=some ad∧F ad.block∧∀j u,(T.bT l)[j]?=some u→w.cell? (ad.add j)=some u):=by
 obtain⟨h0,⟨rfl,rfl,_⟩|⟨g,cur,rfl,hF,hh,h1,h2,h3,h4⟩⟩:=h
 ·exact⟨h0,aAf _,aAh _,.inl rfl⟩
 ·refine⟨h0,h1,h2,.inr ⟨_,rfl,(hF _).2 rfl,λj u hu=>?_⟩⟩;rw[fB,aCa,cell_of_row _ _ _ _ _ _ hh];rw[←h4,aEd] at hu;split at hu
  ·simpa using hu
  ·cases hu
theorem Sub.own(hE:Sub E R M){R':List aL}(h:Has (own T A n c l) R R'):Rd M T A n c l:=by
 obtain⟨F,h1,h2⟩:=hE.fr;obtain⟨F1,F2,h3,_,h5,_⟩:=h.cT h1;obtain⟨k0,k1,k2,k3⟩:=qE h5;exact⟨k0,k1,k2,k3.imp id λ⟨ad,e,hF,hc⟩=>⟨ad,e,h2 _ ((h3 _).2 (.inl hF)),hc⟩⟩
def kV(E:Env)(H:List aL)(T:Ty α)(A:Option Addr)(n c:Nat)(l:List α):Prop :=
 ∀w,St E H w→n=l.length∧n≤c∧c≤maxLen∧(n=0∨∃ad,A=some ad∧∀j u,(T.bT l)[j]?=some u→w.cell? (ad.add j)=some u)
theorem kV.rd(h:Rd E T A n c l):kV E H T A n c l:=λw hw=>by
 obtain⟨h0,h1,h2,h3⟩:=h;refine⟨h0,h1,h2,h3.imp id ?_⟩;rintro⟨ad,e,hD,hc⟩;refine⟨ad,e,λj u hu=>?_⟩;rw[aFd (w:=E.w) (by rw[eQ];exact hw.lB _ hD)];exact hc j u hu
theorem kV.own(h:Has (own T A n c l) H R):kV E H T A n c l:=λw hw=>by
 obtain⟨F,h1,_⟩:=hw.has h;obtain⟨k0,k1,k2,k3⟩:=qE h1;exact⟨k0,k1,k2,k3.imp id λ⟨ad,e,_,hc⟩=>⟨ad,e,hc⟩⟩
theorem kV.from_(h:kV E H T A n c l){k:Nat}(hk:k≤n):kV E H T (if c=k then A else A.map (·.add (k*T.size))) (n - k) (c - k) (l.drop k):=λw hw=>by
 obtain⟨h1,h2,h3,h4⟩:=h w hw;refine⟨by rw[aBd,h1],by omega,by omega,?_⟩;by_cases hn:n - k=0
 ·exact .inl hn
 ·rcases h4 with h4|⟨ad,rfl,hc⟩
  ·omega
  ·rw[if_neg o_];refine .inr ⟨ad.add (k*T.size),rfl,λj u hu=>?_⟩;rw[jI];refine hc _ u ?_;rw[←hu,←T.gD,aCv]
end
def Cell(E:Env)(H:List aL)(a:Addr)(v:Value):Prop:=∀w,St E H w→w.cell? a=some v
def qP(E:Env)(a:Addr)(v:Value):Prop:=E.D a.block∧E.w.cell? a=some v
theorem Cell.kc{E:Env}{H:List aL}{a:Addr}{v:Value}(h:qP E a v):Cell E H a v:=λw hw=>by
 rw[aFd (w:=E.w) (hw.lB _ h.1)];exact h.2
theorem qP.sub{E M:Env}{R:List aL}{a:Addr}{v:Value}(hE:Sub E R M)(h:qP E a v):qP M a v:=by
 refine⟨(hE.rd _ h.1).1,?_⟩;rw[aFd (w:=E.w) (hE.rd _ h.1).2];exact h.2
theorem qP.aJ{E M:Env}{R R':List aL}{g:Nat}{t:TypeId}{cs:List Value}(hE:Sub E R M)(h:Has (Sep.aJ g t cs) R R'){i:Nat}{v:Value}(hv:cs[i]?=some v):qP M ⟨g,i,none⟩ v:=by
 obtain⟨F,h1,h2⟩:=hE.fr;obtain⟨F1,F2,h3,_,h5,_⟩:=h.cT h1;obtain⟨k1,k2⟩:=h5;refine⟨h2 _ ((h3 _).2 (.inl ((k1 _).2 rfl))),?_⟩;rw[cell_of_row _ _ _ _ _ _ k2];simpa using hv
def Cells(E:Env)(H:List aL)(a:Addr)(vs:List Value):Prop:=∀w,St E H w→∀j u,vs[j]?=some u→w.cell? (a.add j)=some u
def ad(A:Option Addr):Addr:=A.getD ⟨0,0,none⟩
section
variable {α:Type} {T:Ty α} {E:Env} {A:Option Addr} {n c:Nat} {l:List α} {H R:List aL}
theorem Cells.elem(h:kV E H T A n c l){k:Nat}{x:α}(hx:l[k]?=some x){q:Nat}(hq:q=k*T.size):Cells E H ((ad A).add q) (T.enc x):=by
 subst hq;intro w hw j u hu;obtain⟨h0,h1,h2,h3⟩:=h w hw;have hk:=(aAd.1 hx).1;rcases h3 with h3|⟨a,rfl,hc⟩
 ·omega
 ·rw[jI];exact hc _ u (T.uK hx hu)
theorem Cell.elem(h:kV E H T A n c l){k:Nat}{x:α}(hx:l[k]?=some x){q j:Nat}(hq:q=k*T.size){v:Value}(hv:(T.enc x)[j]?=some v):Cell E H (((ad A).add q).add j) v :=
 λw hw=>Cells.elem h hx hq w hw j v hv
theorem Cell.Tw(h:kV E H T A n c l){k:Nat}{x:α}(hx:l[k]?=some x){q:Nat}(hq:q=k*T.size){v:Value}(hv:(T.enc x)[0]?=some v):Cell E H ((ad A).add q) v :=
 λw hw=>by have:=Cells.elem h hx hq w hw 0 v hv;simpa [Addr.add] using this
theorem Cell.aJ{g:Nat}{t:TypeId}{cs:List Value}(h:Has (aJ g t cs) H R){i:Nat}{v:Value}(hv:cs[i]?=some v):Cell E H ⟨g,i,none⟩ v:=λw hw=>by
 obtain⟨F,⟨_,h1⟩,_⟩:=hw.has h;rw[cell_of_row _ _ _ _ _ _ h1];simpa using hv
theorem Cells.aJ{g:Nat}{t:TypeId}{cs:List Value}(h:Has (aJ g t cs) H R){i:Nat}{vs:List Value}(hv:vs=cs.drop i):Cells E H ⟨g,i,none⟩ vs:=λw hw j u hu=>by
 obtain⟨F,⟨_,h1⟩,_⟩:=hw.has h;rw[fB,cell_of_row _ _ _ _ _ _ h1];subst hv;rw[aCv] at hu;simpa using hu
end
section
variable {α β:Type} {T:Ty α} {U:Ty β} {E:Env} {A:Option Addr} {n c:Nat} {l:List α} {H R:List aL}
def ZO(T:Ty α)(U:Ty β)(m:Nat)(xs:α→List β):Prop:=∀a,T.enc a=U.bT (xs a)∧(xs a).length=m
theorem Rd.inner{m:Nat}{xs:α→List β}(hA:ZO T U m xs)(hm:m≤maxLen)(h:Rd E T A n c l){k q:Nat}{x:α}(hx:l[k]?=some x)(hq:q=k*T.size):Rd E U (some ((ad A).add q)) m m (xs x):=by
 obtain⟨h0,h1,h2,h3⟩:=h;have hk:=(aAd.1 hx).1;rcases h3 with h3|⟨a,rfl,hD,hc⟩
 ·omega
 ·refine⟨(hA x).2.symm,aAf _,hm,.inr ⟨_,rfl,by rw[eQ];exact hD,λj u hu=>?_⟩⟩;rw[←(hA x).1] at hu;rw[hq,jI];exact hc _ u (T.uK hx hu)
end
def pT(F:Nat→Value)(d:Nat)(v:Value):Nat→Value:=λi=>bif Nat.beq i d then v else F i
def at_:List Value→Nat→Value
 | [],_=>undef
 |v::_,0=>v
 |_::l,i+1=>at_ l i
theorem Fl(l:List Value)(i:Nat):at_ l i=l.getD i undef:=by
 induction l generalizing i with
 |nil=>simp[at_]
 |cons v l ih=>cases i<;>simp[at_,ih]
def Jr(args:Array Value):Nat→Value:=λi=>at_ args.toList i
def ev(F:Nat→Value):Operand→Value
 | .tmp t=>F t
 | .const v=>v
 | .global g=>.pointer (some ⟨g,0,none⟩)
 | .func f=>.func (.func f) #[] #[]
structure qX(E:Env)(N:Nat)(F:Nat→Value)(a:Act):Prop where
 defers:a.defers=E.ds
 size:a.tmps.size=N
 get:∀i,a.tmps.getD i undef=F i
theorem qX.eval{E:Env}{N:Nat}{F:Nat→Value}{a:Act}(h:qX E N F a):a.eval=ev F:=by
 funext x;cases x<;>simp only[Act.eval,ev]
 exact h.get _
theorem qX.put{E:Env}{N:Nat}{F:Nat→Value}{a:Act}(h:qX E N F a){d:Nat}(hd:d<N)(v:Value):qX E N (pT F d v) (a.put (some d) v):=by
 refine⟨h.defers,by simpa [Act.put] using h.size,λi=>?_⟩;simp only[Act.put,pT];by_cases hi:i=d
 ·subst hi;simp[h.size,hd]
 ·have:Nat.beq i d=false:=by
   cases h:Nat.beq i d
   ·rfl
   ·exact absurd (aCz h) hi
  rw[this,cond_false,←h.get i];simp[aFh hi]
inductive Ex where
 |normal|ret|exit (id:Nat)|panic (c:List PanicEntry)
abbrev QF:=Ex→(Nat→Value)→List aL→Prop
def lift(N:Nat)(E:Env)(Q:QF):Exit→Act→World→Prop
 | .normal,a,w=>∃F H,qX E N F a∧St E H w∧Q .normal F H
 | .ret,a,w=>∃F H,qX E N F a∧St E H w∧Q .ret F H
 | .exit id,a,w=>∃F H,qX E N F a∧St E H w∧Q (.exit id) F H
 | .panic c,a,w=>a.defers=E.ds∧∃H,St E H w∧Q (.panic c) (λ_=>undef) H
 |_,_,_=>False
structure C(P:Program)(N:Nat)(E:Env)(c:Code)(Q:QF)(F:Nat→Value)(H:List aL):Prop where
 get:∀a w,qX E N F a→St E H w→c.wp P (lift N E Q) a w
structure L(P:Program)(N:Nat)(E:Env)(ops:List Oper)(Q:QF)(l:List Oper)(F:Nat→Value)(H:List aL):Prop where
 get:∀a w,qX E N F a→St E H w→wpList P ops.toArray (lift N E Q) l a w
def oQ(k:(Nat→Value)→List aL→Prop)(Q:QF):QF
 | .normal,F,H=>k F H
 | .ret,F,H=>Q .ret F H
 | .exit id,F,H=>Q (.exit id) F H
 | .panic c,F,H=>Q (.panic c) F H
def Tg(id:Nat)(Q:QF):QF
 | .exit id',F,H=>if id'=id then Q .normal F H else Q (.exit id') F H
 | .normal,F,H=>Q .normal F H
 | .ret,F,H=>Q .ret F H
 | .panic c,F,H=>Q (.panic c) F H
def aB(E:Env)(H H':List aL):Prop:=∀w,St E H w→St E H' w
def qB(P:Program)(E:Env)(H:List aL)(ρ:Operand→Value)(o:Oper)(v:Value):Prop:=∀u,St E H u→(execOp ρ o).run P u=.ok (.value v) u
def gK(P:Program)(N:Nat)(E:Env)(F:Nat→Value)(H:List aL)(o:Oper)(K:Value→List aL→Prop):Prop :=
 ∀a u,qX E N F a→St E H u→∀(Kw:Act→World→Prop) (Q':Exit→Act→World→Prop),(∀v H' u',K v H'→St E H' u'→Kw (a.put o.dst v) u')→o.wp P a u Kw Q'
section
variable {P:Program} {N:Nat} {E:Env} {Q:QF} {F:Nat→Value} {H H' R:List aL}
theorem Mt{Q':QF}(hq:∀e F H,Q e F H→Q' e F H):∀e a w,lift N E Q e a w→lift N E Q' e a w:=by
 intro e a w h;cases e with
 |normal=>obtain⟨F,H,h1,h2,h3⟩:=h;exact⟨F,H,h1,h2,hq _ _ _ h3⟩
 |ret=>obtain⟨F,H,h1,h2,h3⟩:=h;exact⟨F,H,h1,h2,hq _ _ _ h3⟩
 |exit id=>obtain⟨F,H,h1,h2,h3⟩:=h;exact⟨F,H,h1,h2,hq _ _ _ h3⟩
 |panic c=>obtain⟨h0,H,h2,h3⟩:=h;exact⟨h0,H,h2,hq _ _ _ h3⟩
 |_=>exact h.elim
theorem aB.refl:aB E H H:=λ_ h=>h
theorem aB.trans{H1 H2 H3:List aL}(h:aB E H1 H2)(k:aB E H2 H3):aB E H1 H3:=λw hw=>k w (h w hw)
theorem aB.aV{l:List aL}(h:cS l H R):aB E H l:=λ_ hw=>hw.weaken h
theorem T.n{k:(Nat→Value)→List aL→Prop}(h:k F H):oQ k Q .normal F H:=h
theorem T.ret{k:(Nat→Value)→List aL→Prop}(h:Q .ret F H):oQ k Q .ret F H:=h
theorem T.exit{k:(Nat→Value)→List aL→Prop}{id:Nat}(h:Q (.exit id) F H):oQ k Q (.exit id) F H:=h
theorem I.n{id:Nat}(h:Q .normal F H):Tg id Q .normal F H:=h
theorem I.ret{id:Nat}(h:Q .ret F H):Tg id Q .ret F H:=h
theorem I.tA{id:Nat}(h:Q .normal F H):Tg id Q (.exit id) F H:=by
 show if id=id then Q .normal F H else Q (.exit id) F H
 rw[if_pos rfl];exact h
theorem I.TE{id id':Nat}(hne:id'≠id)(h:Q (.exit id') F H):Tg id Q (.exit id') F H:=by
 show if id'=id then Q .normal F H else Q (.exit id') F H
 rw[if_neg hne];exact h
theorem C.mono{c:Code}{Q':QF}(h:C P N E c Q F H)(hq:∀e F H,Q e F H→Q' e F H):C P N E c Q' F H:=⟨λa w ha hw=>wp_mono (h.get a w ha hw) (Mt hq)⟩
theorem C.conv{c:Code}(hc:aB E H H')(h:C P N E c Q F H'):C P N E c Q F H:=⟨λa w ha hw=>h.get a w ha (hc w hw)⟩
theorem C.seq{x y:Code}(h:C P N E x (oQ (λF H=>C P N E y Q F H) Q) F H):C P N E (.seq x y) Q F H:=by
 refine⟨λa w ha hw=>wp_seq (wp_mono (h.get a w ha hw) ?_)⟩;intro e a w hq;cases e with
 |normal=>obtain⟨F,H,h1,h2,h3⟩:=hq;exact C.get h3 a w h1 h2
 |ret=>exact hq
 |exit id=>exact hq
 |panic c=>exact hq
 |_=>exact hq.elim
theorem C.block{id:Nat}{c:Code}(h:C P N E c (Tg id Q) F H):C P N E (.block id c) Q F H:=by
 refine⟨λa w ha hw=>wp_block (wp_mono (h.get a w ha hw) ?_)⟩;intro e a w hq;cases e with
 |exit id' =>
  obtain⟨F,H,h1,h2,h3⟩:=hq;simp only[Exit.inBlock,Tg] at *;split at h3
  ·rw[if_pos ‹_›];exact⟨F,H,h1,h2,h3⟩
  ·rw[if_neg ‹_›];exact⟨F,H,h1,h2,h3⟩
 |normal=>exact hq
 |ret=>exact hq
 |panic c=>exact hq
 |_=>exact hq.elim
theorem C.exit{id:Nat}(h:Q (.exit id) F H):C P N E (.exit id) Q F H:=⟨λ_ _ ha hw=>wp_exit ⟨F,H,ha,hw,h⟩⟩
theorem C.skip(h:Q .normal F H):C P N E .skip Q F H:=⟨λ_ _ ha hw=>wp_skip ⟨F,H,ha,hw,h⟩⟩
theorem C.ret(h:Q .ret F H):C P N E .ret Q F H:=⟨λ_ _ ha hw=>wp_ret ⟨F,H,ha,hw,h⟩⟩
theorem C.cond{c:Operand}{x y:Code}{b:Bool}(hc:ev F c=.bool b)(hx:b=true→C P N E x Q F H)(hy:b=false→C P N E y Q F H):C P N E (.cond c x y) Q F H:=by
 refine⟨λa w ha hw=>?_⟩;exact wp_cond_split (by rw[ha.eval];exact hc) (λh=>(hx h).get a w ha hw) (λh=>(hy h).get a w ha hw)
theorem C.Fx{c:Operand}{x y:Code}{b:Bool}(hc:ev F c=.bool b)(hb:b=true)(hx:C P N E x Q F H):C P N E (.cond c x y) Q F H :=
 C.cond hc (λ_=>hx) (λh=>by rw[hb] at h;cases h)
theorem C.GC{c:Operand}{x y:Code}{b:Bool}(hc:ev F c=.bool b)(hb:b=false)(hy:C P N E y Q F H):C P N E (.cond c x y) Q F H :=
 C.cond hc (λh=>by rw[hb] at h;cases h) (λ_=>hy)
theorem C.XE{c:Operand}{x y:Code}{p:Prop}[Decidable p](hc:ev F c=.bool (decide p))(hx:p→C P N E x Q F H)(hy:¬p→C P N E y Q F H):C P N E (.cond c x y) Q F H :=
 C.cond hc (λh=>hx (of_decide_eq_true h)) (λh=>hy (of_decide_eq_false h))
def OQ:List (Nat×Value)→(Nat→Value)→Nat→Value
 | [],G=>G
 | (d,v)::l,G=>pT (OQ l G) d v
def nH(F:Nat→Value):List (Nat×Value)→Prop
 | []=>True
 | (d,v)::l=>F d=v∧nH F l
theorem oH{F:Nat→Value}:∀ {l:List (Nat×Value)},nH F l→OQ l F=F
 | [],_=>rfl
 | (d,v)::l,h=>by
  funext i;simp only[OQ,pT];rw[oH h.2];cases e:Nat.beq i d
  ·rfl
  ·rw[aCz e,cond_true];exact h.1.symm
theorem least{p:Nat→Prop}(h:∃m,p m):∃m,p m∧∀k,p k→m≤k:=by
 obtain⟨m,hm⟩:=h
 induction m using Nat.strongRecOn with
 |ind m ih =>
  by_cases hk:∃k,k<m∧p k
  ·obtain⟨k,h1,h2⟩:=hk;exact ih k h1 h2
  ·exact⟨m,hm,λk hp=>Nat.le_of_not_lt λhlt=>hk ⟨k,hlt,hp⟩⟩
open Classical in
noncomputable def low(p:Nat→Prop):Nat:=if h:∃m,p m then Classical.choose (least h) else 0
theorem yD{p:Nat→Prop}(h:∃m,p m):p (low p)∧∀k,p k→low p≤k:=by
 unfold low;rw[dif_pos h];exact Classical.choose_spec (least h)
theorem C.loop{c:Code}{X:Type}(S:X→List (Nat×Value))(HX:X→List aL)(R:X→Prop)(μ:X→Nat)(x0:X)(hF:nH F (S x0))(hH:aB E H (HX x0))(h0:R x0)
  (round:∀x G,R x→C P N E c (oQ (λF' H'=>∃x',nH F' (S x')∧aB E H' (HX x')∧R x'∧μ x'<μ x) Q) (OQ (S x) G) (HX x)):C P N E (.loop c) Q F H:=by
 refine⟨λa w ha hw=>?_⟩
 let p:Act→World→Nat→Prop:=λa w m=>∃x F,qX E N F a∧nH F (S x)∧St E (HX x) w∧R x∧μ x=m
 refine wp_loop (λa w=>∃m,p a w m) (λa w=>low (p a w)) ⟨_,x0,F,ha,hF,hH w hw,h0,rfl⟩ ?_;intro a w hI;obtain⟨⟨x,F,hr,hS,hw,hR,hx⟩,_⟩:=yD hI;have h:=round x F hR;rw[oH hS] at h;refine wp_mono (h.get a w hr hw) ?_;intro e a' w' hq;cases e with
 |normal =>
  obtain⟨F',H',h1,h2,x',h3,h4,h5,h6⟩:=hq;have hp:p a' w' (μ x'):=⟨x',F',h1,h3,h4 w' h2,h5,rfl⟩
  refine⟨⟨_,hp⟩,?_⟩;refine Nat.lt_of_le_of_lt ((yD (p:=p a' w') ⟨_,hp⟩).2 _ hp) ?_;rw[←hx];exact h6
 |ret=>exact hq
 |exit id=>exact hq
 |panic c=>exact hq
 |_=>exact hq.elim
theorem C.cut{x y:Code}{X:Type}(S:X→List (Nat×Value))(HX:X→List aL)(R:X→Prop)(hx:C P N E x (oQ (λF' H'=>∃z,nH F' (S z)∧aB E H' (HX z)∧R z) Q) F H)
  (hy:∀z G,R z→C P N E y Q (OQ (S z) G) (HX z)):C P N E (.seq x y) Q F H:=by
 refine C.seq (hx.mono ?_);intro e F' H' hq;cases e with
 |normal=>obtain⟨z,hS,hH,hR⟩:=hq;have h:=hy z F' hR;rw[oH hS] at h;exact h.conv hH
 |ret=>exact hq
 |exit id=>exact hq
 |panic c=>exact hq
theorem C.BI{x y:Code}{X:Type}(S:X→List (Nat×Value))(HX:X→List aL)(R:X→Prop)(hx:C P N E x (oQ (λF' H'=>∃z,nH F' (S z)∧aB E H' (HX z)∧R z) Q) F H)
  (hy:∀z G,R z→C P N E y Q (OQ (S z) G) (HX z)):C P N E x (oQ (λF H=>C P N E y Q F H) Q) F H:=by
 refine hx.mono ?_;intro e F' H' hq;cases e with
 |normal=>obtain⟨z,hS,hH,hR⟩:=hq;have h:=hy z F' hR;rw[oH hS] at h;exact h.conv hH
 |ret=>exact hq
 |exit id=>exact hq
 |panic c=>exact hq
theorem C.region{id:Nat}{l:List Oper}(h:L P N E l Q l F H):C P N E (.region id l.toArray false) Q F H:=⟨λa w ha hw=>wp_region_lit (h.get a w ha hw)⟩
def yC(fn:Func)(F:Nat→Value):Sem Value:=do
 let vs ←fn.results.mapM fun
  | .tmp t=>pure (F t)
  | .cell a t=>do loadVar t (←asAddr (F a))
 pure (if h:vs.size=1 then vs[0] else .tuple vs)
theorem pV{fn:Func}{a:Act}(h:qX E N F a):results fn a.tmps=yC fn F:=by
 unfold results yC;congr 1;congr 1;funext x;cases x<;>simp only[h.get]
def gF(P:Program)(E:Env)(fn:Func)(R:Ending→List aL→Prop):QF
 | .normal,F,H | .ret,F,H=>∃v H',(∀w,St E H w→(yC fn F).run P w=.ok v w)∧aB E H H'∧R (.returned v) H'
 | .panic c,_,H=>R (.panicked c) H
 |_,_,_=>False
theorem DG{f:FuncId}{fn:Func}{c:Code}{args:Array Value}{R:Ending→List aL→Prop}(hf:P.funcs[f]?=some fn)(hb:fn.body=some c)(hn:fn.ntmps=N)(ha:args.size≤N)
  (h:C P N E c (gF P E fn R) (Jr args) H):aK P E f args H R:=by
 intro hds w hw;refine calls_of_wp hf hb ?_;have hr:qX E N (Jr args) { tmps:=args++Array.replicate (fn.ntmps - args.size) undef,defers:=[] }:=by
  refine⟨hds.symm,by simp;omega,λi=>?_⟩;simp only[Jr,Fl,aBb,aEe,aBy,aEo,aDt];split
  ·rfl
  ·rename_i h;rw[aCu o_];split<;>rfl
 refine wp_mono (h.get _ w hr hw) ?_;intro e a w hq;cases e with
 |normal=>obtain⟨F,H,hr,hw,v,H',h1,h2,h3⟩:=hq;exact⟨hr.defers.trans hds,v,by rw[pV hr];exact h1 w hw,H',h2 w hw,h3⟩
 |ret=>obtain⟨F,H,hr,hw,v,H',h1,h2,h3⟩:=hq;exact⟨hr.defers.trans hds,v,by rw[pV hr];exact h1 w hw,H',h2 w hw,h3⟩
 |exit id=>obtain⟨_,_,_,_,h⟩:=hq;exact h.elim
 |panic c=>obtain⟨h0,H,h2,h3⟩:=hq;exact⟨h0.trans hds,H,h2,h3⟩
 |_=>exact hq.elim
theorem aR{fn:Func}{R:Ending→List aL→Prop}{t:Nat}{v:Value}(hr:fn.results=#[.tmp t])(hv:F t=v)(hc:aB E H H')(h:R (.returned v) H'):gF P E fn R .ret F H:=by
 refine⟨v,H',λw _=>?_,hc,h⟩;subst hv;simp[yC,hr]
theorem vT{fn:Func}{R:Ending→List aL→Prop}{t u:Nat}{v v':Value}(hr:fn.results=#[.tmp t,.tmp u])(hv:F t=v)(hv':F u=v')(hc:aB E H H')(h:R (.returned (.tuple #[v,v'])) H'):gF P E fn R .ret F H:=by
 refine⟨.tuple #[v,v'],H',λw _=>?_,hc,h⟩;subst hv hv';simp[yC,hr]
theorem Ma{fn:Func}{R:Ending→List aL→Prop}{t u s:Nat}{v v' v'':Value}(hr:fn.results=#[.tmp t,.tmp u,.tmp s])(hv:F t=v)(hv':F u=v')(hv'':F s=v'')(hc:aB E H H')(h:R (.returned (.tuple #[v,v',v''])) H'):gF P E fn R .ret F H:=by
 refine⟨.tuple #[v,v',v''],H',λw _=>?_,hc,h⟩;subst hv hv' hv'';simp[yC,hr]
theorem VL{fn:Func}{R:Ending→List aL→Prop}(hr:fn.results=#[])(hc:aB E H H')(h:R (.returned (.tuple #[])) H'):gF P E fn R .ret F H:=by
 refine⟨.tuple #[],H',λw _=>?_,hc,h⟩;simp[yC,hr]
theorem gO{fn:Func}{R:Ending→List aL→Prop}(hr:fn.results=#[])(hc:aB E H H')(h:R (.returned (.tuple #[])) H'):gF P E fn R .normal F H:=by
 refine⟨.tuple #[],H',λw _=>?_,hc,h⟩;simp[yC,hr]
theorem L.nil{ops:List Oper}(h:Q .normal F H):L P N E ops Q [] F H:=⟨λ_ _ ha hw=>wpList_nil ⟨F,H,ha,hw,h⟩⟩
theorem L.val{ops rest:List Oper}{d:Nat}{op:Op}{ty:TypeId}{pos:String}{af:Array Edge}{v:Value}(hd:d<N)
  (hr:qB P E H (ev F) ⟨some d,op,ty,pos,af,none⟩ v) (h:L P N E ops Q rest (pT F d v) H):L P N E ops Q (⟨some d,op,ty,pos,af,none⟩::rest) F H:=by
 refine⟨λa w ha hw=>wpList_plain rfl λK hK=>?_⟩;unfold Oper.wp;rw[ha.eval,hr w hw];exact hK _ _ (h.get _ w (ha.put hd v) hw)
theorem L.step{ops rest:List Oper}{d:Nat}{op:Op}{ty:TypeId}{pos:String}{af:Array Edge}(hd:d<N)
  (h:gK P N E F H ⟨some d,op,ty,pos,af,none⟩ λv H'=>L P N E ops Q rest (pT F d v) H'):L P N E ops Q (⟨some d,op,ty,pos,af,none⟩::rest) F H :=
 ⟨λa w ha hw=>wpList_plain rfl λ_ hK=>h a w ha hw _ _ λv _ u' hl hw'=>hK _ _ (hl.get _ u' (ha.put hd v) hw')⟩
theorem L.Xj{ops rest:List Oper}{op:Op}{ty:TypeId}{pos:String}{af:Array Edge}
  (h:gK P N E F H ⟨none,op,ty,pos,af,none⟩ λ_ H'=>L P N E ops Q rest F H'):L P N E ops Q (⟨none,op,ty,pos,af,none⟩::rest) F H :=
 ⟨λa w ha hw=>wpList_plain rfl λ_ hK=>h a w ha hw _ _ λ_ _ u' hl hw'=>hK _ _ (hl.get _ u' ha hw')⟩
theorem L.fQ{ops rest:List Oper}{d:Nat}{op:Op}{ty:TypeId}{pos:String}{af:Array Edge}{K:Value→List aL→Prop}(hd:d<N)
  (h:gK P N E F H ⟨some d,op,ty,pos,af,none⟩ K) (hk:∀v H',K v H'→L P N E ops Q rest (pT F d v) H'):L P N E ops Q (⟨some d,op,ty,pos,af,none⟩::rest) F H :=
 L.step hd λa u ha hu Kw Q' hK=>h a u ha hu Kw Q' λv H' u' hq hu'=>hK v H' u' (hk v H' hq) hu'
theorem L.pX{ops rest:List Oper}{op:Op}{ty:TypeId}{pos:String}{af:Array Edge}{K:Value→List aL→Prop}
  (h:gK P N E F H ⟨none,op,ty,pos,af,none⟩ K) (hk:∀v H',K v H'→L P N E ops Q rest F H'):L P N E ops Q (⟨none,op,ty,pos,af,none⟩::rest) F H :=
 L.Xj λa u ha hu Kw Q' hK=>h a u ha hu Kw Q' λv H' u' hq hu'=>hK v H' u' (hk v H' hq) hu'
theorem L.on{ops rest:List Oper}{d:Option Nat}{op:Op}{ty:TypeId}{pos:String}{af:Array Edge}{j g:Nat}{want b:Bool}(hn:(nth ops j).bind (·.dst)=some g)(hg:g<N)(hv:F g=.bool b)(hb:b=want)
  (h:L P N E ops Q (⟨d,op,ty,pos,af,none⟩::rest) F H):L P N E ops Q (⟨d,op,ty,pos,af,some (j,want)⟩::rest) F H:=by
 subst hb;refine⟨λa w ha hw=>?_⟩;have h2:=h.get a w ha hw;have hy:yielded ops.toArray a.tmps j=some b:=by
  unfold yielded;rw[←eX,hn];have h3:=ha.get g;rw[hv,aBy,aCm (by rw[ha.size];exact hg)] at h3;simp only[aBe] at h3;simp[aCm (show g<a.tmps.size by rw[ha.size];exact hg),h3]
 unfold wpList at h2⊢;rw[if_pos (by simp[Region.wanted])] at h2;rw[if_pos (by simp[Region.wanted,hy])];exact h2
theorem L.off{ops rest:List Oper}{d:Nat}{op:Op}{ty:TypeId}{pos:String}{af:Array Edge}{j g:Nat}{want b:Bool}(hd:d<N)(hn:(nth ops j).bind (·.dst)=some g)(hg:g<N)(hv:F g=.bool b)(hb:b = !want)
  (h:L P N E ops Q rest (pT F d undef) H):L P N E ops Q (⟨some d,op,ty,pos,af,some (j,want)⟩::rest) F H:=by
 subst hb;refine⟨λa w ha hw=>?_⟩;have hy:yielded ops.toArray a.tmps j=some (!want):=by
  unfold yielded;rw[←eX,hn];have h3:=ha.get g;rw[hv,aBy,aCm (by rw[ha.size];exact hg)] at h3;simp only[aBe] at h3;simp[aCm (show g<a.tmps.size by rw[ha.size];exact hg),h3]
 unfold wpList;rw[if_neg (by simp[Region.wanted,hy])];exact h.get _ w (ha.put hd undef) hw
theorem L.YQ{ops rest:List Oper}{d:Nat}{op:Op}{ty:TypeId}{pos:String}{af:Array Edge}{j g:Nat}{p:Prop}[Decidable p](hd:d<N)(hn:(nth ops j).bind (·.dst)=some g)(hg:g<N)(hv:F g=.bool (decide p))
  (h:p→L P N E ops Q (⟨some d,op,ty,pos,af,none⟩::rest) F H) (h':¬p→L P N E ops Q rest (pT F d undef) H):L P N E ops Q (⟨some d,op,ty,pos,af,some (j,true)⟩::rest) F H:=by
 by_cases hp:p
 ·exact L.on hn hg hv (by simpa using hp) (h hp)
 ·exact L.off hd hn hg hv (by simpa using hp) (h' hp)
theorem L.aQi{ops rest:List Oper}{d:Nat}{op:Op}{ty:TypeId}{pos:String}{af:Array Edge}{j g:Nat}{p:Prop}[Decidable p](hd:d<N)(hn:(nth ops j).bind (·.dst)=some g)(hg:g<N)(hv:F g=.bool (decide p))
  (h:p→L P N E ops Q rest (pT F d undef) H) (h':¬p→L P N E ops Q (⟨some d,op,ty,pos,af,none⟩::rest) F H):L P N E ops Q (⟨some d,op,ty,pos,af,some (j,false)⟩::rest) F H:=by
 by_cases hp:p
 ·exact L.off hd hn hg hv (by simpa using hp) (h hp)
 ·exact L.on hn hg hv (by simpa using hp) (h' hp)
theorem L.Sg{ops rest:List Oper}{d:Nat}{op:Op}{ty:TypeId}{pos:String}{af:Array Edge}{j g:Nat}{want:Bool}(hd:d<N)(hn:(nth ops j).bind (·.dst)=some g)(hg:g<N)(hv:F g=undef)
  (h:L P N E ops Q rest (pT F d undef) H):L P N E ops Q (⟨some d,op,ty,pos,af,some (j,want)⟩::rest) F H:=by
 refine⟨λa w ha hw=>?_⟩;have hy:yielded ops.toArray a.tmps j=none:=by
  unfold yielded;rw[←eX,hn];have h3:=ha.get g;rw[hv,aBy,aCm (by rw[ha.size];exact hg)] at h3;simp only[aBe] at h3;simp[aCm (show g<a.tmps.size by rw[ha.size];exact hg),h3,undef]
 unfold wpList;rw[if_neg (by simp[Region.wanted,hy])];exact h.get _ w (ha.put hd undef) hw
theorem gK.Yd{o:Oper}{K:Value→List aL→Prop}{v:Value}(hr:qB P E H (ev F) o v)(h:K v H):gK P N E F H o K:=by
 intro a u ha hu Kw Q' hK;unfold Oper.wp;rw[ha.eval,hr u hu];exact hK _ _ _ h hu
theorem gK.conv{o:Oper}{K:Value→List aL→Prop}(hc:aB E H H')(h:gK P N E F H' o K):gK P N E F H o K:=λa u ha hu=>h a u ha (hc u hu)
def DJ(F:Nat→Value):Option Nat→Value→Nat→Value
 |some d,v=>pT F d v
 |none,_=>F
def waits(l:List Oper):Nat→Nat→Nat→Bool
 |0,_,_=>false
 |k+1,j,i=>match nth l j with
  |none=>false
  |some o=>o.after.toList.any λe=>Region.binds .any e&&(Nat.beq e.on i||waits l k e.on i)
def late(l:List Oper)(z i:Nat):Bool:=Nat.ble l.length z||Nat.beq i z||waits l l.length z i
def kX(l:List Oper)(listed:Array Bool):Prop:=∀j o,l.toArray[j]?=some o→listed.getD j false=true→∀e∈o.after,Region.binds .any e=true→listed.getD e.on false=true
theorem kX.start(l:List Oper):kX l (Array.replicate l.length false):=by
 intro j o _ h;rw[aBy,aDt] at h;split at h<;>cases h
theorem kX.set{l:List Oper}{listed:Array Bool}{i:Nat}(h:kX l listed)(hr:i∈Region.ready .any l.toArray listed):kX l (listed.setIfInBounds i true):=by
 intro j o ho hj e he hb;obtain⟨h0,o',ho',hall⟩:=mem_ready.1 hr;by_cases hij:i=j
 ·subst hij;rw[ho] at ho';injection ho' with ho'
  subst ho';exact getD_set_true (hall e he hb)
 ·rw[getD_set_ne false hij] at hj;exact getD_set_true (h j o ho hj e he hb)
theorem zH{l:List Oper}{listed:Array Bool}(h:kX l listed){i:Nat}:∀ {k j:Nat},waits l k j i=true→listed.getD j false=true→listed.getD i false=true
 |0,_,hw,_=>by cases hw
 |k+1,j,hw,hj=>by
  unfold waits at hw;cases ho:nth l j with
  |none=>rw[ho] at hw;cases hw
  |some o =>
   rw[ho] at hw;simp only[aEm,aAv,Bool.or_eq_true] at hw;obtain⟨e,he,hb,hw⟩:=hw;have h1:=h j o ((eX l j).symm.trans ho) hj e (Array.mem_toList_iff.1 he) hb;rcases hw with hw|hw
   ·rwa [←aCz hw]
   ·exact zH h hw h1
def Rp(P:Program)(l:List Oper)(Q:Exit→Act→World→Prop)(S:World→Prop)(z:Nat):Nat→Array Bool→Act→World→Prop
 |0,listed,a,w=>Region.ready .any l.toArray listed=[]∧Q .normal a w
 |k+1,listed,a,w=>(Region.ready .any l.toArray listed=[]→Q .normal a w) ∧
  ∀i∈Region.ready .any l.toArray listed,wpOp P l.toArray Q i (λa' w'=>(i≠z→S w'∧Rp P l Q S z k (listed.setIfInBounds i true) a' w')∧(i=z→wpAny P .any l.toArray Q k (listed.setIfInBounds i true) a' w')) a w
theorem BB{P:Program}{l:List Oper}{Q:Exit→Act→World→Prop}{S:World→Prop}{z:Nat}:∀(k:Nat) (listed:Array Bool) (a:Act) (w:World),Rp P l Q S z k listed a w→wpAny P .any l.toArray Q k listed a w
 |0,_,_,_,h=>h
 |k+1,_,_,_,h=>⟨h.1,λi hi=>wpOp_mono (λa' w' h'=>by
   by_cases hz:i=z
   ·exact h'.2 hz
   ·exact BB k _ a' w' (h'.1 hz).2) (h.2 i hi)⟩
theorem GR{l:List Oper}{z i:Nat}(hl:late l z i=true)(hz:i≠z){listed:Array Bool}(hcl:kX l listed)(hr:i∈Region.ready .any l.toArray listed):z∉Region.ready .any l.toArray listed:=by
 intro hm;obtain⟨_,o,ho,hall⟩:=mem_ready.1 hm;have h0:=(mem_ready.1 hr).1;have h3:listed.getD i false≠true:=by
  intro h;rcases Nat.lt_or_ge i listed.size with h'|h'
  ·simp[h'] at h0 h;rw[h0] at h;cases h
  ·simp[aCu h'] at h
 unfold late at hl;simp only[Bool.or_eq_true] at hl;rcases hl with(hl|hl)|hl
 ·have h4:=Nat.le_of_ble_eq_true hl;rw[aCu (by simpa using h4)] at ho;cases ho
 ·exact hz (aCz hl)
 ·cases hll:l.length with
  |zero=>rw[hll] at hl;cases hl
  |succ k =>
   rw[hll] at hl;unfold waits at hl;rw[eX,ho] at hl;simp only[aEm,aAv,Bool.or_eq_true] at hl;obtain⟨e,he,hb,hw⟩:=hl;have h1:=hall e (Array.mem_toList_iff.1 he) hb;rcases hw with hw|hw
   ·rw[aCz hw] at h1;exact h3 h1
   ·exact h3 (zH hcl hw h1)
theorem LD{P:Program}{l:List Oper}{Q:Exit→Act→World→Prop}{S:World→Prop}{z i:Nat}{oi:Oper}{v:Value}(hi:l.toArray[i]?=some oi)(hsel:∀(j:Nat) (o:Oper) cs b,l.toArray[j]?=some o→o.op≠.select cs b)
  (hQ:∀c a w,Q (.panic c) (a.put oi.dst v) w→Q (.panic c) a w) (hz:late l z i=true) (hne:i≠z) :
  ∀(k:Nat) (listed:Array Bool) (a:Act) (w:World),kX l listed →
   (∀j oj,l.toArray[j]?=some oj→j≠i→listed.getD j true=false→(∀e∈oj.after,Region.binds .any e=true→e.on≠i)→oi.apart l.toArray oj=true) →
   i∈Region.ready .any l.toArray listed→YieldsIf P l.toArray S oi v a→S w →
   Rp P l Q S z k (listed.setIfInBounds i true) (a.put oi.dst v) w→Rp P l Q S z (k+1) listed a w:=by
 intro k
 induction k with
 |zero =>
  intro listed a w _ _ hr hy hS h;refine⟨λh0=>(by rw[h0] at hr;cases hr),λj hj=>?_⟩;by_cases hji:j=i
  ·subst hji;exact hy.wpOp hi hS ⟨λ_=>⟨hS,h⟩,λe=>absurd e hne⟩
  ·have:=ready_mono hj hji;rw[h.1] at this;cases this
 |succ k ih =>
  intro listed a w hcl hfree hr hy hS h;refine⟨λh0=>(by rw[h0] at hr;cases hr),λj hj=>?_⟩;by_cases hji:j=i
  ·subst hji;exact hy.wpOp hi hS ⟨λ_=>⟨hS,h⟩,λe=>absurd e hne⟩
  ·have hjz:j≠z:=λe=>GR hz hne hcl hr (e▸hj);have h1:=h.2 j (ready_mono hj hji);obtain⟨hjun,oj,hoj,hall⟩:=mem_ready.1 hj;have hnot:∀e∈oj.after,Region.binds .any e=true→e.on≠i:=λe he hb heq=>by
    have h1:=hall e he hb;have h0:=(mem_ready.1 hr).1;rw[heq] at h1;rcases Nat.lt_or_ge i listed.size with h'|h'
    ·simp[h'] at h0 h1;rw[h0] at h1;cases h1
    ·simp[aCu h'] at h1
   have h2:=wpOp_putIf hoj (hfree j oj hoj hji hjun hnot) (λcs b=>hsel i oi cs b hi) (λcs b=>hsel j oj cs b hoj) hQ hy h1;refine wpOp_mono (λa' w' h3=>⟨λ_=>⟨(h3.2.1 hjz).1,ih (listed.setIfInBounds j true) a' w' (hcl.set hj) (λm om hm hmi hun hno=>hfree m om hm hmi ?_ hno) (ready_mono hr (aFh hji)) h3.1 (h3.2.1 hjz).1 ?_⟩,λe=>absurd e hjz⟩) h2
   ·by_cases hjm:j=m
    ·subst hjm;exact hjun
    ·rw[getD_set_ne true hjm] at hun;exact hun
   ·rw[aFm _ _ hji];exact(h3.2.1 hjz).2
inductive Td where
 |nil
 |one (i:Nat) (go:Bool) (t:Td)
 |two (i:Nat) (s:Td) (j:Nat) (t:Td)
def Td.len:Td→Nat
 | .nil=>0
 | .one _ _ t=>t.len+1
 | .two _ s _ _=>s.len+1
def sO(l:List Oper)(z:Nat):Array Bool→Td→Bool
 |listed,.nil=>(Region.ready .any l.toArray listed).isEmpty
 |listed,.one i go t=>(bif go then Region.ready .any l.toArray listed == [i] else Region.free .any l.toArray listed i&&(Region.ready .any l.toArray listed).contains i&&late l z i && !Nat.beq i z)&&sO l z (listed.setIfInBounds i true) t
 |listed,.two i s j t=>Region.ready .any l.toArray listed == [i,j]&&Nat.beq s.len t.len&&sO l z (listed.setIfInBounds i true) s&&sO l z (listed.setIfInBounds j true) t
structure Dr(P:Program)(N:Nat)(E:Env)(z:Nat)(l:List Oper)(Q:QF)(Hk:List aL)(todo:Td)(F:Nat→Value)(H:List aL):Prop where
 get:∀listed a u,kX l listed→Region.noSelect l.toArray=true→sO l z listed todo=true→qX E N F a→St E H u→St E Hk u→Rp P l (lift N E Q) (St E Hk) z todo.len listed a u
theorem C.bL{id:Nat}{l:List Oper}(z:Nat)(todo:Td)(Hk:List aL)(hm:P.follows .mixedOrders=true)(hchk:(Region.noSelect l.toArray&&Nat.beq todo.len l.length&&sO l z (Array.replicate l.length false) todo)=true)(hk:aB E H Hk)(h:Dr P N E z l Q Hk todo F H):C P N E (.region id l.toArray true) Q F H:=by
 simp only[aAv] at hchk;obtain⟨⟨h1,h2⟩,h3⟩:=hchk;have h2:=aCz h2;refine⟨λa w ha hw=>?_⟩;have:=h.get _ a w.drew (kX.start l) h1 h3 ha hw.drew (hk _ hw.drew);rw[h2] at this;exact wp_region_any hm (BB _ _ _ _ (by simpa using this))
theorem PJ{l:List Oper}{j g:Nat}{b:Bool}(hn:(nth l j).bind (·.dst)=some g)(hg:g<N)(hv:F g=.bool b){a:Act}(ha:qX E N F a):yielded l.toArray a.tmps j=some b:=by
 unfold yielded;rw[←eX,hn];have h3:=ha.get g;rw[hv,aBy,aCm (by rw[ha.size];exact hg)] at h3;simp only[aBe] at h3;simp[aCm (show g<a.tmps.size by rw[ha.size];exact hg),h3]
inductive rE(l:List Oper)(N:Nat)(F:Nat→Value)(b:Bool):Option (Nat×Bool)→Prop
 |none (h:b=true):rE l N F b none
 |some {j g:Nat} {want c:Bool} (hn:(nth l j).bind (·.dst)=some g) (hg:g<N) (hv:F g=.bool c) (hb:(c == want)=b):rE l N F b (some (j,want))
 |undef {j g:Nat} {want:Bool} (hn:(nth l j).bind (·.dst)=some g) (hg:g<N) (hv:F g=Go.undef) (hb:b=false):rE l N F b (some (j,want))
theorem rE.on{l:List Oper}{j g:Nat}{want c:Bool}(hn:(nth l j).bind (·.dst)=Option.some g)(hg:g<N)(hv:F g=.bool c)(hb:c=want):rE l N F true (Option.some (j,want)):=.some hn hg hv (by simp[hb])
theorem rE.off{l:List Oper}{j g:Nat}{want c:Bool}(hn:(nth l j).bind (·.dst)=Option.some g)(hg:g<N)(hv:F g=.bool c)(hb:c = !want):rE l N F false (Option.some (j,want)):=.some hn hg hv (by cases want<;>simp[hb])
theorem rE.Sg{l:List Oper}{j g:Nat}{want:Bool}(hn:(nth l j).bind (·.dst)=Option.some g)(hg:g<N)(hv:F g=Go.undef):rE l N F false (Option.some (j,want)):=.undef hn hg hv rfl
theorem rE.wanted{l:List Oper}{b:Bool}{o:Oper}(h:rE l N F b o.guard){a:Act}(ha:qX E N F a):Region.wanted o (yielded l.toArray a.tmps)=b:=by
 generalize e:o.guard=g at h;cases h with
 |none h=>simp[Region.wanted,e,h]
 |some hn hg hv hb=>simp[Region.wanted,e,PJ hn hg hv ha,←hb]
 | @undef j g want hn hg hv hb =>
  have hy:yielded l.toArray a.tmps j=Option.none:=by
   unfold yielded;rw[←eX,hn];have h3:=ha.get g;rw[hv,aBy,aCm (by rw[ha.size];exact hg)] at h3;simp only[aBe] at h3;simp[aCm (show g<a.tmps.size by rw[ha.size];exact hg),h3,Go.undef]
  simp[Region.wanted,e,hy,hb]
theorem wT{c:List PanicEntry}{a:Act}{d:Option Nat}{v:Value}{w:World}(h:lift N E Q (.panic c) (a.put d v) w):lift N E Q (.panic c) a w:=by
 cases d<;>exact h
theorem LQ{i z:Nat}(h:(!Nat.beq i z)=true):i≠z:=by
 rintro rfl;rw[aFw] at h;cases h
section
variable {z:Nat}
theorem Dr.first{i:Nat}{todo:Td}{l:List Oper}{Hk:List aL}{o:Oper}{d:Nat}{v:Value}(hi:nth l i=some o)(hod:o.dst=some d)(hd:d<N)(hy:∀a,qX E N F a→YieldsIf P l.toArray (St E Hk) o v a)(h:Dr P N E z l Q Hk todo (pT F d v) H):Dr P N E z l Q Hk (.one i false todo) F H:=by
 refine⟨λlisted a u hcl hs hc ha hu hk=>?_⟩;simp only[sO,cond_false,aAv] at hc;refine LD ((eX l i).symm.trans hi) (aQw hs) (λc a w h=>wT h) hc.1.1.2 (LQ hc.1.2) _ _ _ _ hcl (Region.free_spec ((eX l i).symm.trans hi) hc.1.1.1.1) (by simpa using hc.1.1.1.2) (hy a ha) hk ?_;rw[hod];exact h.get _ _ u (hcl.set (by simpa using hc.1.1.1.2)) hs hc.2 (ha.put hd v) hu hk
theorem Dr.take{i:Nat}{todo:Td}{l:List Oper}{Hk:List aL}{d:Nat}{op:Op}{ty:TypeId}{pos:String}{af:Array Edge}{gd:Option (Nat×Bool)}{v:Value}(hi:nth l i=some ⟨some d,op,ty,pos,af,gd⟩)(hd:d<N)(hg:rE l N F true gd)
  (hy:qB P E Hk (ev F) ⟨some d,op,ty,pos,af,gd⟩ v) (h:Dr P N E z l Q Hk todo (pT F d v) H):Dr P N E z l Q Hk (.one i false todo) F H :=
 Dr.first hi rfl hd (λa ha=>.inl ⟨hg.wanted (o:=⟨some d,op,ty,pos,af,gd⟩) ha,λu hu=>by rw[ha.eval];exact hy u hu⟩) h
theorem Dr.skip{i:Nat}{todo:Td}{l:List Oper}{Hk:List aL}{d:Nat}{op:Op}{ty:TypeId}{pos:String}{af:Array Edge}{gd:Option (Nat×Bool)}(hi:nth l i=some ⟨some d,op,ty,pos,af,gd⟩)(hd:d<N)(hg:rE l N F false gd)
  (h:Dr P N E z l Q Hk todo (pT F d undef) H):Dr P N E z l Q Hk (.one i false todo) F H :=
 Dr.first hi rfl hd (λ_a ha=>.inr ⟨hg.wanted (o:=⟨some d,op,ty,pos,af,gd⟩) ha,rfl⟩) h
structure zL(P:Program)(N:Nat)(E:Env)(z:Nat)(l:List Oper)(Q:QF)(Hk:List aL)(i:Nat)(todo:Td)(F:Nat→Value)(H:List aL):Prop where
 get:∀(listed:Array Bool) (a:Act) (u:World),kX l (listed.setIfInBounds i true)→Region.noSelect l.toArray=true→sO l z (listed.setIfInBounds i true) todo=true→qX E N F a→St E H u→St E Hk u→wpOp P l.toArray (lift N E Q) i (λa' w'=>(i≠z→St E Hk w'∧Rp P l (lift N E Q) (St E Hk) z todo.len (listed.setIfInBounds i true) a' w')∧(i=z→wpAny P .any l.toArray (lift N E Q) todo.len (listed.setIfInBounds i true) a' w')) a u
theorem Dr.all{i:Nat}{todo:Td}{l:List Oper}{Hk:List aL}(h:zL P N E z l Q Hk i todo F H):Dr P N E z l Q Hk (.one i true todo) F H:=by
 refine⟨λlisted a u hcl hs hc ha hu hk=>?_⟩;simp only[sO,cond_true,aAv,beq_iff_eq] at hc;refine⟨λh0=>absurd (hc.1▸h0) (by simp),?_⟩;rw[hc.1];intro j hj;obtain rfl:j=i:=by simpa using hj
 exact h.get _ a u (hcl.set (by rw[hc.1];simp)) hs hc.2 ha hu hk
theorem Dr.two{i j:Nat}{s t:Td}{l:List Oper}{Hk:List aL}(h1:zL P N E z l Q Hk i s F H)(h2:zL P N E z l Q Hk j t F H):Dr P N E z l Q Hk (.two i s j t) F H:=by
 refine⟨λlisted a u hcl hs hc ha hu hk=>?_⟩;simp only[sO,aAv,beq_iff_eq] at hc;obtain⟨⟨⟨hr,hlen⟩,hc1⟩,hc2⟩:=hc;have hlen:=aCz hlen;refine⟨λh0=>absurd (hr▸h0) (by simp),?_⟩;rw[hr];intro m hm;rcases aEj.1 hm with rfl|hm
 ·exact h1.get _ a u (hcl.set (by rw[hr];simp)) hs hc1 ha hu hk
 ·obtain rfl:m=j:=by simpa using hm
  have:=h2.get _ a u (hcl.set (by rw[hr];simp)) hs hc2 ha hu hk;rw[←hlen] at this;exact this
theorem zL.go{i:Nat}{todo:Td}{l:List Oper}{Hk:List aL}{d:Option Nat}{op:Op}{ty:TypeId}{pos:String}{af:Array Edge}{gd:Option (Nat×Bool)}(hi:nth l i=some ⟨d,op,ty,pos,af,gd⟩)(hd:∀k,d=some k→k<N)(hg:rE l N F true gd)
  (h:gK P N E F H ⟨d,op,ty,pos,af,gd⟩ λv H'=>aB E H' Hk∧Dr P N E z l Q Hk todo (DJ F d v) H'):zL P N E z l Q Hk i todo F H:=by
 refine⟨λlisted a u hcl hs hc ha hu hk=>?_⟩;have hi':l.toArray[i]?=some _:=(eX l i).symm.trans hi;unfold wpOp;simp only[hi',hg.wanted (o:=⟨d,op,ty,pos,af,gd⟩) ha,if_true];refine .inl (h a u ha hu _ _ ?_);rintro v H' u' ⟨hc2,hA⟩ hu';have hgo:=hA.get (listed.setIfInBounds i true) (a.put d v) u' hcl hs hc ?_ hu' (hc2 u' hu')
 ·exact⟨λ_=>⟨hc2 u' hu',hgo⟩,λ_=>BB _ _ _ _ hgo⟩
 cases d with
 |none=>exact ha
 |some k=>exact ha.put (hd k rfl) v
theorem Dr.go{i:Nat}{todo:Td}{l:List Oper}{Hk:List aL}{d:Option Nat}{op:Op}{ty:TypeId}{pos:String}{af:Array Edge}{gd:Option (Nat×Bool)}(hi:nth l i=some ⟨d,op,ty,pos,af,gd⟩)(hd:∀k,d=some k→k<N)(hg:rE l N F true gd)
  (h:gK P N E F H ⟨d,op,ty,pos,af,gd⟩ λv H'=>aB E H' Hk∧Dr P N E z l Q Hk todo (DJ F d v) H'):Dr P N E z l Q Hk (.one i true todo) F H:=Dr.all (zL.go hi hd hg h)
theorem zL.Aw{i:Nat}{todo:Td}{l:List Oper}{Hk:List aL}{d:Option Nat}{op:Op}{ty:TypeId}{pos:String}{af:Array Edge}{gd:Option (Nat×Bool)}{K:Value→List aL→Prop}(hi:nth l i=some ⟨d,op,ty,pos,af,gd⟩)(hd:∀k,d=some k→k<N)(hg:rE l N F true gd)
  (h:gK P N E F H ⟨d,op,ty,pos,af,gd⟩ K) (hk:∀v H',K v H'→aB E H' Hk∧Dr P N E z l Q Hk todo (DJ F d v) H'):zL P N E z l Q Hk i todo F H :=
 zL.go hi hd hg λa u ha hu Kw Q' hK=>h a u ha hu Kw Q' λv H' u' hq hu'=>hK v H' u' (hk v H' hq) hu'
theorem Dr.Aw{i:Nat}{todo:Td}{l:List Oper}{Hk:List aL}{d:Option Nat}{op:Op}{ty:TypeId}{pos:String}{af:Array Edge}{gd:Option (Nat×Bool)}{K:Value→List aL→Prop}(hi:nth l i=some ⟨d,op,ty,pos,af,gd⟩)(hd:∀k,d=some k→k<N)(hg:rE l N F true gd)
  (h:gK P N E F H ⟨d,op,ty,pos,af,gd⟩ K) (hk:∀v H',K v H'→aB E H' Hk∧Dr P N E z l Q Hk todo (DJ F d v) H'):Dr P N E z l Q Hk (.one i true todo) F H :=
 Dr.go hi hd hg λa u ha hu Kw Q' hK=>h a u ha hu Kw Q' λv H' u' hq hu'=>hK v H' u' (hk v H' hq) hu'
theorem Dr.WZ{l:List Oper}{Hk:List aL}{d:Option Nat}{op:Op}{ty:TypeId}{pos:String}{af:Array Edge}{gd:Option (Nat×Bool)}{K:Value→List aL→Prop}(hi:nth l z=some ⟨d,op,ty,pos,af,gd⟩)(hd:∀k,d=some k→k<N)(hg:rE l N F true gd)
  (h:gK P N E F H ⟨d,op,ty,pos,af,gd⟩ K) (hk:∀v H',K v H'→Q .normal (DJ F d v) H'):Dr P N E z l Q Hk (.one z true .nil) F H:=by
 refine Dr.all ⟨λlisted a u hcl hs hc ha hu hk2=>?_⟩;have hi':l.toArray[z]?=some _:=(eX l z).symm.trans hi;unfold wpOp;simp only[hi',hg.wanted (o:=⟨d,op,ty,pos,af,gd⟩) ha,if_true];refine .inl (h a u ha hu _ _ ?_);intro v H' u' hA hu';refine⟨λhz=>absurd rfl hz,λ_=>⟨by simpa [sO] using hc,_,H',?_,hu',hk v H' hA⟩⟩;cases d with
 |none=>exact ha
 |some k=>exact ha.put (hd k rfl) v
theorem Dr.Ht{i:Nat}{todo:Td}{l:List Oper}{Hk:List aL}{d:Nat}{op:Op}{ty:TypeId}{pos:String}{af:Array Edge}{gd:Option (Nat×Bool)}(hi:nth l i=some ⟨some d,op,ty,pos,af,gd⟩)(hd:d<N)(hg:rE l N F false gd)
  (h:Dr P N E z l Q Hk todo (pT F d undef) H):Dr P N E z l Q Hk (.one i true todo) F H:=by
 refine Dr.all ⟨λlisted a u hcl hs hc ha hu hk=>?_⟩;have hi':l.toArray[i]?=some _:=(eX l i).symm.trans hi;unfold wpOp;simp only[hi',hg.wanted (o:=⟨some d,op,ty,pos,af,gd⟩) ha];have hgo:=h.get _ _ u hcl hs hc (ha.put hd undef) hu hk;exact⟨λ_=>⟨hk,hgo⟩,λ_=>BB _ _ _ _ hgo⟩
theorem Dr.done{l:List Oper}{Hk:List aL}(h:Q .normal F H):Dr P N E z l Q Hk .nil F H :=
 ⟨λlisted _ _ _ _ hc ha hu _=>⟨by simpa [sO] using hc,F,H,ha,hu,h⟩⟩
structure FU(P:Program)(N:Nat)(E:Env)(z:Nat)(l:List Oper)(Q:QF)(todo:Td)(F:Nat→Value)(H:List aL):Prop where
 get:∀listed a u,sO l z listed todo=true→qX E N F a→St E H u→wpAny P .any l.toArray (lift N E Q) todo.len listed a u
theorem Dr.Iq{todo:Td}{l:List Oper}{Hk:List aL}{d:Option Nat}{op:Op}{ty:TypeId}{pos:String}{af:Array Edge}{gd:Option (Nat×Bool)}{K:Value→List aL→Prop}(hi:nth l z=some ⟨d,op,ty,pos,af,gd⟩)(hd:∀k,d=some k→k<N)(hg:rE l N F true gd)
  (h:gK P N E F H ⟨d,op,ty,pos,af,gd⟩ K) (hk:∀v H',K v H'→FU P N E z l Q todo (DJ F d v) H'):Dr P N E z l Q Hk (.one z true todo) F H:=by
 refine Dr.all ⟨λlisted a u hcl hs hc ha hu hk2=>?_⟩;have hi':l.toArray[z]?=some _:=(eX l z).symm.trans hi;unfold wpOp;simp only[hi',hg.wanted (o:=⟨d,op,ty,pos,af,gd⟩) ha,if_true];refine .inl (h a u ha hu _ _ ?_);intro v H' u' hA hu';refine⟨λhz=>absurd rfl hz,λ_=>(hk v H' hA).get _ _ u' hc ?_ hu'⟩;cases d with
 |none=>exact ha
 |some k=>exact ha.put (hd k rfl) v
theorem FU.take{i:Nat}{todo:Td}{l:List Oper}{d:Nat}{op:Op}{ty:TypeId}{pos:String}{af:Array Edge}{gd:Option (Nat×Bool)}{v:Value}(hi:nth l i=some ⟨some d,op,ty,pos,af,gd⟩)(hd:d<N)(hg:rE l N F true gd)
  (hy:qB P E H (ev F) ⟨some d,op,ty,pos,af,gd⟩ v) (h:FU P N E z l Q todo (pT F d v) H):FU P N E z l Q (.one i true todo) F H:=by
 refine⟨λlisted a u hc ha hu=>?_⟩;simp only[sO,cond_true,aAv,beq_iff_eq] at hc;refine⟨λh0=>absurd (hc.1▸h0) (by simp),?_⟩;rw[hc.1];intro j hj;obtain rfl:j=i:=by simpa using hj
 have hi':l.toArray[j]?=some _:=(eX l j).symm.trans hi;unfold wpOp;simp only[hi',hg.wanted (o:=⟨some d,op,ty,pos,af,gd⟩) ha,if_true];refine .inl ?_;unfold Oper.wp;rw[ha.eval,hy u hu];exact h.get _ _ u hc.2 (ha.put hd v) hu
theorem FU.done{l:List Oper}(h:Q .normal F H):FU P N E z l Q .nil F H :=
 ⟨λlisted _ _ hc ha hu=>⟨by simpa [sO] using hc,F,H,ha,hu,h⟩⟩
end
end
section
variable {P:Program} {ρ:Operand→Value} {o:Oper} {u:World}
theorem V.move{x:Operand}{v:Value}(ho:o.op=.move x)(hv:ρ x=v):(execOp ρ o).run P u=.ok (.value v) u:=by simp[execOp,ho,hv]
theorem V.assign{x:Operand}{v:Value}(ho:o.op=.assign x)(hv:ρ x=v):(execOp ρ o).run P u=.ok (.value v) u:=by simp[execOp,ho,hv]
theorem V.Xv{c x y:Operand}{b:Bool}{v:Value}(ho:o.op=.pick c x y)(hc:ρ c=.bool b)(hb:b=true)(hv:ρ x=v):(execOp ρ o).run P u=.ok (.value v) u:=by simp[execOp,ho,hc,hb,hv,asBool]
theorem V.YI{c x y:Operand}{b:Bool}{v:Value}(ho:o.op=.pick c x y)(hc:ρ c=.bool b)(hb:b=false)(hv:ρ y=v):(execOp ρ o).run P u=.ok (.value v) u:=by simp[execOp,ho,hc,hb,hv,asBool]
theorem V.extract{t:Operand}{i:Nat}{vs:Array Value}{v:Value}(ho:o.op=.extract t i)(ht:ρ t=.tuple vs)(hv:vs[i]?=some v):(execOp ρ o).run P u=.ok (.value v) u:=by simp[execOp,ho,ht,Instr.extract,hv]
theorem V.nilCheck{x:Operand}{a:Addr}(ho:o.op=.nilCheck x)(hx:ρ x=.pointer (some a)):(execOp ρ o).run P u=.ok (.value (.pointer (some a))) u:=by simp[execOp,ho,hx]
theorem V.not{t:TypeId}{x:Operand}{b:Bool}(ho:o.op=.unOp .not t x)(hx:ρ x=.bool b):(execOp ρ o).run P u=.ok (.value (.bool (!b))) u:=by simp[execOp,ho,hx,Op.unary]
section ints
variable {x y:Operand} {t t':TypeId} {k:IntKind} {a b c:Int}
theorem V.add(ho:o.op=.binOp .add t x y t')(hx:ρ x=.int k a)(hy:ρ y=.int k b)(hr:k.wrap (a+b)=c):(execOp ρ o).run P u=.ok (.value (.int k c)) u:=by simp[execOp,ho,hx,hy,eqGuard,binOp,Op.intArith,hr]
theorem V.sub(ho:o.op=.binOp .sub t x y t')(hx:ρ x=.int k a)(hy:ρ y=.int k b)(hr:k.wrap (a - b)=c):(execOp ρ o).run P u=.ok (.value (.int k c)) u:=by simp[execOp,ho,hx,hy,eqGuard,binOp,Op.intArith,hr]
theorem V.mul(ho:o.op=.binOp .mul t x y t')(hx:ρ x=.int k a)(hy:ρ y=.int k b)(hr:k.wrap (a*b)=c):(execOp ρ o).run P u=.ok (.value (.int k c)) u:=by simp[execOp,ho,hx,hy,eqGuard,binOp,Op.intArith,hr]
theorem V.quo(ho:o.op=.binOp .quo t x y t')(hx:ρ x=.int k a)(hy:ρ y=.int k b)(hb:b≠0)(hr:k.wrap (a.tdiv b)=c):(execOp ρ o).run P u=.ok (.value (.int k c)) u:=by simp[execOp,ho,hx,hy,eqGuard,binOp,Op.intDiv,hb,hr]
theorem V.rem(ho:o.op=.binOp .rem t x y t')(hx:ρ x=.int k a)(hy:ρ y=.int k b)(hb:b≠0)(hr:a.tmod b=c):(execOp ρ o).run P u=.ok (.value (.int k c)) u:=by simp[execOp,ho,hx,hy,eqGuard,binOp,Op.intDiv,hb,hr]
theorem V.lss(ho:o.op=.binOp .lss t x y t')(hx:ρ x=.int k a)(hy:ρ y=.int k b):(execOp ρ o).run P u=.ok (.value (.bool (decide (a<b)))) u:=by simp[execOp,ho,hx,hy,eqGuard,binOp,Op.intCmp]
theorem V.leq(ho:o.op=.binOp .leq t x y t')(hx:ρ x=.int k a)(hy:ρ y=.int k b):(execOp ρ o).run P u=.ok (.value (.bool (decide (a≤b)))) u:=by simp[execOp,ho,hx,hy,eqGuard,binOp,Op.intCmp]
theorem V.gtr(ho:o.op=.binOp .gtr t x y t')(hx:ρ x=.int k a)(hy:ρ y=.int k b):(execOp ρ o).run P u=.ok (.value (.bool (decide (b<a)))) u:=by simp[execOp,ho,hx,hy,eqGuard,binOp,Op.intCmp]
theorem V.geq(ho:o.op=.binOp .geq t x y t')(hx:ρ x=.int k a)(hy:ρ y=.int k b):(execOp ρ o).run P u=.ok (.value (.bool (decide (b≤a)))) u:=by simp[execOp,ho,hx,hy,eqGuard,binOp,Op.intCmp]
theorem V.eql(ho:o.op=.binOp .eql t x y t')(hx:ρ x=.int k a)(hy:ρ y=.int k b):(execOp ρ o).run P u=.ok (.value (.bool (decide (a=b)))) u:=by
 have:decide (a=b)=(a == b):=by rw[aBz];simp
 simp[execOp,ho,hx,hy,eqGuard,binOp,Op.intCmp,this]
theorem V.neq(ho:o.op=.binOp .neq t x y t')(hx:ρ x=.int k a)(hy:ρ y=.int k b):(execOp ρ o).run P u=.ok (.value (.bool (decide (a≠b)))) u:=by
 have:decide (a≠b)=(a != b):=by rw[aBz];simp
 simp[execOp,ho,hx,hy,eqGuard,binOp,Op.intCmp,this]
theorem V.Wc{op:BinOp}(ho:o.op=.binOp op t x y t')(hop:op=.and∨op=.or∨op=.xor∨op=.andNot)(hx:ρ x=.int k a)(hy:ρ y=.int k b)(hr:Go.bits op k a b=c):(execOp ρ o).run P u=.ok (.value (.int k c)) u:=by
 rcases hop with rfl|rfl|rfl|rfl<;>simp[execOp,ho,hx,hy,eqGuard,binOp,Op.intBits,Go.bits] at hr⊢ <;> exact hr
theorem V.shl{k2:IntKind}(ho:o.op=.binOp .shl t x y t')(hx:ρ x=.int k a)(hy:ρ y=.int k2 b)(hb:0≤b)(hr:k.wrap (a*2 ^ min b.toNat k.bits)=c):(execOp ρ o).run P u=.ok (.value (.int k c)) u:=by
 simp[execOp,ho,hx,hy,eqGuard,binOp,shift_shl_any _ _ _ _ hb,hr]
theorem V.shr{k2:IntKind}(ho:o.op=.binOp .shr t x y t')(hx:ρ x=.int k a)(hy:ρ y=.int k2 b)(hb:0≤b)(hr:a / 2 ^ min b.toNat k.bits=c):(execOp ρ o).run P u=.ok (.value (.int k c)) u:=by
 simp[execOp,ho,hx,hy,eqGuard,binOp,shift_shr_any _ _ _ _ hb,hr]
theorem V.neg(ho:o.op=.unOp .neg t x)(hx:ρ x=.int k a)(hr:k.wrap (-a)=c):(execOp ρ o).run P u=.ok (.value (.int k c)) u:=by
 simp[execOp,ho,hx,Op.unary,Op.intArith,hr]
theorem V.conv{k2:IntKind}{s:TypeDesc}(ho:o.op=.convert t t' x)(hx:ρ x=.int k2 a)(hs:P.underlying t=some s)(hd:P.underlying t'=some (.int k))(hr:k.wrap a=c):(execOp ρ o).run P u=.ok (.value (.int k c)) u:=by
 simp[execOp,ho,hx,convert,run_underlying hs,run_underlying hd,Conv.intToInt,hr]
end ints
theorem run_equalIn_bool(d:Nat){t:TypeId}(ht:P.underlying t=some .bool)(a b:Bool):(Op.equalIn (d+1) t (.bool a) (.bool b)).run P u=.ok (a == b) u:=by
 simp[Op.equalIn,run_underlying ht]
theorem run_eql_bool{t:TypeId}(ht:P.underlying t=some .bool)(a b:Bool):(binOp .eql t (.bool a) (.bool b)).run P u=.ok (.bool (a == b)) u:=by
 simp only[binOp];simp[Op.equal,Op.maxDepth,run_equalIn_bool 9999 ht]
theorem run_neq_bool{t:TypeId}(ht:P.underlying t=some .bool)(a b:Bool):(binOp .neq t (.bool a) (.bool b)).run P u=.ok (.bool (!(a == b))) u:=by
 simp only[binOp];simp[Op.equal,Op.maxDepth,run_equalIn_bool 9999 ht]
theorem V.ZY{x y:Operand}{t t':TypeId}{a b:Bool}(ho:o.op=.binOp .eql t x y t')(ht:P.underlying t=some .bool)(hx:ρ x=.bool a)(hy:ρ y=.bool b):(execOp ρ o).run P u=.ok (.value (.bool (a == b))) u:=by
 have h:=run_eql_bool (u:=u) ht a b;simp only[execOp,ho,hx,hy,eqGuard];simp[h]
theorem V.Zb{x y:Operand}{t t':TypeId}{a b:Bool}(ho:o.op=.binOp .neq t x y t')(ht:P.underlying t=some .bool)(hx:ρ x=.bool a)(hy:ρ y=.bool b):(execOp ρ o).run P u=.ok (.value (.bool (!(a == b)))) u:=by
 have h:=run_neq_bool (u:=u) ht a b;simp only[execOp,ho,hx,hy,eqGuard];simp[h]
theorem V.Zq{x y:Operand}{t t':TypeId}{a b:List UInt8}(ho:o.op=.binOp .neq t x y t')(hx:ρ x=.string (T0 a))(hy:ρ y=.string (T0 b)):(execOp ρ o).run P u=.ok (.value (.bool (decide (a≠b)))) u:=by
 have e:(a == b)=decide (a=b):=by rw[aBz];simp
 simp[execOp,ho,hx,hy,eqGuard,binOp_string_neq,Ci,e]
theorem vH(d:Nat){t e:TypeId}(ht:P.underlying t=some (.pointer e))(a:Option Addr):(Op.equalIn (d+1) t (.pointer a) (.pointer none)).run P u=.ok a.isNone u:=by
 cases a<;>simp[Op.equalIn,run_underlying ht]
theorem Gx{t e:TypeId}(ht:P.underlying t=some (.pointer e))(a:Option Addr):(binOp .neq t (.pointer a) (.pointer none)).run P u=.ok (.bool a.isSome) u:=by
 simp only[binOp];cases a<;>simp[Op.equal,Op.maxDepth,vH 9999 ht]
theorem Fb{t e:TypeId}(ht:P.underlying t=some (.pointer e))(a:Option Addr):(binOp .eql t (.pointer a) (.pointer none)).run P u=.ok (.bool a.isNone) u:=by
 simp only[binOp];cases a<;>simp[Op.equal,Op.maxDepth,vH 9999 ht]
theorem V.Z0{x y:Operand}{t t' e:TypeId}{a:Option Addr}(ho:o.op=.binOp .neq t x y t')(ht:P.underlying t=some (.pointer e))(hx:ρ x=.pointer a)(hy:ρ y=.pointer none):(execOp ρ o).run P u=.ok (.value (.bool a.isSome)) u:=by
 have h:=Gx (u:=u) ht a;simp only[execOp,ho,hx,hy,eqGuard];simp[h]
theorem V.Zv{x y:Operand}{t t' e:TypeId}{a:Option Addr}(ho:o.op=.binOp .eql t x y t')(ht:P.underlying t=some (.pointer e))(hx:ρ x=.pointer a)(hy:ρ y=.pointer none):(execOp ρ o).run P u=.ok (.value (.bool a.isNone)) u:=by
 have h:=Fb (u:=u) ht a;simp only[execOp,ho,hx,hy,eqGuard];simp[h]
theorem V.len{x:Operand}{t e:TypeId}{A:Option Addr}{n m:Nat}(ho:o.op=.call { callee:=.builtin .len,args:=#[x],argTypes:=#[t] })(ht:P.underlying t=some (.slice e))(hx:ρ x=.slice A n m)(hn:n≤maxLen):(execOp ρ o).run P u=.ok (.value (.int .i64 n)) u:=by
 have h:IntKind.i64.wrap (n:Int)=n:=aAq _ (by unfold maxLen at hn;omega);simp[execOp,ho,resolve,hx,invoke,builtin,Builtin.len_,run_underlying ht,goInt]
theorem V.fieldAddr{s:TypeId}{x:Operand}{i q:Nat}{fs:Array Field}{f:Field}{a b:Addr}{ti:TypeInfo}(ho:o.op=.fieldAddr s x i)(hx:ρ x=.pointer (some a))(hs:P.underlying s=some (.struct fs))(hf:fs[i]?=some f)(hi:P.info? f.type=some ti)(hz:ti.size≠0)(hq:f.offset=q)(hb:a.add q=b) :
  (execOp ρ o).run P u=.ok (.value (.pointer (some b))) u:=by
 simp[execOp,ho,hx,Instr.fieldAt,run_underlying hs,hf,Instr.sureAddr,fieldPlace,sizeOf,typeInfo,hi,hz,hq,hb]
theorem V.indexAddr{t e:TypeId}{x i:Operand}{a b:Addr}{n c:Nat}{k:IntKind}{j:Int}{ti:TypeInfo}(ho:o.op=.indexAddr t x i)(hx:ρ x=.slice (some a) n c)(hi:ρ i=.int k j)(ht:P.underlying t=some (.slice e))(he:P.info? e=some ti)(h0:0≤j)(h1:j<n){m q:Nat}(hj:j.toNat=m)(hq:ti.size=q)(hb:a.add (m*q)=b) :
  (execOp ρ o).run P u=.ok (.value (.pointer (some b))) u:=by
 simp[execOp,ho,hx,hi,Instr.indexAt,asIntOf,run_underlying ht,sizeOf,typeInfo,he,h0,h1,hj,hq,hb]
theorem V.load{t:TypeId}{x:Operand}{a:Addr}{v:Value}{d:TypeDesc}(ho:o.op=.load t x)(hx:ρ x=.pointer (some a))(ht:P.underlying t=some d)(hd:(d matches .struct _ | .array _ _)=false)(hc:u.cell? a=some v):(execOp ρ o).run P u=.ok (.value v) u:=by
 cases d<;>simp at hd<;>simp[execOp,ho,hx,Instr.loadAt,Instr.sureAddr,loadVar,isAgg,run_underlying ht,hc]
theorem V.slice{t e:TypeId}{x:Operand}{lo hi mx:Option Operand}{A:Option Addr}{n c:Nat}{v:Value}(ho:o.op=.slice t x lo hi mx)(hx:ρ x=.slice A n c)(ht:P.underlying t=some (.slice e))
  (hv:(Instr.slice t (.slice A n c) (lo.map ρ) (hi.map ρ) (mx.map ρ)).run P u=.ok v u):(execOp ρ o).run P u=.ok (.value v) u:=by
 simp[execOp,ho,hx,Instr.sliceAt,run_underlying ht,hv]
theorem S.from_{t e:TypeId}{A:Option Addr}{n c j:Nat}{k:IntKind}{i:Int}{ti:TypeInfo}(ht:P.underlying t=some (.slice e))(he:P.info? e=some ti)(hi:i=j)(hj:j≤n)(_hc:n≤c) :
  (Instr.slice t (.slice A n c) (some (.int k i)) none none).run P u=.ok (.slice (if c=j then A else A.map (·.add (j*ti.size))) (n - j) (c - j)) u:=by
 subst hi;simp[Instr.slice,Instr.sliceBounds,Instr.sliceBound,asIntOf,run_underlying ht,sizeOf,typeInfo,he,hj];try (intro h;omega)
theorem S.upto{t e:TypeId}{A:Option Addr}{n c j:Nat}{k:IntKind}{i:Int}{ti:TypeInfo}(ht:P.underlying t=some (.slice e))(he:P.info? e=some ti)(hi:i=j)(hj:j≤c) :
  (Instr.slice t (.slice A n c) none (some (.int k i)) none).run P u=.ok (.slice A j c) u:=by
 subst hi;have e:(if c=0 then A else Option.map (λx=>x.add 0) A)=A:=by cases A<;>simp[Addr.add]
 simp[Instr.slice,Instr.sliceBounds,Instr.sliceBound,asIntOf,run_underlying ht,sizeOf,typeInfo,he,hj,e]
theorem S.both{t e:TypeId}{A:Option Addr}{n c j m:Nat}{k k2:IntKind}{i i2:Int}{ti:TypeInfo}(ht:P.underlying t=some (.slice e))(he:P.info? e=some ti)(hi:i=j)(hi2:i2=m)(hj:j≤m)(hm:m≤c) :
  (Instr.slice t (.slice A n c) (some (.int k i)) (some (.int k2 i2)) none).run P u=.ok (.slice (if c=j then A else A.map (·.add (j*ti.size))) (m - j) (c - j)) u:=by
 subst hi hi2;simp[Instr.slice,Instr.sliceBounds,Instr.sliceBound,asIntOf,run_underlying ht,sizeOf,typeInfo,he,hj,hm]
theorem V.convert{t t':TypeId}{x:Operand}{vx v:Value}(ho:o.op=.convert t t' x)(hx:ρ x=vx)(h:(Go.convert t t' vx).run P u=.ok v u):(execOp ρ o).run P u=.ok (.value v) u:=by
 simp[execOp,ho,hx,h]
theorem V.box{t:TypeId}{x:Operand}{v:Value}(ho:o.op=.box t x)(hx:ρ x=v):(execOp ρ o).run P u=.ok (.value (.pointer (some ⟨u.heap.size,0,none⟩))) (u.alloc (.cells v.cells t)):=by
 simp[execOp,ho,hx,Instr.box,newVar,newRow]
end
section
variable {P:Program} {N:Nat} {E:Env} {F:Nat→Value} {H H' R:List aL} {ρ:Operand→Value} {o:Oper} {K:Value→List aL→Prop}
theorem V.Y5{x y:Operand}{t t':TypeId}{k k2:IntKind}{a c:Int}{u:World}(ho:o.op=.binOp .shl t x y t')(hx:ρ x=.int k a)(hy:ρ y=.int k2 8)(hr:k.wrap (a*256)=c):(execOp ρ o).run P u=.ok (.value (.int k c)) u:=by
 refine V.shl ho hx hy o_ ?_;subst hr;cases k<;>first|rfl|(simp[IntKind.bits])
theorem V.max{x y:Operand}{tys:Array TypeId}{k:IntKind}{a b:Int}{u:World}(ho:o.op=.call { callee:=.builtin .max,args:=#[x,y],argTypes:=tys })(hx:ρ x=.int k a)(hy:ρ y=.int k b):(execOp ρ o).run P u=.ok (.value (.int k (Max.max a b))) u:=by
 have e:(if b > a then b else a)=Max.max a b:=by rw[Int.max_def];split<;>split<;>omega
 have h:=run_max_int2 (P:=P) (w:=u) tys o.type k k a b;rw[e] at h;simp[execOp,ho,resolve,hx,hy,invoke,builtin,h]
theorem V.min{x y:Operand}{tys:Array TypeId}{k:IntKind}{a b:Int}{u:World}(ho:o.op=.call { callee:=.builtin .min,args:=#[x,y],argTypes:=tys })(hx:ρ x=.int k a)(hy:ρ y=.int k b):(execOp ρ o).run P u=.ok (.value (.int k (Min.min a b))) u:=by
 have e:(if b<a then b else a)=Min.min a b:=by rw[Int.min_def];split<;>split<;>omega
 have h:=run_min_int2 (P:=P) (w:=u) tys o.type k k a b;rw[e] at h;simp[execOp,ho,resolve,hx,hy,invoke,builtin,h]
theorem Y.load{t:TypeId}{x:Operand}{a:Addr}{v:Value}{d:TypeDesc}(ho:o.op=.load t x)(hx:ρ x=.pointer (some a))(ht:P.underlying t=some d)(hd:lT d=false)(hc:Cell E H a v):qB P E H ρ o v :=
 λu hu=>V.load ho hx ht (by cases d<;>first|rfl|cases hd) (hc u hu)
theorem sS{t:TypeId}{a:Addr}{vs:List Value}{d:TypeDesc}{ti:TypeInfo}{u:World}(ht:P.underlying t=some d)(hd:lT d=true)(hi:P.info? t=some ti)(hs:ti.size=vs.length)
  (hc:∀j v,vs[j]?=some v→u.cell? (a.add j)=some v):(loadVar t a).run P u=.ok (.agg vs.toArray) u:=by
 have hl:=run_loadCells_list (P:=P) u a vs hc;cases d<;>simp[lT] at hd<;>simp[loadVar,isAgg,run_underlying ht,sizeOf,typeInfo,hi,hs,hl]
theorem Y.xE{t:TypeId}{x:Operand}{a:Addr}{vs:List Value}{d:TypeDesc}{ti:TypeInfo}(ho:o.op=.load t x)(hx:ρ x=.pointer (some a))(ht:P.underlying t=some d)(hd:lT d=true)(hi:P.info? t=some ti)(hs:ti.size=vs.length)
  (hc:Cells E H a vs):qB P E H ρ o (.agg vs.toArray):=by
 intro u hu;have h:=sS (u:=u) ht hd hi hs (hc u hu);simp[execOp,ho,hx,Instr.loadAt,Instr.sureAddr,h]
section
variable {α:Type} {T:Ty α} {A:Option Addr} {n c:Nat} {l:List α}
theorem Y.Nt{x:Operand}{t:TypeId}{k q:Nat}{e:α}(ho:o.op=.load t x)(hx:ρ x=.pointer (some ((ad A).add q)))(h:kV E H T A n c l)(he:l[k]?=some e)(hq:q=k*T.size)(ht:T.tid=t):qB prog E H ρ o (T.val e):=by
 subst hq ht;have hi:=T.fW;cases hj:prog.info? T.tid with
 |none=>simp[hj] at hi
 |some ti =>
  simp[hj] at hi;rcases T.nR with⟨h1,h2⟩|⟨h1,h2⟩
  ·obtain⟨d,hd,hm⟩:=aGg.1 h1;obtain⟨cs,hcs⟩:=h2 e;have:=Y.xE (P:=prog) (E:=E) (H:=H) ho hx hd hm hj (vs:=T.enc e) (by rw[T.dR];exact hi.2.1) (Cells.elem h he rfl);have e2:Value.agg (T.enc e).toArray=T.val e:=by simp[Ty.enc,hcs,Value.cells]
   rwa [e2] at this
  ·obtain⟨d,hd,hm⟩:=aGg.1 h1;have hv:(T.enc e)[0]?=some (T.val e):=by
    have:=h2 e;unfold Ty.enc;cases hq:T.val e<;>simp[hq,Value.oneCell',Value.cells] at this⊢
   exact Y.load ho hx hd hm (Cell.Tw h he rfl hv)
theorem Y.indexAddr{t:TypeId}{x i:Operand}{k:IntKind}{j:Int}{m:Nat}{e:α}(ho:o.op=.indexAddr t x i)(hx:ρ x=.slice A n c)(hi:ρ i=.int k j)(h:kV E H T A n c l)(hj:j.toNat=m)(h0:0≤j)(he:l[m]?=some e)(ht:prog.underlying t=some (.slice T.tid)){q:Nat}(hq:m*T.size=q) :
  qB prog E H ρ o (.pointer (some ((ad A).add q))):=by
 subst hq;intro u hu;obtain⟨h1,h2,h3,h4⟩:=h u hu;have hk:=(aAd.1 he).1;have hinf:=T.fW;cases hq:prog.info? T.tid with
 |none=>simp[hq] at hinf
 |some ti =>
  simp[hq] at hinf;rcases h4 with h4|⟨a,rfl,_⟩
  ·omega
  ·exact V.indexAddr ho hx hi ht hq h0 o_ hj hinf.2.1 rfl
theorem Y.len{x:Operand}{t:TypeId}(ho:o.op=.call { callee:=.builtin .len,args:=#[x],argTypes:=#[t] })(hx:ρ x=.slice A n c)(h:kV E H T A n c l)(ht:prog.underlying t=some (.slice T.tid)):qB prog E H ρ o (.int .i64 n):=by
 intro u hu;obtain⟨_,h1,h2,_⟩:=h u hu;exact V.len ho ht hx (aBw h1 h2)
theorem Ty.jA(T:Ty α):∃ti,prog.info? T.tid=some ti∧ti.zero=some T.zero∧ti.size=T.size∧ti.bytes=T.bytes:=by
 have hi:=T.fW;cases hj:prog.info? T.tid with
 |none=>simp[hj] at hi
 |some ti=>simp[hj] at hi;exact⟨ti,rfl,hi.1,hi.2.1,hi.2.2⟩
theorem Y.TG{t:TypeId}{x lo:Operand}{k:IntKind}{i:Int}{j:Nat}(ho:o.op=.slice t x (some lo) none none)(hx:ρ x=.slice A n c)(hlo:ρ lo=.int k i)(h:kV E H T A n c l)(hj:i.toNat=j)(h0:0≤i)(hjn:j≤n)(ht:prog.underlying t=some (.slice T.tid)) :
  qB prog E H ρ o (.slice (if c=j then A else A.map (·.add (j*T.size))) (n - j) (c - j)):=by
 intro u hu;subst hj;obtain⟨_,h1,h2,_⟩:=h u hu;obtain⟨ti,hi,_,hsz,_⟩:=T.jA;have h0n:i.toNat≤n↔i≤n:=o_;simp[execOp,ho,hx,Instr.sliceAt,Instr.slice,Instr.sliceBounds,Instr.sliceBound,asIntOf,run_underlying ht,sizeOf,typeInfo,hi,hlo,h0,h0n.1 hjn,hsz];try (intro h;omega)
theorem Y.Se{t:TypeId}{x hi:Operand}{k:IntKind}{i:Int}{j:Nat}(ho:o.op=.slice t x none (some hi) none)(hx:ρ x=.slice A n c)(hhi:ρ hi=.int k i)(h:kV E H T A n c l)(hj:i.toNat=j)(h0:0≤i)(hjn:j≤n)(ht:prog.underlying t=some (.slice T.tid)) :
  qB prog E H ρ o (.slice A j c):=by
 intro u hu;subst hj;obtain⟨_,h1,h2,_⟩:=h u hu;obtain⟨ti,hi,_,hsz,_⟩:=T.jA;have e:(if c=0 then A else Option.map (λx=>x.add 0) A)=A:=by cases A<;>simp[Addr.add]
 have h0n:i≤c:=o_;simp[execOp,ho,hx,Instr.sliceAt,Instr.slice,Instr.sliceBounds,Instr.sliceBound,asIntOf,run_underlying ht,sizeOf,typeInfo,hi,hhi,h0,h0n,e]
theorem Y.IV{t:TypeId}{x hi mx:Operand}{k k2:IntKind}{i i2:Int}{j m:Nat}(ho:o.op=.slice t x none (some hi) (some mx))(hx:ρ x=.slice A n c)(hhi:ρ hi=.int k i)(hmx:ρ mx=.int k2 i2)(h:kV E H T A n c l)(hj:i.toNat=j)(h0:0≤i)(hm:i2.toNat=m)(h02:0≤i2)(hjm:j≤m)(hjn:m≤n)(ht:prog.underlying t=some (.slice T.tid)) :
  qB prog E H ρ o (.slice A j m):=by
 intro u hu;subst hj hm;obtain⟨_,h1,h2,_⟩:=h u hu;obtain⟨ti,hi,_,hsz,_⟩:=T.jA;have e:Option.map (λx=>x.add 0) A=A:=by cases A<;>simp[Addr.add]
 have h0n:i2≤c:=o_;have h0m:i≤i2:=o_;have e2:max i2 0=i2:=o_;simp[execOp,ho,hx,Instr.sliceAt,Instr.slice,Instr.sliceBounds,Instr.sliceBound,asIntOf,run_underlying ht,sizeOf,typeInfo,hi,hhi,hmx,h0,h02,h0n,h0m,e,e2]
theorem Y.LX{t:TypeId}{x lo hi:Operand}{k k2:IntKind}{i i2:Int}{j m:Nat}(ho:o.op=.slice t x (some lo) (some hi) none)(hx:ρ x=.slice A n c)(hlo:ρ lo=.int k i)(hhi:ρ hi=.int k2 i2)(h:kV E H T A n c l)(hj:i.toNat=j)(h0:0≤i)(hm:i2.toNat=m)(h02:0≤i2)(hjm:j≤m)(hjn:m≤n)(ht:prog.underlying t=some (.slice T.tid)) :
  qB prog E H ρ o (.slice (if c=j then A else A.map (·.add (j*T.size))) (m - j) (c - j)):=by
 intro u hu;subst hj hm;obtain⟨_,h1,h2,_⟩:=h u hu;obtain⟨ti,hi,_,hsz,_⟩:=T.jA;have h0n:i2≤c:=o_;have h0m:i≤i2:=o_;have e2:max i2 0=i2:=o_;simp[execOp,ho,hx,Instr.sliceAt,Instr.slice,Instr.sliceBounds,Instr.sliceBound,asIntOf,run_underlying ht,sizeOf,typeInfo,hi,hlo,hhi,h0,h02,h0n,h0m,hsz,e2]
end
theorem Y.Vt{s:TypeId}{x:Operand}{i:Nat}{fs:Array Field}{f:Field}{cs:Array Value}{d:TypeDesc}{v:Value}(ho:o.op=.field s x i)(hx:ρ x=.agg cs)(hs:P.underlying s=some (.struct fs))(hf:fs[i]?=some f)
  (ht:P.underlying f.type=some d) (hd:lT d=false) (hv:cs[f.offset]?=some v):qB P E H ρ o v:=by
 intro u _;cases d<;>simp[lT] at hd<;>simp[execOp,ho,hx,Instr.field,run_underlying hs,hf,asAgg,part,isAgg,run_underlying ht,hv]
structure Rec(P:Program)(t:TypeId)(z:List Value)(pl:List (Nat×Nat)):Prop where
 zero:((P.info? t).bind (·.zero)).map (·.cells.toList)=some z
 Iu:(match P.underlying t with|some (.struct fields)=>fields.toList.mapM (λf=>(P.info? f.type).map λi=>(f.offset,i.size))|_=>none)=some pl
def xG:List Value→Nat→List Value→List Value
 |cs,_,[]=>cs
 | [],_,_=>[]
 |_::cs,0,v::vs=>v::xG cs 0 vs
 |c::cs,k+1,vs=>c::xG cs k vs
def ED(pl:List (Nat×Nat))(z:List Value):List (Nat×Value)→Option (List Value)
 | []=>some z
 | (i,v)::rest=>match pl[i]? with
  |none=>none
  |some (off,size)=>bif Nat.beq v.cells.toList.length size&&Nat.ble (off+v.cells.toList.length) z.length then ED pl (xG z off v.cells.toList) rest else none
theorem BN:∀(cs:List Value) (k:Nat) (vs:List Value),k+vs.length≤cs.length→xG cs k vs=cs.take k++vs++cs.drop (k+vs.length)
 |cs,k,[],_=>by cases cs<;>simp[xG]
 | [],k,v::vs,h=>by simp at h
 |c::cs,0,v::vs,h=>by rw[xG,BN cs 0 vs (by simp at h⊢;omega)];simp[aEs]
 |c::cs,k+1,v::vs,h=>by
  have e0:xG (c::cs) (k+1) (v::vs)=c::xG cs k (v::vs):=by simp[xG]
  rw[e0,BN cs k (v::vs) (by simp at h⊢;omega)];rw[show k+1+(v::vs).length=(k+(v::vs).length)+1 by omega];simp
theorem CO(pl:List (Nat×Nat)):∀(parts:List (Nat×Value)) (z:Array Value) (out:List Value),ED pl z.toList parts=some out→Instr.fill (pl.toArray[·]?) z parts=some out.toArray
 | [],z,out,h=>by simp[ED] at h;subst h;simp[Instr.fill]
 | (i,v)::rest,z,out,h=>by
  unfold ED at h;cases hp:pl[i]? with
  |none=>simp[hp] at h
  |some q =>
   obtain⟨off,size⟩:=q;simp only[hp] at h;cases hc:(Nat.beq v.cells.toList.length size&&Nat.ble (off+v.cells.toList.length) z.toList.length) with
   |false=>rw[hc] at h;cases h
   |true =>
    rw[hc,cond_true] at h;rw[aAv] at hc;have h1:v.cells.toList.length=size:=aCz hc.1;have h2:off+v.cells.toList.length≤z.toList.length:=Nat.le_of_ble_eq_true hc.2;rw[BN _ _ _ h2] at h;have hf:∀(cs:List Value) (j:Nat) (acc:Array Value),off+j+cs.length≤acc.size→((cs.zipIdx j).foldl (λcs (x:Value×Nat)=>cs.setIfInBounds (off+x.2) x.1) acc).toList=acc.toList.take (off+j)++cs++acc.toList.drop (off+j+cs.length):=by
     intro cs
     induction cs with
     |nil=>intro j acc _;simp
     |cons c cs ih =>
      intro j acc hl;simp only[aAs] at hl;rw[List.zipIdx_cons,aFj,ih (j+1) _ (by simp;omega)];simp only[Array.toList_setIfInBounds,aAs];have e:=list_seg_step acc.toList (off+j) c cs (by simp;omega);simpa [aDv] using e
    have h3:=hf v.cells.toList 0 z (by simpa using h2);have h4:=CO pl rest (v.cells.zipIdx.foldl (λcs (x:Value×Nat)=>cs.setIfInBounds (off+x.2) x.1) z) out (by
     rw[←Array.foldl_toList,Array.toList_zipIdx,h3];simpa using h)
    rw[Instr.fill];simp only[List.getElem?_toArray,hp];rw[if_neg (by simp at h1 h2⊢;omega)];simpa using h4
def pv(ρ:Operand→Value):List (Nat×Operand)→List (Nat×Value)
 | []=>[]
 | (i,x)::l=>(i,ρ x)::pv ρ l
theorem KY(ρ:Operand→Value):∀l:List (Nat×Operand),(l.toArray.map λ(i,x)=>(i,ρ x)).toList=pv ρ l
 | []=>by simp[pv]
 | (i,x)::l=>by have:=KY ρ l;simp[pv] at this⊢;exact this
inductive PV(ρ:Operand→Value):List (Nat×Operand)→List (Nat×Value)→Prop
 |nil:PV ρ [] []
 |cons {i:Nat} {x:Operand} {v:Value} {l:List (Nat×Operand)} {vs:List (Nat×Value)} (h:ρ x=v) (t:PV ρ l vs):PV ρ ((i,x)::l) ((i,v)::vs)
theorem PV.eq{ρ:Operand→Value}{l:List (Nat×Operand)}{vs:List (Nat×Value)}(h:PV ρ l vs):pv ρ l=vs:=by
 induction h with
 |nil=>rfl
 |cons h _ ih=>rw[pv,h,ih]
inductive NL:Value→List Value→Prop
 |agg {l:List Value}:NL (.agg l.toArray) l
 |one {v:Value} (h:v.oneCell'=true):NL v [v]
theorem NL.eq{v:Value}{l:List Value}(h:NL v l):v.cells.toList=l:=by
 cases h with
 |agg=>simp[Value.cells]
 |one h=>cases v<;>first|rfl|cases h
inductive Kg:List Value→Nat→List Value→List Value→Prop
 |done {cs:List Value}:Kg cs 0 [] cs
 |aN {c v:Value} {cs vs out:List Value} (h:Kg cs 0 vs out):Kg (c::cs) 0 (v::vs) (v::out)
 |next {c:Value} {cs vs out:List Value} {k:Nat} (h:Kg cs k vs out):Kg (c::cs) (k+1) vs (c::out)
theorem Kg.eq{z:List Value}{k:Nat}{vs out:List Value}(h:Kg z k vs out):k+vs.length≤z.length∧xG z k vs=out:=by
 induction h with
 |done=>simp[xG]
 |aN h ih=>exact⟨by have:=ih.1;simp at this⊢;omega,by rw[xG,ih.2]⟩
 | @next c cs vs out k h ih =>
  refine⟨by have:=ih.1;simp at this⊢;omega,?_⟩;rw[←ih.2];cases vs with
  |nil=>simp[xG]
  |cons v vs=>simp[xG]
inductive OP(pl:List (Nat×Nat)):List Value→List (Nat×Value)→List Value→Prop
 |nil {z:List Value}:OP pl z [] z
 |cons {z z' cs out:List Value} {i off size:Nat} {v:Value} {rest:List (Nat×Value)} (h:pl[i]?=some (off,size)) (hc:NL v cs) (hp:Kg z off cs z') (hs:cs.length=size) (t:OP pl z' rest out):OP pl z ((i,v)::rest) out
theorem OP.eq{pl:List (Nat×Nat)}{z out:List Value}{vs:List (Nat×Value)}(h:OP pl z vs out):ED pl z vs=some out:=by
 induction h with
 |nil=>rfl
 |cons h hc hp hs t ih =>
  rw[ED,h];simp only;rw[hc.eq,show Nat.beq _ _=true from(by subst hs;exact aFw _),show Nat.ble _ _=true from Nat.ble_eq_true_of_le hp.eq.1];simp only[Bool.and_self,cond_true];rw[hp.eq.2,ih]
theorem Y.build{t:TypeId}{parts:List (Nat×Operand)}{vs:List (Nat×Value)}{z:List Value}{pl:List (Nat×Nat)}{cells:List Value}(ho:o.op=.build t parts.toArray)(hp:PV ρ parts vs)(hr:Rec P t z pl)(hb:OP pl z vs cells):qB P E H ρ o (.agg cells.toArray):=by
 intro u _;have hb:=hb.eq;have hp:=hp.eq;subst hp;have h1:=hr.zero;have h2:=hr.Iu;have:P.built t (parts.toArray.map λ(i,x)=>(i,ρ x)).toList=some cells.toArray:=by
  rw[KY];unfold Program.built;cases hi:P.info? t with
  |none=>simp[hi] at h1
  |some ti =>
   cases hz:ti.zero with
   |none=>simp[hi,hz] at h1
   |some zv =>
    simp[hi,hz] at h1;cases hu:P.underlying t with
    |none=>simp[hu] at h2
    |some d =>
     cases d<;>simp[hu] at h2
     simp only[hz,h2];exact CO pl _ _ _ (by rw[h1];exact hb)
 have hrun:=run_build u t _ cells.toArray this;simp only[execOp,ho,aAy];rw[hrun];rfl
theorem S.box{t:TypeId}{x:Operand}{v:Value}{cs:List Value}(ho:o.op=.box t x)(hx:ev F x=v)(hcs:NL v cs)(h:∀g,K (.pointer (some ⟨g,0,none⟩)) (aJ g t cs::H)):gK P N E F H o K:=by
 intro a u ha hu Kw Q' hK;unfold Oper.wp;rw[ha.eval,V.box (u:=u) ho hx];refine hK _ _ _ (h u.heap.size) ?_;refine hu.grow (l:=[aJ u.heap.size t cs]) rfl rfl rfl (by simp) (λb hb=>aDu _ _ _ hb) (F1:=λb=>b=u.heap.size) ⟨_,λ_=>False,λb=>by simp,λb _ h=>h,⟨λb=>aDl,?_⟩,λb h=>h⟩ (λb hb=>by omega);rw[heap_alloc_new,←hcs.eq]
theorem run_storeVar_row{t:TypeId}{g q:Nat}{v:Value}{ti:TypeInfo}{u:World}{cur:Array Value}{e:TypeId}(hi:P.info? t=some ti)(hs:v.cells.size=ti.size)(h1:∀x∈v.cells.toList,x.oneCell'=true)(hg:u.heap[g]?=some (.cells cur e (0,0)))(hq:q+v.cells.size≤cur.size) :
  (storeVar t ⟨g,q,none⟩ v).run P u=.ok () (u.setRow g (cur.toList.take q++v.cells.toList++cur.toList.drop (q+v.cells.size)).toArray):=by
 have:=run_storeCells_at P g q e v.cells.toList 0 cur u hg (by simpa using hq) h1;simp[storeVar,sizeOf,typeInfo,hi,hs] at this⊢;exact this
theorem St.setRow{u:World}(hu:St E H u){a b:aL}(hr:dT a [b] H H')(g:Nat)(cs:Array Value)(ha:∀F1,a.holds F1 u→F1 g∧b.holds F1 (u.setRow g cs)):St E H' (u.setRow g cs):=by
 refine hu.jX hr rfl rfl rfl (by simp) (G:=λk=>k=g) (λk _ hk=>setRow_other u g k cs hk) λF1 h1=>?_;obtain⟨h2,h3⟩:=ha F1 h1;exact⟨F1,⟨F1,λ_=>False,λb=>by simp,λ_ _ h=>h,h3,λ_ h=>h⟩,λb hb=>.inl hb,λb _ hb=>by rw[hb];exact h2⟩
theorem S.store{t:TypeId}{x y:Operand}{g i:Nat}{v:Value}{ti:TypeInfo}{bt:TypeId}{cs cs':List Value}(ho:o.op=.store t x y)(hx:ev F x=.pointer (some ⟨g,i,none⟩))(hy:ev F y=v)(h1:∀x∈v.cells.toList,x.oneCell'=true)(hi:P.info? t=some ti)(hs:v.cells.size=ti.size)
  (hr:dT (aJ g bt cs) [aJ g bt cs'] H H') (hq:i+v.cells.size≤cs.length) (hcs:cs.take i++v.cells.toList++cs.drop (i+v.cells.size)=cs') (h:K undef H'):gK P N E F H o K:=by
 intro a u ha hu Kw Q' hK;have hh:u.heap[g]?=some (.cells cs.toArray bt (0,0)):=by
  obtain⟨F0,h0,_⟩:=hu.fp;have:∀ {H H':List aL} {F0},dT (aJ g bt cs) [aJ g bt cs'] H H'→cT H F0 u→u.heap[g]?=some (.cells cs.toArray bt (0,0)):=by
   intro H H' F0 hr
   induction hr generalizing F0 with
   |aN=>rintro⟨F1,F2,_,_,⟨_,h⟩,_⟩;exact h
   |aM _ ih=>rintro⟨F1,F2,_,_,_,h⟩;exact ih h
  exact this hr h0
 have hst:=run_storeVar_row (u:=u) (q:=i) hi hs h1 hh (by simpa using hq);unfold Oper.wp;rw[ha.eval];have hrun:(execOp (ev F) o).run P u=.ok .skip (u.setRow g cs'.toArray):=by
  simp only[] at hst;rw[hcs] at hst;simp[execOp,ho,hx,hy,Instr.storeAt,Instr.sureAddr,hst]
 rw[hrun];refine hK undef _ _ h (St.setRow hu hr g _ λF1 ⟨k1,k2⟩=>⟨(k1 _).2 rfl,k1,?_⟩);exact setRow_heap u g _ _ _ _ hh
section
variable {α:Type} {T:Ty α} {A:Option Addr} {n c:Nat} {l:List α}
theorem zC{F1:Nat→Prop}{u:World}(hc:c≠0)(h:(own T A n c l).holds F1 u):u.ownsRow 0 T.tid T.size (.slice A n c) n (T.bT l)∧(∀b,F1 b↔Value.ownBlock (.slice A n c)=some b):=by
 obtain⟨h0,⟨_,h,_⟩|⟨g,cur,rfl,hF,hh,h1,h2,h3,h4⟩⟩:=h
 ·exact absurd h hc
 ·exact⟨⟨by rw[T.bM,←h0],.inr ⟨g,c,cur,rfl,aAh _,hh,h1,h2,h3,h4⟩⟩,λb=>by simp[Value.ownBlock,hF b,eq_comm]⟩
theorem Az{t ty:TypeId}{X:Option Addr}{nx cx:Nat}{u:World}(ht:prog.underlying t=some (.slice T.tid))(A:Option Addr)(h0:nx=0):(Builtin.append_ #[t,t] ty #[.slice A 0 0,.slice X nx cx]).run prog u=.ok (.slice A 0 0) u:=by
 subst h0;obtain⟨ti,hi,hz,hsz,hbt⟩:=T.jA;have hl:∀a:Addr,(loadCells a 0).run prog u=.ok #[] u:=λa=>run_loadCells_list (P:=prog) u a [] (λj v h=>by simp at h);cases A<;>cases X<;>simp[Builtin.append_,run_underlying ht,sizeOf,typeInfo,hi,Builtin.lenOf,Builtin.firstCells,storeCells,hl]
theorem Aq{t ty:TypeId}{X:Option Addr}{nx cx:Nat}{u:World}(ht:prog.underlying t=some (.slice T.tid))(A:Option Addr)(h0:nx≠0)(hn0:nx≤140737488355328)(hb:nx*T.bytes≤140737488355328):(Builtin.append_ #[t,t] ty #[.slice A 0 0,.slice X nx cx]).run prog u=(Builtin.append_ #[t,t] ty #[.slice none 0 0,.slice X nx cx]).run prog u:=by
 obtain⟨ti,hi,hz,hsz,hbt⟩:=T.jA;have hl:∀(a:Addr) (w:World),(loadCells a 0).run prog w=.ok #[] w:=λa w=>run_loadCells_list (P:=prog) w a [] (λj v h=>by simp at h);have h2:¬((9223372036854775807:Int)<nx∧ti.bytes=0):=o_;have h3:(Question.appendCap nx 0 T.tid).forced=false:=rfl;have hn:Builtin.nextslicecap nx 0=nx:=by unfold Builtin.nextslicecap;rw[if_pos o_]
 have h1:¬(281474976710656<nx*ti.bytes):=by rw[hbt];omega
 cases A with
 |none=>rfl
 |some a =>
  simp[Builtin.append_,run_underlying ht,sizeOf,typeInfo,hi,Builtin.lenOf,Builtin.firstCells,h0,hn,h1,h2,h3,hl]
theorem Cc{u:World}(h0:n=l.length)(h:u.ownsRow 0 T.tid T.size (.slice A n c) n (T.bT l)):(own T A n c l).holds (λb=>Value.ownBlock (.slice A n c)=some b) u:=by
 obtain⟨_,⟨hv,hz⟩|⟨g,cap,cur,hv,_,hh,h1,h2,h3,h4⟩⟩:=h
 ·injection hv with a b d
  subst a;subst d;exact⟨h0,.inl ⟨hz,rfl,λb hb=>by simp[Value.ownBlock] at hb⟩⟩
 ·injection hv with a b d
  subst a;subst d;exact⟨h0,.inr ⟨g,cur,rfl,λb=>by simp[Value.ownBlock,eq_comm],hh,h1,h2,h3,h4⟩⟩
theorem dT.has{a:aL}{l:List aL}(h:dT a l H H'):∃R,Has a H R:=by
 induction h with
 |aN=>exact⟨_,.aN⟩
 |aM _ ih=>obtain⟨R,h⟩:=ih;exact⟨_,.aM h⟩
theorem S.append_{s x:Operand}{t:TypeId}{X:Option Addr}{nx cx:Nat}{l2:List α}(ho:o.op=.call { callee:=.builtin .append,args:=#[s,x],argTypes:=#[t,t] })
  (hs:ev F s=.slice A n c) (hx:ev F x=.slice X nx cx) {HX:Option Addr→Nat→List aL} (hr:∀A' c',dT (own T A n c l) [own T A' (n+nx) c' (l++l2)] H (HX A' c')) (hrd:kV E H T X nx cx l2) (ht:prog.underlying t=some (.slice T.tid)) {by_:Nat} (hbb:T.bytes=by_) (hlen:n+nx≤140737488355328) (hby:(n+nx)*by_≤140737488355328)
  (h:∀A' c',n+nx≤c'→c'≤maxLen→K (.slice A' (n+nx) c') (HX A' c')):gK prog N E F H o K:=by
 subst hbb;intro a u ha hu Kw Q' hK;obtain⟨R,hhas⟩:=(hr none 0).has;obtain⟨F0,h0,_⟩:=hu.has hhas;have hn:=h0.1;obtain⟨ti,hi,hz,hsz,hbt⟩:=T.jA;obtain⟨k0,k1,k2,k3⟩:=hrd u hu;have hncap:=(qE h0).2.1;have hreads:Reads u u.heap.size T.size X nx (T.bT l2):=⟨by rw[T.bM,←k0],λgL=>by
  rcases k3 with k3|⟨ad,e,hc⟩
  ·omega
  ·refine⟨ad,e,?_,hc⟩;have hl:0<(T.bT l2).length:=by rw[T.bM,←k0];exact Nat.mul_pos gL T.gL
   have:=aEk _ _ (hc 0 _ (aAa hl))
   rwa [eQ] at this⟩
 by_cases hc0:c=0
 ·subst hc0;obtain rfl:n=0:=o_;obtain rfl:l=[]:=aBi hn.symm;by_cases hx0:nx=0
  ·subst hx0;obtain rfl:l2=[]:=aBi k0.symm;have hrun:=Az (T:=T) (ty:=o.type) (X:=X) (cx:=cx) (u:=u) ht A rfl;unfold Oper.wp;rw[ha.eval];have hx2:(execOp (ev F) o).run prog u=.ok (.value (.slice A 0 0)) u:=by
    unfold execOp;simp only[ho,resolve,invoke,builtin,aAy,aCc,aAr,aEb,aCi,aDo,hs,hx,hrun]
   rw[hx2];refine hK _ _ _ (h A 0 (aAf _) (aAh _)) ?_;exact hu.jX (hr A 0) rfl rfl rfl (aAf _) (G:=λ_=>False) (λ_ _ _=>rfl) λF1 h1=>⟨λ_=>False,⟨λ_=>False,λ_=>False,λb=>by simp,λ_ h=>h.elim,⟨rfl,.inl ⟨rfl,rfl,λ_ h=>h⟩⟩,λ_ h=>h⟩,λb hb=>hb.elim,λb _ hb=>hb.elim⟩
  ·obtain⟨v',w',hrun,hown',hg,hb⟩:=oF u 0 t o.type T.tid ti T.zero T.size T.bytes ht hi hz hsz hbt T.hzero T.gL (.slice none 0 0) 0 [] (World.ownsRow_nil u 0 _ _) u.heap.size X nx cx (T.bT l2) hreads (T.kS _) (by unfold maxLen;omega) hby (aAh _)
   rw[←Aq (T:=T) ht A hx0 o_ (by rw[aCa] at hby;exact hby)] at hrun;obtain⟨A',c',rfl⟩:∃A' c',v'=.slice A' (0+nx) c':=by
    rcases hown'.2 with⟨rfl,h0⟩|⟨g,cap,cur,rfl,_⟩
    ·omega
    ·exact⟨_,_,rfl⟩
   have hO:=Cc (T:=T) (A:=A') (n:=0+nx) (c:=c') (l:=l2) (by rw[aCa];exact k0) hown';have hcap:=qE hO;unfold Oper.wp;rw[ha.eval];have hx2:(execOp (ev F) o).run prog u=.ok (.value (.slice A' (0+nx) c')) w':=by
    unfold execOp;simp only[ho,resolve,invoke,builtin,aAy,aCc,aAr,aEb,aCi,aDo,hs,hx,hrun]
   rw[hx2];refine hK _ _ _ (h A' c' hcap.2.1 hcap.2.2.1) ?_;refine hu.jX (hr A' c') hg.os hg.tape hg.output hg.size (G:=λ_=>False) (λb hlt _=>hg.block b hlt (by simp[Value.ownBlock])) λF1 h1=>?_;refine⟨λb=>Value.ownBlock (.slice A' (0+nx) c')=some b,⟨λb=>Value.ownBlock (.slice A' (0+nx) c')=some b,λ_=>False,λb=>by simp,λ_ _ h=>h,by rw[aBq];exact hO,λ_ h=>h⟩,λb hbb=>?_,λb _ hG=>hG.elim⟩;rcases hb with hb|hb
   ·rw[hb] at hbb;simp[Value.ownBlock] at hbb
   ·right
    have:some b=some u.heap.size:=by rw[←hbb,hb]
    injection this with this;omega
 obtain⟨hown,_⟩:=zC hc0 h0;have key:∃v' w',(Builtin.append_ #[t,t] o.type #[.slice A n c,.slice X nx cx]).run prog u=.ok v' w'∧w'.ownsRow 0 T.tid T.size v' (n+nx) (T.bT l++T.bT l2)∧u.grownBy w' (Value.ownBlock (.slice A n c)) ∧
   (v'.ownBlock=Value.ownBlock (.slice A n c)∨v'.ownBlock=some u.heap.size):=by
  exact oF u 0 t o.type T.tid ti T.zero T.size T.bytes ht hi hz hsz hbt T.hzero T.gL _ n _ hown u.heap.size X nx cx (T.bT l2) hreads (T.kS _) (by unfold maxLen;omega) hby (aAh _)
 obtain⟨v',w',hrun,hown',hg,hb⟩:=key;obtain⟨A',c',rfl⟩:∃A' c',v'=.slice A' (n+nx) c':=by
  rcases hown'.2 with⟨rfl,h0⟩|⟨g,cap,cur,rfl,_⟩
  ·exact⟨none,0,by rw[h0]⟩
  ·exact⟨_,_,rfl⟩
 have hown2:w'.ownsRow 0 T.tid T.size (.slice A' (n+nx) c') (n+nx) (T.bT (l++l2)):=by rw[T.iU];exact hown'
 have hO:=Cc (T:=T) (l:=l++l2) (by rw[aAe,hn,k0]) hown2;have hcap:=qE hO;unfold Oper.wp;rw[ha.eval];have hx2:(execOp (ev F) o).run prog u=.ok (.value (.slice A' (n+nx) c')) w':=by
  unfold execOp;simp only[ho,resolve,invoke,builtin,aAy,aCc,aAr,aEb,aCi,aDo,hs,hx,hrun]
 rw[hx2];refine hK _ _ _ (h A' c' hcap.2.1 hcap.2.2.1) ?_;refine hu.jX (hr A' c') hg.os hg.tape hg.output hg.size (G:=λb=>Value.ownBlock (.slice A n c)=some b) (λb hlt hne=>hg.block b hlt (λe=>hne e.symm)) λF1 h1=>?_;obtain⟨_,hF⟩:=zC hc0 h1;refine⟨λb=>Value.ownBlock (.slice A' (n+nx) c')=some b,⟨λb=>Value.ownBlock (.slice A' (n+nx) c')=some b,λ_=>False,λb=>by simp,λ_ _ h=>h,hO,λ_ h=>h⟩,λb hbb=>?_,λb _ hG=>(hF b).2 hG⟩;rcases hb with hb|hb
 ·exact .inl ((hF b).2 (hb▸hbb))
 ·right
  have:some b=some u.heap.size:=by rw[←hbb,hb]
  injection this with this;omega
theorem S.Ot{s x:Operand}{t:TypeId}{X:Option Addr}{nx cx:Nat}{l2:List α}(ho:o.op=.call { callee:=.builtin .append,args:=#[s,x],argTypes:=#[t,t] })
  (hs:ev F s=.slice A n c) (hx:ev F x=.slice X nx cx) {HX:Option Addr→Nat→List aL} (hr:∀A' c',dT (own T A n c l) [own T A' (n+nx) c' (l++l2)] H (HX A' c')) (ht:prog.underlying t=some (.slice T.tid)) {by_:Nat} (hbb:T.bytes=by_) (hlen:n+nx≤140737488355328) (hby:(n+nx)*by_≤140737488355328)
  (h:∀A' c',n+nx≤c'→c'≤maxLen→K (.slice A' (n+nx) c') (HX A' c')):gK prog N E F (own T X nx cx l2::H) o K:=by
 intro a u ha hu Kw Q' hK;exact S.append_ ho hs hx (HX:=λA' c'=>own T X nx cx l2::HX A' c') (K:=λv H'=>∃H2,H'=own T X nx cx l2::H2∧K v H2) (λA' c'=>.aM (hr A' c')) (kV.own .aN) ht hbb hlen hby (λA' c' h1 h2=>⟨_,rfl,h A' c' h1 h2⟩) a u ha hu Kw Q' λv H' u' ⟨H2,e,hk⟩ hu'=>hK v H2 u' hk (by subst e;exact hu'.right (l:=[own T X nx cx l2]))
theorem S.append{s x:Operand}{t:TypeId}{X:Option Addr}{nx cx n':Nat}{l2 l':List α}(ho:o.op=.call { callee:=.builtin .append,args:=#[s,x],argTypes:=#[t,t] })
  (hs:ev F s=.slice A n c) (hx:ev F x=.slice X nx cx) (hn':n+nx=n') {HX:Option Addr→Nat→List aL} (hr:∀A' c',dT (own T A n c l) [own T A' n' c' l'] H (HX A' c')) (hrd:kV E H T X nx cx l2) (hl':l++l2=l') (ht:prog.underlying t=some (.slice T.tid)) {by_:Nat} (hbb:T.bytes=by_) (hlen:n'≤140737488355328) (hby:n'*by_≤140737488355328)
  (h:∀A' c',n'≤c'→c'≤maxLen→K (.slice A' n' c') (HX A' c')):gK prog N E F H o K:=by
 subst hn' hl';exact S.append_ ho hs hx hr hrd ht hbb hlen hby h
theorem S.SS{s x:Operand}{t:TypeId}{X:Option Addr}{nx cx n':Nat}{l2 l':List α}(ho:o.op=.call { callee:=.builtin .append,args:=#[s,x],argTypes:=#[t,t] })
  (hs:ev F s=.slice A n c) (hx:ev F x=.slice X nx cx) {H0:List aL} (hH:H0=own T X nx cx l2::H) (hn':n+nx=n') {HX:Option Addr→Nat→List aL} (hr:∀A' c',dT (own T A n c l) [own T A' n' c' l'] H (HX A' c')) (hl':l++l2=l') (ht:prog.underlying t=some (.slice T.tid)) {by_:Nat} (hbb:T.bytes=by_) (hlen:n'≤140737488355328) (hby:n'*by_≤140737488355328)
  (h:∀A' c',n'≤c'→c'≤maxLen→K (.slice A' n' c') (HX A' c')):gK prog N E F H0 o K:=by
 subst hn' hl' hH;exact S.Ot ho hs hx hr ht hbb hlen hby h
theorem S.Lj{s x:Operand}{t:TypeId}{X:Option Addr}{nx cx:Nat}{l2:List α}(ho:o.op=.call { callee:=.builtin .append,args:=#[s,x],argTypes:=#[t,t] })
  (hs:ev F s=.slice none 0 0) (hx:ev F x=.slice X nx cx) (hrd:kV E H T X nx cx l2) (ht:prog.underlying t=some (.slice T.tid)) {by_:Nat} (hbb:T.bytes=by_) (hlen:nx≤140737488355328) (hby:nx*by_≤140737488355328)
  (h:∀A' c',nx≤c'→c'≤maxLen→K (.slice A' nx c') (own T A' nx c' l2::H)):gK prog N E F H o K:=by
 have hc:aB E H (own T none 0 0 []::H):=λw hw=>by
  have:=hw.grow (l:=[own T none 0 0 []]) rfl rfl rfl (aAf _) (λ_ _=>rfl) (F1:=λ_=>False) ⟨λ_=>False,λ_=>False,λb=>by simp,λ_ h=>h.elim,⟨rfl,.inl ⟨rfl,rfl,λ_ h=>h⟩⟩,λ_ h=>h⟩ (λ_ h=>h.elim);exact this
 refine gK.conv hc (S.append_ (T:=T) (l2:=l2) (l:=[]) ho hs hx (HX:=λA' c'=>own T A' (0+nx) c' ([]++l2)::H) (λA' c'=>dT.aN) (λw hw=>hrd w (hw.right (l:=[own T none 0 0 []]))) ht hbb o_ (by rw[aCa];exact hby) ?_);intro A' c' h1 h2;rw[aCa] at h1⊢;exact h A' c' h1 h2
theorem Df{sz:Nat}:∀(vs:List Value) (k:Nat) (cells:Array Value),(∀v∈vs,v.cells.size=sz)→k*sz+vs.length*sz=cells.size →
  ∃out,Instr.fill (λi=>some (i*sz,sz)) cells (vs.zipIdx k |>.map λp=>(p.2,p.1))=some out∧out.toList=cells.toList.take (k*sz)++vs.flatMap (λv=>v.cells.toList)
 | [],k,cells,_,h=>⟨cells,rfl,by simp at h⊢;rw[aAj (by simp;omega)]⟩
 |v::vs,k,cells,hv,h=>by
  have h1:=hv v (by simp);have hsum:(vs.length+1)*sz=vs.length*sz+sz:=by rw[aDb,aDq]
  have hk1:(k+1)*sz=k*sz+sz:=by rw[aDb,aDq]
  rw[aAs,hsum] at h;have h2:k*sz+v.cells.size≤cells.size:=by rw[h1];omega
  have hf:∀(cs:List Value) (j:Nat) (acc:Array Value),k*sz+j+cs.length≤acc.size→((cs.zipIdx j).foldl (λcs (x:Value×Nat)=>cs.setIfInBounds (k*sz+x.2) x.1) acc).toList=acc.toList.take (k*sz+j)++cs++acc.toList.drop (k*sz+j+cs.length):=by
   intro cs
   induction cs with
   |nil=>intro j acc _;simp
   |cons c cs ih =>
    intro j acc hl;simp only[aAs] at hl;rw[List.zipIdx_cons,aFj,ih (j+1) _ (by simp;omega)];simp only[Array.toList_setIfInBounds,aAs];have e:=list_seg_step acc.toList (k*sz+j) c cs (by simp;omega);simpa [aDv] using e
  have h3:=hf v.cells.toList 0 cells (by simpa using h2);obtain⟨acc,hacc⟩:∃acc,acc=(v.cells.zipIdx.foldl (λcs (x:Value×Nat)=>cs.setIfInBounds (k*sz+x.2) x.1) cells):=⟨_,rfl⟩
  have h4:acc.toList=cells.toList.take (k*sz)++v.cells.toList++cells.toList.drop (k*sz+v.cells.size):=by
   rw[hacc,←Array.foldl_toList,Array.toList_zipIdx];simpa using h3
  have hsz:acc.size=cells.size:=by rw[←aDs,h4];simp;omega
  obtain⟨out,ho,hout⟩:=Df vs (k+1) acc (λx hx=>hv x (by simp[hx])) (by rw[hsz,hk1];omega);refine⟨out,?_,?_⟩
  ·rw[List.zipIdx_cons,aCi,Instr.fill];simp only[h1];rw[if_neg (by rw[h1] at h2;simp[];omega),←hacc];exact ho
  ·rw[hout,aDy,←aAb];congr 1;rw[h4,hk1,aBj (by simp[h1];rw[h1] at h2;omega)]
theorem S.buildSlice{t:TypeId}{m:Nat}{parts0:List (Nat×Operand)}{l:List α}(ho:o.op=.buildSlice t m parts0.toArray)(hp:pv (ev F) parts0=(l.map T.val).zipIdx.map λp=>(p.2,p.1))
  (ht:prog.underlying t=some (.slice T.tid)) (hm:l.length=m) (hbig:m*T.size≤2 ^ 24)
  (h:∀g,K (.slice (some ⟨g,0,none⟩) m m) (own T (some ⟨g,0,none⟩) m m l::H)):gK prog N E F H o K:=by
 subst hm;rw[←KY] at hp;obtain⟨parts,hparts⟩:∃parts,parts=parts0.toArray:=⟨_,rfl⟩
 rw[←hparts] at ho hp;clear hparts;intro a u ha hu Kw Q' hK;obtain⟨ti,hi,hz,hsz,hbt⟩:=T.jA;unfold Oper.wp;rw[ha.eval];have key:∃out:Array Value,(execOp (ev F) o).run prog u=.ok (.value (.slice (some ⟨u.heap.size,0,none⟩) l.length l.length)) (u.alloc (.cells out T.tid))∧out.toList=T.bT l:=by
  by_cases h0:l.length*T.size=0
  ·have hl:l=[]:=by
    rcases Nat.mul_eq_zero.1 h0 with h|h
    ·exact aBi h
    ·have:=T.gL;omega
   subst hl;refine⟨#[],?_,by simp[Ty.bT]⟩;have hp2:parts.map (λ(i,x)=>(i,ev F x))=#[]:=by apply Array.ext';simpa using hp
   simp[execOp,ho,Instr.buildSlice,run_underlying ht,sizeOf,typeInfo,hi,hp2,Instr.fill,newRow,Array.range_zero']
  ·obtain⟨out,ho2,hout⟩:=Df (sz:=T.size) (l.map T.val) 0 ((Array.range (l.length*T.size)).map (λi=>T.zero.cells[i % T.zero.cells.size]!)) (by intro v hv;obtain⟨x,_,rfl⟩:=aFn.1 hv;exact T.hlen x) (by simp);refine⟨out,?_,?_⟩
   ·have h1:¬l.length*T.size > 2 ^ 24:=o_;have hmap:(parts.map λ(i,x)=>(i,ev F x)).toList=((l.map T.val).zipIdx 0).map λp=>(p.2,p.1):=hp;have hs1:(sizeOf T.tid).run prog u=.ok T.size u:=by simp[sizeOf,typeInfo,hi,hsz]
    have hz1:(zeroValue T.tid).run prog u=.ok T.zero u:=by simp[zeroValue,typeInfo,hi,hz]
    simp only[execOp,ho,Instr.buildSlice,aAy,run_underlying ht,aAr,hs1,if_neg h1,if_neg h0,aCc,hz1,hmap,ho2];simp[newRow]
   ·rw[hout];simp[Ty.bT,List.flatMap_map];rfl
 obtain⟨out,hrun,hout⟩:=key;rw[hrun];refine hK _ _ _ (h u.heap.size) ?_;refine hu.grow (l:=[own T (some ⟨u.heap.size,0,none⟩) l.length l.length l]) rfl rfl rfl (by simp) (λb hb=>aDu _ _ _ hb) (F1:=λb=>b=u.heap.size) ⟨_,λ_=>False,λb=>by simp,λb _ h=>h,⟨rfl,.inr ⟨u.heap.size,out,rfl,λb=>aDl,heap_alloc_new _ _,aAf _,?_,?_,?_⟩⟩,λb h=>h⟩ (λb hb=>by omega)
 ·have:l.length*1≤l.length*T.size:=Nat.mul_le_mul_left _ T.gL;unfold maxLen;omega
 ·rw[←aDs,hout,T.bM]
 ·rw[hout,←T.bM];simp
theorem rP{F1:Nat→Prop}{u:World}{g q:Nat}(h:(own T A n c l).holds F1 u)(hA:ad A=⟨g,q,none⟩)(hn:0<n):F1 g∧q=0∧A=some ⟨g,0,none⟩∧∃cur:Array Value,u.heap[g]?=some (.cells cur T.tid (0,0))∧n≤c∧c≤maxLen∧cur.size=c*T.size∧cur.toList.take (n*T.size)=T.bT l:=by
 obtain⟨h0,⟨rfl,rfl,hF⟩|⟨g',cur,rfl,hF,hh,h1,h2,h3,h4⟩⟩:=h
 ·omega
 ·have e:g'=g∧0=q:=by simpa [ad] using hA
  obtain⟨rfl,rfl⟩:=e;exact⟨(hF _).2 rfl,rfl,rfl,cur,hh,h1,h2,h3,h4⟩
theorem S.GX{t:TypeId}{x:Operand}{e:α}{v:Value}(ho:o.op=.buildSlice t 1 #[(0,x)])(hx:ev F x=v)(hv:T.val e=v)
  (ht:prog.underlying t=some (.slice T.tid)) (hbig:1*T.size≤2 ^ 24)
  (h:∀g,K (.slice (some ⟨g,0,none⟩) 1 1) (own T (some ⟨g,0,none⟩) 1 1 [e]::H)):gK prog N E F H o K :=
 S.buildSlice (l:=[e]) (parts0:=[(0,x)]) ho (by simp[pv,hx,hv]) ht rfl hbig h
theorem dT.one{a b:aL}{R:List aL}:dT a [b] (a::R) (b::R):=dT.aN
theorem S.V7{P:Program}{t:TypeId}{x y:Operand}{g i:Nat}{v:Value}{ti:TypeInfo}{bt:TypeId}{cs cs':List Value}(ho:o.op=.store t x y)(hx:ev F x=.pointer (some ⟨g,i,none⟩))(hy:ev F y=v)(h1:v.oneCell'=true)(hi:P.info? t=some ti)(hs:ti.size=1)
  (hr:dT (aJ g bt cs) [aJ g bt cs'] H H') (hq:i<cs.length) (hcs:cs.set i v=cs') (h:K undef H'):gK P N E F H o K:=by
 have hc:v.cells=#[v]:=by cases v<;>first|rfl|cases h1
 refine S.store ho hx hy ?_ hi ?_ hr ?_ ?_ h
 ·rw[hc];intro x hx;simp at hx;subst hx;exact h1
 ·rw[hc,hs];rfl
 ·rw[hc];exact hq
 ·rw[hc,←hcs,aDg,if_pos hq];simp
theorem St.xO{u:World}(hu:St E H u){a b:aL}(hr:dT a [b] H H'):∃R,Has a H R∧∃F1,a.holds F1 u:=by
 obtain⟨R,h⟩:=hr.has;obtain⟨F0,h0,_⟩:=hu.has h;exact⟨R,h,F0,h0⟩
theorem K3{β:Type}(a b c d e f vs:List β)(hv:vs.length=c.length) :
  ((a++(b++(c++(d++(e++f))))).take (a.length+b.length)++vs++(a++(b++(c++(d++(e++f))))).drop (a.length+b.length+vs.length)).take (a.length+b.length+c.length+d.length+e.length) =
   a++(b++vs++d)++e:=by
 rw[hv];have h1:(a++(b++(c++(d++(e++f))))).take (a.length+b.length)=a++b:=by
  rw[←aAb,aBj (by simp)]
 have h2:(a++(b++(c++(d++(e++f))))).drop (a.length+b.length+c.length)=d++(e++f):=by
  rw[←aAb,←aAb,aBu (by simp;omega)]
 rw[h1,h2];have:a++b++vs++(d++(e++f))=(a++(b++vs++d)++e)++f:=by simp
 rw[this,aBj (by simp;omega)]
theorem QI{β:Type}(L vs:List β)(K1:Nat){j S1 N1:Nat}(hj:j+vs.length≤S1)(hS:K1+S1≤N1)(hN:N1≤L.length) :
  (L.take (K1+j)++vs++L.drop (K1+j+vs.length)).take N1=(L.take N1).take K1++((((L.take N1).drop K1).take S1).take j++vs++(((L.take N1).drop K1).take S1).drop (j+vs.length))++(L.take N1).drop (K1+S1):=by
 obtain⟨a,L1,rfl,ha⟩:∃a L1,L=a++L1∧a.length=K1:=⟨L.take K1,L.drop K1,by simp,by simp;omega⟩
 obtain⟨b,L2,rfl,hb⟩:∃b L2,L1=b++L2∧b.length=j:=⟨L1.take j,L1.drop j,by simp,by simp at hN⊢;omega⟩
 obtain⟨c,L3,rfl,hc⟩:∃c L3,L2=c++L3∧c.length=vs.length:=⟨L2.take vs.length,L2.drop vs.length,by simp,by simp at hN⊢;omega⟩
 obtain⟨d,L4,rfl,hd⟩:∃d L4,L3=d++L4∧d.length=S1 - j - vs.length:=⟨L3.take (S1 - j - vs.length),L3.drop (S1 - j - vs.length),by simp,by simp at hN⊢;omega⟩
 obtain⟨e,f,rfl,he⟩:∃e f,L4=e++f∧e.length=N1 - K1 - S1:=⟨L4.take (N1 - K1 - S1),L4.drop (N1 - K1 - S1),by simp,by simp at hN⊢;omega⟩
 have hM:(a++(b++(c++(d++(e++f))))).take N1=a++(b++(c++(d++e))):=by
  have:a++(b++(c++(d++(e++f))))=(a++(b++(c++(d++e))))++f:=by simp
  rw[this,aBj (by simp;omega)]
 have h3:(a++(b++(c++(d++e)))).drop (K1+S1)=e:=by
  have:a++(b++(c++(d++e)))=(a++(b++(c++d)))++e:=by simp
  rw[this,aBu (by simp;omega)]
 have h4:((a++(b++(c++(d++e)))).drop K1).take S1=b++(c++d):=by
  rw[aBu ha];have:b++(c++(d++e))=(b++(c++d))++e:=by simp
  rw[this,aBj (by simp;omega)]
 have h5:(b++(c++d)).drop (j+vs.length)=d:=by
  rw[←aAb,aBu (by simp;omega)]
 rw[hM,h3,h4,aBj ha,aBj hb,h5];have:=K3 a b c d e f vs hc.symm;rw[ha,hb] at this;rw[←this];congr 1;omega
theorem S.DM{x y:Operand}{t:TypeId}{q:Nat}{v:Value}{ti:TypeInfo}{k j:Nat}{e e':α}{a0:Addr}(ho:o.op=.store t x y)(hx:ev F x=.pointer (some a0))(hy:ev F y=v)(ha:a0=(ad A).add q)(h1:∀x∈v.cells.toList,x.oneCell'=true)
  (hi:prog.info? t=some ti) (hs:v.cells.size=ti.size) (hq:q=k*T.size+j) (he:l[k]?=some e) (hjs:j+v.cells.size≤T.size) (hv:(T.enc e).take j++v.cells.toList++(T.enc e).drop (j+v.cells.size)=T.enc e')
  (hr:dT (own T A n c l) [own T A n c (l.set k e')] H H') (h:K undef H'):gK prog N E F H o K:=by
 subst ha hq;intro a u ha hu Kw Q' hK;obtain⟨R,hhas,F0,h0⟩:=hu.xO hr;have hk:=(aAd.1 he).1;have hn:=h0.1;obtain⟨g,hA⟩:∃g,A=some ⟨g,0,none⟩:=by
  obtain⟨_,⟨rfl,h2,_⟩|⟨g,cur,rfl,_⟩⟩:=h0
  ·omega
  ·exact⟨g,rfl⟩
 subst hA;obtain⟨hF,_,_,cur,hh,h2,h3,h4,h5⟩:=rP (g:=g) (q:=0) h0 rfl o_;have hbound:k*T.size+j+v.cells.size≤cur.size:=by
  have e1:(k+1)*T.size≤c*T.size:=aBa _ o_;rw[aDb,aDq] at e1;omega
 have hst:=run_storeVar_row (P:=prog) (u:=u) (q:=k*T.size+j) hi hs h1 hh hbound;have e0:(ad (some ⟨g,0,none⟩)).add (k*T.size+j)=⟨g,k*T.size+j,none⟩:=by show(⟨g,0,none⟩:Addr).add _=_;rw[fB,aCa]
 unfold Oper.wp;rw[ha.eval];have hrun:(execOp (ev F) o).run prog u=.ok .skip (u.setRow g (cur.toList.take (k*T.size+j)++v.cells.toList++cur.toList.drop (k*T.size+j+v.cells.size)).toArray):=by
  simp only[execOp,ho,hx,hy,Instr.storeAt,Instr.sureAddr,e0,aAy,aCc,aAr,hst]
 rw[hrun];refine hK undef _ _ h (St.setRow hu hr g _ λF1 k1=>?_);obtain⟨m1,_,_,cur',m2,m3,m4,m5,m6⟩:=rP (g:=g) (q:=0) k1 rfl o_;rw[hh] at m2;injection m2 with m2;injection m2 with m2 _ _
 subst m2;have hFF:∀b,F1 b↔b=g:=by
  obtain⟨_,⟨h6,_⟩|⟨g',_,h6,h7,_⟩⟩:=k1
  ·omega
  ·injection h6 with h6;injection h6 with h6;subst h6;exact h7
 have hlen:(k+1)*T.size≤n*T.size:=aBa _ o_;have hl2:(k+1)*T.size=k*T.size+T.size:=by rw[aDb,aDq]
 refine⟨m1,by rw[aAt];exact hn,.inr ⟨g,_,rfl,hFF,setRow_heap u g _ _ _ _ hh,m3,m4,?_,?_⟩⟩
 ·simp;omega
 ·rw[T.Bo hk,←hv];have hgete:T.enc e=((T.bT l).drop (k*T.size)).take T.size:=by
   rw[T.gD,aAm hk,T.eW,aBj (T.dR _)];rw[(aAd.1 he).2]
  rw[hgete,←m6];have hvl:v.cells.size=v.cells.toList.length:=by simp
  rw[hvl,hl2];refine QI _ _ _ (by simpa using hjs) o_ ?_;rw[aDs,m5];exact aBa _ m3
theorem L.fact{ops:List Oper}{Q:QF}{os:List Oper}{p:Prop}{P:Program}(hp:∀w,St E H w→p)(h:p→L P N E ops Q os F H):L P N E ops Q os F H:=⟨λa w ha hw=>(h (hp w hw)).get a w ha hw⟩
theorem aK.fact{f:FuncId}{args:Array Value}{Q:Ending→List aL→Prop}{p:Prop}{P:Program}(hp:∀w,St E H w→p)(h:p→aK P E f args H Q):aK P E f args H Q:=λhd w hw=>h (hp w hw) hd w hw
theorem L.conv{ops:List Oper}{Q:QF}{os:List Oper}{P:Program}(hc:aB E H H')(h:L P N E ops Q os F H'):L P N E ops Q os F H:=⟨λa w ha hw=>h.get a w ha (hc w hw)⟩
theorem aK.conv{f:FuncId}{args:Array Value}{Q:Ending→List aL→Prop}{P:Program}(hc:aB E H H')(h:aK P E f args H' Q):aK P E f args H Q:=λhd w hw=>h hd w (hc w hw)
theorem St.unpack{X:Type}{l:X→List aL}{u:World}(h:St E H u)(hh:Has (pack l) H R):∃x,St E (l x++R) u:=by
 obtain⟨F0,h1,h2⟩:=h.fp;obtain⟨F1,F2,h3,h4,⟨x,h5⟩,h6⟩:=hh.cT h1;exact⟨x,h.os,h.tape,h.output,h.size,h.MH,h.lB,F0,aY.2 ⟨F1,F2,h3,h4,h5,h6⟩,h2⟩
theorem aK.unpack{f:FuncId}{args:Array Value}{Q:Ending→List aL→Prop}{P:Program}{X:Type}{l:X→List aL}(hh:Has (pack l) H R)(h:∀x,aK P E f args (l x++R) Q):aK P E f args H Q:=λhd w hw=>by
 obtain⟨x,hx⟩:=St.unpack hw hh;exact h x hd w hx
theorem aB.pack{X:Type}{l:X→List aL}(x:X)(hp:cS (l x) H R):aB E H (pack l::R):=λw hw=>by
 have h:=hw.aV hp;refine h.conv λF0 hs=>⟨F0,?_,λ_ h=>h⟩
 obtain⟨F1,F2,h3,h4,h5,h6⟩:=aY.1 hs;exact⟨F1,F2,h3,h4,⟨x,h5⟩,h6⟩
theorem aB.nil(T:Ty α):aB E H (own T none 0 0 []::H):=λw hw =>
 hw.grow (l:=[own T none 0 0 []]) rfl rfl rfl (aAf _) (λ_ _=>rfl) (F1:=λ_=>False) ⟨λ_=>False,λ_=>False,λb=>by simp,λ_ h=>h.elim,⟨rfl,.inl ⟨rfl,rfl,λ_ h=>h⟩⟩,λ_ h=>h⟩ (λ_ h=>h.elim)
def AO(F:Nat→Value):List Operand→List Value
 | []=>[]
 |x::l=>ev F x::AO F l
theorem AB(F:Nat→Value)(l:List Operand):AO F l=l.map (ev F):=by
 induction l with
 |nil=>rfl
 |cons x l ih=>simp[AO,ih]
inductive wK:List aL→List aL→List aL→Prop
 |nil {R:List aL}:wK [] R R
 |cons {a:aL} {l R H:List aL} (h:wK l R H):wK (a::l) R (a::H)
theorem wK.eq{l R H:List aL}(h:wK l R H):H=l++R:=by
 induction h with
 |nil=>rfl
 |cons _ ih=>rw[ih];rfl
theorem S.call{P:Program}{f:FuncId}{fn:Func}{ops:List Operand}{tys:Array TypeId}{Hp:List aL}{vs:List Value}{Q1:Ending→List aL→Prop}(ho:o.op=.call { callee:=.value (.func f),args:=ops.toArray,argTypes:=tys })(hvs:AO F ops=vs)
  (hfn:P.funcs[f]?=some fn) (hname:(fn.name == "runtime.NumGoroutine")=false) (hbody:fn.body.isNone=false)
  (hp:cS Hp H R) (h:∀M,Sub E R M→aK P M f vs.toArray Hp Q1) (hQ:∀e H',Q1 e H'→∃v,e=.returned v∧∃H2,wK H' R H2∧K v H2):gK P N E F H o K:=by
 subst hvs;intro a u ha hu Kw Q' hK;obtain⟨M,hds,hE,hst,hback⟩:=(hu.aV hp).enter;unfold Oper.wp;have hr:(execOp a.eval o).run P u=.ok (.enter f (AO F ops).toArray) u:=by
  have h1:¬fn.name = "runtime.NumGoroutine" := by simpa using hname
  have h2:¬fn.body=none:=by intro h;rw[h] at hbody;cases hbody
  rw[ha.eval,AB];simp[execOp,ho,resolve,ev,Deferred.ofValue,invoke,callFunc,hfn,h1,h2]
 rw[hr];refine(h M hE hds u hst).mono ?_;rintro e w' ⟨H',h3,h4⟩;obtain⟨v,rfl,H2,hcat,h5⟩:=hQ e H' h4;exact hK v _ w' h5 (by rw[hcat.eq];exact hback H' w' h3)
theorem S.Zp{P:Program}{t:TypeId}{x:Operand}{v:Value}{cs:List Value}(ho:o.op=.box t x)(hx:ev F x=v)(hcs:NL v cs):gK P N E F H o λr H'=>∃g,r=.pointer (some ⟨g,0,none⟩)∧H'=aJ g t cs::H :=
 S.box ho hx hcs λg=>⟨g,rfl,rfl⟩
theorem S.Rk{P:Program}{t:TypeId}{x y:Operand}{g i:Nat}{v:Value}{ti:TypeInfo}{bt:TypeId}{cs cs':List Value}(ho:o.op=.store t x y)(hx:ev F x=.pointer (some ⟨g,i,none⟩))(hy:ev F y=v)(h1:v.oneCell'=true)(hi:P.info? t=some ti)(hs:ti.size=1)
  (hr:dT (aJ g bt cs) [aJ g bt cs'] H H') (hq:i<cs.length) (hcs:cs.set i v=cs'):gK P N E F H o λr H1=>r=undef∧H1=H':=S.V7 ho hx hy h1 hi hs hr hq hcs ⟨rfl,rfl⟩
theorem S.KA{s x:Operand}{t:TypeId}{X:Option Addr}{nx cx n':Nat}{l2 l':List α}(ho:o.op=.call { callee:=.builtin .append,args:=#[s,x],argTypes:=#[t,t] })
  (hs:ev F s=.slice A n c) (hx:ev F x=.slice X nx cx) (hn':n+nx=n') {HX:Option Addr→Nat→List aL} (hr:∀A' c',dT (own T A n c l) [own T A' n' c' l'] H (HX A' c')) (hrd:kV E H T X nx cx l2) (hl':l++l2=l') (ht:prog.underlying t=some (.slice T.tid)) {by_:Nat} (hbb:T.bytes=by_) (hlen:n'≤140737488355328) (hby:n'*by_≤140737488355328) :
  gK prog N E F H o λr H1=>∃A' c',(n'≤c'∧c'≤maxLen)∧r=.slice A' n' c'∧H1=HX A' c':=S.append ho hs hx hn' hr hrd hl' ht hbb hlen hby λA' c' h1 h2=>⟨A',c',⟨h1,h2⟩,rfl,rfl⟩
theorem S.aIl{s x:Operand}{t:TypeId}{X:Option Addr}{nx cx n':Nat}{l2 l':List α}(ho:o.op=.call { callee:=.builtin .append,args:=#[s,x],argTypes:=#[t,t] })
  (hs:ev F s=.slice A n c) (hx:ev F x=.slice X nx cx) {H0:List aL} (hH:H0=own T X nx cx l2::H) (hn':n+nx=n') {HX:Option Addr→Nat→List aL} (hr:∀A' c',dT (own T A n c l) [own T A' n' c' l'] H (HX A' c')) (hl':l++l2=l') (ht:prog.underlying t=some (.slice T.tid)) {by_:Nat} (hbb:T.bytes=by_) (hlen:n'≤140737488355328) (hby:n'*by_≤140737488355328) :
  gK prog N E F H0 o λr H1=>∃A' c',(n'≤c'∧c'≤maxLen)∧r=.slice A' n' c'∧H1=HX A' c':=S.SS ho hs hx hH hn' hr hl' ht hbb hlen hby λA' c' h1 h2=>⟨A',c',⟨h1,h2⟩,rfl,rfl⟩
theorem S.H4{s x:Operand}{t:TypeId}{X:Option Addr}{nx cx:Nat}{l2:List α}(ho:o.op=.call { callee:=.builtin .append,args:=#[s,x],argTypes:=#[t,t] })
  (hs:ev F s=.slice none 0 0) (hx:ev F x=.slice X nx cx) (hrd:kV E H T X nx cx l2) (ht:prog.underlying t=some (.slice T.tid)) {by_:Nat} (hbb:T.bytes=by_) (hlen:nx≤140737488355328) (hby:nx*by_≤140737488355328) :
  gK prog N E F H o λr H1=>∃A' c',(nx≤c'∧c'≤maxLen)∧r=.slice A' nx c'∧H1=own T A' nx c' l2::H:=S.Lj ho hs hx hrd ht hbb hlen hby λA' c' h1 h2=>⟨A',c',⟨h1,h2⟩,rfl,rfl⟩
theorem S.pP{t:TypeId}{m:Nat}{parts0:List (Nat×Operand)}{l:List α}(ho:o.op=.buildSlice t m parts0.toArray)(hp:pv (ev F) parts0=(l.map T.val).zipIdx.map λp=>(p.2,p.1))
  (ht:prog.underlying t=some (.slice T.tid)) (hm:l.length=m) (hbig:m*T.size≤2 ^ 24):gK prog N E F H o λr H1=>∃g,r=.slice (some ⟨g,0,none⟩) m m∧H1=own T (some ⟨g,0,none⟩) m m l::H :=
 S.buildSlice ho hp ht hm hbig λg=>⟨g,rfl,rfl⟩
theorem S.cB{t:TypeId}{x:Operand}{e:α}{v:Value}(ho:o.op=.buildSlice t 1 #[(0,x)])(hx:ev F x=v)(hv:T.val e=v)
  (ht:prog.underlying t=some (.slice T.tid)) (hbig:1*T.size≤2 ^ 24):gK prog N E F H o λr H1=>∃g,r=.slice (some ⟨g,0,none⟩) 1 1∧H1=own T (some ⟨g,0,none⟩) 1 1 [e]::H :=
 S.GX ho hx hv ht hbig λg=>⟨g,rfl,rfl⟩
end
end
theorem S.Eo{α:Type}{T:Ty α}{N:Nat}{E:Env}{F:Nat→Value}{H H':List aL}{o:Oper}{A:Option Addr}{n c:Nat}{l:List α}{x y:Operand}{t:TypeId}{q k:Nat}{v:Value}{e e':α}(ho:o.op=.store t x y)(hx:ev F x=.pointer (some ((ad A).add q)))(hy:ev F y=v)(hr:dT (own T A n c l) [own T A n c (l.set k e')] H H')
  (he:l[k]?=some e) (hq:q=k*T.size) (hv:T.val e'=v) (ht:T.tid=t):gK prog N E F H o λr H1=>r=undef∧H1=H':=by
 subst ht;obtain⟨ti,hi,_,hs,_⟩:=T.jA;refine S.DM (k:=k) (j:=0) (e:=e) (e':=e') ho hx hy rfl (by rw[←hv];exact T.lJ e') hi (by rw[←hv,T.hlen,hs]) (by rw[hq];rfl) he (by rw[←hv,T.hlen];omega) ?_ hr ⟨rfl,rfl⟩;rw[←hv,T.hlen,aCg,aBq,aCa,aCn (by rw[T.dR];exact aAf _),aAc];rfl
theorem aS{a:aL}{H R:List aL}(h:Has a H R:=by(iterate 30 first|with_reducible exact Has.aN|apply Has.aM|skip);first|done|fail):Has a H R:=h
theorem aC{l H R:List aL}(h:cS l H R:=by(iterate 24 first|with_reducible exact cS.nil|(apply cS.cons;(· exact aS))|skip);first|done|fail):cS l H R:=h
theorem dH{a b:aL}{H H':List aL}(h:dT a [b] H H':=by(iterate 30 first|with_reducible exact dT.one|apply dT.aM|skip);first|done|fail):dT a [b] H H':=h
theorem bG{l R H:List aL}(h:wK l R H:=by(iterate 30 first|with_reducible exact wK.nil|apply wK.cons|skip);first|done|fail):wK l R H:=h
theorem eS{α:Type}{a b:α}(h:a=b:=by conv=>lhs;whnf):a=b:=h
theorem aF{α:Type}{a b:α}(h:a=b:=by(conv=>lhs;whnf);first|done|rfl):a=b:=h
theorem Ee{a b:Int}(h:a=b:=by first|with_reducible assumption|exact aAq _ o_|exact IntWalk.u8_in _ o_|exact aFp _ o_|exact IntWalk.u32_in _ o_|exact IntWalk.i32_in _ o_|exact IntKind.wrap_u8 _|exact IntKind.wrap_u64 _|exact IntKind.wrap_u32 _|rfl):a=b:=h
theorem ZR{a b:Int}(h:a=b:=by first|with_reducible assumption|exact IntWalk.i64_quo _ _ o_|exact IntWalk.u8_quo _ _ o_|exact IntWalk.u64_quo _ _ o_|exact IntWalk.u32_quo _ _ o_|exact IntWalk.i32_quo _ _ o_|rfl):a=b:=h
theorem ZM{a b:Int}(h:a=b:=by first|with_reducible assumption|exact IntWalk.rem_in _ _ o_|rfl):a=b:=h
theorem sW{a b:Bool}(h:a=b:=by first|rfl|assumption|exact decide_eq_true o_|exact decide_eq_false o_|exact congrArg not (decide_eq_false o_)|exact congrArg not (decide_eq_true o_)):a=b:=h
theorem nG{p:Prop}(h:p:=by omega):p:=h
theorem nD{p:Prop}(h:p:=by with_reducible assumption):p:=h
theorem nO{α:Type}{a b:α}(h:a=b:=by rfl):a=b:=h
theorem QC{p:Prop}(h:p:=by first|assumption|(unfold maxLen at *;omega)):p:=h
theorem dB{α:Type}{M:Env}{T:Ty α}{A:Option Addr}{n c:Nat}{l:List α}(h:Rd M T A n c l:=by first|exact Rd.sub (by assumption) nD|exact Sub.own (by assumption) aS|exact Sub.sl (by assumption) aS|exact Rd.nil _ _):Rd M T A n c l:=h
theorem Fp{α:Type}{E:Env}{H:List aL}{T:Ty α}{A:Option Addr}{n c:Nat}{l:List α}(h:kV E H T A n c l:=by first|exact kV.rd nD|exact kV.own aS|exact kV.sl aS):kV E H T A n c l:=h
theorem qF{α:Type}{E:Env}{H:List aL}{T:Ty α}{A:Option Addr}{n c:Nat}{l:List α}(h:kV E H T A n c l:=by first|exact kV.rd nD|exact kV.own aS|exact kV.sl aS|exact kV.rd (Rd.nil _ _)|(apply kV.inner;(· exact nD);(· exact QC);(· exact Fp);rotate_left;(· exact nO);rotate_right;(· exact nD))|exact kV.from_ Fp nG|exact kV.cut Fp nG nG|exact kV.up Fp nG|exact kV.upto Fp nG nG nG):kV E H T A n c l:=h
theorem Yf{E:Env}{H:List aL}{a:Addr}{v:Value}(h:Cell E H a v:=by first|exact Cell.aJ aS nO|(apply Cell.elem;(· exact qF);rotate_left;(· exact nO);rotate_right;(· exact nD);(· exact nO))|(apply Cell.Tw;(· exact qF);rotate_left;(· exact nO);rotate_right;(· exact nD);(· exact nO))|exact Cell.kc nD):Cell E H a v:=h
theorem TT{a b:List Value}(h:a=b:=by first|(conv=>lhs;simp only[List.set_cons_zero,List.set_cons_succ])|rfl):a=b:=h
theorem Yi{a b:Addr}(h:a=b:=by first|(conv=>lhs;simp only[fB,aCa,aFb,aFx,Nat.mul_one,Nat.reduceAdd,Nat.reduceMul])|rfl):a=b:=h
theorem sJ{a b:Nat}(h:a=b:=by first|(conv=>lhs;simp only[aAu,Int.reduceToNat])|exact aAu (@OfNat.ofNat Nat _ (instOfNatNat _))|rfl):a=b:=h
theorem l9{a b:Nat}(h:a=b:=by first|(conv=>lhs;simp only[aCa,aFb])|rfl):a=b:=h
theorem ZK{α:Type}{a b:List α}(h:a=b:=by first|(conv=>lhs;simp only[aBq])|rfl):a=b:=h
theorem Y4{p:Prop}(h:p:=by simp only[aAs,aDh];omega):p:=h
theorem YU{v:Value}{l:List Value}(h:NL v l:=by first|exact NL.agg|exact NL.one rfl|exact NL.one (by assumption)):NL v l:=h
theorem W3{cs:List Value}{k:Nat}{vs o:List Value}(h:Kg cs k vs o:=by(iterate 40 first|exact Kg.done|apply Kg.aN|apply Kg.next|skip);first|done|fail):Kg cs k vs o:=h
theorem Wo{pl:List (Nat×Nat)}{z:List Value}{vs:List (Nat×Value)}{o:List Value}(h:OP pl z vs o:=by(iterate 24 first|exact OP.nil|(apply OP.cons;(· exact rfl);(· exact YU);(· exact W3);(· exact rfl))|skip);first|done|fail):OP pl z vs o:=h
theorem o7{ρ:Operand→Value}{l:List (Nat×Operand)}{vs:List (Nat×Value)}(h:PV ρ l vs:=by(iterate 24 first|exact PV.nil|(apply PV.cons;(· exact eS))|skip);first|done|fail):PV ρ l vs:=h
theorem aD{F:Nat→Value}{l:List (Nat×Value)}(h:nH F l:=by(iterate 60 first|exact trivial|(apply And.intro;(· (first|rfl|assumption|((conv=>lhs;whnf);first|done|(congr 1;first|omega|(dsimp only;omega)|(simp[*];done)|(simp[*];omega))))))|skip);first|done|fail):nH F l:=h
theorem aA{E:Env}{H H':List aL}(h:aB E H H':=by first|first|exact aB.refl|exact aB.aV aC|(simp only[Bool.not_true,aRa,Bool.or_true,Bool.or_false,Bool.false_or,aRt,aRb,Bool.and_false,aCt,aCx];first|exact aB.refl|exact aB.aV aC)):aB E H H':=h
theorem bA{l:List Oper}{N:Nat}{F:Nat→Value}{g:Option (Nat×Bool)}(h:rE l N F true g:=by first|exact rE.none rfl|exact rE.on rfl sD rfl sW):rE l N F true g:=h
theorem EG{l:List Oper}{N:Nat}{F:Nat→Value}{g:Option (Nat×Bool)}(h:rE l N F false g:=by first|exact rE.off rfl sD rfl sW|exact rE.Sg rfl sD rfl):rE l N F false g:=h
end
section
open Go.RowKit Reg
open Mem hiding Rd
section
variable {N:Nat} {E:Env} {F:Nat→Value} {H H' R:List aL} {ρ:Operand→Value} {o:Oper} {α β:Type} {T:Ty α} {U:Ty β} {A:Option Addr} {n c:Nat} {l:List α}
theorem nN(T:Ty α)(z:α)(hz:T.val z=T.zero)(k:Nat):(madeCells T.zero.cells (k*T.size)).toList=T.bT (List.replicate k z):=by
 have hs:=T.hzero;apply aCk;intro i;by_cases hi:i<k*T.size
 ·have hq:i / T.size<k:=Nat.div_lt_of_lt_mul (by rw[aFy];exact hi);have hr:i % T.size<T.size:=Nat.mod_lt _ T.gL;have h1:(List.replicate k z)[i / T.size]?=some z:=by rw[aDc,if_pos hq]
  have h2:(T.enc z)[i % T.size]?=some ((T.enc z)[i % T.size]'(by rw[T.dR];exact hr)):=aAa _;have h3:=T.uK h1 h2;rw[show i / T.size*T.size+i % T.size=i by rw[aFy];exact Nat.div_add_mod i T.size] at h3;rw[h3];have h4:i % T.zero.cells.size<T.zero.cells.size:=by rw[hs];exact hr
  simp[madeCells,hi,Ty.enc,hz,hs];rw[getElem!_pos T.zero.cells (i % T.size) (by rw[hs];exact hr)]
 ·rw[aCo (by simp[madeCells];omega),aCo (by rw[T.bM,aAz];omega)]
theorem S.Io{t:TypeId}{x y:Operand}{k k2:IntKind}{i:Int}{z:α}{m:Nat}(ho:o.op=.makeSlice t x y)(hx:ev F x=.int k i)(hy:ev F y=.int k2 i)(hj:i.toNat=m)(h0:0≤i)(hz:T.val z=T.zero)(ht:prog.underlying t=some (.slice T.tid)){by_:Nat}(hb:T.bytes=by_)(hbig:by_*i≤281474976710656)(h63:i≤9223372036854775807) :
  gK prog N E F H o λr H1=>∃g,r=.slice (some ⟨g,0,none⟩) m m∧H1=own T (some ⟨g,0,none⟩) m m (List.replicate m z)::H:=by
 subst hj hb;intro a u ha hu Kw Q' hK;obtain⟨ti,hi,hzz,hsz,hbt⟩:=T.jA;have hrun:=run_make (P:=prog) u t T.tid ti T.zero ht hi hzz k k2 i i h0 (aCd _) (by rw[hbt];exact hbig) h63;unfold Oper.wp;rw[ha.eval];have hx2:(execOp (ev F) o).run prog u=.ok (.value (.slice (some ⟨u.heap.size,0,none⟩) i.toNat i.toNat)) (u.alloc (.cells (madeCells T.zero.cells (i.toNat*ti.size)) T.tid)):=by
  simp[execOp,ho,hx,hy,hrun]
 rw[hx2];refine hK _ _ _ ⟨u.heap.size,rfl,rfl⟩ ?_;refine hu.grow (l:=[own T (some ⟨u.heap.size,0,none⟩) i.toNat i.toNat (List.replicate i.toNat z)]) rfl rfl rfl (by simp) (λb hb=>aDu _ _ _ hb) (F1:=λb=>b=u.heap.size) ⟨_,λ_=>False,λb=>by simp,λb _ h=>h,⟨by simp,.inr ⟨u.heap.size,_,rfl,λb=>aDl,heap_alloc_new _ _,aAf _,?_,?_,?_⟩⟩,λb h=>h⟩ (λb hb=>by omega)
 ·unfold maxLen;omega
 ·rw[hsz,size_madeCells]
 ·rw[hsz,nN T z hz,aAj (by rw[T.bM];simp)]
theorem Y.O6{P:Program}{t e:TypeId}{x:Operand}{a:Addr}{m:Nat}{ti:TypeInfo}(ho:o.op=.slice t x none none none)(hx:ρ x=.pointer (some a))(ht:P.underlying t=some (.array m e))(hi:P.info? e=some ti):qB P E H ρ o (.slice (some a) m m):=by
 intro u _;have e0:(if m=0 then a else a.add 0)=a:=by split<;>simp[Addr.add]
 simp[execOp,ho,hx,Instr.sliceAt,run_underlying ht,Instr.sureAddr,Instr.sliceBounds,sizeOf,typeInfo,hi];try (intro _;simp[Addr.add])
theorem Lp{F1:Nat→Prop}{u:World}{g k j:Nat}{e e':α}{cur:Array Value}{vs:List Value}(h0:(own T (some ⟨g,0,none⟩) n c l).holds F1 u)(hh:u.heap[g]?=some (.cells cur T.tid (0,0)))(he:l[k]?=some e)
  (hjs:j+vs.length≤T.size) (hv:(T.enc e).take j++vs++(T.enc e).drop (j+vs.length)=T.enc e') :
  k*T.size+j+vs.length≤cur.size∧F1 g∧(own T (some ⟨g,0,none⟩) n c (l.set k e')).holds F1 (u.setRow g (cur.toList.take (k*T.size+j)++vs++cur.toList.drop (k*T.size+j+vs.length)).toArray):=by
 have hk:=(aAd.1 he).1;have hn:=h0.1;obtain⟨m1,_,_,cur',m2,m3,m4,m5,m6⟩:=rP (g:=g) (q:=0) h0 rfl o_;rw[hh] at m2;injection m2 with m2;injection m2 with m2 _ _
 subst m2;have hFF:∀b,F1 b↔b=g:=by
  obtain⟨_,⟨h6,_⟩|⟨g',_,h6,h7,_⟩⟩:=h0
  ·omega
  ·injection h6 with h6;injection h6 with h6;subst h6;exact h7
 have hlen:(k+1)*T.size≤n*T.size:=aBa _ o_;have hl2:(k+1)*T.size=k*T.size+T.size:=by rw[aDb,aDq]
 have hnc:n*T.size≤c*T.size:=aBa _ m3;refine⟨by omega,m1,by rw[aAt];exact hn,.inr ⟨g,_,rfl,hFF,setRow_heap u g _ _ _ _ hh,m3,m4,?_,?_⟩⟩
 ·simp;omega
 ·rw[T.Bo hk,←hv];have hgete:T.enc e=((T.bT l).drop (k*T.size)).take T.size:=by
   rw[T.gD,aAm hk,T.eW,aBj (T.dR _)];rw[(aAd.1 he).2]
  rw[hgete,←m6,hl2];refine QI _ _ _ hjs o_ ?_;rw[aDs,m5];exact hnc
theorem uA{X:Option Addr}{nx cx:Nat}{l2:List β}{u:World}(h:kV E H U X nx cx l2)(hu:St E H u):(Builtin.firstCells U.size nx (.slice X nx cx)).run prog u=.ok (U.bT l2).toArray u:=by
 obtain⟨h0,h1,h2,h3⟩:=h u hu;have hl:(U.bT l2).length=nx*U.size:=by rw[U.bM,h0]
 rcases h3 with h3|⟨a,rfl,hc⟩
 ·subst h3;have h4:U.bT l2=[]:=aBi (by rw[hl,aFx]);rw[h4];cases X with
  |none=>rfl
  |some a =>
   have:=run_loadCells_list (P:=prog) u a [] (by simp);simpa [Builtin.firstCells] using this
 ·have:=run_loadCells_list (P:=prog) u a (U.bT l2) hc;rw[hl] at this;simpa [Builtin.firstCells] using this
theorem S.RE{m:Nat}{xs:α→List β}{d s:Operand}{t t2:TypeId}{k q cd nx cx:Nat}{X:Option Addr}{l2:List β}{e e':α}(ho:o.op=.call { callee:=.builtin .copy,args:=#[d,s],argTypes:=#[t,t2] })
  (hd:ev F d=.slice (some ((ad A).add q)) m cd) (hs:ev F s=.slice X nx cx) (hA:ZO T U m xs) (hr:dT (own T A n c l) [own T A n c (l.set k e')] H H') (hrd:kV E H U X nx cx l2) (he:l[k]?=some e) (hq:q=k*T.size) (hn:nx≤m)
  (hv:xs e'=l2++(xs e).drop nx) (ht:prog.underlying t=some (.slice U.tid)) (hm:m≤maxLen):gK prog N E F H o λr H1=>r=.int .i64 (nx:Int)∧H1=H':=by
 subst hq;intro a u ha hu Kw Q' hK;obtain⟨R,hhas,F0,h0⟩:=hu.xO hr;have hk:=(aAd.1 he).1;have hn0:=h0.1;obtain⟨g,hA0⟩:∃g,A=some ⟨g,0,none⟩:=by
  obtain⟨_,⟨rfl,h2,_⟩|⟨g,cur,rfl,_⟩⟩:=h0
  ·omega
  ·exact⟨g,rfl⟩
 subst hA0;obtain⟨hF,_,_,cur,hh,h2,h3,h4,h5⟩:=rP (g:=g) (q:=0) h0 rfl o_;obtain⟨k0,_,_,_⟩:=hrd u hu;have hfc:=uA hrd hu;have hvl:(U.bT l2).length=nx*U.size:=by rw[U.bM,k0]
 have hms:m*U.size=T.size:=by have h1:=(hA e).1;have h2:=(hA e).2;rw[←T.dR e,h1,U.bM,h2]
 have hle:nx*U.size≤m*U.size:=aBa _ hn;have hpe:(T.enc e).take 0++U.bT l2++(T.enc e).drop (0+(U.bT l2).length)=T.enc e':=by
  rw[(hA e').1,hv,U.iU,(hA e).1,aCg,aBq,aCa,hvl,U.gD]
 have hp:∀F1,(own T (some ⟨g,0,none⟩) n c l).holds F1 u→_:=λF1 h=>Lp h hh he (by rw[aCa,hvl,←hms];exact hle) hpe;have hst:=run_storeCells_at prog g (k*T.size) T.tid (U.bT l2) 0 cur u hh (by have:=(hp F0 h0).1;omega) (U.kS l2);obtain⟨tu,hi,_,hsz,_⟩:=U.jA;have e0:(ad (some ⟨g,0,none⟩)).add (k*T.size)=⟨g,k*T.size,none⟩:=by show(⟨g,0,none⟩:Addr).add _=_;rw[fB,aCa]
 have hmin:Nat.min nx m=nx:=aBr hn;unfold Oper.wp;rw[ha.eval];have hw:IntKind.i64.wrap (nx:Int)=nx:=aAq _ (by unfold maxLen at hm;omega);have hrun:(execOp (ev F) o).run prog u=.ok (.value (.int .i64 (nx:Int))) (u.setRow g (cur.toList.take (k*T.size+0)++U.bT l2++cur.toList.drop (k*T.size+0+(U.bT l2).length)).toArray):=by
  simp[execOp,ho,resolve,invoke,builtin,hd,hs,Builtin.copy_,run_underlying ht,Builtin.lenOf,hmin,sizeOf,typeInfo,hi,hsz,hfc,e0,hst,goInt]
 rw[hrun];exact hK _ _ _ ⟨rfl,rfl⟩ (St.setRow hu hr g _ λF1 k1=>⟨(hp F1 k1).2.1,(hp F1 k1).2.2⟩)
theorem S.Vq{P:Program}{t:TypeId}{z:List Value}(ho:o.op=.alloc t)(hz:((P.info? t).bind (·.zero)).map (·.cells.toList)=some z):gK P N E F H o λr H'=>∃g,r=.pointer (some ⟨g,0,none⟩)∧H'=aJ g t z::H:=by
 intro a u ha hu Kw Q' hK;cases hi:P.info? t with
 |none=>simp[hi] at hz
 |some ti =>
  cases hzz:ti.zero with
  |none=>simp[hi,hzz] at hz
  |some zv =>
   simp[hi,hzz] at hz;have hrun:(execOp (ev F) o).run P u=.ok (.value (.pointer (some ⟨u.heap.size,0,none⟩))) (u.alloc (.cells zv.cells t)):=by
    simp[execOp,ho,Instr.alloc,newVar,newRow,zeroValue,typeInfo,hi,hzz]
   unfold Oper.wp;rw[ha.eval,hrun];refine hK _ _ _ ⟨u.heap.size,rfl,rfl⟩ ?_;refine hu.grow (l:=[aJ u.heap.size t z]) rfl rfl rfl (by simp) (λb hb=>aDu _ _ _ hb) (F1:=λb=>b=u.heap.size) ⟨_,λ_=>False,λb=>by simp,λb _ h=>h,⟨λb=>aDl,?_⟩,λb h=>h⟩ (λb hb=>by omega);rw[heap_alloc_new,←hz]
inductive Fm:List Value→Nat→Nat→List Value→Prop
 |done {cs:List Value}:Fm cs 0 0 []
 |aN {c:Value} {cs vs:List Value} {n:Nat} (h:Fm cs 0 n vs):Fm (c::cs) 0 (n+1) (c::vs)
 |next {c:Value} {cs vs:List Value} {k n:Nat} (h:Fm cs k n vs):Fm (c::cs) (k+1) n vs
theorem Fm.eq{cs vs:List Value}{k n:Nat}(h:Fm cs k n vs):vs.length=n∧∀j v,vs[j]?=some v→cs[k+j]?=some v:=by
 induction h with
 |done=>simp
 | @aN c cs vs n h ih =>
  refine⟨by simp[ih.1],λj v hj=>?_⟩;cases j with
  |zero=>simpa using hj
  |succ j=>have:=ih.2 j v (by simpa using hj);rw[aCa] at this⊢;simpa using this
 | @next c cs vs k n h ih =>
  refine⟨ih.1,λj v hj=>?_⟩;have:=ih.2 j v hj;rw[show k+1+j=(k+j)+1 by omega];simpa using this
theorem Cells.M5{g:Nat}{t:TypeId}{cs vs:List Value}{i m:Nat}(h:Has (Sep.aJ g t cs) H R)(hs:Fm cs i m vs):Cells E H ⟨g,i,none⟩ vs:=λw hw j u hu=>by
 obtain⟨F0,⟨_,h1⟩,_⟩:=hw.has h;rw[fB,cell_of_row _ _ _ _ _ _ h1];simpa using hs.eq.2 j u hu
theorem Y.Si{P:Program}{t:TypeId}{x:Operand}{g i m:Nat}{bt:TypeId}{cs vs:List Value}{d:TypeDesc}{ti:TypeInfo}(ho:o.op=.load t x)(hx:ρ x=.pointer (some ⟨g,i,none⟩))(ht:P.underlying t=some d)(hd:lT d=true)(hi:P.info? t=some ti)(hm:ti.size=m)
  (hb:Has (aJ g bt cs) H R) (hs:Fm cs i m vs):qB P E H ρ o (.agg vs.toArray) :=
 Y.xE ho hx ht hd hi (hm.trans hs.eq.1.symm) (Cells.M5 hb hs)
theorem Y.O5{P:Program}{t:TypeId}{x:Operand}{q j k m:Nat}{e:α}{vs:List Value}{d:TypeDesc}{ti:TypeInfo}(ho:o.op=.load t x)(hx:ρ x=.pointer (some (((ad A).add q).add j)))(h:kV E H T A n c l)(he:l[k]?=some e)(hq:q=k*T.size)(ht:P.underlying t=some d)(hd:lT d=true)(hi:P.info? t=some ti)(hm:ti.size=m)
  (hs:Fm (T.enc e) j m vs):qB P E H ρ o (.agg vs.toArray):=by
 refine Y.xE ho hx ht hd hi (hm.trans hs.eq.1.symm) λw hw i u hu=>?_;rw[jI];exact Cells.elem h he hq w hw _ u (hs.eq.2 i u hu)
theorem S.MN{P:Program}{t:TypeId}{x y:Operand}{g i:Nat}{vs:List Value}{ti:TypeInfo}{bt:TypeId}{cs cs':List Value}(ho:o.op=.store t x y)(hx:ev F x=.pointer (some ⟨g,i,none⟩))(hy:ev F y=.agg vs.toArray)(h1:vs.all Value.oneCell'=true)(hi:P.info? t=some ti)(hs:vs.length=ti.size)
  (hr:dT (aJ g bt cs) [aJ g bt cs'] H H') (hcs:Kg cs i vs cs'):gK P N E F H o λr H1=>r=undef∧H1=H':=by
 have h2:=hcs.eq;refine S.store ho hx hy ?_ hi (by simpa [Value.cells] using hs) hr (by simpa [Value.cells] using h2.1) ?_ ⟨rfl,rfl⟩
 ·intro v hv;exact aDm.1 h1 v (by simpa [Value.cells] using hv)
 ·rw[←h2.2,BN _ _ _ h2.1];simp[Value.cells]
theorem Y.Ve{P:Program}{s:TypeId}{x:Operand}{i:Nat}{fs:Array Field}{f:Field}{vs:List Value}{d:TypeDesc}{v:Value}(ho:o.op=.field s x i)(hx:ρ x=.agg vs.toArray)(hs:P.underlying s=some (.struct fs))(hf:fs[i]?=some f)
  (ht:P.underlying f.type=some d) (hd:lT d=false) (hv:vs[f.offset]?=some v):qB P E H ρ o v :=
 Y.Vt ho hx hs hf ht hd (by simpa using hv)
theorem Eh{P:Program}{u:World}(d:Nat){t e:TypeId}(ht:P.underlying t=some (.slice e))(A:Option Addr)(n c:Nat):(Op.equalIn (d+1) t (.slice A n c) (.slice none 0 0)).run P u=.ok A.isNone u:=by
 cases A<;>simp[Op.equalIn,run_underlying ht]
theorem IS{P:Program}{u:World}{t e:TypeId}(ht:P.underlying t=some (.slice e))(A:Option Addr)(n c:Nat):(binOp .eql t (.slice A n c) (.slice none 0 0)).run P u=.ok (.bool A.isNone) u:=by
 simp only[binOp];cases A<;>simp[Op.equal,Op.maxDepth,Eh 9999 ht]
theorem V.Z5{P:Program}{x y:Operand}{t t' e:TypeId}{n c:Nat}{A:Option Addr}{u:World}(ho:o.op=.binOp .eql t x y t')(ht:P.underlying t=some (.slice e))(hx:ρ x=.slice A n c)(hy:ρ y=.slice none 0 0):(execOp ρ o).run P u=.ok (.value (.bool A.isNone)) u:=by
 have h:=IS (u:=u) ht A n c;simp only[execOp,ho,hx,hy,eqGuard];simp[h]
theorem aB.oR(T:Ty α)(A:Option Addr):aB E H (own T A 0 0 []::H):=λw hw =>
 hw.grow (l:=[own T A 0 0 []]) rfl rfl rfl (aAf _) (λ_ _=>rfl) (F1:=λ_=>False) ⟨λ_=>False,λ_=>False,λb=>by simp,λ_ h=>h.elim,⟨rfl,.inl ⟨rfl,rfl,λ_ h=>h⟩⟩,λ_ h=>h⟩ (λ_ h=>h.elim)
end
theorem K6{cs:List Value}{k n:Nat}{vs:List Value}(h:Fm cs k n vs:=by(iterate 40 first|exact Fm.done|apply Fm.aN|apply Fm.next|skip);first|done|fail):Fm cs k n vs:=h
end
end Go.Proofs.YtmilalkjbojciaaGreat.Sep
