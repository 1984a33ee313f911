/- Part AC: what it needs. No condition. -/
import Derived.Test.YtmilalkjbojciaaGreatOAA
import Derived.Test.YtmilalkjbojciaaGreatOAB
import Derived.Laws.StructEq
import Derived.ChangeKeysEq
set_option maxRecDepth 100000
set_option maxHeartbeats 8000000
open Go.Proofs.Tryz
namespace Go.Proofs.YtmilalkjbojciaaGreat.Sep
open Go.RowKit Reg
open Mem hiding Rd
def Ts(P:Program)(t:TypeId)(x:Value)(xs:List Value):Prop:=match P.underlying t with
 |some (.struct _)=>x=.agg xs.toArray
 |_=>xs=[x]
def ZA(P:Program)(ask:TypeId→List Value→List Value→Option Bool)(xs ys:List Value):List Field→Option Bool
 | []=>some true
 |f::fs=>if f.name = "_" then none else match P.info? f.type with
  |none=>none
  |some ti=>match ask f.type ((xs.drop f.offset).take ti.size) ((ys.drop f.offset).take ti.size),ZA P ask xs ys fs with
   |some a,some b=>some (a&&b)
   |_,_=>none
def eqv(P:Program):Nat→TypeId→List Value→List Value→Option Bool
 |0,_,_,_=>none
 |d+1,t,xs,ys=>match P.underlying t with
  |some (.int _)=>match xs,ys with
   | [.int k a],[.int k' b]=>if k=k' then some (decide (a=b)) else none
   |_,_=>none
  |some .bool=>match xs,ys with
   | [.bool a],[.bool b]=>some (decide (a=b))
   |_,_=>none
  |some (.struct fs)=>if P.stoodInHeld t then none else ZA P (eqv P d) xs ys fs.toList
  |_=>none
section
variable {P:Program}
theorem Ff{t : TypeId}{xs M5 ys : List Value}{off d : Nat}{ti : TypeInfo}{r : Bool}(hi : P.info? t = some ti)(hs : (xs.drop off).take ti.size = M5)(h : eqv P d t M5 ys = some r ∨ eqv P d t ys M5 = some r)(u : World) :
    ∃x, (part t xs.toArray off).run P u = .ok x u ∧ Ts P t x M5 := by
  cases d with
  |zero => simp[eqv] at h
  |succ d =>
    have one : ∀v, M5 = [v] → xs[off]? = some v := by
      intro v hv;rw[hv] at hs;cases hq : xs.drop off with
      |nil => rw[hq] at hs; simp at hs
      |cons a l =>
        rw[hq] at hs;cases hz : ti.size with
        |zero => rw[hz] at hs; simp at hs
        |succ n =>
          rw[hz, aEl] at hs;injection hs with h1 _
          have h2 : (xs.drop off)[0]? = some a := by rw[hq]; rfl
          rw[aCv] at h2;rw[←h1]; simpa using h2
    cases ht : P.underlying t with
    |none => simp[eqv, ht] at h
    |some D =>
      have sng : (∀fs, D ≠ .struct fs) → ∃v, M5 = [v] := by
        intro hD;unfold eqv at h;rw[ht] at h;cases D <;> simp only[or_self, reduceCtorEq] at h
        all_goals first
          |exact absurd rfl (hD _)
          | (rcases h with h |h
             · split at h
               · exact⟨_, rfl⟩
               · cases h
             · split at h
               · exact⟨_, rfl⟩
               · cases h)
      by_cases hD : ∃fs, D = .struct fs
      · obtain⟨fs, rfl⟩ := hD
        refine⟨.agg M5.toArray, ?_, by simp[Ts, ht]⟩;simp only[part, isAgg, sizeOf, typeInfo, aAy, run_underlying ht, aAr];simp[hi, ←hs, List.extract_eq_take_drop]
      · obtain⟨v, hv⟩ := sng (λfs e => hD ⟨fs, e⟩)
        have h1 := one v hv;unfold eqv at h;rw[ht] at h;refine⟨v, ?_, ?_⟩
        · cases D <;> simp only[or_self, reduceCtorEq] at h
          all_goals first
            |exact absurd ⟨_, rfl⟩ hD
            |simp[part, isAgg, run_underlying ht, h1]
        · unfold Ts
          rw[ht];cases D <;> first |exact absurd ⟨_, rfl⟩ hD |exact hv
theorem Qk(d:Nat):∀(k:Nat) (t:TypeId) (xs ys:List Value) (r:Bool) (x y:Value) (u:World),eqv P d t xs ys=some r→Ts P t x xs→Ts P t y ys→(Op.equalIn (d+k) t x y).run P u=.ok r u:=by
 induction d with
 |zero=>intro k t xs ys r x y u h;simp[eqv] at h
 |succ d ih =>
  intro k t xs ys r x y u h hx hy;rw[Nat.add_right_comm];unfold eqv at h;unfold Ts at hx hy;cases ht:P.underlying t with
  |none=>simp[ht] at h
  |some D =>
   rw[ht] at h hx hy;cases D<;>simp only[reduceCtorEq] at h
   case bool =>
    split at h
    ·injection hx with hx _;injection hy with hy _
     subst hx hy;injection h with h
     rw[run_equalIn_bool _ ht,←h];rename_i a b;cases a<;>cases b<;>rfl
    ·cases h
   case int =>
    split at h
    ·split at h
     ·rename_i hk;subst hk;injection hx with hx _;injection hy with hy _
      subst hx hy;injection h with h
      rw[run_equalIn_int _ _ _ _ _ _ _ ht,←h];rfl
     ·cases h
    ·cases h
   case struct fs =>
    split at h
    ·cases h
    ·rename_i hst;simp only at hx hy;subst hx hy;have hfs:P.fieldsOf t=fs:=by simp[Program.fieldsOf,ht]
     rw[run_equalIn_struct _ _ _ _ _ (by rw[hfs];exact ht) (by simpa using hst),hfs];generalize fs.toList=l at h;clear ht hfs
     induction l generalizing r u with
     |nil =>
      injection h with h
      rw[←h];simp[Op.eqFields]
     |cons f l ihl =>
      unfold ZA at h;split at h
      ·cases h
      ·rename_i hn;split at h
       ·cases h
       ·rename_i ti hi;split at h
        ·rename_i a b ha hb;injection h with h
         obtain⟨v1,h1,g1⟩:=Ff hi rfl (.inl ha) u;obtain⟨v2,h2,g2⟩:=Ff hi rfl (.inr ha) u;have h3:=ih k _ _ _ _ _ _ u ha g1 g2;simp only[Op.eqFields,ne_eq,hn,not_false_eq_true,if_true,aAy,h1,h2,h3,aAr];cases a
         ·simp only[aCx] at h;rw[←h];simp
         ·simp only[aCt] at h;subst h;simpa using ihl _ u hb
        ·cases h
structure WU(P:Program)(t:TypeId)(xs ys:Array Value)(r:Bool):Prop where
 ty:∃fs,P.underlying t=some (.struct fs)
 guard:P.eqGuardType P.depth t=false
 val:eqv P 5 t xs.toList ys.toList=some r
theorem WU.run{t:TypeId}{xs ys:Array Value}{r:Bool}(h:WU P t xs ys r)(u:World):(Op.equalIn 10000 t (.agg xs) (.agg ys)).run P u=.ok r u:=by
 obtain⟨fs,ht⟩:=h.ty;exact Qk 5 9995 t _ _ _ _ _ u h.val (by simp[Ts,ht]) (by simp[Ts,ht])
variable {ρ:Operand→Value} {o:Oper} {u:World}
theorem V.ZE{x y:Operand}{t t':TypeId}{xs ys:Array Value}{r:Bool}(ho:o.op=.binOp .eql t x y t')(hx:ρ x=.agg xs)(hy:ρ y=.agg ys)(h:WU P t xs ys r):(execOp ρ o).run P u=.ok (.value (.bool r)) u:=by
 have h1:=run_eql_struct (P:=P) u t xs ys;rw[h.run] at h1;simp[execOp,ho,hx,hy,run_eqGuard_agg u .eql t x y xs ys h.guard,h1]
theorem V.ZJ{x y:Operand}{t t':TypeId}{xs ys:Array Value}{r:Bool}(ho:o.op=.binOp .neq t x y t')(hx:ρ x=.agg xs)(hy:ρ y=.agg ys)(h:WU P t xs ys r):(execOp ρ o).run P u=.ok (.value (.bool (!r))) u:=by
 have h1:=run_neq_struct (P:=P) u t xs ys;rw[h.run] at h1;simp[execOp,ho,hx,hy,run_eqGuard_agg u .neq t x y xs ys h.guard,h1]
end
structure VP(P:Program)(t:TypeId)(xs ys:Array Value)(r:Bool):Prop where
 guard:P.eqGuardType P.depth t=false
 run:∀u,(Op.equalIn 10000 t (.agg xs) (.agg ys)).run P u=.ok r u
section
variable {P:Program} {ρ:Operand→Value} {o:Oper} {u:World}
theorem V.j0{x y:Operand}{t t':TypeId}{xs ys:Array Value}{r:Bool}(ho:o.op=.binOp .eql t x y t')(hx:ρ x=.agg xs)(hy:ρ y=.agg ys)(h:VP P t xs ys r):(execOp ρ o).run P u=.ok (.value (.bool r)) u:=by
 have h1:=run_eql_struct (P:=P) u t xs ys;rw[h.run] at h1;simp[execOp,ho,hx,hy,run_eqGuard_agg u .eql t x y xs ys h.guard,h1]
theorem xL{e:TypeId}{k:IntKind}{xs:Array Value}{i:Nat}{v:Value}(he:P.underlying e=some (.int k))(h:xs[i]?=some v):(part e xs i).run P u=.ok v u:=by
 simp[part,isAgg,run_underlying he,h]
theorem VP.four{t e:TypeId}(ht:P.underlying t=some (.array 4 e))(he:P.underlying e=some (.int .i64))(hs:(P.info? e).map (·.size)=some 1)(hg:P.eqGuardType P.depth t=false){a0 a1 a2 a3 b0 b1 b2 b3:Int} :
  VP P t #[.int .i64 a0,.int .i64 a1,.int .i64 a2,.int .i64 a3] #[.int .i64 b0,.int .i64 b1,.int .i64 b2,.int .i64 b3] (decide (a0=b0)&&(decide (a1=b1)&&(decide (a2=b2)&&decide (a3=b3)))):=by
 obtain⟨ti,hi,hs⟩:∃ti,P.info? e=some ti∧ti.size=1:=by
  cases h:P.info? e with
  |none=>rw[h] at hs;cases hs
  |some ti=>rw[h] at hs;injection hs with hs;exact⟨ti,rfl,hs⟩
 refine⟨hg,λu=>?_⟩;rw[show(10000:Nat)=9999+1 from rfl,run_equalIn_array u 9999 _ _ ht hi];have hc:P.cellsOf e=1:=by simp[Program.cellsOf,hi,hs]
 rw[hc];have hr:List.range 4=[0,1,2,3]:=rfl;rw[hr];have q:∀(a b:Int) (u:World),(Op.equalIn 9999 e (.int .i64 a) (.int .i64 b)).run P u=.ok (a == b) u:=λa b u=>run_equalIn_int u 9998 e .i64 .i64 a b he;have p0:∀(c0 c1 c2 c3:Int) (u:World),(part e #[.int .i64 c0,.int .i64 c1,.int .i64 c2,.int .i64 c3] 0).run P u=.ok (.int .i64 c0) u:=λ_ _ _ _ u=>xL he rfl;have p1:∀(c0 c1 c2 c3:Int) (u:World),(part e #[.int .i64 c0,.int .i64 c1,.int .i64 c2,.int .i64 c3] 1).run P u=.ok (.int .i64 c1) u:=λ_ _ _ _ u=>xL he rfl;have p2:∀(c0 c1 c2 c3:Int) (u:World),(part e #[.int .i64 c0,.int .i64 c1,.int .i64 c2,.int .i64 c3] 2).run P u=.ok (.int .i64 c2) u:=λ_ _ _ _ u=>xL he rfl;have p3:∀(c0 c1 c2 c3:Int) (u:World),(part e #[.int .i64 c0,.int .i64 c1,.int .i64 c2,.int .i64 c3] 3).run P u=.ok (.int .i64 c3) u:=λ_ _ _ _ u=>xL he rfl;simp only[Op.eqItems,aAy,aFx,aDq,show 2*1=2 from rfl,show 3*1=3 from rfl,p0,q,aAr];by_cases h0:a0=b0<;>by_cases h1:a1=b1<;>by_cases h2:a2=b2<;>by_cases h3:a3=b3<;>simp[h0,h1,h2,h3,p1,p2,p3,q]
end
end Go.Proofs.YtmilalkjbojciaaGreat.Sep
