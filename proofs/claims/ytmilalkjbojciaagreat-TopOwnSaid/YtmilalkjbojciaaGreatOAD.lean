/- Part AD: what it needs. No condition. -/
import Derived.Test.YtmilalkjbojciaaGreatOAA
import Derived.Test.YtmilalkjbojciaaGreatOAB
set_option maxRecDepth 100000
set_option maxHeartbeats 8000000
open Go.Proofs.Tryz
namespace Go.Proofs.YtmilalkjbojciaaGreat.Sep
open Go.RowKit Reg
open Mem hiding Rd
def aU:Ty UInt8 where
 val b:=.int .u8 (b.toNat:Int)
 size:=1
 bytes:=1
 tid:=5
 zero:=.int .u8 0
 hlen _:=rfl
 lJ a u h:=by simp only[Value.cells,aAp] at h;subst h;rfl
 gL:=by decide
 hzero:=rfl
 fW:=by kernel_rfl
 nR:=.inr ⟨by kernel_rfl,λ_=>rfl⟩
theorem PC(x:Int)(h0:0≤x)(h1:x<256):aU.val (UInt8.ofNat x.toNat)=.int .u8 x:=by
 have e:((x.toNat % 256:Nat):Int)=x:=by omega
 simp[aU,e]
theorem Y.str{E:Env}{H:List aL}{ρ:Operand→Value}{o:Oper}{x:Operand}{A:Option Addr}{n c:Nat}{l:List UInt8}(ho:o.op=.convert 70 9 x)(hx:ρ x=.slice A n c)(h:kV E H aU A n c l):qB prog E H ρ o (.string (T0 l)):=by
 intro u hu;obtain⟨h0,h1,h2,h3⟩:=h u hu;have hr:Mem.Rd Fq u u.heap.size A n c l:=by
  refine⟨h0,h1,h2,?_,λhn=>?_⟩
  ·rw[Fq.bM,←h0]
  ·rcases h3 with h3|⟨ad,e,hc⟩
   ·omega
   ·have hl:0<(aU.bT l).length:=by rw[aU.bM,←h0];exact Nat.mul_pos hn aU.gL
    have:=aEk _ _ (hc 0 _ (aAa hl));exact⟨ad,e,by rwa [eQ] at this,hc⟩
 exact V.convert ho hx (VD hr)
def Ey:UInt8:=0
theorem V.Hg{P:Program}{ρ:Operand→Value}{o:Oper}{t e:TypeId}{x i:Operand}{g q:Nat}{k:IntKind}{j:Int}{m len:Nat}{ti:TypeInfo}{b:Addr}{u:World}(ho:o.op=.indexAddr t x i)(hx:ρ x=.pointer (some ⟨g,q,none⟩))(hi:ρ i=.int k j)(ht:P.underlying t=some (.array len e))(hti:P.info? e=some ti)(hs:ti.size=1)(hj:j.toNat=m)(h0:0≤j)(hm:m<len)(hb:(⟨g,q,none⟩:Addr).add m=b):(execOp ρ o).run P u=.ok (.value (.pointer (some b))) u:=by
 subst hj hb;have hjl:j<len:=by omega
 simp[execOp,ho,hx,hi,Instr.indexAt,asIntOf,run_underlying ht,Instr.sureAddr,h0,hjl,sizeOf,typeInfo,hti,hs]
end Go.Proofs.YtmilalkjbojciaaGreat.Sep
