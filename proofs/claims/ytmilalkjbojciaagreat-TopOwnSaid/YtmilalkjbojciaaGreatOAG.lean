/- Part AG: what it needs. No condition. -/
import Derived.Test.YtmilalkjbojciaaGreatOAA
import Derived.Test.YtmilalkjbojciaaGreatOAF
set_option maxRecDepth 100000
set_option maxHeartbeats 8000000
open Go.Proofs.Tryz
namespace Go.Proofs.YtmilalkjbojciaaGreat.Sep
open Go.RowKit Reg
open Mem hiding Rd
def dQ(x:Int):Prop := -9223372036854775808≤x∧x≤9223372036854775807
instance:kQ 5 UInt8 aU:=⟨rfl⟩
instance:uU aU Ey:=⟨rfl⟩
instance:lL aU 1:=⟨rfl⟩
structure bJ where
 rep:Int
 seq:Int
theorem bJ.eq_iff{x y:bJ}:x=y↔x.rep=y.rep∧x.seq=y.seq:=by
 cases x;cases y;simp
instance:DecidableEq bJ:=λ_ _=>decidable_of_iff _ bJ.eq_iff.symm
abbrev bJ.cs(x:bJ):List Value:=[.int .i64 x.rep,.int .i64 x.seq]
def bJ.ok(x:bJ):Prop:=dQ x.rep∧dQ x.seq
def fN:Ty bJ where
 val x:=.agg x.cs.toArray
 size:=2
 bytes:=16
 tid:=32
 zero:=.agg #[.int .i64 0,.int .i64 0]
 hlen _:=rfl
 lJ a u h:=by simp[Value.cells] at h;rcases h with rfl|rfl<;>rfl
 gL:=by decide
 hzero:=rfl
 fW:=by kernel_rfl
 nR:=.inl ⟨by kernel_rfl,λ_=>⟨_,rfl⟩⟩
instance:kQ 32 bJ fN:=⟨rfl⟩
instance:lL fN 16:=⟨rfl⟩
instance:cL 32 [.int .i64 0,.int .i64 0] [(0,1),(1,1)]:=⟨⟨by kernel_rfl,by kernel_rfl⟩⟩
instance {a0 b0 a1 b1:Int}:vI 32 #[.int .i64 a0,.int .i64 a1] #[.int .i64 b0,.int .i64 b1] (decide ((⟨a0,a1⟩:bJ)=⟨b0,b1⟩)) where e:={
 ty:=⟨_,underlying32⟩
 guard:=by kernel_rfl
 val:=by
  have h:eqv prog 5 32 [.int .i64 a0,.int .i64 a1] [.int .i64 b0,.int .i64 b1]=some (decide (a0=b0)&&(decide (a1=b1)&&true)):=by kernel_rfl
  rw[show(decide ((⟨a0,a1⟩:bJ)=⟨b0,b1⟩))=(decide (a0=b0)&&(decide (a1=b1)&&true)) by rw[aBz];simp[]];exact h }
structure aX where
 id:bJ
 time:Int
 kind:Int
 a:Int
 b:Int
 n:Int
 ref:bJ
theorem aX.eq_iff{x y:aX}:x=y↔x.id=y.id∧x.time=y.time∧x.kind=y.kind∧x.a=y.a∧x.b=y.b∧x.n=y.n∧x.ref=y.ref:=by
 cases x;cases y;simp
instance:DecidableEq aX:=λ_ _=>decidable_of_iff _ aX.eq_iff.symm
abbrev aX.cs(x:aX):List Value:=[.int .i64 x.id.rep,.int .i64 x.id.seq,.int .i64 x.time,.int .i64 x.kind,.int .i64 x.a,.int .i64 x.b,.int .i64 x.n,.int .i64 x.ref.rep,.int .i64 x.ref.seq]
def aX.ok(x:aX):Prop:=x.id.ok∧dQ x.time∧dQ x.kind∧dQ x.a∧dQ x.b∧dQ x.n∧x.ref.ok
def bE:Ty aX where
 val x:=.agg x.cs.toArray
 size:=9
 bytes:=72
 tid:=34
 zero:=.agg #[.int .i64 0,.int .i64 0,.int .i64 0,.int .i64 0,.int .i64 0,.int .i64 0,.int .i64 0,.int .i64 0,.int .i64 0]
 hlen _:=rfl
 lJ a u h:=by simp[Value.cells] at h;rcases h with rfl|rfl|rfl|rfl|rfl|rfl|rfl|rfl|rfl<;>rfl
 gL:=by decide
 hzero:=rfl
 fW:=by kernel_rfl
 nR:=.inl ⟨by kernel_rfl,λ_=>⟨_,rfl⟩⟩
abbrev dO:aX:=⟨⟨0,0⟩,0,0,0,0,0,⟨0,0⟩⟩
instance:kQ 34 aX bE:=⟨rfl⟩
instance:uU bE dO:=⟨rfl⟩
instance:lL bE 72:=⟨rfl⟩
instance:cL 34 [.int .i64 0,.int .i64 0,.int .i64 0,.int .i64 0,.int .i64 0,.int .i64 0,.int .i64 0,.int .i64 0,.int .i64 0] [(0,2),(2,1),(3,1),(4,1),(5,1),(6,1),(7,2)]:=⟨⟨by kernel_rfl,by kernel_rfl⟩⟩
instance {a0 b0 a1 b1 a2 b2 a3 b3 a4 b4 a5 b5 a6 b6 a7 b7 a8 b8:Int}:vI 34 #[.int .i64 a0,.int .i64 a1,.int .i64 a2,.int .i64 a3,.int .i64 a4,.int .i64 a5,.int .i64 a6,.int .i64 a7,.int .i64 a8] #[.int .i64 b0,.int .i64 b1,.int .i64 b2,.int .i64 b3,.int .i64 b4,.int .i64 b5,.int .i64 b6,.int .i64 b7,.int .i64 b8] (decide ((⟨⟨a0,a1⟩,a2,a3,a4,a5,a6,⟨a7,a8⟩⟩:aX)=⟨⟨b0,b1⟩,b2,b3,b4,b5,b6,⟨b7,b8⟩⟩)) where e:={
 ty:=⟨_,underlying34⟩
 guard:=by kernel_rfl
 val:=by
  have h:eqv prog 5 34 [.int .i64 a0,.int .i64 a1,.int .i64 a2,.int .i64 a3,.int .i64 a4,.int .i64 a5,.int .i64 a6,.int .i64 a7,.int .i64 a8] [.int .i64 b0,.int .i64 b1,.int .i64 b2,.int .i64 b3,.int .i64 b4,.int .i64 b5,.int .i64 b6,.int .i64 b7,.int .i64 b8]=some (((decide (a0=b0)&&(decide (a1=b1)&&true)))&&(decide (a2=b2)&&(decide (a3=b3)&&(decide (a4=b4)&&(decide (a5=b5)&&(decide (a6=b6)&&(((decide (a7=b7)&&(decide (a8=b8)&&true)))&&true))))))):=by kernel_rfl
  rw[show(decide ((⟨⟨a0,a1⟩,a2,a3,a4,a5,a6,⟨a7,a8⟩⟩:aX)=⟨⟨b0,b1⟩,b2,b3,b4,b5,b6,⟨b7,b8⟩⟩))=(((decide (a0=b0)&&(decide (a1=b1)&&true)))&&(decide (a2=b2)&&(decide (a3=b3)&&(decide (a4=b4)&&(decide (a5=b5)&&(decide (a6=b6)&&(((decide (a7=b7)&&(decide (a8=b8)&&true)))&&true))))))) by rw[aBz];simp[and_assoc]];exact h }
structure cQ where
 kind:Int
 a:Int
 n:Int
 ref:bJ
theorem cQ.eq_iff{x y:cQ}:x=y↔x.kind=y.kind∧x.a=y.a∧x.n=y.n∧x.ref=y.ref:=by
 cases x;cases y;simp
instance:DecidableEq cQ:=λ_ _=>decidable_of_iff _ cQ.eq_iff.symm
abbrev cQ.cs(x:cQ):List Value:=[.int .i64 x.kind,.int .i64 x.a,.int .i64 x.n,.int .i64 x.ref.rep,.int .i64 x.ref.seq]
def cQ.ok(x:cQ):Prop:=dQ x.kind∧dQ x.a∧dQ x.n∧x.ref.ok
def eG:Ty cQ where
 val x:=.agg x.cs.toArray
 size:=5
 bytes:=40
 tid:=77
 zero:=.agg #[.int .i64 0,.int .i64 0,.int .i64 0,.int .i64 0,.int .i64 0]
 hlen _:=rfl
 lJ a u h:=by simp[Value.cells] at h;rcases h with rfl|rfl|rfl|rfl|rfl<;>rfl
 gL:=by decide
 hzero:=rfl
 fW:=by kernel_rfl
 nR:=.inl ⟨by kernel_rfl,λ_=>⟨_,rfl⟩⟩
abbrev zW:cQ:=⟨0,0,0,⟨0,0⟩⟩
instance:kQ 77 cQ eG:=⟨rfl⟩
instance:lL eG 40:=⟨rfl⟩
instance:cL 77 [.int .i64 0,.int .i64 0,.int .i64 0,.int .i64 0,.int .i64 0] [(0,1),(1,1),(2,1),(3,2)]:=⟨⟨by kernel_rfl,by kernel_rfl⟩⟩
instance {a0 b0 a1 b1 a2 b2 a3 b3 a4 b4:Int}:vI 77 #[.int .i64 a0,.int .i64 a1,.int .i64 a2,.int .i64 a3,.int .i64 a4] #[.int .i64 b0,.int .i64 b1,.int .i64 b2,.int .i64 b3,.int .i64 b4] (decide ((⟨a0,a1,a2,⟨a3,a4⟩⟩:cQ)=⟨b0,b1,b2,⟨b3,b4⟩⟩)) where e:={
 ty:=⟨_,underlying77⟩
 guard:=by kernel_rfl
 val:=by
  have h:eqv prog 5 77 [.int .i64 a0,.int .i64 a1,.int .i64 a2,.int .i64 a3,.int .i64 a4] [.int .i64 b0,.int .i64 b1,.int .i64 b2,.int .i64 b3,.int .i64 b4]=some (decide (a0=b0)&&(decide (a1=b1)&&(decide (a2=b2)&&(((decide (a3=b3)&&(decide (a4=b4)&&true)))&&true)))):=by kernel_rfl
  rw[show(decide ((⟨a0,a1,a2,⟨a3,a4⟩⟩:cQ)=⟨b0,b1,b2,⟨b3,b4⟩⟩))=(decide (a0=b0)&&(decide (a1=b1)&&(decide (a2=b2)&&(((decide (a3=b3)&&(decide (a4=b4)&&true)))&&true)))) by rw[aBz];simp[]];exact h }
structure fU where
 bN:Int
 eF:Int
 dC:Int
 base:Int
 cap:Int
abbrev fU.cs(x:fU):List Value:=[.int .i64 x.bN,.int .i64 x.eF,.int .i64 x.dC,.int .i64 x.base,.int .i64 x.cap]
def fU.ok(x:fU):Prop:=dQ x.bN∧dQ x.eF∧dQ x.dC∧dQ x.base∧dQ x.cap
def Qh:Ty fU where
 val x:=.agg x.cs.toArray
 size:=5
 bytes:=40
 tid:=23
 zero:=.agg #[.int .i64 0,.int .i64 0,.int .i64 0,.int .i64 0,.int .i64 0]
 hlen _:=rfl
 lJ a u h:=by simp[Value.cells] at h;rcases h with rfl|rfl|rfl|rfl|rfl<;>rfl
 gL:=by decide
 hzero:=rfl
 fW:=by kernel_rfl
 nR:=.inl ⟨by kernel_rfl,λ_=>⟨_,rfl⟩⟩
instance:cL 23 [.int .i64 0,.int .i64 0,.int .i64 0,.int .i64 0,.int .i64 0] [(0,1),(1,1),(2,1),(3,1),(4,1)]:=⟨⟨by kernel_rfl,by kernel_rfl⟩⟩
structure bH where
 ord:Int
 bC:cQ
 aW:Int
 last:Int
 cX:Bool
 gone:Bool
 back:Int
 cJ:Int
theorem bH.eq_iff{x y:bH}:x=y↔x.ord=y.ord∧x.bC=y.bC∧x.aW=y.aW∧x.last=y.last∧x.cX=y.cX∧x.gone=y.gone∧x.back=y.back∧x.cJ=y.cJ:=by
 cases x;cases y;simp
instance:DecidableEq bH:=λ_ _=>decidable_of_iff _ bH.eq_iff.symm
abbrev bH.cs(x:bH):List Value:=[.int .i64 x.ord,.int .i64 x.bC.kind,.int .i64 x.bC.a,.int .i64 x.bC.n,.int .i64 x.bC.ref.rep,.int .i64 x.bC.ref.seq,.int .i64 x.aW,.int .i64 x.last,.bool x.cX,.bool x.gone,.int .i64 x.back,.int .i64 x.cJ]
def bH.ok(x:bH):Prop:=dQ x.ord∧x.bC.ok∧dQ x.aW∧dQ x.last∧dQ x.back∧dQ x.cJ
def fH:Ty bH where
 val x:=.agg x.cs.toArray
 size:=12
 bytes:=88
 tid:=92
 zero:=.agg #[.int .i64 0,.int .i64 0,.int .i64 0,.int .i64 0,.int .i64 0,.int .i64 0,.int .i64 0,.int .i64 0,.bool false,.bool false,.int .i64 0,.int .i64 0]
 hlen _:=rfl
 lJ a u h:=by simp[Value.cells] at h;rcases h with rfl|rfl|rfl|rfl|rfl|rfl|rfl|rfl|rfl|rfl|rfl|rfl<;>rfl
 gL:=by decide
 hzero:=rfl
 fW:=by kernel_rfl
 nR:=.inl ⟨by kernel_rfl,λ_=>⟨_,rfl⟩⟩
abbrev El:bH:=⟨0,⟨0,0,0,⟨0,0⟩⟩,0,0,false,false,0,0⟩
instance:kQ 92 bH fH:=⟨rfl⟩
instance:lL fH 88:=⟨rfl⟩
instance:cL 92 [.int .i64 0,.int .i64 0,.int .i64 0,.int .i64 0,.int .i64 0,.int .i64 0,.int .i64 0,.int .i64 0,.bool false,.bool false,.int .i64 0,.int .i64 0] [(0,1),(1,5),(6,1),(7,1),(8,1),(9,1),(10,1),(11,1)]:=⟨⟨by kernel_rfl,by kernel_rfl⟩⟩
instance {a0 b0 a1 b1 a2 b2 a3 b3 a4 b4 a5 b5 a6 b6 a7 b7 a10 b10 a11 b11:Int}{a8 b8 a9 b9:Bool}:vI 92 #[.int .i64 a0,.int .i64 a1,.int .i64 a2,.int .i64 a3,.int .i64 a4,.int .i64 a5,.int .i64 a6,.int .i64 a7,.bool a8,.bool a9,.int .i64 a10,.int .i64 a11] #[.int .i64 b0,.int .i64 b1,.int .i64 b2,.int .i64 b3,.int .i64 b4,.int .i64 b5,.int .i64 b6,.int .i64 b7,.bool b8,.bool b9,.int .i64 b10,.int .i64 b11] (decide ((⟨a0,⟨a1,a2,a3,⟨a4,a5⟩⟩,a6,a7,a8,a9,a10,a11⟩:bH)=⟨b0,⟨b1,b2,b3,⟨b4,b5⟩⟩,b6,b7,b8,b9,b10,b11⟩)) where e:={
 ty:=⟨_,underlying92⟩
 guard:=by kernel_rfl
 val:=by
  have h:eqv prog 5 92 [.int .i64 a0,.int .i64 a1,.int .i64 a2,.int .i64 a3,.int .i64 a4,.int .i64 a5,.int .i64 a6,.int .i64 a7,.bool a8,.bool a9,.int .i64 a10,.int .i64 a11] [.int .i64 b0,.int .i64 b1,.int .i64 b2,.int .i64 b3,.int .i64 b4,.int .i64 b5,.int .i64 b6,.int .i64 b7,.bool b8,.bool b9,.int .i64 b10,.int .i64 b11]=some (decide (a0=b0)&&(((decide (a1=b1)&&(decide (a2=b2)&&(decide (a3=b3)&&(((decide (a4=b4)&&(decide (a5=b5)&&true)))&&true)))))&&(decide (a6=b6)&&(decide (a7=b7)&&(decide (a8=b8)&&(decide (a9=b9)&&(decide (a10=b10)&&(decide (a11=b11)&&true)))))))):=by kernel_rfl
  rw[show(decide ((⟨a0,⟨a1,a2,a3,⟨a4,a5⟩⟩,a6,a7,a8,a9,a10,a11⟩:bH)=⟨b0,⟨b1,b2,b3,⟨b4,b5⟩⟩,b6,b7,b8,b9,b10,b11⟩))=(decide (a0=b0)&&(((decide (a1=b1)&&(decide (a2=b2)&&(decide (a3=b3)&&(((decide (a4=b4)&&(decide (a5=b5)&&true)))&&true)))))&&(decide (a6=b6)&&(decide (a7=b7)&&(decide (a8=b8)&&(decide (a9=b9)&&(decide (a10=b10)&&(decide (a11=b11)&&true)))))))) by rw[aBz];simp[and_assoc]];exact h }
structure bP where
 id:bJ
 ord:Int
 cD:Bool
theorem bP.eq_iff{x y:bP}:x=y↔x.id=y.id∧x.ord=y.ord∧x.cD=y.cD:=by
 cases x;cases y;simp
instance:DecidableEq bP:=λ_ _=>decidable_of_iff _ bP.eq_iff.symm
abbrev bP.cs(x:bP):List Value:=[.int .i64 x.id.rep,.int .i64 x.id.seq,.int .i64 x.ord,.bool x.cD]
instance:cL 75 [.int .i64 0,.int .i64 0,.int .i64 0,.bool false] [(0,2),(2,1),(3,1)]:=⟨⟨by kernel_rfl,by kernel_rfl⟩⟩
instance {a0 b0 a1 b1 a2 b2:Int}{a3 b3:Bool}:vI 75 #[.int .i64 a0,.int .i64 a1,.int .i64 a2,.bool a3] #[.int .i64 b0,.int .i64 b1,.int .i64 b2,.bool b3] (decide ((⟨⟨a0,a1⟩,a2,a3⟩:bP)=⟨⟨b0,b1⟩,b2,b3⟩)) where e:={
 ty:=⟨_,underlying75⟩
 guard:=by kernel_rfl
 val:=by
  have h:eqv prog 5 75 [.int .i64 a0,.int .i64 a1,.int .i64 a2,.bool a3] [.int .i64 b0,.int .i64 b1,.int .i64 b2,.bool b3]=some (((decide (a0=b0)&&(decide (a1=b1)&&true)))&&(decide (a2=b2)&&(decide (a3=b3)&&true))):=by kernel_rfl
  rw[show(decide ((⟨⟨a0,a1⟩,a2,a3⟩:bP)=⟨⟨b0,b1⟩,b2,b3⟩))=(((decide (a0=b0)&&(decide (a1=b1)&&true)))&&(decide (a2=b2)&&(decide (a3=b3)&&true))) by rw[aBz];simp[and_assoc]];exact h }
structure dK where
 key:bP
 bC:cQ
theorem dK.eq_iff{x y:dK}:x=y↔x.key=y.key∧x.bC=y.bC:=by
 cases x;cases y;simp
instance:DecidableEq dK:=λ_ _=>decidable_of_iff _ dK.eq_iff.symm
abbrev dK.cs(x:dK):List Value:=[.int .i64 x.key.id.rep,.int .i64 x.key.id.seq,.int .i64 x.key.ord,.bool x.key.cD,.int .i64 x.bC.kind,.int .i64 x.bC.a,.int .i64 x.bC.n,.int .i64 x.bC.ref.rep,.int .i64 x.bC.ref.seq]
def cP:Ty dK where
 val x:=.agg x.cs.toArray
 size:=9
 bytes:=72
 tid:=79
 zero:=.agg #[.int .i64 0,.int .i64 0,.int .i64 0,.bool false,.int .i64 0,.int .i64 0,.int .i64 0,.int .i64 0,.int .i64 0]
 hlen _:=rfl
 lJ a u h:=by simp[Value.cells] at h;rcases h with rfl|rfl|rfl|rfl|rfl|rfl|rfl|rfl|rfl<;>rfl
 gL:=by decide
 hzero:=rfl
 fW:=by kernel_rfl
 nR:=.inl ⟨by kernel_rfl,λ_=>⟨_,rfl⟩⟩
abbrev wN:dK:=⟨⟨⟨0,0⟩,0,false⟩,⟨0,0,0,⟨0,0⟩⟩⟩
instance:kQ 79 dK cP:=⟨rfl⟩
instance:lL cP 72:=⟨rfl⟩
instance:cL 79 [.int .i64 0,.int .i64 0,.int .i64 0,.bool false,.int .i64 0,.int .i64 0,.int .i64 0,.int .i64 0,.int .i64 0] [(0,4),(4,5)]:=⟨⟨by kernel_rfl,by kernel_rfl⟩⟩
instance {a0 b0 a1 b1 a2 b2 a4 b4 a5 b5 a6 b6 a7 b7 a8 b8:Int}{a3 b3:Bool}:vI 79 #[.int .i64 a0,.int .i64 a1,.int .i64 a2,.bool a3,.int .i64 a4,.int .i64 a5,.int .i64 a6,.int .i64 a7,.int .i64 a8] #[.int .i64 b0,.int .i64 b1,.int .i64 b2,.bool b3,.int .i64 b4,.int .i64 b5,.int .i64 b6,.int .i64 b7,.int .i64 b8] (decide ((⟨⟨⟨a0,a1⟩,a2,a3⟩,⟨a4,a5,a6,⟨a7,a8⟩⟩⟩:dK)=⟨⟨⟨b0,b1⟩,b2,b3⟩,⟨b4,b5,b6,⟨b7,b8⟩⟩⟩)) where e:={
 ty:=⟨_,underlying79⟩
 guard:=by kernel_rfl
 val:=by
  have h:eqv prog 5 79 [.int .i64 a0,.int .i64 a1,.int .i64 a2,.bool a3,.int .i64 a4,.int .i64 a5,.int .i64 a6,.int .i64 a7,.int .i64 a8] [.int .i64 b0,.int .i64 b1,.int .i64 b2,.bool b3,.int .i64 b4,.int .i64 b5,.int .i64 b6,.int .i64 b7,.int .i64 b8]=some (((((decide (a0=b0)&&(decide (a1=b1)&&true)))&&(decide (a2=b2)&&(decide (a3=b3)&&true))))&&(((decide (a4=b4)&&(decide (a5=b5)&&(decide (a6=b6)&&(((decide (a7=b7)&&(decide (a8=b8)&&true)))&&true)))))&&true)):=by kernel_rfl
  rw[show(decide ((⟨⟨⟨a0,a1⟩,a2,a3⟩,⟨a4,a5,a6,⟨a7,a8⟩⟩⟩:dK)=⟨⟨⟨b0,b1⟩,b2,b3⟩,⟨b4,b5,b6,⟨b7,b8⟩⟩⟩))=(((((decide (a0=b0)&&(decide (a1=b1)&&true)))&&(decide (a2=b2)&&(decide (a3=b3)&&true))))&&(((decide (a4=b4)&&(decide (a5=b5)&&(decide (a6=b6)&&(((decide (a7=b7)&&(decide (a8=b8)&&true)))&&true)))))&&true)) by rw[aBz];simp[and_assoc]];exact h }
structure pD where
 kind:Int
 c:aX
 id:bJ
 key:bP
 now:Int
theorem pD.eq_iff{x y:pD}:x=y↔x.kind=y.kind∧x.c=y.c∧x.id=y.id∧x.key=y.key∧x.now=y.now:=by
 cases x;cases y;simp
instance:DecidableEq pD:=λ_ _=>decidable_of_iff _ pD.eq_iff.symm
abbrev pD.cs(x:pD):List Value:=[.int .i64 x.kind,.int .i64 x.c.id.rep,.int .i64 x.c.id.seq,.int .i64 x.c.time,.int .i64 x.c.kind,.int .i64 x.c.a,.int .i64 x.c.b,.int .i64 x.c.n,.int .i64 x.c.ref.rep,.int .i64 x.c.ref.seq,.int .i64 x.id.rep,.int .i64 x.id.seq,.int .i64 x.key.id.rep,.int .i64 x.key.id.seq,.int .i64 x.key.ord,.bool x.key.cD,.int .i64 x.now]
def jE:Ty pD where
 val x:=.agg x.cs.toArray
 size:=17
 bytes:=136
 tid:=202
 zero:=.agg #[.int .i64 0,.int .i64 0,.int .i64 0,.int .i64 0,.int .i64 0,.int .i64 0,.int .i64 0,.int .i64 0,.int .i64 0,.int .i64 0,.int .i64 0,.int .i64 0,.int .i64 0,.int .i64 0,.int .i64 0,.bool false,.int .i64 0]
 hlen _:=rfl
 lJ a u h:=by simp[Value.cells] at h;rcases h with rfl|rfl|rfl|rfl|rfl|rfl|rfl|rfl|rfl|rfl|rfl|rfl|rfl|rfl|rfl|rfl|rfl<;>rfl
 gL:=by decide
 hzero:=rfl
 fW:=by kernel_rfl
 nR:=.inl ⟨by kernel_rfl,λ_=>⟨_,rfl⟩⟩
abbrev QL:pD:=⟨0,⟨⟨0,0⟩,0,0,0,0,0,⟨0,0⟩⟩,⟨0,0⟩,⟨⟨0,0⟩,0,false⟩,0⟩
instance:kQ 202 pD jE:=⟨rfl⟩
instance:lL jE 136:=⟨rfl⟩
instance:cL 202 [.int .i64 0,.int .i64 0,.int .i64 0,.int .i64 0,.int .i64 0,.int .i64 0,.int .i64 0,.int .i64 0,.int .i64 0,.int .i64 0,.int .i64 0,.int .i64 0,.int .i64 0,.int .i64 0,.int .i64 0,.bool false,.int .i64 0] [(0,1),(1,9),(10,2),(12,4),(16,1)]:=⟨⟨by kernel_rfl,by kernel_rfl⟩⟩
instance {a0 b0 a1 b1 a2 b2 a3 b3 a4 b4 a5 b5 a6 b6 a7 b7 a8 b8 a9 b9 a10 b10 a11 b11 a12 b12 a13 b13 a14 b14 a16 b16:Int}{a15 b15:Bool}:vI 202 #[.int .i64 a0,.int .i64 a1,.int .i64 a2,.int .i64 a3,.int .i64 a4,.int .i64 a5,.int .i64 a6,.int .i64 a7,.int .i64 a8,.int .i64 a9,.int .i64 a10,.int .i64 a11,.int .i64 a12,.int .i64 a13,.int .i64 a14,.bool a15,.int .i64 a16] #[.int .i64 b0,.int .i64 b1,.int .i64 b2,.int .i64 b3,.int .i64 b4,.int .i64 b5,.int .i64 b6,.int .i64 b7,.int .i64 b8,.int .i64 b9,.int .i64 b10,.int .i64 b11,.int .i64 b12,.int .i64 b13,.int .i64 b14,.bool b15,.int .i64 b16] (decide ((⟨a0,⟨⟨a1,a2⟩,a3,a4,a5,a6,a7,⟨a8,a9⟩⟩,⟨a10,a11⟩,⟨⟨a12,a13⟩,a14,a15⟩,a16⟩:pD)=⟨b0,⟨⟨b1,b2⟩,b3,b4,b5,b6,b7,⟨b8,b9⟩⟩,⟨b10,b11⟩,⟨⟨b12,b13⟩,b14,b15⟩,b16⟩)) where e:={
 ty:=⟨_,underlying202⟩
 guard:=by kernel_rfl
 val:=by
  have h:eqv prog 5 202 [.int .i64 a0,.int .i64 a1,.int .i64 a2,.int .i64 a3,.int .i64 a4,.int .i64 a5,.int .i64 a6,.int .i64 a7,.int .i64 a8,.int .i64 a9,.int .i64 a10,.int .i64 a11,.int .i64 a12,.int .i64 a13,.int .i64 a14,.bool a15,.int .i64 a16] [.int .i64 b0,.int .i64 b1,.int .i64 b2,.int .i64 b3,.int .i64 b4,.int .i64 b5,.int .i64 b6,.int .i64 b7,.int .i64 b8,.int .i64 b9,.int .i64 b10,.int .i64 b11,.int .i64 b12,.int .i64 b13,.int .i64 b14,.bool b15,.int .i64 b16]=some (decide (a0=b0)&&(((((decide (a1=b1)&&(decide (a2=b2)&&true)))&&(decide (a3=b3)&&(decide (a4=b4)&&(decide (a5=b5)&&(decide (a6=b6)&&(decide (a7=b7)&&(((decide (a8=b8)&&(decide (a9=b9)&&true)))&&true))))))))&&(((decide (a10=b10)&&(decide (a11=b11)&&true)))&&(((((decide (a12=b12)&&(decide (a13=b13)&&true)))&&(decide (a14=b14)&&(decide (a15=b15)&&true))))&&(decide (a16=b16)&&true))))):=by kernel_rfl
  rw[show(decide ((⟨a0,⟨⟨a1,a2⟩,a3,a4,a5,a6,a7,⟨a8,a9⟩⟩,⟨a10,a11⟩,⟨⟨a12,a13⟩,a14,a15⟩,a16⟩:pD)=⟨b0,⟨⟨b1,b2⟩,b3,b4,b5,b6,b7,⟨b8,b9⟩⟩,⟨b10,b11⟩,⟨⟨b12,b13⟩,b14,b15⟩,b16⟩))=(decide (a0=b0)&&(((((decide (a1=b1)&&(decide (a2=b2)&&true)))&&(decide (a3=b3)&&(decide (a4=b4)&&(decide (a5=b5)&&(decide (a6=b6)&&(decide (a7=b7)&&(((decide (a8=b8)&&(decide (a9=b9)&&true)))&&true))))))))&&(((decide (a10=b10)&&(decide (a11=b11)&&true)))&&(((((decide (a12=b12)&&(decide (a13=b13)&&true)))&&(decide (a14=b14)&&(decide (a15=b15)&&true))))&&(decide (a16=b16)&&true))))) by rw[aBz];simp[and_assoc]];exact h }
structure cH where
 kind:Int
 r:Int
 i:Int
 n:Int
 c:aX
theorem cH.eq_iff{x y:cH}:x=y↔x.kind=y.kind∧x.r=y.r∧x.i=y.i∧x.n=y.n∧x.c=y.c:=by
 cases x;cases y;simp
instance:DecidableEq cH:=λ_ _=>decidable_of_iff _ cH.eq_iff.symm
abbrev cH.cs(x:cH):List Value:=[.int .i64 x.kind,.int .i64 x.r,.int .i64 x.i,.int .i64 x.n,.int .i64 x.c.id.rep,.int .i64 x.c.id.seq,.int .i64 x.c.time,.int .i64 x.c.kind,.int .i64 x.c.a,.int .i64 x.c.b,.int .i64 x.c.n,.int .i64 x.c.ref.rep,.int .i64 x.c.ref.seq]
def cH.ok(x:cH):Prop:=dQ x.kind∧dQ x.r∧dQ x.i∧dQ x.n∧x.c.ok
def mX:Ty cH where
 val x:=.agg x.cs.toArray
 size:=13
 bytes:=104
 tid:=39
 zero:=.agg #[.int .i64 0,.int .i64 0,.int .i64 0,.int .i64 0,.int .i64 0,.int .i64 0,.int .i64 0,.int .i64 0,.int .i64 0,.int .i64 0,.int .i64 0,.int .i64 0,.int .i64 0]
 hlen _:=rfl
 lJ a u h:=by simp[Value.cells] at h;rcases h with rfl|rfl|rfl|rfl|rfl|rfl|rfl|rfl|rfl|rfl|rfl|rfl|rfl<;>rfl
 gL:=by decide
 hzero:=rfl
 fW:=by kernel_rfl
 nR:=.inl ⟨by kernel_rfl,λ_=>⟨_,rfl⟩⟩
abbrev E0:cH:=⟨0,0,0,0,⟨⟨0,0⟩,0,0,0,0,0,⟨0,0⟩⟩⟩
instance:kQ 39 cH mX:=⟨rfl⟩
instance:cL 39 [.int .i64 0,.int .i64 0,.int .i64 0,.int .i64 0,.int .i64 0,.int .i64 0,.int .i64 0,.int .i64 0,.int .i64 0,.int .i64 0,.int .i64 0,.int .i64 0,.int .i64 0] [(0,1),(1,1),(2,1),(3,1),(4,9)]:=⟨⟨by kernel_rfl,by kernel_rfl⟩⟩
instance {a0 b0 a1 b1 a2 b2 a3 b3 a4 b4 a5 b5 a6 b6 a7 b7 a8 b8 a9 b9 a10 b10 a11 b11 a12 b12:Int}:vI 39 #[.int .i64 a0,.int .i64 a1,.int .i64 a2,.int .i64 a3,.int .i64 a4,.int .i64 a5,.int .i64 a6,.int .i64 a7,.int .i64 a8,.int .i64 a9,.int .i64 a10,.int .i64 a11,.int .i64 a12] #[.int .i64 b0,.int .i64 b1,.int .i64 b2,.int .i64 b3,.int .i64 b4,.int .i64 b5,.int .i64 b6,.int .i64 b7,.int .i64 b8,.int .i64 b9,.int .i64 b10,.int .i64 b11,.int .i64 b12] (decide ((⟨a0,a1,a2,a3,⟨⟨a4,a5⟩,a6,a7,a8,a9,a10,⟨a11,a12⟩⟩⟩:cH)=⟨b0,b1,b2,b3,⟨⟨b4,b5⟩,b6,b7,b8,b9,b10,⟨b11,b12⟩⟩⟩)) where e:={
 ty:=⟨_,underlying39⟩
 guard:=by kernel_rfl
 val:=by
  have h:eqv prog 5 39 [.int .i64 a0,.int .i64 a1,.int .i64 a2,.int .i64 a3,.int .i64 a4,.int .i64 a5,.int .i64 a6,.int .i64 a7,.int .i64 a8,.int .i64 a9,.int .i64 a10,.int .i64 a11,.int .i64 a12] [.int .i64 b0,.int .i64 b1,.int .i64 b2,.int .i64 b3,.int .i64 b4,.int .i64 b5,.int .i64 b6,.int .i64 b7,.int .i64 b8,.int .i64 b9,.int .i64 b10,.int .i64 b11,.int .i64 b12]=some (decide (a0=b0)&&(decide (a1=b1)&&(decide (a2=b2)&&(decide (a3=b3)&&(((((decide (a4=b4)&&(decide (a5=b5)&&true)))&&(decide (a6=b6)&&(decide (a7=b7)&&(decide (a8=b8)&&(decide (a9=b9)&&(decide (a10=b10)&&(((decide (a11=b11)&&(decide (a12=b12)&&true)))&&true))))))))&&true))))):=by kernel_rfl
  rw[show(decide ((⟨a0,a1,a2,a3,⟨⟨a4,a5⟩,a6,a7,a8,a9,a10,⟨a11,a12⟩⟩⟩:cH)=⟨b0,b1,b2,b3,⟨⟨b4,b5⟩,b6,b7,b8,b9,b10,⟨b11,b12⟩⟩⟩))=(decide (a0=b0)&&(decide (a1=b1)&&(decide (a2=b2)&&(decide (a3=b3)&&(((((decide (a4=b4)&&(decide (a5=b5)&&true)))&&(decide (a6=b6)&&(decide (a7=b7)&&(decide (a8=b8)&&(decide (a9=b9)&&(decide (a10=b10)&&(((decide (a11=b11)&&(decide (a12=b12)&&true)))&&true))))))))&&true))))) by rw[aBz];simp[and_assoc]];exact h }
structure wM where
 code:Int
 n:Int
 m:Int
abbrev wM.cs(x:wM):List Value:=[.int .i64 x.code,.int .i64 x.n,.int .i64 x.m]
abbrev CQ:wM:=⟨0,0,0⟩
instance:cL 36 [.int .i64 0,.int .i64 0,.int .i64 0] [(0,1),(1,1),(2,1)]:=⟨⟨by kernel_rfl,by kernel_rfl⟩⟩
structure dD where
 id:bJ
 cC:Int
 item:Int
 iN:Int
 cost:Int
 state:Int
abbrev dD.cs(x:dD):List Value:=[.int .i64 x.id.rep,.int .i64 x.id.seq,.int .i64 x.cC,.int .i64 x.item,.int .i64 x.iN,.int .i64 x.cost,.int .i64 x.state]
def eB:Ty dD where
 val x:=.agg x.cs.toArray
 size:=7
 bytes:=56
 tid:=155
 zero:=.agg #[.int .i64 0,.int .i64 0,.int .i64 0,.int .i64 0,.int .i64 0,.int .i64 0,.int .i64 0]
 hlen _:=rfl
 lJ a u h:=by simp[Value.cells] at h;rcases h with rfl|rfl|rfl|rfl|rfl|rfl|rfl<;>rfl
 gL:=by decide
 hzero:=rfl
 fW:=by kernel_rfl
 nR:=.inl ⟨by kernel_rfl,λ_=>⟨_,rfl⟩⟩
abbrev UI:dD:=⟨⟨0,0⟩,0,0,0,0,0⟩
instance:kQ 155 dD eB:=⟨rfl⟩
instance:uU eB UI:=⟨rfl⟩
instance:lL eB 56:=⟨rfl⟩
instance:cL 155 [.int .i64 0,.int .i64 0,.int .i64 0,.int .i64 0,.int .i64 0,.int .i64 0,.int .i64 0] [(0,2),(2,1),(3,1),(4,1),(5,1),(6,1)]:=⟨⟨by kernel_rfl,by kernel_rfl⟩⟩
structure fM where
 Ev:Int
 now:Int
 key:bP
 bC:cQ
theorem fM.eq_iff{x y:fM}:x=y↔x.Ev=y.Ev∧x.now=y.now∧x.key=y.key∧x.bC=y.bC:=by
 cases x;cases y;simp
instance:DecidableEq fM:=λ_ _=>decidable_of_iff _ fM.eq_iff.symm
abbrev fM.cs(x:fM):List Value:=[.int .i64 x.Ev,.int .i64 x.now,.int .i64 x.key.id.rep,.int .i64 x.key.id.seq,.int .i64 x.key.ord,.bool x.key.cD,.int .i64 x.bC.kind,.int .i64 x.bC.a,.int .i64 x.bC.n,.int .i64 x.bC.ref.rep,.int .i64 x.bC.ref.seq]
def mK:Ty fM where
 val x:=.agg x.cs.toArray
 size:=11
 bytes:=88
 tid:=81
 zero:=.agg #[.int .i64 0,.int .i64 0,.int .i64 0,.int .i64 0,.int .i64 0,.bool false,.int .i64 0,.int .i64 0,.int .i64 0,.int .i64 0,.int .i64 0]
 hlen _:=rfl
 lJ a u h:=by simp[Value.cells] at h;rcases h with rfl|rfl|rfl|rfl|rfl|rfl|rfl|rfl|rfl|rfl|rfl<;>rfl
 gL:=by decide
 hzero:=rfl
 fW:=by kernel_rfl
 nR:=.inl ⟨by kernel_rfl,λ_=>⟨_,rfl⟩⟩
abbrev Pj:fM:=⟨0,0,⟨⟨0,0⟩,0,false⟩,⟨0,0,0,⟨0,0⟩⟩⟩
instance:kQ 81 fM mK:=⟨rfl⟩
instance:lL mK 88:=⟨rfl⟩
instance:cL 81 [.int .i64 0,.int .i64 0,.int .i64 0,.int .i64 0,.int .i64 0,.bool false,.int .i64 0,.int .i64 0,.int .i64 0,.int .i64 0,.int .i64 0] [(0,1),(1,1),(2,4),(6,5)]:=⟨⟨by kernel_rfl,by kernel_rfl⟩⟩
instance {a0 b0 a1 b1 a2 b2 a3 b3 a4 b4 a6 b6 a7 b7 a8 b8 a9 b9 a10 b10:Int}{a5 b5:Bool}:vI 81 #[.int .i64 a0,.int .i64 a1,.int .i64 a2,.int .i64 a3,.int .i64 a4,.bool a5,.int .i64 a6,.int .i64 a7,.int .i64 a8,.int .i64 a9,.int .i64 a10] #[.int .i64 b0,.int .i64 b1,.int .i64 b2,.int .i64 b3,.int .i64 b4,.bool b5,.int .i64 b6,.int .i64 b7,.int .i64 b8,.int .i64 b9,.int .i64 b10] (decide ((⟨a0,a1,⟨⟨a2,a3⟩,a4,a5⟩,⟨a6,a7,a8,⟨a9,a10⟩⟩⟩:fM)=⟨b0,b1,⟨⟨b2,b3⟩,b4,b5⟩,⟨b6,b7,b8,⟨b9,b10⟩⟩⟩)) where e:={
 ty:=⟨_,underlying81⟩
 guard:=by kernel_rfl
 val:=by
  have h:eqv prog 5 81 [.int .i64 a0,.int .i64 a1,.int .i64 a2,.int .i64 a3,.int .i64 a4,.bool a5,.int .i64 a6,.int .i64 a7,.int .i64 a8,.int .i64 a9,.int .i64 a10] [.int .i64 b0,.int .i64 b1,.int .i64 b2,.int .i64 b3,.int .i64 b4,.bool b5,.int .i64 b6,.int .i64 b7,.int .i64 b8,.int .i64 b9,.int .i64 b10]=some (decide (a0=b0)&&(decide (a1=b1)&&(((((decide (a2=b2)&&(decide (a3=b3)&&true)))&&(decide (a4=b4)&&(decide (a5=b5)&&true))))&&(((decide (a6=b6)&&(decide (a7=b7)&&(decide (a8=b8)&&(((decide (a9=b9)&&(decide (a10=b10)&&true)))&&true)))))&&true)))):=by kernel_rfl
  rw[show(decide ((⟨a0,a1,⟨⟨a2,a3⟩,a4,a5⟩,⟨a6,a7,a8,⟨a9,a10⟩⟩⟩:fM)=⟨b0,b1,⟨⟨b2,b3⟩,b4,b5⟩,⟨b6,b7,b8,⟨b9,b10⟩⟩⟩))=(decide (a0=b0)&&(decide (a1=b1)&&(((((decide (a2=b2)&&(decide (a3=b3)&&true)))&&(decide (a4=b4)&&(decide (a5=b5)&&true))))&&(((decide (a6=b6)&&(decide (a7=b7)&&(decide (a8=b8)&&(((decide (a9=b9)&&(decide (a10=b10)&&true)))&&true)))))&&true)))) by rw[aBz];simp[and_assoc]];exact h }
section
variable {P:Program} {N:Nat} {E:Env} {F:Nat→Value} {H:List aL} {Q:QF}
theorem C.cd{c:Operand}{x y:Code}{p:Prop}{i:Decidable p}(hc:ev F c=.bool (@decide p i))(hx:p→C P N E x Q F H)(hy:¬p→C P N E y Q F H):C P N E (.cond c x y) Q F H:=C.XE hc hx hy
theorem L.fT{ops rest:List Oper}{d:Nat}{op:Op}{ty:TypeId}{pos:String}{af:Array Edge}{j g:Nat}{p:Prop}{i:Decidable p}(hd:d<N)(hn:(nth ops j).bind (·.dst)=some g)(hg:g<N)(hv:F g=.bool (@decide p i))
  (h:p→L P N E ops Q (⟨some d,op,ty,pos,af,none⟩::rest) F H) (h':¬p→L P N E ops Q rest (pT F d undef) H):L P N E ops Q (⟨some d,op,ty,pos,af,some (j,true)⟩::rest) F H:=L.YQ hd hn hg hv h h'
end
theorem f_{p q r:Prop}(h1:q)(h2:r)(h:wA q→wA r→p:=by intro h1 h2;first|(apply C.cd;(· exact rfl);(· exact h1.out);(· exact h2.out))|(apply C.cond;(· exact rfl);(· exact h1.out);(· exact h2.out))|(apply L.fT;(· decide);(· exact rfl);(· decide);(· exact rfl);(· exact h1.out);(· exact h2.out))|(apply L.fF;(· decide);(· exact rfl);(· decide);(· exact rfl);(· exact h1.out);(· exact h2.out))|(apply L.fork;(· decide);(· exact rfl);(· decide);(· exact rfl);(· exact h1.out);(· exact h2.out))|fail):p:=h ⟨h1⟩ ⟨h2⟩
section
variable {P:Program} {N:Nat} {E:Env} {F:Nat→Value} {H:List aL} {Q:QF}
theorem C.scan{c:Code}{α Y:Type}{l:List α}{n:Nat}(hn:n=l.length)(S:Nat→Y→List (Nat×Value))(HX:Nat→Y→List aL)(R:Nat→Y→Prop)(y0:Y)(hF:nH F (S 0 y0))(hH:aB E H (HX 0 y0))(h0:R 0 y0)
  (round:∀i y x G,i<n→l[i]?=some x→R i y→C P N E c (oQ (λF' H'=>∃y',nH F' (S (i+1) y')∧aB E H' (HX (i+1) y')∧R (i+1) y') Q) (OQ (S i y) G) (HX i y))
  (last:∀y G,R n y→C P N E c (oQ (λ_ _=>False) Q) (OQ (S n y) G) (HX n y)):C P N E (.loop c) Q F H:=by
 refine C.loop (X:=Nat×Y) (λx=>S x.1 x.2) (λx=>HX x.1 x.2) (λx=>x.1≤n∧R x.1 x.2) (λx=>n - x.1) (0,y0) hF hH ⟨aAh _,h0⟩ ?_;rintro⟨i,y⟩ G ⟨hi,hr⟩;by_cases hlt:i<n
 ·refine(round i y (l[i]'o_) G hlt (aAa o_) hr).mono ?_;intro e F' H' h;cases e with
  |normal=>obtain⟨y',h1,h2,h3⟩:=h;exact⟨(i+1,y'),h1,h2,⟨hlt,h3⟩,by show n - (i+1)<n - i;omega⟩
  |ret=>exact h
  |exit id=>exact h
  |panic c=>exact h
 ·obtain rfl:i=n:=by omega
  refine(last y G hr).mono ?_;intro e F' H' h;cases e with
  |normal=>exact h.elim
  |ret=>exact h
  |exit id=>exact h
  |panic c=>exact h
end
theorem rJ{a b:Bool}(h:a=b:=by first|rfl|(exact(decide_eq_true o_).symm)|(exact(decide_eq_false o_).symm)|(exact decide_eq_true o_)|(exact decide_eq_false o_)|(rw[aBz];simp;done)|(rw[aBz];simp;omega)|(simp_all;done)):Ending.returned (.bool a)=.returned (.bool b):=by rw[h]
theorem NQ{k:IntKind}{a b:Int}(h:a=b:=by omega):Ending.returned (.int k a)=.returned (.int k b):=by rw[h]
structure Hd where
 A:Option Addr
 n:Nat
 c:Nat
def Au:Ty Int where
 val x:=.int .i64 x
 size:=1
 bytes:=8
 tid:=3
 zero:=.int .i64 0
 hlen _:=rfl
 lJ a u h:=by simp only[Value.cells,aAp] at h;subst h;rfl
 gL:=by decide
 hzero:=rfl
 fW:=by kernel_rfl
 nR:=.inr ⟨by kernel_rfl,λ_=>rfl⟩
instance:kQ 3 Int Au:=⟨rfl⟩
def bJ.may(x:bJ):Bool:=decide (0≤x.rep∧x.rep≤3∧1≤x.seq∧x.seq≤65535)
theorem bJ.bY(x:bJ):x.may=true↔0≤x.rep∧x.rep≤3∧1≤x.seq∧x.seq≤65535:=by simp[bJ.may]
theorem dV(E:Env)(n lo hi:Int):G E 105 [.int .i64 n,.int .i64 lo,.int .i64 hi] [] (cM (.bool (decide (lo≤n∧n≤hi))) []):=by
 refine t_ func105 ntmps105 ?_;repeat' (first|refine w_ ?_|refine k_ ?_|refine f_ ?_ ?_|intro _)
 all_goals exact aR rfl aF aA ⟨rJ,rfl⟩
instance {n lo hi:Int}:vZ 105 [.int .i64 n,.int .i64 lo,.int .i64 hi] (.bool (decide (lo≤n∧n≤hi))):=⟨λE=>dV E n lo hi⟩
def dF(n lo hi:Int):Int:=if n<lo then lo else if hi<n then hi else n
theorem Dz(E:Env)(n lo hi:Int):G E 65 [.int .i64 n,.int .i64 lo,.int .i64 hi] [] (cM (.int .i64 (dF n lo hi)) []):=by
 unfold dF;refine t_ func65 ntmps65 ?_;repeat' (first|refine w_ ?_|refine k_ ?_|refine f_ ?_ ?_|intro _)
 all_goals exact aR rfl aF aA ⟨NQ (by simp[*]),rfl⟩
instance {n lo hi:Int}:vZ 65 [.int .i64 n,.int .i64 lo,.int .i64 hi] (.int .i64 (dF n lo hi)):=⟨λE=>Dz E n lo hi⟩
theorem X9(E:Env)(n:Int):G E 312 [.int .i64 n] [] (cM (.bool false) []):=by
 refine t_ func312 ntmps312 ?_;repeat first|refine v_ ?_|intro
 exact aR rfl aF aA (⟨rJ,rfl⟩)
instance {n:Int}:vZ 312 [.int .i64 n] (.bool false):=⟨λE=>X9 E n⟩
def sX(a b:Int):Int:=if a<b then -1 else if b<a then 1 else 0
theorem HR(E:Env)(a b:Int):G E 271 [.int .i64 a,.int .i64 b] [] (cM (.int .i64 (sX a b)) []):=by
 unfold sX;refine t_ func271 ntmps271 ?_;repeat' (first|refine w_ ?_|refine k_ ?_|refine f_ ?_ ?_|intro _)
 all_goals exact aR rfl aF aA ⟨NQ (by simp[*]),rfl⟩
instance {a b:Int}:vZ 271 [.int .i64 a,.int .i64 b] (.int .i64 (sX a b)):=⟨λE=>HR E a b⟩
def DC:List Int→Int
 | []=>0
 |x::l=>if x=0 then DC l else x
theorem QU{l:List Int}(h:∀x∈l,x=0):DC l=0:=by
 induction l with
 |nil=>rfl
 |cons x l ih=>rw[DC,if_pos (h x aBo)];exact ih λy hy=>h y (aBl _ hy)
theorem UO{l:List Int}{i:Nat}{x:Int}(hx:l[i]?=some x)(h0:x≠0)(h:∀j y,j<i→l[j]?=some y→y=0):DC l=x:=by
 induction l generalizing i with
 |nil=>cases hx
 |cons a l ih =>
  cases i with
  |zero=>injection hx with hx;subst hx;rw[DC,if_neg h0]
  |succ i =>
   rw[DC,if_pos (h 0 a o_ rfl)];exact ih (i:=i) hx λj y hj hy=>h (j+1) y o_ hy
theorem UL(E:Env)(A:Option Addr)(n c:Nat)(l:List Int)(hr:Rd E Au A n c l):G E 269 [.slice A n c] [] (cM (.int .i64 (DC l)) []):=by
 have hn:=hr.len;have hcap:=hr.cap;have hmax:=fX;refine t_ func269 ntmps269 ?_;repeat first|refine v_ ?_|intro
 refine C.scan (Y:=Unit) hn (λi _=>[(0,.slice A n c),(3,.int .i64 0),(6,.slice A n c),(7,.int .i64 n),(8,.int .i64 i)]) (λ_ _=>[]) (λi _=>∀j y,j<i→l[j]?=some y→y=0) () aD aB.refl (λj y hj=>by omega) ?_ ?_
 ·intro i _ x G hi hx hall;repeat first|refine v_ ?_|intro
  by_cases h0:x=0
  ·repeat first|refine v_ ?_|intro
   refine⟨(),aD,aB.refl,λj y hj hy=>?_⟩;by_cases hji:j=i
   ·subst hji;rw[hx] at hy;injection hy with hy;omega
   ·exact hall j y o_ hy
  ·repeat first|refine v_ ?_|intro
   exact aR rfl aF aA (⟨NQ (UO hx h0 hall).symm,rfl⟩)
 ·intro _ G hall;repeat first|refine v_ ?_|intro
  exact aR rfl aF aA (⟨NQ (QU λx hx=>by obtain⟨j,hj,rfl⟩:=aBm hx;exact hall j _ o_ (aAa hj)).symm,rfl⟩)
instance {A:Option Addr}{n c:Nat}:Us 269 [.slice A n c] Int Au A n c (λl=>.int .i64 (DC l)):=⟨λE l h=>UL E A n c l h⟩
theorem Gq(E:Env)(a b:Int):G E 160 [.agg #[.int .i64 a,.int .i64 b]] [] (cM (.bool (bJ.may ⟨a,b⟩)) []):=by
 unfold bJ.may;refine t_ func160 ntmps160 ?_;repeat' (first|refine w_ ?_|refine k_ ?_|refine f_ ?_ ?_|intro _)
 all_goals exact aR rfl aF aA ⟨rJ,rfl⟩
instance {a b:Int}:vZ 160 [.agg #[.int .i64 a,.int .i64 b]] (.bool (bJ.may ⟨a,b⟩)):=⟨λE=>Gq E a b⟩
def sQ(a b:bJ):Int:=DC [sX a.seq b.seq,sX a.rep b.rep]
theorem I3(E:Env)(a b c d:Int):G E 270 [.agg #[.int .i64 a,.int .i64 b],.agg #[.int .i64 c,.int .i64 d]] [] (cM (.int .i64 (sQ ⟨a,b⟩ ⟨c,d⟩)) []):=by
 refine t_ func270 ntmps270 ?_;repeat first|refine v_ ?_|intro
 refine rA (l_ [0,1,2,3,5,6,7,8] (g_ 4 (g_ 9 (g_ 10 (g_ 11 (n_ 12 .nil)))))) ?_;repeat first|refine v_ ?_|intro
 exact e1_
instance {a b c d:Int}:vZ 270 [.agg #[.int .i64 a,.int .i64 b],.agg #[.int .i64 c,.int .i64 d]] (.int .i64 (sQ ⟨a,b⟩ ⟨c,d⟩)):=⟨λE=>I3 E a b c d⟩
theorem MG(E:Env)(a b c d:Int):G E 385 [.agg #[.int .i64 a,.int .i64 b],.agg #[.int .i64 c,.int .i64 d]] [] (cM (.bool (decide (sQ ⟨a,b⟩ ⟨c,d⟩<0))) []):=by
 refine t_ func385 ntmps385 ?_;repeat first|refine v_ ?_|intro
 exact e1_
instance {a b c d:Int}:vZ 385 [.agg #[.int .i64 a,.int .i64 b],.agg #[.int .i64 c,.int .i64 d]] (.bool (decide (sQ ⟨a,b⟩ ⟨c,d⟩<0))):=⟨λE=>MG E a b c d⟩
theorem K9(E:Env)(r:Int):G E 157 [.int .i64 r] [] (cM (.bool (decide (0≤r∧r≤3))) []):=by
 refine t_ func157 ntmps157 ?_;repeat' (first|refine w_ ?_|refine k_ ?_|refine f_ ?_ ?_|intro _)
 all_goals exact aR rfl aF aA ⟨rJ,rfl⟩
instance {r:Int}:vZ 157 [.int .i64 r] (.bool (decide (0≤r∧r≤3))):=⟨λE=>K9 E r⟩
end Go.Proofs.YtmilalkjbojciaaGreat.Sep
namespace Go.Proofs.YtmilalkjbojciaaGreat.Sep
def place{α:Type}(p:α→Bool):List α→Int
 | [] => -1
 |x::l=>if p x then 0 else if place p l<0 then -1 else place p l+1
def behind{α:Type}(p:α→Bool):List α→Nat
 | []=>0
 |x::l=>if 0<behind p l then behind p l+1 else if p x then 1 else 0
theorem xM{α:Type}{p:α→Bool}{l:List α}{i:Nat}{x:α}(hx:l[i]?=some x)(hp:p x=true)(h:∀j y,j<i→l[j]?=some y→p y=false):place p l=i:=by
 induction l generalizing i with
 |nil=>cases hx
 |cons a l ih =>
  cases i with
  |zero=>injection hx with hx;subst hx;rw[place,if_pos hp];rfl
  |succ i =>
   rw[place,if_neg (by rw[h 0 a o_ rfl];decide),ih (i:=i) hx λj y hj hy=>h (j+1) y o_ hy,if_neg o_];omega
theorem rR{α:Type}{p:α→Bool}{l:List α}(h:∀x∈l,p x=false):place p l = -1:=by
 induction l with
 |nil=>rfl
 |cons a l ih=>rw[place,if_neg (by rw[h a aBo];decide),ih λx hx=>h x (aBl _ hx),if_pos sD]
theorem rC{α:Type}(p:α→Bool)(l:List α):(decide (0≤place p l))=l.any p:=by
 induction l with
 |nil=>rfl
 |cons a l ih =>
  rw[List.any_cons,place];by_cases h:p a=true
  ·rw[if_pos h,h];rfl
  ·rw[if_neg h];rw[show p a=false by simpa using h,Bool.false_or,←ih];rw[aBz];split<;>simp<;>omega
theorem gZ{α:Type}{p:α→Bool}{l:List α}(h:0≤place p l):(place p l).toNat<l.length∧∃x,l[(place p l).toNat]?=some x∧p x=true:=by
 induction l with
 |nil=>exact absurd h (by show ¬(0:Int) ≤ -1;decide)
 |cons a l ih =>
  by_cases hp:p a=true
  ·rw[place,if_pos hp];exact⟨by simp,a,rfl,hp⟩
  ·rw[place,if_neg hp] at h⊢;by_cases h0:place p l<0
   ·rw[if_pos h0] at h;omega
   ·rw[if_neg h0] at h⊢;obtain⟨h1,x,h2,h3⟩:=ih o_;have e:(place p l+1).toNat=(place p l).toNat+1:=by omega
    rw[e];exact⟨by simpa using h1,x,by simpa using h2,h3⟩
theorem Af{α:Type}{p:α→Bool}{l:List α}(h:∀x∈l,p x=false):behind p l=0:=by
 induction l with
 |nil=>rfl
 |cons a l ih=>rw[behind,ih λx hx=>h x (aBl _ hx),if_neg o_,if_neg (by rw[h a aBo];decide)]
theorem D4{α:Type}{p:α→Bool}{l:List α}{i:Nat}{x:α}(hx:l[i]?=some x)(hp:p x=true)(h:∀j y,i<j→l[j]?=some y→p y=false):behind p l=i+1:=by
 induction l generalizing i with
 |nil=>cases hx
 |cons a l ih =>
  cases i with
  |zero =>
   injection hx with hx
   subst hx;rw[behind,Af λy hy=>by obtain⟨j,hj,rfl⟩:=aBm hy;exact h (j+1) _ o_ (by simp),if_neg o_,if_pos hp]
  |succ i=>rw[behind,ih (i:=i) hx λj y hj hy=>h (j+1) y o_ hy,if_pos o_]
theorem AJ{α:Type}(p:α→Bool)(l:List α):behind p l≤l.length:=by
 induction l with
 |nil=>exact aAf _
 |cons a l ih=>rw[behind,aAs];split;omega;split<;>omega
theorem take_succ{α:Type}{l:List α}{i:Nat}{x:α}(hx:l[i]?=some x):l.take (i+1)=l.take i++[x]:=by
 obtain⟨h,rfl⟩:=aAd.1 hx;exact aAn h
theorem iX{α β:Type}{f:β→α→β}{z:β}{l:List α}{i:Nat}{x:α}(hx:l[i]?=some x):(l.take (i+1)).foldl f z=f ((l.take i).foldl f z) x:=by
 rw[take_succ hx,List.foldl_append];rfl
theorem BU{α:Type}{l:List α}{p:α→Prop}(h:∀j y,j<l.length→l[j]?=some y→p y):∀x∈l,p x:=by
 intro x hx;obtain⟨j,hj,rfl⟩:=aBm hx;exact h j _ hj (aAa hj)
end Go.Proofs.YtmilalkjbojciaaGreat.Sep
namespace Go.Proofs.YtmilalkjbojciaaGreat.Sep
open Go.RowKit Reg
open Mem hiding Rd
theorem cv{N:Nat}{E:Env}{F:Nat→Value}{H R:List aL}{Q:QF}{f:FuncId}{x:Operand}{cs vs':List Value}{ops:List Operand}{tys:Array TypeId}{Hp:List aL}{Q1:Ending→List aL→Prop}{d:Nat}{ty:TypeId}{pos:String}{af:Array Edge}{os rest:List Oper}
  (hd:d<N) (hx:ev F x=.func (.func f) #[] cs.toArray) (hv:AO F ops++cs=vs') (hk:xA f=true) (hp:cS Hp H R) (law:∀E',Sub E R E'→aK prog E' f vs'.toArray Hp Q1) (hQ:∀e H',Q1 e H'→∃v,e=.returned v∧∃H2,wK H' R H2∧L prog N E os Q rest (pT F d v) H2) :
  L prog N E os Q (⟨some d,.call { callee:=.value x,args:=ops.toArray,argTypes:=tys },ty,pos,af,none⟩::rest) F H:=by
 obtain⟨fn,h1,h2,h3⟩:=iY hk;exact L.step hd (S.wB rfl hx rfl hv h1 h2 h3 hp law hQ)
theorem Sub.trans{E E' E2:Env}{R R':List aL}(h:Sub E R E')(k:Sub E' R' E2):Sub E R E2:=by
 obtain⟨F,h1,h2⟩:=h.fr;refine⟨k.MH,λb hb=>⟨(k.rd b (h.rd b hb).1).1,(k.rd b (h.rd b hb).1).2.trans (h.rd b hb).2⟩,F,iJ h1 λb hb=>(k.rd b (h2 b hb)).2,λb hb=>(k.rd b (h2 b hb)).1⟩
section
variable (E:Env) (A:Option Addr) (n c:Nat)
theorem KM(l:List aX)(hr:Rd E bE A n c l)(f:FuncId)(cs:List Value)(p:aX→Bool)(hk:xA f=true)(hp:∀E' R,Sub E R E'→∀x:aX,G E' f (.agg x.cs.toArray::cs) [] (cM (.bool (p x)) [])) :
  G E 230 [.slice A n c,.func (.func f) #[] cs.toArray] [] (cM (.int .i64 (place p l)) []):=by
 have hn:=hr.len;have hcap:=hr.cap;have hmax:=fX;refine t_ func230 ntmps230 ?_;repeat first|refine v_ ?_|intro
 refine C.scan (Y:=Unit) hn (λi _=>[(0,.slice A n c),(1,.func (.func f) #[] cs.toArray),(7,.int .i64 n),(8,.int .i64 i)]) (λ_ _=>[]) (λi _=>∀j y,j<i→l[j]?=some y→p y=false) () aD aB.refl (λj y hj=>by omega) ?_ ?_
 ·intro i _ x G hi hx hall;repeat first|refine v_ ?_|intro
  refine cv sD rfl rfl hk aC (λE' hE=>hp E' _ hE x) ?_;rintro r H' ⟨rfl,rfl⟩;refine gk bG ?_;cases hpx:p x
  ·repeat first|refine v_ ?_|intro
   refine⟨(),aD,aB.refl,λj y hj hy=>?_⟩;by_cases hji:j=i
   ·subst hji;rw[hx] at hy;injection hy with hy;subst hy;exact hpx
   ·exact hall j y o_ hy
  ·repeat first|refine v_ ?_|intro
   exact aR rfl aF aA (⟨NQ (xM hx hpx hall).symm,rfl⟩)
 ·intro _ G hall;repeat first|refine v_ ?_|intro
  exact aR rfl aF aA (⟨NQ (rR (BU λj y hj hy=>hall j y o_ hy)).symm,rfl⟩)
theorem SA(l:List dK)(hr:Rd E cP A n c l)(f:FuncId)(cs:List Value)(p:dK→Bool)(hk:xA f=true)(hp:∀E' R,Sub E R E'→∀x:dK,G E' f (.agg x.cs.toArray::cs) [] (cM (.bool (p x)) [])) :
  G E 207 [.slice A n c,.func (.func f) #[] cs.toArray] [] (cM (.int .i64 (place p l)) []):=by
 have hn:=hr.len;have hcap:=hr.cap;have hmax:=fX;refine t_ func207 ntmps207 ?_;repeat first|refine v_ ?_|intro
 refine C.scan (Y:=Unit) hn (λi _=>[(0,.slice A n c),(1,.func (.func f) #[] cs.toArray),(7,.int .i64 n),(8,.int .i64 i)]) (λ_ _=>[]) (λi _=>∀j y,j<i→l[j]?=some y→p y=false) () aD aB.refl (λj y hj=>by omega) ?_ ?_
 ·intro i _ x G hi hx hall;repeat first|refine v_ ?_|intro
  refine cv sD rfl rfl hk aC (λE' hE=>hp E' _ hE x) ?_;rintro r H' ⟨rfl,rfl⟩;refine gk bG ?_;cases hpx:p x
  ·repeat first|refine v_ ?_|intro
   refine⟨(),aD,aB.refl,λj y hj hy=>?_⟩;by_cases hji:j=i
   ·subst hji;rw[hx] at hy;injection hy with hy;subst hy;exact hpx
   ·exact hall j y o_ hy
  ·repeat first|refine v_ ?_|intro
   exact aR rfl aF aA (⟨NQ (xM hx hpx hall).symm,rfl⟩)
 ·intro _ G hall;repeat first|refine v_ ?_|intro
  exact aR rfl aF aA (⟨NQ (rR (BU λj y hj hy=>hall j y o_ hy)).symm,rfl⟩)
theorem RY(l:List dD)(hr:Rd E eB A n c l)(f:FuncId)(cs:List Value)(p:dD→Bool)(hk:xA f=true)(hp:∀E' R,Sub E R E'→∀x:dD,G E' f (.agg x.cs.toArray::cs) [] (cM (.bool (p x)) [])) :
  G E 383 [.slice A n c,.func (.func f) #[] cs.toArray] [] (cM (.int .i64 (place p l)) []):=by
 have hn:=hr.len;have hcap:=hr.cap;have hmax:=fX;refine t_ func383 ntmps383 ?_;repeat first|refine v_ ?_|intro
 refine C.scan (Y:=Unit) hn (λi _=>[(0,.slice A n c),(1,.func (.func f) #[] cs.toArray),(7,.int .i64 n),(8,.int .i64 i)]) (λ_ _=>[]) (λi _=>∀j y,j<i→l[j]?=some y→p y=false) () aD aB.refl (λj y hj=>by omega) ?_ ?_
 ·intro i _ x G hi hx hall;repeat first|refine v_ ?_|intro
  refine cv sD rfl rfl hk aC (λE' hE=>hp E' _ hE x) ?_;rintro r H' ⟨rfl,rfl⟩;refine gk bG ?_;cases hpx:p x
  ·repeat first|refine v_ ?_|intro
   refine⟨(),aD,aB.refl,λj y hj hy=>?_⟩;by_cases hji:j=i
   ·subst hji;rw[hx] at hy;injection hy with hy;subst hy;exact hpx
   ·exact hall j y o_ hy
  ·repeat first|refine v_ ?_|intro
   exact aR rfl aF aA (⟨NQ (xM hx hpx hall).symm,rfl⟩)
 ·intro _ G hall;repeat first|refine v_ ?_|intro
  exact aR rfl aF aA (⟨NQ (rR (BU λj y hj hy=>hall j y o_ hy)).symm,rfl⟩)
theorem RS(l:List dK)(hr:Rd E cP A n c l)(f:FuncId)(cs:List Value)(p:dK→Bool)(hk:xA f=true)(hp:∀E' R,Sub E R E'→∀x:dK,G E' f (.agg x.cs.toArray::cs) [] (cM (.bool (p x)) [])) :
  G E 145 [.slice A n c,.func (.func f) #[] cs.toArray] [] (cM (.bool (l.any p)) []):=by
 refine t_ func145 ntmps145 ?_;repeat first|refine v_ ?_|intro
 refine cl sD sK aC (λE' hE=>SA E' A n c l dB f cs p hk λE2 R hE2=>hp E2 _ (hE.trans hE2)) ?_;rintro r H' ⟨rfl,rfl⟩;repeat first|refine v_ ?_|intro
 exact aR rfl aF aA (⟨by rw[←rC],rfl⟩)
theorem xN(l:List aX)(hr:Rd E bE A n c l)(hl:n≤1000000):G E 75 [.slice A n c] [] λe H'=>∃B k,(n≤k∧k≤maxLen)∧e=.returned (.slice B n k)∧H'=[own bE B n k l]:=by
 refine t_ func75 ntmps75 ?_;cases A with
 |none =>
  obtain⟨rfl,rfl⟩:=hr.none;repeat first|refine v_ ?_|intro
  exact aR rfl aF (aB.oR bE none) ⟨none,0,⟨aAf _,aAh _⟩,rfl,rfl⟩
 |some a =>
  repeat first|refine v_ ?_|intro
  rename_i B k h1 h2;exact jQ ⟨_,_,⟨h1,h2⟩,rfl,rfl⟩
theorem FN(l:List dD)(hr:Rd E eB A n c l)(hl:n≤1000000):G E 164 [.slice A n c] [] λe H'=>∃B k,(n≤k∧k≤maxLen)∧e=.returned (.slice B n k)∧H'=[own eB B n k l]:=by
 refine t_ func164 ntmps164 ?_;cases A with
 |none =>
  obtain⟨rfl,rfl⟩:=hr.none;repeat first|refine v_ ?_|intro
  exact aR rfl aF (aB.oR eB none) ⟨none,0,⟨aAf _,aAh _⟩,rfl,rfl⟩
 |some a =>
  repeat first|refine v_ ?_|intro
  rename_i B k h1 h2;exact jQ ⟨_,_,⟨h1,h2⟩,rfl,rfl⟩
theorem RO(l:List fM)(hr:Rd E mK A n c l)(hl:n≤1000000):G E 92 [.slice A n c] [] λe H'=>∃B k,(n≤k∧k≤maxLen)∧e=.returned (.slice B n k)∧H'=[own mK B n k l]:=by
 refine t_ func92 ntmps92 ?_;cases A with
 |none =>
  obtain⟨rfl,rfl⟩:=hr.none;repeat first|refine v_ ?_|intro
  exact aR rfl aF (aB.oR mK none) ⟨none,0,⟨aAf _,aAh _⟩,rfl,rfl⟩
 |some a =>
  repeat first|refine v_ ?_|intro
  rename_i B k h1 h2;exact jQ ⟨_,_,⟨h1,h2⟩,rfl,rfl⟩
theorem RV(l:List cQ)(hr:Rd E eG A n c l)(hl:n≤1000000):G E 232 [.slice A n c] [] λe H'=>∃B k,(n≤k∧k≤maxLen)∧e=.returned (.slice B n k)∧H'=[own eG B n k l]:=by
 refine t_ func232 ntmps232 ?_;cases A with
 |none =>
  obtain⟨rfl,rfl⟩:=hr.none;repeat first|refine v_ ?_|intro
  exact aR rfl aF (aB.oR eG none) ⟨none,0,⟨aAf _,aAh _⟩,rfl,rfl⟩
 |some a =>
  repeat first|refine v_ ?_|intro
  rename_i B k h1 h2;exact jQ ⟨_,_,⟨h1,h2⟩,rfl,rfl⟩
variable (B:Option Addr) (m d:Nat)
theorem Sp(l k:List aX)(hr:Rd E bE A n c l)(hs:Rd E bE B m d k):G E 80 [.slice A n c,.slice B m d] [] (cM (.bool (decide (l=k))) []):=by
 have hn:=hr.len;have hcap:=hr.cap;have hm:=hs.len;have hcap2:=hs.cap;have hmax:=fX;refine t_ func80 ntmps80 ?_;by_cases hnm:n=m
 ·repeat first|refine v_ ?_|intro
  refine C.scan (Y:=Unit) hn (λi _=>[(0,.slice A n c),(1,.slice B m d),(12,.int .i64 n),(13,.int .i64 i)]) (λ_ _=>[]) (λi _=>l.take i=k.take i) () aD aB.refl rfl ?_ ?_
  ·intro i _ x G hi hx hall;have hy:k[i]?=some k[i]:=aAa o_;generalize k[i]=y at hy;repeat first|refine v_ ?_|intro
   refine rA (l_ [0,1,2,3,4,5,6,7,8] .nil) ?_;repeat first|refine v_ ?_|intro
   by_cases hxy:x=y
   ·subst hxy;have hd:(!decide (x=x))=false:=by simp
    repeat first|refine v_ ?_|intro
    exact⟨(),aD,aB.refl,by rw[take_succ hx,take_succ hy,hall]⟩
   ·have hd:(!decide (x=y))=true:=by simp[hxy]
    repeat first|refine v_ ?_|intro
    exact aR rfl aF aA (⟨rJ (by rw[eq_comm,decide_eq_false_iff_not];rintro rfl;rw[hx] at hy;injection hy with hy;exact hxy hy),rfl⟩)
  ·intro _ G hall;repeat first|refine v_ ?_|intro
   exact aR rfl aF aA (⟨rJ (by rw[eq_comm,decide_eq_true_iff];rwa [hn,aAo,←hn,hnm,hm,aAo] at hall),rfl⟩)
 ·repeat first|refine v_ ?_|intro
  exact aR rfl aF aA (⟨rJ (by rw[eq_comm,decide_eq_false_iff_not];rintro rfl;omega),rfl⟩)
theorem SH(l k:List dK)(hr:Rd E cP A n c l)(hs:Rd E cP B m d k):G E 81 [.slice A n c,.slice B m d] [] (cM (.bool (decide (l=k))) []):=by
 have hn:=hr.len;have hcap:=hr.cap;have hm:=hs.len;have hcap2:=hs.cap;have hmax:=fX;refine t_ func81 ntmps81 ?_;by_cases hnm:n=m
 ·repeat first|refine v_ ?_|intro
  refine C.scan (Y:=Unit) hn (λi _=>[(0,.slice A n c),(1,.slice B m d),(12,.int .i64 n),(13,.int .i64 i)]) (λ_ _=>[]) (λi _=>l.take i=k.take i) () aD aB.refl rfl ?_ ?_
  ·intro i _ x G hi hx hall;have hy:k[i]?=some k[i]:=aAa o_;generalize k[i]=y at hy;repeat first|refine v_ ?_|intro
   refine rA (l_ [0,1,2,3,4,5,6,7,8] .nil) ?_;repeat first|refine v_ ?_|intro
   by_cases hxy:x=y
   ·subst hxy;have hd:(!decide (x=x))=false:=by simp
    repeat first|refine v_ ?_|intro
    exact⟨(),aD,aB.refl,by rw[take_succ hx,take_succ hy,hall]⟩
   ·have hd:(!decide (x=y))=true:=by simp[hxy]
    repeat first|refine v_ ?_|intro
    exact aR rfl aF aA (⟨rJ (by rw[eq_comm,decide_eq_false_iff_not];rintro rfl;rw[hx] at hy;injection hy with hy;exact hxy hy),rfl⟩)
  ·intro _ G hall;repeat first|refine v_ ?_|intro
   exact aR rfl aF aA (⟨rJ (by rw[eq_comm,decide_eq_true_iff];rwa [hn,aAo,←hn,hnm,hm,aAo] at hall),rfl⟩)
 ·repeat first|refine v_ ?_|intro
  exact aR rfl aF aA (⟨rJ (by rw[eq_comm,decide_eq_false_iff_not];rintro rfl;omega),rfl⟩)
end
structure V4 where
 a:Int
 b:Int
 c:Int
 d:Int
abbrev V4.cs(v:V4):List Value:=[.int .i64 v.a,.int .i64 v.b,.int .i64 v.c,.int .i64 v.d]
abbrev FR:V4:=⟨0,0,0,0⟩
def V4.get(v:V4)(i:Int):Int:=if i=0 then v.a else if i=1 then v.b else if i=2 then v.c else v.d
def V4.set(v:V4)(i x:Int):V4:=if i=0 then { v with a:=x } else if i=1 then { v with b:=x } else if i=2 then { v with c:=x } else { v with d:=x }
def V4.ok(v:V4):Prop:=(0≤v.a∧v.a<9223372036854775807)∧(0≤v.b∧v.b<9223372036854775807)∧(0≤v.c∧v.c<9223372036854775807)∧(0≤v.d∧v.d<9223372036854775807)
instance:Bg 98 [.int .i64 0,.int .i64 0,.int .i64 0,.int .i64 0]:=⟨by kernel_rfl⟩
theorem four{r:Int}(h:0≤r∧r≤3):r=0∨r=1∨r=2∨r=3:=by omega
def vK(v:V4)(r:Int):bJ:=if 0≤r∧r≤3 then(if 65535≤v.get r then⟨0,0⟩ else⟨r,v.get r+1⟩) else⟨0,0⟩
theorem nY(E:Env)(v:V4)(r:Int)(hv:v.ok):G E 95 [.agg v.cs.toArray,.int .i64 r] [] (cM (.agg (vK v r).cs.toArray) []):=by
 unfold V4.ok at hv;unfold vK;refine t_ func95 ntmps95 ?_;by_cases h:0≤r∧r≤3
 ·rw[if_pos h];rcases four h with rfl|rfl|rfl|rfl
  ·rw[show v.get 0=v.a from rfl];by_cases hk:65535≤v.a
   ·rw[if_pos hk];repeat first|refine v_ ?_|intro
    exact e5_
   ·rw[if_neg hk];repeat first|refine v_ ?_|intro
    exact e5_
  ·rw[show v.get 1=v.b from rfl];by_cases hk:65535≤v.b
   ·rw[if_pos hk];repeat first|refine v_ ?_|intro
    exact e5_
   ·rw[if_neg hk];repeat first|refine v_ ?_|intro
    exact e5_
  ·rw[show v.get 2=v.c from rfl];by_cases hk:65535≤v.c
   ·rw[if_pos hk];repeat first|refine v_ ?_|intro
    exact e5_
   ·rw[if_neg hk];repeat first|refine v_ ?_|intro
    exact e5_
  ·rw[show v.get 3=v.d from rfl];by_cases hk:65535≤v.d
   ·rw[if_pos hk];repeat first|refine v_ ?_|intro
    exact e5_
   ·rw[if_neg hk];repeat first|refine v_ ?_|intro
    exact e5_
 ·rw[if_neg h];repeat first|refine v_ ?_|intro
  exact e5_
def yN(v:V4)(a:bJ):Bool:=decide ((0≤a.rep∧a.rep≤3)∧1≤a.seq∧a.seq≤v.get a.rep)
theorem Ok(E:Env)(v:V4)(r s:Int):G E 299 [.agg v.cs.toArray,.agg #[.int .i64 r,.int .i64 s]] [] (cM (.bool (yN v ⟨r,s⟩)) []):=by
 unfold yN;dsimp only;refine t_ func299 ntmps299 ?_;by_cases h:0≤r∧r≤3
 ·rcases four h with rfl|rfl|rfl|rfl
  ·rw[show v.get 0=v.a from rfl];by_cases hs:1≤s
   ·by_cases hk:s≤v.a
    ·repeat first|refine v_ ?_|intro
     refine rA (l_ [0,1] (g_ 2 (l_ [3,4,5,6,7,8,9,10,11,12,13,14,15,16,17] .nil))) ?_;repeat first|refine v_ ?_|intro
     exact aR rfl aF aA (⟨rJ,rfl⟩)
    ·repeat first|refine v_ ?_|intro
     refine rA (l_ [0,1] (g_ 2 (l_ [3,4,5,6,7,8,9,10,11,12,13,14,15,16,17] .nil))) ?_;repeat first|refine v_ ?_|intro
     exact aR rfl aF aA (⟨rJ,rfl⟩)
   ·repeat first|refine v_ ?_|intro
    refine rA (l_ [0,1] (g_ 2 (l_ [3,4,5,6,7,8,9,10,11,12,13,14,15,16,17] .nil))) ?_;repeat first|refine v_ ?_|intro
    exact aR rfl aF aA (⟨rJ,rfl⟩)
  ·rw[show v.get 1=v.b from rfl];by_cases hs:1≤s
   ·by_cases hk:s≤v.b
    ·repeat first|refine v_ ?_|intro
     refine rA (l_ [0,1] (g_ 2 (l_ [3,4,5,6,7,8,9,10,11,12,13,14,15,16,17] .nil))) ?_;repeat first|refine v_ ?_|intro
     exact aR rfl aF aA (⟨rJ,rfl⟩)
    ·repeat first|refine v_ ?_|intro
     refine rA (l_ [0,1] (g_ 2 (l_ [3,4,5,6,7,8,9,10,11,12,13,14,15,16,17] .nil))) ?_;repeat first|refine v_ ?_|intro
     exact aR rfl aF aA (⟨rJ,rfl⟩)
   ·repeat first|refine v_ ?_|intro
    refine rA (l_ [0,1] (g_ 2 (l_ [3,4,5,6,7,8,9,10,11,12,13,14,15,16,17] .nil))) ?_;repeat first|refine v_ ?_|intro
    exact aR rfl aF aA (⟨rJ,rfl⟩)
  ·rw[show v.get 2=v.c from rfl];by_cases hs:1≤s
   ·by_cases hk:s≤v.c
    ·repeat first|refine v_ ?_|intro
     refine rA (l_ [0,1] (g_ 2 (l_ [3,4,5,6,7,8,9,10,11,12,13,14,15,16,17] .nil))) ?_;repeat first|refine v_ ?_|intro
     exact aR rfl aF aA (⟨rJ,rfl⟩)
    ·repeat first|refine v_ ?_|intro
     refine rA (l_ [0,1] (g_ 2 (l_ [3,4,5,6,7,8,9,10,11,12,13,14,15,16,17] .nil))) ?_;repeat first|refine v_ ?_|intro
     exact aR rfl aF aA (⟨rJ,rfl⟩)
   ·repeat first|refine v_ ?_|intro
    refine rA (l_ [0,1] (g_ 2 (l_ [3,4,5,6,7,8,9,10,11,12,13,14,15,16,17] .nil))) ?_;repeat first|refine v_ ?_|intro
    exact aR rfl aF aA (⟨rJ,rfl⟩)
  ·rw[show v.get 3=v.d from rfl];by_cases hs:1≤s
   ·by_cases hk:s≤v.d
    ·repeat first|refine v_ ?_|intro
     refine rA (l_ [0,1] (g_ 2 (l_ [3,4,5,6,7,8,9,10,11,12,13,14,15,16,17] .nil))) ?_;repeat first|refine v_ ?_|intro
     exact aR rfl aF aA (⟨rJ,rfl⟩)
    ·repeat first|refine v_ ?_|intro
     refine rA (l_ [0,1] (g_ 2 (l_ [3,4,5,6,7,8,9,10,11,12,13,14,15,16,17] .nil))) ?_;repeat first|refine v_ ?_|intro
     exact aR rfl aF aA (⟨rJ,rfl⟩)
   ·repeat first|refine v_ ?_|intro
    refine rA (l_ [0,1] (g_ 2 (l_ [3,4,5,6,7,8,9,10,11,12,13,14,15,16,17] .nil))) ?_;repeat first|refine v_ ?_|intro
    exact aR rfl aF aA (⟨rJ,rfl⟩)
 ·repeat first|refine v_ ?_|intro
  refine rA (l_ [0,1] (g_ 2 (l_ [3,4,5,6,7,8,9,10,11,12,13,14,15,16,17] .nil))) ?_;repeat first|refine v_ ?_|intro
  exact aR rfl aF aA (⟨rJ,rfl⟩)
instance {v:V4}{r s:Int}:vZ 299 [.agg #[.int .i64 v.a,.int .i64 v.b,.int .i64 v.c,.int .i64 v.d],.agg #[.int .i64 r,.int .i64 s]] (.bool (yN v ⟨r,s⟩)):=⟨λE=>Ok E v r s⟩
def Tu(v:V4)(c:aX):V4:=if 0≤c.id.rep∧c.id.rep≤3 then v.set c.id.rep (max (v.get c.id.rep) c.id.seq) else v
def L0(l:List aX):V4:=l.foldl Tu FR
theorem RJ(E:Env)(A:Option Addr)(n c:Nat)(l:List aX)(hr:Rd E bE A n c l):G E 158 [.slice A n c] [] (cM (.agg (L0 l).cs.toArray) []):=by
 have hn:=hr.len;have hcap:=hr.cap;have hmax:=fX;refine t_ func158 ntmps158 ?_;repeat first|refine v_ ?_|intro
 rename_i g2 g3;refine C.scan (Y:=V4) hn (λi _=>[(0,.slice A n c),(2,.pointer (some ⟨g2,0,none⟩)),(3,.pointer (some ⟨g3,0,none⟩)),(7,.slice A n c),(8,.int .i64 n),(9,.int .i64 i)]) (λ_ v=>[aJ g2 98 FR.cs,aJ g3 98 v.cs]) (λi v=>v=(l.take i).foldl Tu FR) FR aD aA rfl ?_ ?_
 ·intro i v x G hi hx hv;have hf:=iX (f:=Tu) (z:=FR) hx;rw[←hv] at hf;by_cases h:0≤x.id.rep∧x.id.rep≤3
  ·rw[Tu,if_pos h] at hf;rcases four h with h|h|h|h
   ·rw[h] at hf;change _=(⟨max v.a x.id.seq,v.b,v.c,v.d⟩:V4) at hf;repeat first|refine v_ ?_|intro
    rw[h];repeat first|refine v_ ?_|intro
    refine C.bL 9 (l_ [0,1,2,3,4,5,6,7,8] (g_ 9 .nil)) _ q_ q_ aB.refl ?_;repeat first|refine v_ ?_|intro
    exact⟨⟨_,_,_,_⟩,aD,aA,hf.symm⟩
   ·rw[h] at hf;change _=(⟨v.a,max v.b x.id.seq,v.c,v.d⟩:V4) at hf;repeat first|refine v_ ?_|intro
    rw[h];repeat first|refine v_ ?_|intro
    refine C.bL 9 (l_ [0,1,2,3,4,5,6,7,8] (g_ 9 .nil)) _ q_ q_ aB.refl ?_;repeat first|refine v_ ?_|intro
    exact⟨⟨_,_,_,_⟩,aD,aA,hf.symm⟩
   ·rw[h] at hf;change _=(⟨v.a,v.b,max v.c x.id.seq,v.d⟩:V4) at hf;repeat first|refine v_ ?_|intro
    rw[h];repeat first|refine v_ ?_|intro
    refine C.bL 9 (l_ [0,1,2,3,4,5,6,7,8] (g_ 9 .nil)) _ q_ q_ aB.refl ?_;repeat first|refine v_ ?_|intro
    exact⟨⟨_,_,_,_⟩,aD,aA,hf.symm⟩
   ·rw[h] at hf;change _=(⟨v.a,v.b,v.c,max v.d x.id.seq⟩:V4) at hf;repeat first|refine v_ ?_|intro
    rw[h];repeat first|refine v_ ?_|intro
    refine C.bL 9 (l_ [0,1,2,3,4,5,6,7,8] (g_ 9 .nil)) _ q_ q_ aB.refl ?_;repeat first|refine v_ ?_|intro
    exact⟨⟨_,_,_,_⟩,aD,aA,hf.symm⟩
  ·rw[Tu,if_neg h] at hf;repeat first|refine v_ ?_|intro
   exact⟨v,aD,aA,hf.symm⟩
 ·intro v G hv;rw[hn,aAo] at hv;change v=L0 l at hv;subst hv;repeat first|refine v_ ?_|intro
  exact e5_
theorem Mc(E:Env)(v:V4)(A:Option Addr)(n c:Nat)(l:List aX)(hr:Rd E bE A n c l)(hn9:n≤100000):G E 253 [.agg v.cs.toArray,.slice A n c] [] λe H'=>∃B k d,k≤n∧e=.returned (.slice B k d)∧H'=[own bE B k d (l.filter λx => !yN v x.id)]:=by
 have hn:=hr.len;have hcap:=hr.cap;have hmax:=fX;refine t_ func253 ntmps253 ?_;repeat first|refine v_ ?_|intro
 rename_i g2;refine C.scan (Y:=Hd) hn (λi s=>[(1,.slice A n c),(2,.pointer (some ⟨g2,0,none⟩)),(4,.slice none 0 0),(5,.slice s.A s.n s.c),(8,.slice A n c),(9,.int .i64 n),(10,.int .i64 i)]) (λi s=>[own bE s.A s.n s.c ((l.take i).filter λx => !yN v x.id),aJ g2 98 v.cs]) (λi s=>s.n≤i) ⟨none,0,0⟩ aD (aB.oR bE none) (aAf _) ?_ ?_
 ·rintro i ⟨B,k,d⟩ x G hi hx hk;dsimp only at hk⊢;have ht:=take_succ hx;cases hh:yN v x.id with
  |true =>
   have hb:(!yN v x.id)=false:=by rw[hh];rfl
   have hf:(l.take (i+1)).filter (λx => !yN v x.id)=(l.take i).filter λx => !yN v x.id:=by rw[ht,List.filter_append];simp[hh]
   repeat first|refine v_ ?_|intro
   exact⟨⟨B,k,d⟩,aD,by dsimp only;rw[hf];exact aA,by show k≤i+1;omega⟩
  |false =>
   have hb:(!yN v x.id)=true:=by rw[hh];rfl
   have hf:(l.take (i+1)).filter (λx => !yN v x.id)=(l.take i).filter (λx => !yN v x.id)++[x]:=by rw[ht,List.filter_append];simp[hh]
   repeat first|refine v_ ?_|intro
   rename_i B' d' h1 h2;exact⟨⟨B',k+1,d'⟩,aD,by dsimp only;rw[hf];exact aA,by show k+1≤i+1;omega⟩
 ·rintro⟨B,k,d⟩ G hk;dsimp only at hk⊢;rw[hn,aAo,←hn];repeat first|refine v_ ?_|intro
  exact jQ ⟨B,k,d,hk,rfl,rfl⟩
def iP(a b:aX):Int:=DC [sX a.time b.time,sX a.id.rep b.id.rep,sX a.id.seq b.id.seq]
theorem JB(E:Env)(x y:aX):G E 382 [.agg x.cs.toArray,.agg y.cs.toArray] [] (cM (.int .i64 (iP x y)) []):=by
 refine t_ func382 ntmps382 ?_;repeat first|refine v_ ?_|intro
 refine rA (l_ [0,1,2,3,5,6,7,8,9,10,12,13,14,15,16,17] (g_ 4 (g_ 11 (g_ 18 (g_ 19 (g_ 20 (n_ 21 .nil))))))) ?_;repeat first|refine v_ ?_|intro
 exact e1_
theorem Dm(E:Env)(x y:aX):G E 372 [.agg x.cs.toArray,.agg y.cs.toArray] [] (cM (.bool (decide (iP x y<0))) []):=by
 refine t_ func372 ntmps372 ?_;repeat first|refine v_ ?_|intro
 refine bK (λ(E':Env)=>JB E' x y) ?_;repeat first|refine v_ ?_|intro
 exact e1_
def bI(l:List aX)(a:bJ):Int:=place (λc=>decide (c.id=a)) l
theorem VS(E:Env)(g:Nat)(a:bJ)(h:gE E g a.cs)(x:aX):G E 231 [.agg x.cs.toArray,.pointer (some ⟨g,0,none⟩)] [] (cM (.bool (decide (x.id=a))) []):=by
 refine t_ func231 ntmps231 ?_;repeat first|refine v_ ?_|intro
 exact e1_
theorem M0(E:Env)(A:Option Addr)(n c:Nat)(l:List aX)(hr:Rd E bE A n c l)(r s:Int):G E 172 [.slice A n c,.agg #[.int .i64 r,.int .i64 s]] [] (cM (.int .i64 (bI l ⟨r,s⟩)) []):=by
 refine t_ func172 ntmps172 ?_;repeat first|refine v_ ?_|intro
 rename_i g;refine cl sD sK aC (λE' hE=>KM E' A n c l dB 231 [_] _ sK λE2 R2 hE2 x=>VS E2 g ⟨r,s⟩ ((gE.of hE aS).sub hE2) x) ?_;rintro r H' ⟨rfl,rfl⟩;repeat first|refine v_ ?_|intro
 exact e1_
instance {A:Option Addr}{n c:Nat}{r s:Int}:Us 172 [.slice A n c,.agg #[.int .i64 r,.int .i64 s]] aX bE A n c (λl=>.int .i64 (bI l ⟨r,s⟩)):=⟨λE l h=>M0 E A n c l h r s⟩
end Go.Proofs.YtmilalkjbojciaaGreat.Sep
