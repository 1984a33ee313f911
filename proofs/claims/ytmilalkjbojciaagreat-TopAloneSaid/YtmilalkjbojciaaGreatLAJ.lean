/- Part AJ: what it needs. No condition. -/
import Derived.Test.YtmilalkjbojciaaGreatLAA
import Derived.Test.YtmilalkjbojciaaGreatLAD
import Derived.Test.YtmilalkjbojciaaGreatLAH
import Derived.Test.YtmilalkjbojciaaGreatLAB
set_option maxRecDepth 100000
set_option maxHeartbeats 8000000
open Go.Proofs.Tryz
namespace Go.Proofs.YtmilalkjbojciaaGreat.Sep
section
open Go.RowKit Reg Oct
open Mem hiding Rd
abbrev mW:aX:=⟨⟨0,0⟩,0,0,0,0,0,⟨0,0⟩⟩
abbrev zR:bP:=⟨⟨0,0⟩,0,false⟩
section
variable (E:Env)
theorem qM(c:aX):aK prog E 171 #[.agg c.cs.toArray] [] λe H'=>e=.returned (.agg (⟨1,c,⟨0,0⟩,zR,0⟩:pD).cs.toArray)∧H'=[]:=by
 refine t_ func171 ntmps171 ?_;repeat first|refine aE ?_|intro
 exact e7_
theorem oS(a:bJ):aK prog E 117 #[.agg a.cs.toArray] [] λe H'=>e=.returned (.agg (⟨2,mW,a,zR,0⟩:pD).cs.toArray)∧H'=[]:=by
 refine t_ func117 ntmps117 ?_;repeat first|refine aE ?_|intro
 exact e7_
theorem Tk(k:bP)(now:Int):aK prog E 181 #[.agg k.cs.toArray,.int .i64 now] [] λe H'=>e=.returned (.agg (⟨3,mW,⟨0,0⟩,k,now⟩:pD).cs.toArray)∧H'=[]:=by
 refine t_ func181 ntmps181 ?_;repeat first|refine aE ?_|intro
 exact e7_
theorem NW(k:bP):aK prog E 190 #[.agg k.cs.toArray] [] λe H'=>e=.returned (.agg (⟨4,mW,⟨0,0⟩,k,0⟩:pD).cs.toArray)∧H'=[]:=by
 refine t_ func190 ntmps190 ?_;repeat first|refine aE ?_|intro
 exact e7_
theorem Wu(a:bJ)(ha:a.may=true):aK prog E 300 #[.agg (⟨2,mW,a,zR,0⟩:pD).cs.toArray] [] λe H'=>e=.returned (.tuple #[.agg (⟨2,mW,a,zR,0⟩:pD).cs.toArray,.bool true])∧H'=[]:=by
 refine t_ func300 ntmps300 ?_;repeat first|refine aE ?_|intro
 rename_i g gres;refine rB (l_ [0,1,3,4] (g_ 2 (g_ 5 (g_ 6 (n_ 7 .nil))))) ([aJ g 202 (⟨2,mW,a,zR,0⟩:pD).cs]) ?_;repeat first|refine aE ?_|intro
 refine eJ (λM=>oS M a) ?_;repeat first|refine aE ?_|intro
 refine iO (λM=>yK M a) ?_;rw[ha];rintro e H' ⟨rfl,rfl⟩;repeat first|refine aE ?_|intro
 exact Qv
theorem UG(a:bJ)(ha:a.may=true):aK prog E 255 #[.agg (⟨2,mW,a,zR,0⟩:pD).cs.toArray] [] λe H'=>e=.returned (.int .i64 0)∧H'=[]:=by
 have hin:decide ((1:Int)≤2∧(2:Int)≤4)=true:=sD;have hd:(!decide ((⟨2,⟨⟨0,0⟩,0,0,0,0,0,⟨0,0⟩⟩,⟨a.rep,a.seq⟩,⟨⟨0,0⟩,0,false⟩,0⟩:pD)=⟨2,⟨⟨0,0⟩,0,0,0,0,0,⟨0,0⟩⟩,⟨a.rep,a.seq⟩,⟨⟨0,0⟩,0,false⟩,0⟩))=false:=by simp
 refine t_ func255 ntmps255 ?_;repeat first|refine aE ?_|intro
 refine bW (λM=>dV M 2 1 4) ?_;rw[hin];rintro e H' ⟨rfl,rfl⟩;repeat first|refine aE ?_|intro
 refine bK (λM=>Wu M a ha) ?_;repeat first|refine aE ?_|intro
 exact B7
theorem yE(A:Option Addr)(nl cap n':Nat)(l:List UInt8)(a:bJ)(ha:a.may=true)(hr:Rd E aU A nl cap l)(hl:nl≤100)(hn:nl+3=n'):aK prog E 284 #[.slice A nl cap,.agg a.cs.toArray] [] (PW n' (l++be a.rep.toNat 1++be a.seq.toNat 2)):=by
 obtain⟨i0,i1,i2,i3⟩:=(bJ.bY a).1 ha;have w0:=eZ i0 o_;have w1:=eZ (n:=a.seq) o_ o_;have g0:a.rep.toNat<18446744073709551616:=o_;have g1:a.seq.toNat<18446744073709551616:=o_;have o1:1≤1∧1≤8:=o_;have o2:1≤2∧2≤8:=o_;have b0:nl≤140737488355300:=o_;have b1:nl+1≤140737488355300:=o_;have e3:nl+1+2=n':=o_;refine t_ func284 ntmps284 ?_;repeat first|refine aE ?_|intro
 refine rA (l_ [0,1,2,3,5,6,7] (g_ 4 (g_ 8 (n_ 9 .nil)))) ?_;repeat first|refine aE ?_|intro
 refine C2 (λM h1=>kY M A nl cap (nl+1) 1 l a.rep.toNat 1 rfl rfl o1 h1 g0 b0) ?_;rintro e H' ⟨A1,c1,rfl,hc1,rfl⟩;repeat first|refine aE ?_|intro
 refine cg rfl sD bA sK aC (λM hE=>kY M A1 (nl+1) c1 n' 2 _ a.seq.toNat 2 rfl e3 o2 dB g1 b1) ?_;rintro e H' ⟨A2,c2,rfl,hc2,rfl⟩;repeat first|refine aE ?_|intro
 exact jQ ⟨_,_,rfl,hc2,rfl⟩
theorem Yb(a:bJ)(ha:a.may=true):aK prog E 228 #[.agg (⟨2,mW,a,zR,0⟩:pD).cs.toArray] [] λe H'=>∃A' c',e=.returned (.tuple #[.slice A' 4 c',.int .i64 0])∧H'=[own aU A' 4 c' ([2]++be a.rep.toNat 1++be a.seq.toNat 2)]:=by
 have h2:UInt8.ofNat (((⟨2,mW,a,zR,0⟩:pD).kind % 256).toNat)=2:=rfl;refine t_ func228 ntmps228 ?_;repeat first|refine aE ?_|intro
 refine bK (λM=>UG M a ha) ?_;repeat first|refine aE ?_|intro
 rename_i g;rw[h2];refine dX (λM h1=>yE M (some ⟨g,0,none⟩) 1 1 4 [2] a ha h1 (by decide) rfl) ?_;rintro e H' ⟨A1,c1,rfl,hc1,rfl⟩;repeat first|refine aE ?_|intro
 exact Cz ⟨_,_,rfl,rfl⟩
end
def bP.may(k:bP):Bool:=k.id.may&&decide (1≤k.ord∧k.ord≤255)
theorem bP.bY(k:bP):k.may=true↔(0≤k.id.rep∧k.id.rep≤3∧1≤k.id.seq∧k.id.seq≤65535)∧1≤k.ord∧k.ord≤255:=by simp[bP.may,bJ.may]
abbrev R1(c:aX):pD:=⟨1,c,⟨0,0⟩,zR,0⟩
abbrev R2(a:bJ):pD:=⟨2,mW,a,zR,0⟩
abbrev R3(k:bP)(now:Int):pD:=⟨3,mW,⟨0,0⟩,k,now⟩
abbrev R4(k:bP):pD:=⟨4,mW,⟨0,0⟩,k,0⟩
def mZ(now:Int):Bool:=decide (0≤now∧now≤1073741824)
section
variable (E:Env)
theorem pI(k:bP):aK prog E 339 #[.agg k.cs.toArray] [] λe H'=>e=.returned (.bool k.may)∧H'=[]:=by
 refine t_ func339 ntmps339 ?_;unfold bP.may;repeat first|refine aE ?_|intro
 refine bK (λM=>yK M k.id) ?_;cases h1:k.id.may
 ·repeat first|refine aE ?_|intro
  exact B7
 ·repeat first|refine aE ?_|intro
  refine bK (λM=>dV M k.ord 1 255) ?_;repeat first|refine aE ?_|intro
  exact B7
abbrev rG(x:pD)(f:Bool)(e:Ending)(H':List aL):Prop:=e=.returned (.tuple #[.agg x.cs.toArray,.bool f])∧H'=[]
theorem IH(c:aX):aK prog E 300 #[.agg (R1 c).cs.toArray] [] (rG (R1 c) c.may):=by
 refine t_ func300 ntmps300 ?_;repeat first|refine aE ?_|intro
 rename_i g gres;refine rB (l_ [0,1,3,4] (g_ 2 (g_ 5 (n_ 6 (g_ 7 (n_ 8 .nil)))))) ([aJ g 202 (R1 c).cs]) ?_;repeat first|refine aE ?_|intro
 refine eJ (λM=>qM M c) ?_;repeat first|refine aE ?_|intro
 refine eJ (λM=>kF M c) ?_;cases hm:c.may
 ·rw[if_neg aAl];repeat first|refine aE ?_|intro
  exact Qv
 ·rw[if_pos rfl];repeat first|refine aE ?_|intro
  exact Qv
theorem Nl(a:bJ):aK prog E 300 #[.agg (R2 a).cs.toArray] [] (rG (R2 a) a.may):=by
 refine t_ func300 ntmps300 ?_;repeat first|refine aE ?_|intro
 rename_i g gres;refine rB (l_ [0,1,3,4] (g_ 2 (g_ 5 (g_ 6 (n_ 7 .nil))))) ([aJ g 202 (R2 a).cs]) ?_;repeat first|refine aE ?_|intro
 refine eJ (λM=>oS M a) ?_;repeat first|refine aE ?_|intro
 refine eJ (λM=>yK M a) ?_;repeat first|refine aE ?_|intro
 exact Qv
theorem Hn(k:bP)(now:Int):aK prog E 300 #[.agg (R3 k now).cs.toArray] [] (rG (R3 k now) (k.may&&mZ now)):=by
 refine t_ func300 ntmps300 ?_;repeat first|refine aE ?_|intro
 rename_i g gres;refine rB (l_ [0,1,2,3,5,6] (g_ 4 (g_ 7 (l_ [8,9,10] (g_ 11 (n_ 12 (g_ 13 (n_ 14 .nil)))))))) ([aJ g 202 (R3 k now).cs]) ?_;repeat first|refine aE ?_|intro
 refine eJ (λM=>Tk M k now) ?_;repeat first|refine aE ?_|intro
 refine eJ (λM=>pI M k) ?_;cases hm:k.may
 ·repeat first|refine aE ?_|intro
  exact Qv
 ·repeat first|refine aE ?_|intro
  refine eJ (λM=>dV M now 0 1073741824) ?_;repeat first|refine aE ?_|intro
  exact Qv
theorem Jd(k:bP):aK prog E 300 #[.agg (R4 k).cs.toArray] [] (rG (R4 k) k.may):=by
 refine t_ func300 ntmps300 ?_;repeat first|refine aE ?_|intro
 rename_i g gres;refine rB (l_ [0,1,3,4] (g_ 2 (g_ 5 (g_ 6 (n_ 7 .nil))))) ([aJ g 202 (R4 k).cs]) ?_;repeat first|refine aE ?_|intro
 refine eJ (λM=>NW M k) ?_;repeat first|refine aE ?_|intro
 refine eJ (λM=>pI M k) ?_;repeat first|refine aE ?_|intro
 exact Qv
end
theorem HF(x:pD)(f:Bool)(h14:1≤x.kind∧x.kind≤4)(hb:∀E,aK prog E 300 #[.agg x.cs.toArray] [] (rG x f))(E:Env):aK prog E 255 #[.agg x.cs.toArray] [] λe H'=>e=.returned (.int .i64 (if f then 0 else 4))∧H'=[]:=by
 have hd:(!decide ((⟨x.kind,⟨⟨x.c.id.rep,x.c.id.seq⟩,x.c.time,x.c.kind,x.c.a,x.c.b,x.c.n,⟨x.c.ref.rep,x.c.ref.seq⟩⟩,⟨x.id.rep,x.id.seq⟩,⟨⟨x.key.id.rep,x.key.id.seq⟩,x.key.ord,x.key.cD⟩,x.now⟩:pD)=⟨x.kind,⟨⟨x.c.id.rep,x.c.id.seq⟩,x.c.time,x.c.kind,x.c.a,x.c.b,x.c.n,⟨x.c.ref.rep,x.c.ref.seq⟩⟩,⟨x.id.rep,x.id.seq⟩,⟨⟨x.key.id.rep,x.key.id.seq⟩,x.key.ord,x.key.cD⟩,x.now⟩))=false:=by simp
 refine t_ func255 ntmps255 ?_;repeat first|refine aE ?_|intro
 refine bW (λM=>dV M x.kind 1 4) ?_;rw[decide_eq_true h14];rintro e H' ⟨rfl,rfl⟩;repeat first|refine aE ?_|intro
 refine bK hb ?_;cases f
 ·rw[if_neg aAl];repeat first|refine aE ?_|intro
  exact B7
 ·rw[if_pos rfl];repeat first|refine aE ?_|intro
  exact B7
def gQ(b:Bool):Int:=if b then 1 else 0
def kU(a:bJ):List UInt8:=be a.rep.toNat 1++be a.seq.toNat 2
def eR(k:bP):List UInt8:=kU k.id++[UInt8.ofNat k.ord.toNat,UInt8.ofNat (gQ k.cD).toNat]
theorem iZ(a:bJ):(kU a).length=3:=by simp[kU,aP]
theorem fO(k:bP):(eR k).length=5:=by simp[eR,iZ]
section
variable (E:Env)
theorem PG(c:aX)(hm:c.may=true):aK prog E 228 #[.agg (R1 c).cs.toArray] [] λe H'=>∃A' c',e=.returned (.tuple #[.slice A' 23 c',.int .i64 0])∧H'=[own aU A' 23 c' ([1]++c.put)]:=by
 have hc:=HF (R1 c) true ⟨show(1:Int)≤1 by decide,show(1:Int)≤4 by decide⟩ (λE=>by have:=IH E c;rwa [hm] at this);simp only[if_true] at hc;have h2:UInt8.ofNat (((R1 c).kind % 256).toNat)=1:=rfl;refine t_ func228 ntmps228 ?_;repeat first|refine aE ?_|intro
 refine bK hc ?_;repeat first|refine aE ?_|intro
 rw[h2];refine bW (λM=>Kq M c hm) ?_;rintro e H' ⟨A1,c1,rfl,rfl⟩;repeat first|refine aE ?_|intro
 rw[show 1+22=23 from rfl];exact Cz ⟨_,_,rfl,rfl⟩
theorem NS(a:bJ)(ha:a.may=true):aK prog E 228 #[.agg (R2 a).cs.toArray] [] λe H'=>∃A' c',e=.returned (.tuple #[.slice A' 4 c',.int .i64 0])∧H'=[own aU A' 4 c' ([2]++kU a)]:=by
 have h:=Yb E a ha;rw[show[2]++be a.rep.toNat 1++be a.seq.toNat 2=[2]++kU a by simp[kU]] at h;exact h
theorem Ph(k:bP)(hm:k.may=true):aK prog E 228 #[.agg (R4 k).cs.toArray] [] λe H'=>∃A' c',e=.returned (.tuple #[.slice A' 6 c',.int .i64 0])∧H'=[own aU A' 6 c' ([4]++eR k)]:=by
 have hc:=HF (R4 k) true ⟨show(1:Int)≤4 by decide,show(4:Int)≤4 by decide⟩ (λE=>by have:=Jd E k;rwa [hm] at this);simp only[if_true] at hc;obtain⟨⟨i0,i1,i2,i3⟩,q0,q1⟩:=(bP.bY k).1 hm;have hid:k.id.may=true:=(bJ.bY _).2 ⟨i0,i1,i2,i3⟩;have h2:UInt8.ofNat (((R4 k).kind % 256).toNat)=4:=rfl;have hfin:[4]++be k.id.rep.toNat 1++be k.id.seq.toNat 2++[UInt8.ofNat k.ord.toNat,UInt8.ofNat (gQ k.cD).toNat]=[4]++eR k:=by simp[eR,kU]
 have hw8:IntKind.u8.wrap (R4 k).key.ord=k.ord:=by
  show IntKind.u8.wrap k.ord=k.ord;exact IntWalk.u8_in _ o_
 have hu0:0≤gQ k.cD:=by unfold gQ;split<;>omega
 have hu1:gQ k.cD<256:=by unfold gQ;split<;>omega
 refine t_ func228 ntmps228 ?_;repeat first|refine aE ?_|refine Dr.two ?_ ?_|intro
 refine bK hc ?_;repeat ((fail_if_success (refine C.seq (x:=Code.region 11 _ _) ?_));first|refine Cx ?_|refine He ?_|intro _|refine Dr.two ?_ ?_)
 rename_i gb g;rw[h2];refine C.cut (X:=Unit) (λ_=>[(1,.pointer (some ⟨gb,0,none⟩)),(5,.slice (some ⟨g,0,none⟩) 1 1),(8,.int .u8 0)]) (λ_=>[aJ gb 202 (R4 k).cs,own aU (some ⟨g,0,none⟩) 1 1 [4]]) (λ_=>True) ?_ ?_
 ·repeat first|refine aE ?_|refine Dr.two ?_ ?_|intro
  exact⟨(),aD,aA,trivial⟩
 rintro - G -;refine C.cut (X:=Unit) (λ_=>[(1,.pointer (some ⟨gb,0,none⟩)),(5,.slice (some ⟨g,0,none⟩) 1 1),(8,.int .u8 (gQ k.cD))]) (λ_=>[aJ gb 202 (R4 k).cs,own aU (some ⟨g,0,none⟩) 1 1 [4]]) (λ_=>True) ?_ ?_
 ·cases hu:k.cD
  ·repeat first|refine aE ?_|refine Dr.two ?_ ?_|intro
   exact⟨(),aD,aA,trivial⟩
  ·repeat first|refine aE ?_|refine Dr.two ?_ ?_|intro
   exact⟨(),aD,aA,trivial⟩
 rintro - G -;generalize gQ k.cD=u at *;repeat first|refine aE ?_|refine Dr.two ?_ ?_|intro
 refine C.BI (X:=Option Addr×Nat) (λq=>[(1,.pointer (some ⟨gb,0,none⟩)),(5,.slice q.1 6 q.2)]) (λq=>[aJ gb 202 (R4 k).cs,own aU q.1 6 q.2 ([4]++eR k)]) (λ_=>True) ?_ ?_
 ·refine rB (l_ [0,1,2,3,5,6,7,8,9] (.two 4 (g_ 10 (g_ 11 (n_ 12 .nil))) 10 (g_ 4 (g_ 11 (n_ 12 .nil))))) ([aJ gb 202 (R4 k).cs]) ?_;repeat first|refine aE ?_|refine Dr.two ?_ ?_|intro
  ·refine yB rfl sD bA sK aC (λM hE=>yE M (some ⟨g,0,none⟩) 1 1 4 [4] k.id hid dB sD rfl) ?_;rintro e H' ⟨A1,c1,rfl,hc1,rfl⟩;repeat first|refine aE ?_|refine Dr.two ?_ ?_|intro
   rw[hfin,show 4+2=6 from rfl];exact⟨(_,_),aD,aA,trivial⟩
  ·repeat first|refine aE ?_|refine Dr.two ?_ ?_|intro
   refine C2 (λM h1=>yE M (some ⟨g,0,none⟩) 1 1 4 [4] k.id hid h1 (by decide) rfl) ?_;rintro e H' ⟨A1,c1,rfl,hc1,rfl⟩;repeat first|refine aE ?_|refine Dr.two ?_ ?_|intro
   rw[hfin,show 4+2=6 from rfl];exact⟨(_,_),aD,aA,trivial⟩
 rintro⟨A2,c2⟩ G -;dsimp only;repeat first|refine aE ?_|refine Dr.two ?_ ?_|intro
 exact Cz ⟨_,_,rfl,rfl⟩
theorem Ns(k:bP)(now:Int)(hm:k.may=true)(hn:mZ now=true):aK prog E 228 #[.agg (R3 k now).cs.toArray] [] λe H'=>∃A' c',e=.returned (.tuple #[.slice A' 10 c',.int .i64 0])∧H'=[own aU A' 10 c' ([3]++eR k++be now.toNat 4)]:=by
 have hc:=HF (R3 k now) true ⟨show(1:Int)≤3 by decide,show(3:Int)≤4 by decide⟩ (λE=>by have:=Hn E k now;rwa [hm,hn] at this);simp only[if_true] at hc;have hnn:0≤now∧now≤1073741824:=of_decide_eq_true hn;have wn:IntKind.u64.wrap (R3 k now).now=(now.toNat:Nat):=by
  show IntKind.u64.wrap now=(now.toNat:Nat);exact eZ hnn.1 o_
 have gn:now.toNat<18446744073709551616:=o_;have o4:1≤4∧4≤8:=o_;obtain⟨⟨i0,i1,i2,i3⟩,q0,q1⟩:=(bP.bY k).1 hm;have hid:k.id.may=true:=(bJ.bY _).2 ⟨i0,i1,i2,i3⟩;have h2:UInt8.ofNat (((R3 k now).kind % 256).toNat)=3:=rfl;have hfin:[3]++be k.id.rep.toNat 1++be k.id.seq.toNat 2++[UInt8.ofNat k.ord.toNat,UInt8.ofNat (gQ k.cD).toNat]=[3]++eR k:=by simp[eR,kU]
 have hw8:IntKind.u8.wrap (R3 k now).key.ord=k.ord:=by
  show IntKind.u8.wrap k.ord=k.ord;exact IntWalk.u8_in _ o_
 have hu0:0≤gQ k.cD:=by unfold gQ;split<;>omega
 have hu1:gQ k.cD<256:=by unfold gQ;split<;>omega
 refine t_ func228 ntmps228 ?_;repeat first|refine aE ?_|refine Dr.two ?_ ?_|intro
 refine bK hc ?_;repeat ((fail_if_success (refine C.seq (x:=Code.region 11 _ _) ?_));first|refine Cx ?_|refine He ?_|intro _|refine Dr.two ?_ ?_)
 rename_i gb g;rw[h2];refine C.cut (X:=Unit) (λ_=>[(1,.pointer (some ⟨gb,0,none⟩)),(5,.slice (some ⟨g,0,none⟩) 1 1),(8,.int .u8 0)]) (λ_=>[aJ gb 202 (R3 k now).cs,own aU (some ⟨g,0,none⟩) 1 1 [3]]) (λ_=>True) ?_ ?_
 ·repeat first|refine aE ?_|refine Dr.two ?_ ?_|intro
  exact⟨(),aD,aA,trivial⟩
 rintro - G -;refine C.cut (X:=Unit) (λ_=>[(1,.pointer (some ⟨gb,0,none⟩)),(5,.slice (some ⟨g,0,none⟩) 1 1),(8,.int .u8 (gQ k.cD))]) (λ_=>[aJ gb 202 (R3 k now).cs,own aU (some ⟨g,0,none⟩) 1 1 [3]]) (λ_=>True) ?_ ?_
 ·cases hu:k.cD
  ·repeat first|refine aE ?_|refine Dr.two ?_ ?_|intro
   exact⟨(),aD,aA,trivial⟩
  ·repeat first|refine aE ?_|refine Dr.two ?_ ?_|intro
   exact⟨(),aD,aA,trivial⟩
 rintro - G -;generalize gQ k.cD=u at *;repeat first|refine aE ?_|refine Dr.two ?_ ?_|intro
 refine C.BI (X:=Option Addr×Nat) (λq=>[(1,.pointer (some ⟨gb,0,none⟩)),(5,.slice q.1 6 q.2)]) (λq=>[aJ gb 202 (R3 k now).cs,own aU q.1 6 q.2 ([3]++eR k)]) (λ_=>True) ?_ ?_
 ·refine rB (l_ [0,1,2,3,5,6,7,8,9] (.two 4 (g_ 10 (g_ 11 (n_ 12 .nil))) 10 (g_ 4 (g_ 11 (n_ 12 .nil))))) ([aJ gb 202 (R3 k now).cs]) ?_;repeat first|refine aE ?_|refine Dr.two ?_ ?_|intro
  ·refine yB rfl sD bA sK aC (λM hE=>yE M (some ⟨g,0,none⟩) 1 1 4 [3] k.id hid dB sD rfl) ?_;rintro e H' ⟨A1,c1,rfl,hc1,rfl⟩;repeat first|refine aE ?_|refine Dr.two ?_ ?_|intro
   rw[hfin,show 4+2=6 from rfl];exact⟨(_,_),aD,aA,trivial⟩
  ·repeat first|refine aE ?_|refine Dr.two ?_ ?_|intro
   refine C2 (λM h1=>yE M (some ⟨g,0,none⟩) 1 1 4 [3] k.id hid h1 (by decide) rfl) ?_;rintro e H' ⟨A1,c1,rfl,hc1,rfl⟩;repeat first|refine aE ?_|refine Dr.two ?_ ?_|intro
   rw[hfin,show 4+2=6 from rfl];exact⟨(_,_),aD,aA,trivial⟩
 rintro⟨A2,c2⟩ G -;dsimp only;repeat first|refine aE ?_|refine Dr.two ?_ ?_|intro
 refine cl sD sK aC (λM hE=>kY M A2 6 c2 10 4 _ now.toNat 4 rfl rfl o4 dB gn sD) ?_;rintro e H' ⟨A3,c3,rfl,hc3,rfl⟩;repeat first|refine aE ?_|refine Dr.two ?_ ?_|intro
 exact Cz ⟨_,_,rfl,rfl⟩
end
end
section
open Oct
def tO(x:pD):List UInt8 :=
 if x.kind=1 then[1]++x.c.put else if x.kind=2 then[2]++kU x.id else if x.kind=3 then[3]++eR x.key++be x.now.toNat 4 else[4]++eR x.key
end
section
open Go.RowKit Reg
open Mem hiding Rd
structure Oc where
 A:Option Addr
 n:Nat
 c:Nat
 b:List UInt8
def vQ:Ty Oc where
 val x:=.slice x.A x.n x.c
 size:=1
 bytes:=24
 tid:=70
 zero:=.slice none 0 0
 hlen _:=rfl
 lJ a u h:=by simp only[Value.cells,aAp] at h;subst h;rfl
 gL:=sD
 hzero:=rfl
 fW:=q_
 nR:=.inr ⟨q_,λ_=>rfl⟩
instance Yx:lL vQ 24:=⟨rfl⟩
def Zl(E:Env)(l:List Oc):Prop:=∀x∈l,Rd E aU x.A x.n x.c x.b
theorem Zl.at_{E:Env}{l:List Oc}(h:Zl E l){i:Nat}{x:Oc}(hx:l[i]?=some x):Rd E aU x.A x.n x.c x.b:=h x (aAi hx)
abbrev uL(x:Oc):aL:=own aU x.A x.n x.c x.b
theorem V5{E:Env}{H:List aL}{A:Option Addr}{n c:Nat}{l:List UInt8}{u:World}(h:kV E H aU A n c l)(hu:St E H u):Mem.Rd Fq u u.heap.size A n c l:=by
 obtain⟨h0,h1,h2,h3⟩:=h u hu;refine⟨h0,h1,h2,?_,λhn=>?_⟩
 ·rw[Fq.bM,←h0]
 ·rcases h3 with h3|⟨ad,e,hc⟩
  ·omega
  ·have hl:0<(aU.bT l).length:=by rw[aU.bM,←h0];exact Nat.mul_pos hn aU.gL
   have:=aEk _ _ (hc 0 _ (aAa hl));exact⟨ad,e,by rwa [eQ] at this,hc⟩
theorem Of(E:Env)(s:Nat)(hs:s<4294967296)(A:Option Addr)(n c:Nat)(l:List UInt8)(hr:Rd E aU A n c l) :
  aK prog E 294 #[.int .u32 s,.slice A n c] [] λe H'=>e=.returned (.int .u32 (Crc.more s l:Nat))∧H'=[] :=
 Pu λ_ hw=>Crc.QO s hs A n c _ l _ (V5 (kV.rd hr) hw)
theorem P9(E:Env)(A:Option Addr)(n c:Nat)(l:List Oc)(hr:Rd E vQ A n c l)(hi:Zl E l) :
  aK prog E 245 #[.slice A n c] [] λe H'=>e=.returned (.int .u32 (Crc.sum (l.map (·.b)).flatten:Nat))∧H'=[]:=by
 have hn:=hr.len;have hcap:=hr.cap;have hbig:n≤9223372036854775807:=by unfold maxLen at hcap;omega
 refine t_ func245 ntmps245 ?_;repeat first|refine aE ?_|intro
 refine C.loop (X:=Nat) (λi=>[(3,.int .u32 (Crc.FK 0 ((l.take i).map (·.b)):Nat)),(6,.slice A n c),(7,.int .i64 n),(8,.int .i64 i)]) (λ_=>[]) (λi=>i≤n) (λi=>n - i) 0 aD aB.refl (aAh _) ?_;rintro i G hin;by_cases hlt:i<n
 ·have hx:l[i]?=some l[i]:=aAa o_;have hri:=hi.at_ hx;have hs:=Crc.R9 (c:=0) sD ((l.take i).map (·.b));have e3:Crc.FK 0 ((l.take (i+1)).map (·.b))=Crc.more (Crc.FK 0 ((l.take i).map (·.b))) l[i].b:=by
   rw[aAn o_,aBk,aCi,aDo,Crc.MK]
  generalize l[i]=x at *;repeat first|refine aE ?_|intro
  refine dX (λM=>Of M _ hs x.A x.n x.c x.b) ?_;rintro e H' ⟨rfl,rfl⟩;rw[←e3];repeat first|refine aE ?_|intro
  exact⟨i+1,aD,aB.refl,by omega,by omega⟩
 ·obtain rfl:i=n:=o_;have e4:Crc.FK 0 ((l.take i).map (·.b))=Crc.sum (l.map (·.b)).flatten:=by
   rw[hn,aAo,Crc.FE];rfl
  rw[e4];repeat first|refine aE ?_|intro
  exact B7
theorem Bc(E:Env)(_g:Nat)(A:Option Addr)(n c:Nat)(l:List UInt8)(hr:Rd E aU A n c l)(B:Option Addr)(hB:Rd E vQ B 1 1 [⟨A,n,c,l⟩]) :
  aK prog E 245 #[.slice B 1 1] [] λe H'=>e=.returned (.int .u32 (Crc.sum l:Nat))∧H'=[]:=by
 have h:=P9 E B 1 1 _ hB (λx hx=>by simp at hx;subst hx;exact hr);simpa using h
structure gN where
 to:Int
 A:Option Addr
 n:Nat
 c:Nat
 b:List UInt8
 broken:Bool
abbrev gN.cs(x:gN):List Value:=[.int .i64 x.to,.slice x.A x.n x.c,.bool x.broken]
def iC:Ty gN where
 val x:=.agg x.cs.toArray
 size:=3
 bytes:=40
 tid:=168
 zero:=.agg #[.int .i64 0,.slice none 0 0,.bool false]
 hlen _:=rfl
 lJ a u h:=by simp[Value.cells] at h;rcases h with rfl|rfl|rfl<;>rfl
 gL:=sD
 hzero:=rfl
 fW:=q_
 nR:=.inl ⟨q_,λ_=>⟨_,rfl⟩⟩
instance Yk:lL iC 40:=⟨rfl⟩
def V1:gN:=⟨0,none,0,0,[],false⟩
theorem On:Rec prog 168 [.int .i64 0,.slice none 0 0,.bool false] [(0,1),(1,1),(2,1)]:=⟨q_,q_⟩
instance WD:cL 168 [.int .i64 0,.slice none 0 0,.bool false] [(0,1),(1,1),(2,1)]:=⟨On⟩
theorem PM:Rec prog 113 [.slice none 0 0] [(0,1)]:=⟨q_,q_⟩
instance WK:cL 113 [.slice none 0 0] [(0,1)]:=⟨PM⟩
structure fD where
 to:Int
 b:List UInt8
 broken:Bool
abbrev DD(x:gN):aL:=own aU x.A x.n x.c x.b
abbrev wr(g:Nat)(A:Option Addr)(n c:Nat):aL:=aJ g 113 [.slice A n c]
theorem IW(E:Env)(A:Option Addr)(n c:Nat)(l:List UInt8)(hr:Rd E aU A n c l)(hl:n≤140737488355300):aK prog E 156 #[.slice A n c] [] λe H'=>∃A' c',e=.returned (.slice A' n c')∧(n≤c'∧c'≤maxLen)∧H'=[own aU A' n c' l]:=by
 refine t_ func156 ntmps156 ?_;cases A with
 |none =>
  obtain⟨rfl,rfl⟩:=hr.none;repeat first|refine aE ?_|intro
  exact aR rfl aF (aB.nil aU) ⟨_,_,rfl,⟨aAf _,aAh _⟩,rfl⟩
 |some a =>
  repeat first|refine aE ?_|intro
  exact aR rfl aF aA (⟨_,_,rfl,⟨by assumption,by assumption⟩,rfl⟩)
theorem vX{P:Program}{E:Env}{fn:Func}{R:Ending→List aL→Prop}{F:Nat→Value}{H H1:List aL}{e:Ex}(hc:aB E H H1)(h:gF P E fn R e F H1)(hp:∀c,e≠.panic c:=by intro c h;cases h):gF P E fn R e F H:=by
 cases e with
 |panic c=>exact absurd rfl (hp c)
 |normal=>obtain⟨v,H',h1,h2,h3⟩:=h;exact⟨v,H',λw hw=>h1 w (hc w hw),hc.trans h2,h3⟩
 |ret=>obtain⟨v,H',h1,h2,h3⟩:=h;exact⟨v,H',λw hw=>h1 w (hc w hw),hc.trans h2,h3⟩
 |exit id=>exact h
section
variable (E:Env) (g:Nat) (A:Option Addr) (n c:Nat) (ls:List gN)
theorem CN(i:Int)(hn:n≤128)(h:i<0∨n≤i):aK prog E 182 #[.pointer (some ⟨g,0,none⟩),.int .i64 i] [wr g A n c] λr H'=>r=.returned (.pointer none)∧H'=[wr g A n c]:=by
 have hmax:=fX;refine t_ func182 ntmps182 ?_;by_cases h0:i<0
 ·repeat first|refine aE ?_|intro
  exact B7
 ·repeat first|refine aE ?_|intro
  exact B7
theorem sG(i:Nat)(hn:n≤128)(hi:i<n){e:gN}(he:ls[i]?=some e)(hl:n=ls.length):aK prog E 182 #[.pointer (some ⟨g,0,none⟩),.int .i64 i] [wr g A n c,own iC A n c ls] λr H'=>r=.returned (.pointer (some ((ad A).add (i*iC.size))))∧H'=[wr g A n c,own iC A n c ls]:=by
 have hmax:=fX;refine t_ func182 ntmps182 ?_;repeat first|refine aE ?_|intro
 exact B7
def AS(E:Env)(ls:List gN)(X:Option Addr)(nx cx:Nat)(b:List UInt8):Prop:=∀M R,Sub E R M→(∃R',Has (aO DD ls) R R')→Rd M aU X nx cx b
theorem AS.rd{E:Env}{ls:List gN}{X:Option Addr}{nx cx:Nat}{b:List UInt8}(h:Rd E aU X nx cx b):AS E ls X nx cx b:=λ_ _ hE _=>h.sub hE
def wI(g:Nat)(n:Nat)(ls:List gN)(to:Int)(nx:Nat)(b:List UInt8)(br:Bool):Ending→List aL→Prop:=λr H' =>
 ∃A' c' O co,r=.returned (.bool true)∧(n+1≤c'∧c'≤maxLen)∧H'=[wr g A' (n+1) c',own iC A' (n+1) c' (ls++[⟨to,O,nx,co,b,br⟩]),aO DD (ls++[⟨to,O,nx,co,b,br⟩])]
theorem Cf(X:Option Addr)(nx cx:Nat)(to:Int)(br:Bool)(hn:128≤n)(hm:n≤maxLen):aK prog E 94 #[.pointer (some ⟨g,0,none⟩),.agg #[.int .i64 to,.slice X nx cx,.bool br]] [wr g A n c] λr H'=>r=.returned (.bool false)∧H'=[wr g A n c]:=by
 refine t_ func94 ntmps94 ?_;repeat first|refine aE ?_|intro
 exact B7
theorem QA(X:Option Addr)(nx cx:Nat)(to:Int)(br:Bool)(b:List UInt8)(hn:n<128)(hl:n=ls.length)(hsrc:AS E ls X nx cx b)(hnx:nx≤140737488355300) :
  aK prog E 94 #[.pointer (some ⟨g,0,none⟩),.agg #[.int .i64 to,.slice X nx cx,.bool br]] [wr g A n c,own iC A n c ls,aO DD ls] (wI g n ls to nx b br):=by
 have hmax:=fX;unfold wI;refine t_ func94 ntmps94 ?_;repeat first|refine aE ?_|intro
 rename_i g3;refine cl sD sK aC (λM hE=>IW M X nx cx b (hsrc M _ hE ⟨_,aS⟩) hnx) ?_;rintro r H' ⟨O,co,rfl,⟨hc1,hc2⟩,rfl⟩;repeat first|refine aE ?_|intro
 refine C.bL 10 (l_ [0,1,2,3,4,5] (g_ 6 (g_ 7 (l_ [8,9] (g_ 10 .nil))))) ([wr g A n c,aJ g3 168 [.int .i64 to,.slice O nx co,.bool br]]) q_ q_ aA ?_;repeat first|refine aE ?_|intro
 refine Dr.Aw rfl (by rintro k ⟨⟩<;>decide) bA (S.cB (T:=iC) (e:=⟨to,O,nx,co,b,br⟩) rfl rfl rfl rfl sD) ?_;rintro _ _ ⟨_,rfl,rfl⟩;refine⟨aA,?_⟩;repeat first|refine aE ?_|intro
 rename_i A' c' h1 h2;refine vX (aB.push (f:=DD) (l:=ls) (x:=⟨to,O,nx,co,b,br⟩) aC) ?_;exact jQ ⟨_,_,_,_,rfl,⟨h1,h2⟩,rfl⟩
theorem Mb(to:Int)(X:Option Addr)(nx cx:Nat)(hn:128≤n)(hm:n≤maxLen):aK prog E 30 #[.pointer (some ⟨g,0,none⟩),.int .i64 to,.slice X nx cx] [wr g A n c] λr H'=>r=.returned (.bool false)∧H'=[wr g A n c]:=by
 refine t_ func30 ntmps30 ?_;repeat first|refine aE ?_|intro
 refine bK (λM=>Cf M g A n c X nx cx to false hn hm) ?_;repeat first|refine aE ?_|intro
 exact B7
theorem S6(to:Int)(X:Option Addr)(nx cx:Nat)(b:List UInt8)(hn:n<128)(hl:n=ls.length)(hsrc:Rd E aU X nx cx b)(hnx:nx≤140737488355300) :
  aK prog E 30 #[.pointer (some ⟨g,0,none⟩),.int .i64 to,.slice X nx cx] [wr g A n c,own iC A n c ls,aO DD ls] (wI g n ls to nx b false):=by
 refine t_ func30 ntmps30 ?_;repeat first|refine aE ?_|intro
 refine cl sD sK aC (λM hE=>QA M g A n c ls X nx cx to false b hn hl (AS.rd (hsrc.sub hE)) hnx) ?_;unfold wI;rintro r H' ⟨A',c',O,co,rfl,h1,rfl⟩;repeat first|refine aE ?_|intro
 exact jQ ⟨_,_,_,_,rfl,h1,rfl⟩
theorem Z4(hn:n≤128):aK prog E 35 #[.pointer (some ⟨g,0,none⟩)] [wr g A n c] λr H'=>r=.returned (.int .i64 n)∧H'=[wr g A n c]:=by
 have hmax:=fX;refine t_ func35 ntmps35 ?_;repeat first|refine aE ?_|intro
 exact B7
theorem VN(i:Int)(hn:n≤128)(h:i<0∨n≤i):aK prog E 119 #[.pointer (some ⟨g,0,none⟩),.int .i64 i] [wr g A n c] λr H'=>r=.returned (.int .i64 (-1))∧H'=[wr g A n c]:=by
 refine t_ func119 ntmps119 ?_;repeat first|refine aE ?_|intro
 refine bK (λM=>CN M g A n c i hn h) ?_;repeat first|refine aE ?_|intro
 exact B7
theorem Ri(i:Nat)(hn:n≤128)(hi:i<n){e:gN}(he:ls[i]?=some e)(hl:n=ls.length):aK prog E 119 #[.pointer (some ⟨g,0,none⟩),.int .i64 i] [wr g A n c,own iC A n c ls] λr H'=>r=.returned (.int .i64 e.to)∧H'=[wr g A n c,own iC A n c ls]:=by
 refine t_ func119 ntmps119 ?_;repeat first|refine aE ?_|intro
 refine bK (λM=>sG M g A n c ls i hn hi he hl) ?_;repeat first|refine aE ?_|intro
 exact B7
end
end
section
open Go.RowKit Reg Oct Frm
open Mem hiding Rd
theorem tR(E:Env)(n:Int):aK prog E 243 #[.int .i64 n] [] λe H'=>e=.returned (.int .i64 (if 1≤n∧n≤4096 then n+7 else 0))∧H'=[]:=by
 refine t_ func243 ntmps243 ?_;by_cases h1:n<1
 ·rw[if_neg o_];repeat first|refine aE ?_|intro
  exact B7
 ·by_cases h2:4096<n
  ·rw[if_neg o_];repeat first|refine aE ?_|intro
   exact B7
  ·rw[if_pos o_];have e1:IntKind.i64.wrap (2+n)=n+2:=by rw[aAq _ o_];omega
   have e2:IntKind.i64.wrap (n+2+4)=n+6:=by rw[aAq _ o_];omega
   have e3:IntKind.i64.wrap (n+6+1)=n+7:=by rw[aAq _ o_];omega
   repeat first|refine aE ?_|intro
   exact B7
section
variable (E:Env) (A:Option Addr) (n c:Nat) (l:List UInt8)
theorem QN:aK prog E 239 #[.slice A 0 c] [] λe H'=>e=.returned (.tuple #[.slice none 0 0,.int .i64 4])∧H'=[]:=by
 have hm:0≤maxLen:=aAh _;refine t_ func239 ntmps239 ?_;repeat first|refine aE ?_|intro
 exact Xs
theorem D5(hr:Rd E aU A n c l)(hn:4096<n):aK prog E 239 #[.slice A n c] [] λe H'=>e=.returned (.tuple #[.slice none 0 0,.int .i64 5])∧H'=[]:=by
 have hcap:=hr.cap;refine t_ func239 ntmps239 ?_;repeat first|refine aE ?_|intro
 refine bW (λM=>tR M n) ?_;rw[if_neg o_];rintro e H' ⟨rfl,rfl⟩;repeat first|refine aE ?_|intro
 exact Xs
theorem SM(l:List UInt8)(k:Nat):Oct.put l k 2=l++be k 2:=if_neg o_
theorem Y9(l:List UInt8)(k:Nat):Oct.put l k 4=l++be k 4:=if_neg o_
theorem uR(hr:Rd E aU A n c l)(h1:1≤n)(hn:n≤4096):aK prog E 239 #[.slice A n c] [] λe H'=>∃A' c',e=.returned (.tuple #[.slice A' (n+7) c',.int .i64 0])∧H'=[own aU A' (n+7) c' (fr l)]:=by
 have hcap:=hr.cap;have hln:=hr.len;have hsl:=Crc.EW l;have hp2:Oct.put [] n 2=be n 2:=by rw[SM];rfl
 have hb2:=aP n 2;have hp4:Oct.put (be n 2++l) (Crc.sum l) 4=be n 2++l++be (Crc.sum l) 4:=Y9 _ _;have hb4:(be n 2++l++be (Crc.sum l) 4).length=n+6:=by simp[aP];omega
 have hfr:be n 2++l++be (Crc.sum l) 4++[UInt8.ofNat (Int.toNat 90)]=fr l:=by unfold fr;rw[←hln];rfl
 refine t_ func239 ntmps239 ?_;repeat first|refine aE ?_|intro
 refine bW (λM=>tR M n) ?_;rw[if_pos o_];rintro e H' ⟨rfl,rfl⟩;repeat first|refine aE ?_|intro
 refine dX (λM h1=>FL M none 0 0 [] n 2 h1 (by omega) (by omega)) ?_;rw[hp2];unfold uQ;rw[hb2];rintro e H' ⟨A1,c1,rfl,h2,h3,rfl⟩;repeat first|refine aE ?_|intro
 rename_i A2 c2 _ _;refine L.fQ sD (S.cB (T:=vQ) (e:=(⟨A,n,c,l⟩:Oc)) rfl rfl rfl rfl sD) ?_;rintro _ _ ⟨_,rfl,rfl⟩;repeat first|refine aE ?_|intro
 refine DY (λM h1=>Bc M 0 A n c l h1 _) ?_;repeat first|refine aE ?_|intro
 refine dX (λM h1=>FL M A2 (2+n) c2 (be n 2++l) (Crc.sum l) 4 h1 (by omega) (by omega)) ?_;rw[hp4];unfold uQ;rw[hb4];rintro e H' ⟨A3,c3,rfl,h4,h5,rfl⟩;repeat first|refine aE ?_|intro
 rw[hfr];exact Cz ⟨_,_,rfl,rfl⟩
theorem uW{l:List UInt8}{k:Nat}(h:k≤l.length):nx false l k=(some (l.take k),false,l.drop k):=by
 unfold nx;rw[if_neg (by simp),if_neg o_,aAu]
theorem Nf{l:List UInt8}{k:Nat}(h:l.length<k):nx false l k=(none,true,l):=by
 unfold nx;rw[if_neg (by simp),if_pos o_]
theorem Ha(hr:Rd E aU A n c l)(hl:n≤140737488355200)(x:List UInt8)(k:Nat)(hx:kG l=some (x,k)) :
  aK prog E 184 #[.slice A n c] [] λe H'=>∃B d,e=.returned (.tuple #[.slice B x.length d,.int .i64 k,.bool true])∧H'=[own aU B x.length d x]:=by
 have hn:=hr.len;have hcap:=hr.cap;unfold kG at hx;split at hx
 case isFalse=>cases hx
 rename_i hok;injection hx with hx;injection hx with hx hk
 subst hk;obtain⟨h2,h1,h3,h4,h90,hsum⟩:=hok;have hxl:x.length=size l:=by rw[←hx];simp;omega
 have hnx1:nx false l (wid 2)=(some (l.take 2),false,l.drop 2):=uW h2;have hnx2:nx false (l.drop 2) (size l:Nat)=(some ((l.drop 2).take (size l)),false,(l.drop 2).drop (size l)):=uW (by simp;omega);have hnx3:nx false ((l.drop 2).drop (size l)) (wid 4)=(some (((l.drop 2).drop (size l)).take 4),false,((l.drop 2).drop (size l)).drop 4):=uW (by simp;omega);have hget:Oct.get (l.take 2)=size l:=rfl;have hg4:Oct.get (((l.drop 2).drop (size l)).take 4)=Crc.sum x:=by rw[aBt,aEs 2 (size l),hsum,hx]
 have hsl:=Crc.EW x;generalize size l=s at *;have hs1:IntKind.i64.wrap ((s:Int)+7 - 1)=((s+6:Nat):Int):=by rw[aAq _ o_];omega
 refine t_ func184 ntmps184 ?_;repeat first|refine aE ?_|intro
 refine dX (λM h1=>lD M A n c l h1 (by omega)) ?_;rintro e H' ⟨g,A0,c0,rfl,h5,h6,rfl⟩;refine gk bG ?_;unfold Bs;repeat first|refine aE ?_|intro
 refine dX (λM=>iG M g false A0 n c0 l 2) ?_;rw[hnx1];rintro e H' ⟨A1,n1,c1,rfl,hal1,rfl⟩;refine gk bG ?_;simp only[tk,hget];repeat first|refine aE ?_|intro
 refine bW (λM=>tR M s) ?_;rw[if_pos o_];rintro e H' ⟨rfl,rfl⟩;repeat first|refine aE ?_|intro
 refine cl sD sK aC (λM hE=>kR M g false A1 n1 c1 (l.drop 2) s (hal1 _ dB) (by simp;omega)) ?_;rw[hnx2];rintro e H' ⟨A3,n3,c3,B,d,rfl,hal3,hmd,hd3,rfl⟩;dsimp only[Option.getD,Option.isSome] at hmd⊢;rw[hx] at hmd⊢;repeat first|refine aE ?_|intro
 refine cl sD sK aC (λM hE=>iG M g false A3 n3 c3 ((l.drop 2).drop s) 4 (hal3 _ (hal1 _ dB))) ?_;rw[hnx3];rintro e H' ⟨A4,n4,c4,rfl,hal4,rfl⟩;refine gk bG ?_;simp only[tk,hg4];repeat first|refine aE ?_|intro
 refine L.fQ sD (S.cB (T:=vQ) (e:=(⟨B,x.length,d,x⟩:Oc)) rfl rfl rfl rfl sD) ?_;rintro _ _ ⟨_,rfl,rfl⟩;repeat first|refine aE ?_|intro
 refine DY (λM h1=>Bc M 0 B x.length d x h1 _) ?_;repeat first|refine aE ?_|intro
 exact Ma rfl aF aF aF aA (⟨_,_,rfl,rfl⟩)
theorem Ka(hr:Rd E aU A n c l)(hl:n≤140737488355200)(hx:kG l=none) :
  aK prog E 184 #[.slice A n c] [] λe H'=>e=.returned (.tuple #[.slice none 0 0,.int .i64 0,.bool false])∧H'=[]:=by
 have hn:=hr.len;have hcap:=hr.cap;have hno:¬ok l:=by
  intro h;unfold kG at hx;rw[if_pos h] at hx;cases hx
 refine t_ func184 ntmps184 ?_;repeat first|refine aE ?_|intro
 refine dX (λM h1=>lD M A n c l h1 (by omega)) ?_;rintro e H' ⟨g,A0,c0,rfl,h5,h6,rfl⟩;refine gk bG ?_;unfold Bs;repeat first|refine aE ?_|intro
 refine dX (λM=>iG M g false A0 n c0 l 2) ?_;by_cases h2:2≤l.length
 ·have hnx1:nx false l (wid 2)=(some (l.take 2),false,l.drop 2):=uW h2;have hget:Oct.get (l.take 2)=size l:=rfl;have hs65:size l<65536:=by
   have:=BY (l.take 2);rw[aAg,aBr h2] at this;exact this
  rw[hnx1];rintro e H' ⟨A1,n1,c1,rfl,hal1,rfl⟩;refine gk bG ?_;simp only[tk,hget];repeat first|refine aE ?_|intro
  refine bW (λM=>tR M (size l)) ?_;by_cases h1:1≤size l∧size l≤4096
  ·rw[if_pos o_];rintro e H' ⟨rfl,rfl⟩;refine gk bG ?_;by_cases h4:size l+7≤l.length
   ·have hx6:l[size l+6]?=some l[size l+6]:=aAa o_;have hs1:IntKind.i64.wrap ((size l:Int)+7 - 1)=((size l+6:Nat):Int):=by rw[aAq _ o_];omega
    by_cases h90:l[size l+6]=90
    ·rw[h90] at hx6;have hsum:Oct.get ((l.drop (size l+2)).take 4)≠Crc.sum ((l.drop 2).take (size l)):=λh=>hno ⟨h2,h1.1,h1.2,h4,hx6,h⟩;have hxl:((l.drop 2).take (size l)).length=size l:=by simp;omega
     have hnx2:nx false (l.drop 2) (size l:Nat)=(some ((l.drop 2).take (size l)),false,(l.drop 2).drop (size l)):=uW (by simp;omega);have hnx3:nx false ((l.drop 2).drop (size l)) (wid 4)=(some (((l.drop 2).drop (size l)).take 4),false,((l.drop 2).drop (size l)).drop 4):=uW (by simp;omega);have hg4:Oct.get (((l.drop 2).drop (size l)).take 4)≠Crc.sum ((l.drop 2).take (size l)):=by rw[aBt,aEs 2 (size l)];exact hsum
     have hsl:=Crc.EW ((l.drop 2).take (size l));have hgl:=BY (((l.drop 2).drop (size l)).take 4);rw[show(((l.drop 2).drop (size l)).take 4).length=4 by simp;omega] at hgl;clear hget hno hx hsum;generalize (l.drop 2).take (size l)=x at *;generalize hy:Oct.get (((l.drop 2).drop (size l)).take 4)=y at *;generalize size l=s at *;repeat first|refine aE ?_|intro
     refine cl sD sK aC (λM hE=>kR M g false A1 n1 c1 (l.drop 2) s (hal1 _ dB) (by simp;omega)) ?_;rw[hnx2];rintro e H' ⟨A3,n3,c3,B,d,rfl,hal3,hmd,hd3,rfl⟩;dsimp only[Option.getD,Option.isSome] at hmd⊢;repeat first|refine aE ?_|intro
     refine cl sD sK aC (λM hE=>iG M g false A3 n3 c3 ((l.drop 2).drop s) 4 (hal3 _ (hal1 _ dB))) ?_;rw[hnx3];rintro e H' ⟨A4,n4,c4,rfl,hal4,rfl⟩;refine gk bG ?_;simp only[tk,hy];repeat first|refine aE ?_|intro
     refine L.fQ sD (S.cB (T:=vQ) (e:=(⟨B,x.length,d,x⟩:Oc)) rfl rfl rfl rfl sD) ?_;rintro _ _ ⟨_,rfl,rfl⟩;repeat first|refine aE ?_|intro
     refine DY (λM h1=>Bc M 0 B x.length d x h1 _) ?_;repeat first|refine aE ?_|intro
     exact Ma rfl aF aF aF aA (⟨rfl,rfl⟩)
    ·have h90':l[size l+6].toNat≠90:=λh=>h90 (aEg.1 h);repeat first|refine aE ?_|intro
     exact Ma rfl aF aF aF aA (⟨rfl,rfl⟩)
   ·repeat first|refine aE ?_|intro
    exact Ma rfl aF aF aF aA (⟨rfl,rfl⟩)
  ·rw[if_neg o_];rintro e H' ⟨rfl,rfl⟩;repeat first|refine aE ?_|intro
   exact Ma rfl aF aF aF aA (⟨rfl,rfl⟩)
 ·have hnx1:nx false l (wid 2)=(none,true,l):=Nf (k:=2) o_;rw[hnx1];rintro e H' ⟨A1,n1,c1,rfl,hal1,rfl⟩;refine gk bG ?_;simp only[tk];repeat first|refine aE ?_|intro
  refine bW (λM=>tR M 0) ?_;rw[if_neg o_];rintro e H' ⟨rfl,rfl⟩;repeat first|refine aE ?_|intro
  exact Ma rfl aF aF aF aA (⟨rfl,rfl⟩)
end
end
end Go.Proofs.YtmilalkjbojciaaGreat.Sep
