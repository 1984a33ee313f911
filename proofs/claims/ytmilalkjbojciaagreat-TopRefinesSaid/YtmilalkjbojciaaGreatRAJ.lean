/- Part AJ: what it needs. No condition. -/
import Derived.Test.YtmilalkjbojciaaGreatRAA
import Derived.Test.YtmilalkjbojciaaGreatRAH
import Derived.Test.YtmilalkjbojciaaGreatRAE
set_option maxRecDepth 100000
set_option maxHeartbeats 8000000
open Go.Proofs.Tryz
namespace Go.Proofs.YtmilalkjbojciaaGreat.Sep
open Go.RowKit Reg Oct
open Mem hiding Rd
def Sd(gr g:Nat)(A:Option Addr)(n c:Nat)(l:List UInt8)(s:Bool×List UInt8)(v:Value)(e:Ending)(H':List aL):Prop :=
 ∃A' n' c',e=.returned v∧nS A n c l A' n' c' s.2∧H'=[aJ gr 276 [.pointer (some ⟨g,0,none⟩)],pC g true s.1 A' n' c']
theorem Gl(s:Bool×List UInt8)(w:Nat):tk (nx s.1 s.2 w).1=.tuple #[.int .u64 (vl s w:Nat),.bool (Ly s w)]:=by
 unfold vl Ly;cases(nx s.1 s.2 w).1<;>rfl
theorem iH(E:Env)(gr g:Nat)(s s':Bool×List UInt8)(w:Nat)(v:Int)(hs:jV s w=s')(hv:rV (vl s w)=v)(A:Option Addr)(n c:Nat)(W:Int)(hW:W=w)(hw:1≤w∧w≤8)(hr:Rd E aU A n c s.2) :
  aK prog E 331 #[.int .i64 W,.pointer (some ⟨gr,0,none⟩)] [aJ gr 276 [.pointer (some ⟨g,0,none⟩)],pC g true s.1 A n c] (Sd gr g A n c s.2 s' (.int .i64 v)):=by
 subst hs hv;have hwid:wid W=(w:Int):=by unfold wid;rw[if_neg o_];exact hW
 have hlt:=jR s w;have hlt2:vl s w<18446744073709551616:=aDe hlt (aBw (aDx o_ hw.2) sD);have hc:=qZ hlt2;refine t_ func331 ntmps331 ?_;repeat first|refine aE ?_|intro
 refine dX (λM=>iG M g s.1 A n c s.2 W) ?_;obtain⟨o,ho⟩:∃o,nx s.1 s.2 (w:Int)=(o,jV s w):=⟨_,rfl⟩
 have htk:=Gl s w;rw[ho] at htk;rw[hwid,ho];rintro e H' ⟨A',n',c',rfl,hal,rfl⟩;dsimp only at htk hal⊢;rw[htk];repeat first|refine aE ?_|intro
 exact jQ ⟨_,_,_,rfl,hal,rfl⟩
theorem xS(E:Env)(A:Option Addr)(n c:Nat)(l:List UInt8)(r:Option aX)(hx:tT l=r)(hr:Rd E aU A n c l)(hl:n≤140737488355300) :
  aK prog E 283 #[.slice A n c] [] λe H'=>e=.returned (.tuple #[.agg (r.getD dO).cs.toArray,.int .i64 (if r.isSome then 0 else 16)])∧H'=[]:=by
 have o1:1≤1∧1≤8:=o_;have o2:1≤2∧2≤8:=o_;have o4:1≤4∧4≤8:=o_;have o8:1≤8∧8≤8:=o_;have q0:rV (vl (false,l) 1)=(va dW l 0:Nat):=cN (aCl (jR _ 1) sD);have q1:rV (vl (st dW l 1) 2)=(va dW l 1:Nat):=cN (aCl (jR _ 2) sD);have q2:rV (vl (st dW l 2) 4)=(va dW l 2:Nat):=cN (aCl (jR _ 4) sD);have q3:rV (vl (st dW l 3) 1)=(va dW l 3:Nat):=cN (aCl (jR _ 1) sD);have q4:rV (vl (st dW l 4) 1)=(va dW l 4:Nat):=cN (aCl (jR _ 1) sD);have q5:rV (vl (st dW l 5) 1)=(va dW l 5:Nat):=cN (aCl (jR _ 1) sD);have q7:rV (vl (st dW l 7) 1)=(va dW l 7:Nat):=cN (aCl (jR _ 1) sD);have q8:rV (vl (st dW l 8) 2)=(va dW l 8:Nat):=cN (aCl (jR _ 2) sD);have q9:rV (vl (st dW l 9) 1)=(va dW l 9:Nat):=cN (aCl (jR _ 1) sD);have b6:=jR (st dW l 6) 8;have i6:dQ (rV (va dW l 6)):=Ii b6;unfold dQ at i6;have hcr:=N0 l;refine t_ func283 ntmps283 ?_;repeat first|refine aE ?_|intro
 refine dX (λM h1=>lD M A n c l h1 (by omega)) ?_;rintro e H' ⟨g,A0,c0,rfl,h5,h6,rfl⟩;refine gk bG ?_;unfold Bs;repeat first|refine aE ?_|intro
 rename_i gres gr gc;refine L.step sD (S.cW rfl eS rfl rfl func331 q_ rfl aC (λM hE=>iH M gr g (false,l) (st dW l 1) 1 _ rfl q0 A0 n c0 1 rfl o1 dB) ?_);rintro e H' ⟨A1,n1,c1,rfl,hal1,rfl⟩;repeat first|refine aE ?_|intro
 refine L.step sD (S.cW rfl eS rfl rfl func331 q_ rfl aC (λM hE=>iH M gr g (st dW l 1) (st dW l 2) 2 _ rfl q1 A1 n1 c1 2 rfl o2 (hal1 _ dB)) ?_);rintro e H' ⟨A2,n2,c2,rfl,hal2,rfl⟩;repeat first|refine aE ?_|intro
 refine L.step sD (S.cW rfl eS rfl rfl func331 q_ rfl aC (λM hE=>iH M gr g (st dW l 2) (st dW l 3) 4 _ rfl q2 A2 n2 c2 4 rfl o4 (hal2 _ (hal1 _ dB))) ?_);rintro e H' ⟨A3,n3,c3,rfl,hal3,rfl⟩;repeat first|refine aE ?_|intro
 refine L.step sD (S.cW rfl eS rfl rfl func331 q_ rfl aC (λM hE=>iH M gr g (st dW l 3) (st dW l 4) 1 _ rfl q3 A3 n3 c3 1 rfl o1 (hal3 _ (hal2 _ (hal1 _ dB)))) ?_);rintro e H' ⟨A4,n4,c4,rfl,hal4,rfl⟩;repeat first|refine aE ?_|intro
 refine L.step sD (S.cW rfl eS rfl rfl func331 q_ rfl aC (λM hE=>iH M gr g (st dW l 4) (st dW l 5) 1 _ rfl q4 A4 n4 c4 1 rfl o1 (hal4 _ (hal3 _ (hal2 _ (hal1 _ dB))))) ?_);rintro e H' ⟨A5,n5,c5,rfl,hal5,rfl⟩;repeat first|refine aE ?_|intro
 refine L.step sD (S.cW rfl eS rfl rfl func331 q_ rfl aC (λM hE=>iH M gr g (st dW l 5) (st dW l 6) 1 _ rfl q5 A5 n5 c5 1 rfl o1 (hal5 _ (hal4 _ (hal3 _ (hal2 _ (hal1 _ dB)))))) ?_);rintro e H' ⟨A6,n6,c6,rfl,hal6,rfl⟩;repeat first|refine aE ?_|intro
 refine L.step sD (S.cW rfl eS rfl rfl func331 q_ rfl aC (λM hE=>iH M gr g (st dW l 6) (st dW l 7) 8 _ rfl rfl A6 n6 c6 8 rfl o8 (hal6 _ (hal5 _ (hal4 _ (hal3 _ (hal2 _ (hal1 _ dB))))))) ?_);rintro e H' ⟨A7,n7,c7,rfl,hal7,rfl⟩;repeat first|refine aE ?_|intro
 refine L.step sD (S.cW rfl eS rfl rfl func331 q_ rfl aC (λM hE=>iH M gr g (st dW l 7) (st dW l 8) 1 _ rfl q7 A7 n7 c7 1 rfl o1 (hal7 _ (hal6 _ (hal5 _ (hal4 _ (hal3 _ (hal2 _ (hal1 _ dB)))))))) ?_);rintro e H' ⟨A8,n8,c8,rfl,hal8,rfl⟩;repeat first|refine aE ?_|intro
 refine L.step sD (S.cW rfl eS rfl rfl func331 q_ rfl aC (λM hE=>iH M gr g (st dW l 8) (st dW l 9) 2 _ rfl q8 A8 n8 c8 2 rfl o2 (hal8 _ (hal7 _ (hal6 _ (hal5 _ (hal4 _ (hal3 _ (hal2 _ (hal1 _ dB))))))))) ?_);rintro e H' ⟨A9,n9,c9,rfl,hal9,rfl⟩;repeat first|refine aE ?_|intro
 refine L.step sD (S.cW rfl eS rfl rfl func331 q_ rfl aC (λM hE=>iH M gr g (st dW l 9) (st dW l 10) 1 _ rfl q9 A9 n9 c9 1 rfl o1 (hal9 _ (hal8 _ (hal7 _ (hal6 _ (hal5 _ (hal4 _ (hal3 _ (hal2 _ (hal1 _ dB)))))))))) ?_);rintro e H' ⟨Ax,nx',cx,rfl,halx,rfl⟩;refine gk bG ?_;have hno:r=none→r.getD dO=dO∧r.isSome=false:=λh=>by rw[h];exact⟨rfl,rfl⟩
 by_cases h9:va dW l 9=67
 ·repeat first|refine aE ?_|intro
  refine cl sD sK aC (λM hE=>xV M g (st dW l 10).1 Ax nx' cx (st dW l 10).2 (halx _ (hal9 _ (hal8 _ (hal7 _ (hal6 _ (hal5 _ (hal4 _ (hal3 _ (hal2 _ (hal1 _ dB))))))))))) ?_;rintro e H' ⟨rfl,rfl⟩;refine gk bG ?_;cases hd:(!(st dW l 10).1&&(st dW l 10).2.isEmpty)
  ·obtain⟨e1,e2⟩:=hno (by rw[←hx,hcr,if_neg (by rw[hd];simp)]);rw[e1,e2];repeat first|refine aE ?_|intro
   exact Qv
  ·repeat first|refine aE ?_|intro
   refine bK (λM=>kF M (wR l)) ?_;cases hm:(wR l).may
   ·obtain⟨e1,e2⟩:=hno (by rw[←hx,hcr,if_neg (by rw[hm];simp)]);rw[e1,e2,if_neg aAl];repeat first|refine aE ?_|intro
    exact Qv
   ·have e1:r=some (wR l):=by rw[←hx,hcr,if_pos ⟨h9,hd,hm⟩]
    rw[e1,if_pos rfl];repeat first|refine aE ?_|intro
    exact Qv
 ·obtain⟨e1,e2⟩:=hno (by rw[←hx,hcr,if_neg (λh=>h9 h.1)]);rw[e1,e2];repeat first|refine aE ?_|intro
  exact Qv
abbrev mW:aX:=⟨⟨0,0⟩,0,0,0,0,0,⟨0,0⟩⟩
abbrev zR:bP:=⟨⟨0,0⟩,0,false⟩
section
variable (E:Env)
theorem qM(c:aX):aK prog E 171 #[.agg c.cs.toArray] [] λe H'=>e=.returned (.agg (⟨1,c,⟨0,0⟩,zR,0⟩:pD).cs.toArray)∧H'=[]:=by
 refine t_ func171 ntmps171 ?_;repeat first|refine aE ?_|intro
 exact Iv
theorem oS(a:bJ):aK prog E 117 #[.agg a.cs.toArray] [] λe H'=>e=.returned (.agg (⟨2,mW,a,zR,0⟩:pD).cs.toArray)∧H'=[]:=by
 refine t_ func117 ntmps117 ?_;repeat first|refine aE ?_|intro
 exact Iv
theorem Tk(k:bP)(now:Int):aK prog E 181 #[.agg k.cs.toArray,.int .i64 now] [] λe H'=>e=.returned (.agg (⟨3,mW,⟨0,0⟩,k,now⟩:pD).cs.toArray)∧H'=[]:=by
 refine t_ func181 ntmps181 ?_;repeat first|refine aE ?_|intro
 exact Iv
theorem NW(k:bP):aK prog E 190 #[.agg k.cs.toArray] [] λe H'=>e=.returned (.agg (⟨4,mW,⟨0,0⟩,k,0⟩:pD).cs.toArray)∧H'=[]:=by
 refine t_ func190 ntmps190 ?_;repeat first|refine aE ?_|intro
 exact Iv
theorem Wu(a:bJ)(ha:a.may=true):aK prog E 300 #[.agg (⟨2,mW,a,zR,0⟩:pD).cs.toArray] [] λe H'=>e=.returned (.tuple #[.agg (⟨2,mW,a,zR,0⟩:pD).cs.toArray,.bool true])∧H'=[]:=by
 refine t_ func300 ntmps300 ?_;repeat first|refine aE ?_|intro
 rename_i g gres;refine rB (l_ [0,1,3,4] (g_ 2 (g_ 5 (g_ 6 (n_ 7 .nil))))) ([aJ g 202 (⟨2,mW,a,zR,0⟩:pD).cs]) ?_;repeat first|refine aE ?_|intro
 refine eJ (λM=>oS M a) ?_;repeat first|refine aE ?_|intro
 refine iO (λM=>yK M a) ?_;rw[ha];rintro e H' ⟨rfl,rfl⟩;repeat first|refine aE ?_|intro
 exact Qv
theorem UG(a:bJ)(ha:a.may=true):aK prog E 255 #[.agg (⟨2,mW,a,zR,0⟩:pD).cs.toArray] [] λe H'=>e=.returned (.int .i64 0)∧H'=[]:=by
 have hin:decide ((1:Int)≤2∧(2:Int)≤4)=true:=sD;have hd:(!decide ((⟨2,⟨⟨0,0⟩,0,0,0,0,0,⟨0,0⟩⟩,⟨a.rep,a.seq⟩,⟨⟨0,0⟩,0,false⟩,0⟩:pD)=⟨2,⟨⟨0,0⟩,0,0,0,0,0,⟨0,0⟩⟩,⟨a.rep,a.seq⟩,⟨⟨0,0⟩,0,false⟩,0⟩))=false:=by simp
 refine t_ func255 ntmps255 ?_;repeat first|refine aE ?_|intro
 refine bW (λM=>dV M 2 1 4) ?_;rw[hin];rintro e H' ⟨rfl,rfl⟩;repeat first|refine aE ?_|intro
 refine bK (λM=>Wu M a ha) ?_;repeat first|refine aE ?_|intro
 exact B7
theorem yE(A:Option Addr)(nl cap n':Nat)(l:List UInt8)(a:bJ)(ha:a.may=true)(hr:Rd E aU A nl cap l)(hl:nl≤100)(hn:nl+3=n'):aK prog E 284 #[.slice A nl cap,.agg a.cs.toArray] [] (PW n' (l++be a.rep.toNat 1++be a.seq.toNat 2)):=by
 obtain⟨i0,i1,i2,i3⟩:=(bJ.bY a).1 ha;have w0:=eZ i0 o_;have w1:=eZ (n:=a.seq) o_ o_;have g0:a.rep.toNat<18446744073709551616:=o_;have g1:a.seq.toNat<18446744073709551616:=o_;have o1:1≤1∧1≤8:=o_;have o2:1≤2∧2≤8:=o_;have b0:nl≤140737488355300:=o_;have b1:nl+1≤140737488355300:=o_;have e3:nl+1+2=n':=o_;refine t_ func284 ntmps284 ?_;repeat first|refine aE ?_|intro
 refine rA (l_ [0,1,2,3,5,6,7] (g_ 4 (g_ 8 (n_ 9 .nil)))) ?_;repeat first|refine aE ?_|intro
 refine C2 (λM h1=>kY M A nl cap (nl+1) 1 l a.rep.toNat 1 rfl rfl o1 h1 g0 b0) ?_;rintro e H' ⟨A1,c1,rfl,hc1,rfl⟩;repeat first|refine aE ?_|intro
 refine cg rfl sD bA sK aC (λM hE=>kY M A1 (nl+1) c1 n' 2 _ a.seq.toNat 2 rfl e3 o2 dB g1 b1) ?_;rintro e H' ⟨A2,c2,rfl,hc2,rfl⟩;repeat first|refine aE ?_|intro
 exact jQ ⟨_,_,rfl,hc2,rfl⟩
theorem Yb(a:bJ)(ha:a.may=true):aK prog E 228 #[.agg (⟨2,mW,a,zR,0⟩:pD).cs.toArray] [] λe H'=>∃A' c',e=.returned (.tuple #[.slice A' 4 c',.int .i64 0])∧H'=[own aU A' 4 c' ([2]++be a.rep.toNat 1++be a.seq.toNat 2)]:=by
 have h2:UInt8.ofNat (((⟨2,mW,a,zR,0⟩:pD).kind % 256).toNat)=2:=rfl;refine t_ func228 ntmps228 ?_;repeat first|refine aE ?_|intro
 refine bK (λM=>UG M a ha) ?_;repeat first|refine aE ?_|intro
 rename_i g;rw[h2];refine dX (λM h1=>yE M (some ⟨g,0,none⟩) 1 1 4 [2] a ha h1 (by decide) rfl) ?_;rintro e H' ⟨A1,c1,rfl,hc1,rfl⟩;repeat first|refine aE ?_|intro
 exact Cz ⟨_,_,rfl,rfl⟩
end
theorem eL(E:Env)(gr g:Nat)(s s':Bool×List UInt8)(w:Nat)(v:Int)(hs:jV s w=s')(hv:rV (vl s w)=v)(A:Option Addr)(n c:Nat)(W:Int)(hW:W=w)(hw:1≤w∧w≤8)(hr:Rd E aU A n c s.2) :
  aK prog E 282 #[.int .i64 W,.pointer (some ⟨gr,0,none⟩)] [aJ gr 276 [.pointer (some ⟨g,0,none⟩)],pC g true s.1 A n c] (Sd gr g A n c s.2 s' (.int .i64 v)):=by
 subst hs hv;have hwid:wid W=(w:Int):=by unfold wid;rw[if_neg o_];exact hW
 have hlt:=jR s w;have hlt2:vl s w<18446744073709551616:=aDe hlt (aBw (aDx o_ hw.2) sD);have hc:=qZ hlt2;refine t_ func282 ntmps282 ?_;repeat first|refine aE ?_|intro
 refine dX (λM=>iG M g s.1 A n c s.2 W) ?_;obtain⟨o,ho⟩:∃o,nx s.1 s.2 (w:Int)=(o,jV s w):=⟨_,rfl⟩
 have htk:=Gl s w;rw[ho] at htk;rw[hwid,ho];rintro e H' ⟨A',n',c',rfl,hal,rfl⟩;dsimp only at htk hal⊢;rw[htk];repeat first|refine aE ?_|intro
 exact jQ ⟨_,_,_,rfl,hal,rfl⟩
def bP.may(k:bP):Bool:=k.id.may&&decide (1≤k.ord∧k.ord≤255)
theorem bP.bY(k:bP):k.may=true↔(0≤k.id.rep∧k.id.rep≤3∧1≤k.id.seq∧k.id.seq≤65535)∧1≤k.ord∧k.ord≤255:=by simp[bP.may,bJ.may]
abbrev R1(c:aX):pD:=⟨1,c,⟨0,0⟩,zR,0⟩
abbrev R2(a:bJ):pD:=⟨2,mW,a,zR,0⟩
abbrev R3(k:bP)(now:Int):pD:=⟨3,mW,⟨0,0⟩,k,now⟩
abbrev R4(k:bP):pD:=⟨4,mW,⟨0,0⟩,k,0⟩
def mZ(now:Int):Bool:=decide (0≤now∧now≤1073741824)
section
variable (E:Env)
theorem pI(k:bP):aK prog E 339 #[.agg k.cs.toArray] [] λe H'=>e=.returned (.bool k.may)∧H'=[]:=by
 refine t_ func339 ntmps339 ?_;unfold bP.may;repeat first|refine aE ?_|intro
 refine bK (λM=>yK M k.id) ?_;cases h1:k.id.may
 ·repeat first|refine aE ?_|intro
  exact B7
 ·repeat first|refine aE ?_|intro
  refine bK (λM=>dV M k.ord 1 255) ?_;repeat first|refine aE ?_|intro
  exact B7
abbrev rG(x:pD)(f:Bool)(e:Ending)(H':List aL):Prop:=e=.returned (.tuple #[.agg x.cs.toArray,.bool f])∧H'=[]
theorem IH(c:aX):aK prog E 300 #[.agg (R1 c).cs.toArray] [] (rG (R1 c) c.may):=by
 refine t_ func300 ntmps300 ?_;repeat first|refine aE ?_|intro
 rename_i g gres;refine rB (l_ [0,1,3,4] (g_ 2 (g_ 5 (n_ 6 (g_ 7 (n_ 8 .nil)))))) ([aJ g 202 (R1 c).cs]) ?_;repeat first|refine aE ?_|intro
 refine eJ (λM=>qM M c) ?_;repeat first|refine aE ?_|intro
 refine eJ (λM=>kF M c) ?_;cases hm:c.may
 ·rw[if_neg aAl];repeat first|refine aE ?_|intro
  exact Qv
 ·rw[if_pos rfl];repeat first|refine aE ?_|intro
  exact Qv
theorem Nl(a:bJ):aK prog E 300 #[.agg (R2 a).cs.toArray] [] (rG (R2 a) a.may):=by
 refine t_ func300 ntmps300 ?_;repeat first|refine aE ?_|intro
 rename_i g gres;refine rB (l_ [0,1,3,4] (g_ 2 (g_ 5 (g_ 6 (n_ 7 .nil))))) ([aJ g 202 (R2 a).cs]) ?_;repeat first|refine aE ?_|intro
 refine eJ (λM=>oS M a) ?_;repeat first|refine aE ?_|intro
 refine eJ (λM=>yK M a) ?_;repeat first|refine aE ?_|intro
 exact Qv
theorem Hn(k:bP)(now:Int):aK prog E 300 #[.agg (R3 k now).cs.toArray] [] (rG (R3 k now) (k.may&&mZ now)):=by
 refine t_ func300 ntmps300 ?_;repeat first|refine aE ?_|intro
 rename_i g gres;refine rB (l_ [0,1,2,3,5,6] (g_ 4 (g_ 7 (l_ [8,9,10] (g_ 11 (n_ 12 (g_ 13 (n_ 14 .nil)))))))) ([aJ g 202 (R3 k now).cs]) ?_;repeat first|refine aE ?_|intro
 refine eJ (λM=>Tk M k now) ?_;repeat first|refine aE ?_|intro
 refine eJ (λM=>pI M k) ?_;cases hm:k.may
 ·repeat first|refine aE ?_|intro
  exact Qv
 ·repeat first|refine aE ?_|intro
  refine eJ (λM=>dV M now 0 1073741824) ?_;repeat first|refine aE ?_|intro
  exact Qv
theorem Jd(k:bP):aK prog E 300 #[.agg (R4 k).cs.toArray] [] (rG (R4 k) k.may):=by
 refine t_ func300 ntmps300 ?_;repeat first|refine aE ?_|intro
 rename_i g gres;refine rB (l_ [0,1,3,4] (g_ 2 (g_ 5 (g_ 6 (n_ 7 .nil))))) ([aJ g 202 (R4 k).cs]) ?_;repeat first|refine aE ?_|intro
 refine eJ (λM=>NW M k) ?_;repeat first|refine aE ?_|intro
 refine eJ (λM=>pI M k) ?_;repeat first|refine aE ?_|intro
 exact Qv
end
theorem HF(x:pD)(f:Bool)(h14:1≤x.kind∧x.kind≤4)(hb:∀E,aK prog E 300 #[.agg x.cs.toArray] [] (rG x f))(E:Env):aK prog E 255 #[.agg x.cs.toArray] [] λe H'=>e=.returned (.int .i64 (if f then 0 else 4))∧H'=[]:=by
 have hd:(!decide ((⟨x.kind,⟨⟨x.c.id.rep,x.c.id.seq⟩,x.c.time,x.c.kind,x.c.a,x.c.b,x.c.n,⟨x.c.ref.rep,x.c.ref.seq⟩⟩,⟨x.id.rep,x.id.seq⟩,⟨⟨x.key.id.rep,x.key.id.seq⟩,x.key.ord,x.key.cD⟩,x.now⟩:pD)=⟨x.kind,⟨⟨x.c.id.rep,x.c.id.seq⟩,x.c.time,x.c.kind,x.c.a,x.c.b,x.c.n,⟨x.c.ref.rep,x.c.ref.seq⟩⟩,⟨x.id.rep,x.id.seq⟩,⟨⟨x.key.id.rep,x.key.id.seq⟩,x.key.ord,x.key.cD⟩,x.now⟩))=false:=by simp
 refine t_ func255 ntmps255 ?_;repeat first|refine aE ?_|intro
 refine bW (λM=>dV M x.kind 1 4) ?_;rw[decide_eq_true h14];rintro e H' ⟨rfl,rfl⟩;repeat first|refine aE ?_|intro
 refine bK hb ?_;cases f
 ·rw[if_neg aAl];repeat first|refine aE ?_|intro
  exact B7
 ·rw[if_pos rfl];repeat first|refine aE ?_|intro
  exact B7
theorem Mu(x:pD)(h14:¬(1≤x.kind∧x.kind≤4))(E:Env):aK prog E 255 #[.agg x.cs.toArray] [] λe H'=>e=.returned (.int .i64 12)∧H'=[]:=by
 refine t_ func255 ntmps255 ?_;repeat first|refine aE ?_|intro
 refine bW (λM=>dV M x.kind 1 4) ?_;rw[decide_eq_false h14];rintro e H' ⟨rfl,rfl⟩;repeat first|refine aE ?_|intro
 exact B7
theorem KR(x:pD)(k:Int)(hk:k≠0)(hc:∀E,aK prog E 255 #[.agg x.cs.toArray] [] λe H'=>e=.returned (.int .i64 k)∧H'=[])(E:Env):aK prog E 228 #[.agg x.cs.toArray] [] λe H'=>e=.returned (.tuple #[.slice none 0 0,.int .i64 k])∧H'=[]:=by
 refine t_ func228 ntmps228 ?_;repeat first|refine aE ?_|intro
 refine bK hc ?_;repeat first|refine aE ?_|intro
 exact Xs
def gQ(b:Bool):Int:=if b then 1 else 0
def kU(a:bJ):List UInt8:=be a.rep.toNat 1++be a.seq.toNat 2
def eR(k:bP):List UInt8:=kU k.id++[UInt8.ofNat k.ord.toNat,UInt8.ofNat (gQ k.cD).toNat]
theorem iZ(a:bJ):(kU a).length=3:=by simp[kU,aP]
theorem fO(k:bP):(eR k).length=5:=by simp[eR,iZ]
section
variable (E:Env)
theorem PG(c:aX)(hm:c.may=true):aK prog E 228 #[.agg (R1 c).cs.toArray] [] λe H'=>∃A' c',e=.returned (.tuple #[.slice A' 23 c',.int .i64 0])∧H'=[own aU A' 23 c' ([1]++c.put)]:=by
 have hc:=HF (R1 c) true ⟨show(1:Int)≤1 by decide,show(1:Int)≤4 by decide⟩ (λE=>by have:=IH E c;rwa [hm] at this);simp only[if_true] at hc;have h2:UInt8.ofNat (((R1 c).kind % 256).toNat)=1:=rfl;refine t_ func228 ntmps228 ?_;repeat first|refine aE ?_|intro
 refine bK hc ?_;repeat first|refine aE ?_|intro
 rw[h2];refine bW (λM=>Kq M c hm) ?_;rintro e H' ⟨A1,c1,rfl,rfl⟩;repeat first|refine aE ?_|intro
 rw[show 1+22=23 from rfl];exact Cz ⟨_,_,rfl,rfl⟩
theorem NS(a:bJ)(ha:a.may=true):aK prog E 228 #[.agg (R2 a).cs.toArray] [] λe H'=>∃A' c',e=.returned (.tuple #[.slice A' 4 c',.int .i64 0])∧H'=[own aU A' 4 c' ([2]++kU a)]:=by
 have h:=Yb E a ha;rw[show[2]++be a.rep.toNat 1++be a.seq.toNat 2=[2]++kU a by simp[kU]] at h;exact h
theorem Ph(k:bP)(hm:k.may=true):aK prog E 228 #[.agg (R4 k).cs.toArray] [] λe H'=>∃A' c',e=.returned (.tuple #[.slice A' 6 c',.int .i64 0])∧H'=[own aU A' 6 c' ([4]++eR k)]:=by
 have hc:=HF (R4 k) true ⟨show(1:Int)≤4 by decide,show(4:Int)≤4 by decide⟩ (λE=>by have:=Jd E k;rwa [hm] at this);simp only[if_true] at hc;obtain⟨⟨i0,i1,i2,i3⟩,q0,q1⟩:=(bP.bY k).1 hm;have hid:k.id.may=true:=(bJ.bY _).2 ⟨i0,i1,i2,i3⟩;have h2:UInt8.ofNat (((R4 k).kind % 256).toNat)=4:=rfl;have hfin:[4]++be k.id.rep.toNat 1++be k.id.seq.toNat 2++[UInt8.ofNat k.ord.toNat,UInt8.ofNat (gQ k.cD).toNat]=[4]++eR k:=by simp[eR,kU]
 have hw8:IntKind.u8.wrap (R4 k).key.ord=k.ord:=by
  show IntKind.u8.wrap k.ord=k.ord;exact IntWalk.u8_in _ o_
 have hu0:0≤gQ k.cD:=by unfold gQ;split<;>omega
 have hu1:gQ k.cD<256:=by unfold gQ;split<;>omega
 refine t_ func228 ntmps228 ?_;repeat first|refine aE ?_|refine Dr.two ?_ ?_|intro
 refine bK hc ?_;repeat ((fail_if_success (refine C.seq (x:=Code.region 11 _ _) ?_));first|refine Cx ?_|refine He ?_|intro _|refine Dr.two ?_ ?_)
 rename_i gb g;rw[h2];refine C.cut (X:=Unit) (λ_=>[(1,.pointer (some ⟨gb,0,none⟩)),(5,.slice (some ⟨g,0,none⟩) 1 1),(8,.int .u8 0)]) (λ_=>[aJ gb 202 (R4 k).cs,own aU (some ⟨g,0,none⟩) 1 1 [4]]) (λ_=>True) ?_ ?_
 ·repeat first|refine aE ?_|refine Dr.two ?_ ?_|intro
  exact⟨(),aD,aA,trivial⟩
 rintro - G -;refine C.cut (X:=Unit) (λ_=>[(1,.pointer (some ⟨gb,0,none⟩)),(5,.slice (some ⟨g,0,none⟩) 1 1),(8,.int .u8 (gQ k.cD))]) (λ_=>[aJ gb 202 (R4 k).cs,own aU (some ⟨g,0,none⟩) 1 1 [4]]) (λ_=>True) ?_ ?_
 ·cases hu:k.cD
  ·repeat first|refine aE ?_|refine Dr.two ?_ ?_|intro
   exact⟨(),aD,aA,trivial⟩
  ·repeat first|refine aE ?_|refine Dr.two ?_ ?_|intro
   exact⟨(),aD,aA,trivial⟩
 rintro - G -;generalize gQ k.cD=u at *;repeat first|refine aE ?_|refine Dr.two ?_ ?_|intro
 refine C.BI (X:=Option Addr×Nat) (λq=>[(1,.pointer (some ⟨gb,0,none⟩)),(5,.slice q.1 6 q.2)]) (λq=>[aJ gb 202 (R4 k).cs,own aU q.1 6 q.2 ([4]++eR k)]) (λ_=>True) ?_ ?_
 ·refine rB (l_ [0,1,2,3,5,6,7,8,9] (.two 4 (g_ 10 (g_ 11 (n_ 12 .nil))) 10 (g_ 4 (g_ 11 (n_ 12 .nil))))) ([aJ gb 202 (R4 k).cs]) ?_;repeat first|refine aE ?_|refine Dr.two ?_ ?_|intro
  ·refine yB rfl sD bA sK aC (λM hE=>yE M (some ⟨g,0,none⟩) 1 1 4 [4] k.id hid dB sD rfl) ?_;rintro e H' ⟨A1,c1,rfl,hc1,rfl⟩;repeat first|refine aE ?_|refine Dr.two ?_ ?_|intro
   rw[hfin,show 4+2=6 from rfl];exact⟨(_,_),aD,aA,trivial⟩
  ·repeat first|refine aE ?_|refine Dr.two ?_ ?_|intro
   refine C2 (λM h1=>yE M (some ⟨g,0,none⟩) 1 1 4 [4] k.id hid h1 (by decide) rfl) ?_;rintro e H' ⟨A1,c1,rfl,hc1,rfl⟩;repeat first|refine aE ?_|refine Dr.two ?_ ?_|intro
   rw[hfin,show 4+2=6 from rfl];exact⟨(_,_),aD,aA,trivial⟩
 rintro⟨A2,c2⟩ G -;dsimp only;repeat first|refine aE ?_|refine Dr.two ?_ ?_|intro
 exact Cz ⟨_,_,rfl,rfl⟩
theorem Ns(k:bP)(now:Int)(hm:k.may=true)(hn:mZ now=true):aK prog E 228 #[.agg (R3 k now).cs.toArray] [] λe H'=>∃A' c',e=.returned (.tuple #[.slice A' 10 c',.int .i64 0])∧H'=[own aU A' 10 c' ([3]++eR k++be now.toNat 4)]:=by
 have hc:=HF (R3 k now) true ⟨show(1:Int)≤3 by decide,show(3:Int)≤4 by decide⟩ (λE=>by have:=Hn E k now;rwa [hm,hn] at this);simp only[if_true] at hc;have hnn:0≤now∧now≤1073741824:=of_decide_eq_true hn;have wn:IntKind.u64.wrap (R3 k now).now=(now.toNat:Nat):=by
  show IntKind.u64.wrap now=(now.toNat:Nat);exact eZ hnn.1 o_
 have gn:now.toNat<18446744073709551616:=o_;have o4:1≤4∧4≤8:=o_;obtain⟨⟨i0,i1,i2,i3⟩,q0,q1⟩:=(bP.bY k).1 hm;have hid:k.id.may=true:=(bJ.bY _).2 ⟨i0,i1,i2,i3⟩;have h2:UInt8.ofNat (((R3 k now).kind % 256).toNat)=3:=rfl;have hfin:[3]++be k.id.rep.toNat 1++be k.id.seq.toNat 2++[UInt8.ofNat k.ord.toNat,UInt8.ofNat (gQ k.cD).toNat]=[3]++eR k:=by simp[eR,kU]
 have hw8:IntKind.u8.wrap (R3 k now).key.ord=k.ord:=by
  show IntKind.u8.wrap k.ord=k.ord;exact IntWalk.u8_in _ o_
 have hu0:0≤gQ k.cD:=by unfold gQ;split<;>omega
 have hu1:gQ k.cD<256:=by unfold gQ;split<;>omega
 refine t_ func228 ntmps228 ?_;repeat first|refine aE ?_|refine Dr.two ?_ ?_|intro
 refine bK hc ?_;repeat ((fail_if_success (refine C.seq (x:=Code.region 11 _ _) ?_));first|refine Cx ?_|refine He ?_|intro _|refine Dr.two ?_ ?_)
 rename_i gb g;rw[h2];refine C.cut (X:=Unit) (λ_=>[(1,.pointer (some ⟨gb,0,none⟩)),(5,.slice (some ⟨g,0,none⟩) 1 1),(8,.int .u8 0)]) (λ_=>[aJ gb 202 (R3 k now).cs,own aU (some ⟨g,0,none⟩) 1 1 [3]]) (λ_=>True) ?_ ?_
 ·repeat first|refine aE ?_|refine Dr.two ?_ ?_|intro
  exact⟨(),aD,aA,trivial⟩
 rintro - G -;refine C.cut (X:=Unit) (λ_=>[(1,.pointer (some ⟨gb,0,none⟩)),(5,.slice (some ⟨g,0,none⟩) 1 1),(8,.int .u8 (gQ k.cD))]) (λ_=>[aJ gb 202 (R3 k now).cs,own aU (some ⟨g,0,none⟩) 1 1 [3]]) (λ_=>True) ?_ ?_
 ·cases hu:k.cD
  ·repeat first|refine aE ?_|refine Dr.two ?_ ?_|intro
   exact⟨(),aD,aA,trivial⟩
  ·repeat first|refine aE ?_|refine Dr.two ?_ ?_|intro
   exact⟨(),aD,aA,trivial⟩
 rintro - G -;generalize gQ k.cD=u at *;repeat first|refine aE ?_|refine Dr.two ?_ ?_|intro
 refine C.BI (X:=Option Addr×Nat) (λq=>[(1,.pointer (some ⟨gb,0,none⟩)),(5,.slice q.1 6 q.2)]) (λq=>[aJ gb 202 (R3 k now).cs,own aU q.1 6 q.2 ([3]++eR k)]) (λ_=>True) ?_ ?_
 ·refine rB (l_ [0,1,2,3,5,6,7,8,9] (.two 4 (g_ 10 (g_ 11 (n_ 12 .nil))) 10 (g_ 4 (g_ 11 (n_ 12 .nil))))) ([aJ gb 202 (R3 k now).cs]) ?_;repeat first|refine aE ?_|refine Dr.two ?_ ?_|intro
  ·refine yB rfl sD bA sK aC (λM hE=>yE M (some ⟨g,0,none⟩) 1 1 4 [3] k.id hid dB sD rfl) ?_;rintro e H' ⟨A1,c1,rfl,hc1,rfl⟩;repeat first|refine aE ?_|refine Dr.two ?_ ?_|intro
   rw[hfin,show 4+2=6 from rfl];exact⟨(_,_),aD,aA,trivial⟩
  ·repeat first|refine aE ?_|refine Dr.two ?_ ?_|intro
   refine C2 (λM h1=>yE M (some ⟨g,0,none⟩) 1 1 4 [3] k.id hid h1 (by decide) rfl) ?_;rintro e H' ⟨A1,c1,rfl,hc1,rfl⟩;repeat first|refine aE ?_|refine Dr.two ?_ ?_|intro
   rw[hfin,show 4+2=6 from rfl];exact⟨(_,_),aD,aA,trivial⟩
 rintro⟨A2,c2⟩ G -;dsimp only;repeat first|refine aE ?_|refine Dr.two ?_ ?_|intro
 refine cl sD sK aC (λM hE=>kY M A2 6 c2 10 4 _ now.toNat 4 rfl rfl o4 dB gn sD) ?_;rintro e H' ⟨A3,c3,rfl,hc3,rfl⟩;repeat first|refine aE ?_|refine Dr.two ?_ ?_|intro
 exact Cz ⟨_,_,rfl,rfl⟩
end
def cQ.put(f:cQ):List UInt8:=be f.kind.toNat 1++(be f.a.toNat 1++(be (GF f.n) 8++(be f.ref.rep.toNat 1++be f.ref.seq.toNat 2)))
theorem cQ.bD(f:cQ):f.put.length=13:=by simp[cQ.put,aP]
theorem cQ.bR{f:cQ}(h:f.check=0):(1≤f.kind∧f.kind≤11)∧(0≤f.a∧f.a≤255)∧(0≤f.ref.rep∧f.ref.rep≤255)∧0≤f.ref.seq∧f.ref.seq≤65535:=by
 unfold cQ.check at h;split at h
 ·rename_i h1;split at h
  ·rename_i h2;exact⟨h1,h2⟩
  ·cases h
 ·cases h
theorem RW(f:cQ):(([UInt8.ofNat f.kind.toNat,UInt8.ofNat f.a.toNat]++be (GF f.n) 8)++[UInt8.ofNat f.ref.rep.toNat])++be f.ref.seq.toNat 2=f.put:=by
 simp[cQ.put,nC]
section
variable (E:Env) (f:cQ)
theorem XL(h:f.check=0):aK prog E 153 #[.agg f.cs.toArray] [] λr H'=>∃A' c',r=.returned (.tuple #[.slice A' 13 c',.int .i64 0])∧H'=[own aU A' 13 c' f.put]:=by
 obtain⟨⟨k0,k1⟩,⟨a0,a1⟩,⟨p0,p1⟩,s0,s1⟩:=cQ.bR h;have hu:=EV f.n;have w2:=G9 f.n;have w3:=eZ s0 o_;have g3:f.ref.seq.toNat<18446744073709551616:=o_;have o2:1≤2∧2≤8:=o_;have o8:1≤8∧8≤8:=o_;have hfin:=RW f;refine t_ func153 ntmps153 ?_;repeat first|refine aE ?_|intro
 refine bW (λM=>ES M f) ?_;rw[h];rintro r H' ⟨rfl,rfl⟩;repeat first|refine aE ?_|intro
 rename_i gb g;refine dX (λM h1=>kY M (some ⟨g,0,none⟩) 2 2 10 8 [UInt8.ofNat f.kind.toNat,UInt8.ofNat f.a.toNat] (GF f.n) 8 rfl rfl o8 h1 hu (by decide)) ?_;rintro r H' ⟨A1,c1',rfl,hc1,rfl⟩;repeat first|refine aE ?_|intro
 refine rB (l_ [0,1,2,3,4,7,8,9,10] (g_ 5 (g_ 6 (g_ 11 (l_ [12,13] .nil))))) ([aJ gb 77 f.cs]) ?_;repeat first|refine aE ?_|intro
 rename_i A2 c2 _ _;refine cg rfl sD bA sK aC (λM hE=>kY M A2 (10+1) c2 13 2 _ f.ref.seq.toNat 2 rfl rfl o2 dB g3 sD) ?_;rintro r H' ⟨A3,c3,rfl,hc3,rfl⟩;repeat first|refine aE ?_|intro
 rw[hfin];exact Cz ⟨_,_,rfl,rfl⟩
end
def bH.mJ(e:bH):Int:=(if e.cX then 1 else 0)+(if e.gone then 2 else 0)
theorem U3(E:Env)(e:bH):aK prog E 155 #[.agg e.cs.toArray] [] λr H'=>r=.returned (.int .i64 e.mJ)∧H'=[]:=by
 refine t_ func155 ntmps155 ?_;unfold bH.mJ;have b1:Go.bits .or .i64 0 1=1:=sD;have b2:Go.bits .or .i64 0 2=2:=sD;have b3:Go.bits .or .i64 1 2=3:=sD;cases ha:e.cX;all_goals
  cases hg:e.gone;all_goals
   repeat first|refine aE ?_|intro
   exact B7
abbrev fK:List Nat:=[1,1,8,1,2]
def sT(l:List UInt8):cQ:=⟨bX l 0 1,bX l 1 1,rV (bX l 2 8),⟨bX l 10 1,bX l 11 2⟩⟩
def WM(l:List UInt8):cQ:=⟨va fK l 0,va fK l 1,rV (va fK l 2),⟨va fK l 3,va fK l 4⟩⟩
theorem Lw{l:List UInt8}(h:13≤l.length):WM l=sT l:=by
 unfold WM sT;rw[dN (k:=0) (w:=1) rfl rfl sD o_,dN (k:=1) (w:=1) rfl rfl sD o_,dN (k:=2) (w:=8) rfl rfl sD o_,dN (k:=10) (w:=1) rfl rfl sD o_,dN (k:=11) (w:=2) rfl rfl sD o_]
def eY(l:List UInt8):Option cQ:=if (sT l).check=0 then some (sT l) else none
theorem iK(E:Env)(gr g:Nat)(s s':Bool×List UInt8)(w:Nat)(v:Nat)(hs:jV s w=s')(hv:vl s w=v)(A:Option Addr)(n c:Nat)(W:Int)(hW:W=w)(hw:1≤w∧w≤8)(hr:Rd E aU A n c s.2) :
  aK prog E 297 #[.int .i64 W,.pointer (some ⟨gr,0,none⟩)] [aJ gr 276 [.pointer (some ⟨g,0,none⟩)],pC g true s.1 A n c] (Sd gr g A n c s.2 s' (.int .u64 v)):=by
 subst hs hv;have hwid:wid W=(w:Int):=by unfold wid;rw[if_neg o_];exact hW
 have hlt:=jR s w;have hlt2:vl s w<18446744073709551616:=aDe hlt (aBw (aDx o_ hw.2) sD);have hc:=qZ hlt2;refine t_ func297 ntmps297 ?_;repeat first|refine aE ?_|intro
 refine dX (λM=>iG M g s.1 A n c s.2 W) ?_;obtain⟨o,ho⟩:∃o,nx s.1 s.2 (w:Int)=(o,jV s w):=⟨_,rfl⟩
 have htk:=Gl s w;rw[ho] at htk;rw[hwid,ho];rintro e H' ⟨A',n',c',rfl,hal,rfl⟩;dsimp only at htk hal⊢;rw[htk];repeat first|refine aE ?_|intro
 exact jQ ⟨_,_,_,rfl,hal,rfl⟩
theorem HO(E:Env)(A:Option Addr)(n c:Nat)(l:List UInt8)(r:Option cQ)(hx:eY l=r)(hr:Rd E aU A n c l)(hl:n=13) :
  aK prog E 250 #[.slice A n c] [] λe H'=>e=.returned (.tuple #[.agg (r.getD zW).cs.toArray,.int .i64 (if r.isSome then 0 else 16)])∧H'=[]:=by
 have hn:=hr.len;have hcap:=hr.cap;have o1:1≤1∧1≤8:=o_;have o2:1≤2∧2≤8:=o_;have o8:1≤8∧8≤8:=o_;have v0:=Ds fK l 0;have v1:=Ds fK l 1;have v2:=Ds fK l 2;have v3:=Ds fK l 3;have v4:=Ds fK l 4;have y0:va fK l 0<256:=v0;have y1:va fK l 1<256:=v1;have y3:va fK l 3<256:=v3;have y4:va fK l 4<65536:=v4;have hsg:=qZ (k:=va fK l 2) v2;have hrun:=Lw (l:=l) o_;have hst:st fK l 5=(false,l.drop 13):=yX (i:=5) sD (by simp;omega);have hd0:l.drop 13=[]:=aCn o_;rw[hd0] at hst;refine t_ func250 ntmps250 ?_;repeat first|refine aE ?_|intro
 refine dX (λM h1=>lD M A n c l h1 (by omega)) ?_;rintro e H' ⟨g,A0,c0,rfl,h5,h6,rfl⟩;refine gk bG ?_;unfold Bs;repeat first|refine aE ?_|intro
 rename_i gres gr;refine L.step sD (S.cW rfl eS rfl rfl func297 q_ rfl aC (λM hE=>iK M gr g (false,l) (st fK l 1) 1 (va fK l 0) rfl rfl A0 n c0 1 rfl o1 dB) ?_);rintro e H' ⟨A1,n1,c1,rfl,hal1,rfl⟩;repeat first|refine aE ?_|intro
 refine L.step sD (S.cW rfl eS rfl rfl func297 q_ rfl aC (λM hE=>iK M gr g (st fK l 1) (st fK l 2) 1 (va fK l 1) rfl rfl A1 n1 c1 1 rfl o1 (hal1 _ dB)) ?_);rintro e H' ⟨A2,n2,c2,rfl,hal2,rfl⟩;repeat first|refine aE ?_|intro
 refine L.step sD (S.cW rfl eS rfl rfl func297 q_ rfl aC (λM hE=>iK M gr g (st fK l 2) (st fK l 3) 8 (va fK l 2) rfl rfl A2 n2 c2 8 rfl o8 (hal2 _ (hal1 _ dB))) ?_);rintro e H' ⟨A3,n3,c3,rfl,hal3,rfl⟩;repeat first|refine aE ?_|intro
 refine L.step sD (S.cW rfl eS rfl rfl func297 q_ rfl aC (λM hE=>iK M gr g (st fK l 3) (st fK l 4) 1 (va fK l 3) rfl rfl A3 n3 c3 1 rfl o1 (hal3 _ (hal2 _ (hal1 _ dB)))) ?_);rintro e H' ⟨A4,n4,c4,rfl,hal4,rfl⟩;repeat first|refine aE ?_|intro
 refine L.step sD (S.cW rfl eS rfl rfl func297 q_ rfl aC (λM hE=>iK M gr g (st fK l 4) (st fK l 5) 2 (va fK l 4) rfl rfl A4 n4 c4 2 rfl o2 (hal4 _ (hal3 _ (hal2 _ (hal1 _ dB))))) ?_);rintro e H' ⟨A5,n5,c5,rfl,hal5,rfl⟩;repeat first|refine aE ?_|intro
 rw[hst] at hal5⊢;dsimp only at hal5⊢;refine cl sD sK aC (λM hE=>xV M g false A5 n5 c5 [] (hal5 _ (hal4 _ (hal3 _ (hal2 _ (hal1 _ dB)))))) ?_;rintro e H' ⟨rfl,rfl⟩;repeat first|refine aE ?_|intro
 refine bW (λM=>ES M (WM l)) ?_;rw[hrun];rintro e H' ⟨rfl,rfl⟩;refine gk bG ?_;unfold eY at hx;by_cases hc:(sT l).check=0
 ·rw[if_pos hc] at hx;subst hx;rw[hc,←hrun];repeat first|refine aE ?_|intro
  exact Qv
 ·rw[if_neg hc] at hx;subst hx;repeat first|refine aE ?_|intro
  exact Qv
end Go.Proofs.YtmilalkjbojciaaGreat.Sep
namespace Go.Proofs.YtmilalkjbojciaaGreat.Sep
open Oct
def fR(l:List aX):List UInt8:=(l.map aX.put).flatten
theorem jY(l:List aX):(fR l).length=22*l.length:=by
 induction l with
 |nil=>rfl
 |cons c l ih =>
  have:fR (c::l)=c.put++fR l:=rfl;rw[this,aAe,c.bD,ih,aAs];omega
theorem tL(c:aX)(l:List aX):fR (c::l)=c.put++fR l:=rfl
theorem Gj(l:List aX)(c:aX):fR (l++[c])=fR l++c.put:=by simp[fR]
def dP(l:List aX):List UInt8:=UInt8.ofNat l.length::fR l
def pieces:Nat→List UInt8→Option (List aX)
 |0,_=>some []
 |k+1,t=>match tT (t.take 22),pieces k (t.drop 22) with
  |some c,some l=>some (c::l)
  |_,_=>none
def aJs:List UInt8→Option (List aX)
 | []=>none
 |h::t=>if h.toNat≤48∧t.length=22*h.toNat then pieces h.toNat t else none
theorem tC{k:Nat}{t:List UInt8}{l:List aX}(h:pieces k t=some l)(ht:t.length=22*k):l.length=k∧fR l=t∧l.all aX.may=true∧∀c∈l,c.ok:=by
 induction k generalizing t l with
 |zero =>
  injection h with h
  subst h;exact⟨rfl,(aBi o_).symm,rfl,λ_ hc=>by cases hc⟩
 |succ k ih =>
  unfold pieces at h;split at h
  ·rename_i c l' hc hl;injection h with h
   subst h;obtain⟨h1,h2,h3,h4⟩:=ih hl (by simp;omega);obtain⟨_,hm,hp,hok⟩:=Du hc;refine⟨by simp[h1],?_,by simp[hm];simpa using h3,λx hx=>?_⟩
   ·rw[tL,hp,h2,aAx]
   ·rcases aEj.1 hx with rfl|hx
    ·exact hok
    ·exact h4 x hx
  ·cases h
theorem DH{l:List aX}(hm:l.all aX.may=true)(hn:∀c∈l,dQ c.n):pieces l.length (fR l)=some l:=by
 induction l with
 |nil=>rfl
 |cons c l ih =>
  simp at hm;rw[aAs,pieces,tL,aBj c.bD,aBu c.bD,CJ hm.1 (hn c (by simp)),ih (by simpa using hm.2) λx hx=>hn x (by simp[hx])]
theorem aGz{l:List aX}(h48:l.length≤48)(hm:l.all aX.may=true)(hn:∀c∈l,dQ c.n):aJs (dP l)=some l:=by
 have e:(UInt8.ofNat l.length).toNat=l.length:=by simp;omega
 show(if (UInt8.ofNat l.length).toNat≤48∧(fR l).length=22*(UInt8.ofNat l.length).toNat then pieces (UInt8.ofNat l.length).toNat (fR l) else none)=some l;rw[e,if_pos ⟨h48,jY l⟩];exact DH hm hn
theorem lZ(l:List aX):(dP l).length=1+22*l.length:=by unfold dP;rw[aAs,jY];omega
end Go.Proofs.YtmilalkjbojciaaGreat.Sep
namespace Go.Proofs.YtmilalkjbojciaaGreat.Sep
open Go.RowKit Reg
open Mem hiding Rd
def bH.b3(e:bH):Bool:=decide (0≤e.back∧e.back≤8)&&(e.Ab||decide (e.back=0))
def bH.b4(e:bH):Bool:=decide (0≤e.last∧e.last≤1073741824)&&(decide (0≤e.cJ∧e.cJ≤1073741824)&&(decide (0<e.back)||decide (e.cJ=0)))
def bH.may(e:bH):Bool:=decide (1≤e.ord∧e.ord≤255)&&(decide (e.bC.check=0)&&(decide (1≤e.aW∧e.aW≤8)&&(e.b3&&e.b4)))
section
variable (E:Env) (e:bH)
theorem Jk:aK prog E 152 #[.agg e.cs.toArray] [] λr H'=>r=.returned (.bool e.may)∧H'=[]:=by
 refine t_ func152 ntmps152 ?_;unfold bH.may;repeat ((fail_if_success (refine C.seq (x:=Code.region 1 _ _) ?_));first|refine Cx ?_|refine He ?_|intro _|refine Dr.two ?_ ?_)
 rename_i g;refine C.cut (X:=Unit) (λ_=>[(1,.pointer (some ⟨g,0,none⟩)),(3,.bool e.b3)]) (λ_=>[aJ g 92 e.cs]) (λ_=>True) ?_ ?_
 ·unfold bH.b3;repeat first|refine aE ?_|intro
  refine bK (λM=>dV M e.back 0 8) ?_;cases h1:decide (0≤e.back∧e.back≤8)
  ·repeat first|refine aE ?_|intro
   exact⟨(),aD,aA,trivial⟩
  ·repeat first|refine aE ?_|intro
   refine bK (λM=>Gw M e) ?_;cases h2:e.Ab
   ·repeat first|refine aE ?_|intro
    exact⟨(),aD,aA,trivial⟩
   ·repeat first|refine aE ?_|intro
    exact⟨(),aD,aA,trivial⟩
 rintro - G -;refine C.cut (X:=Unit) (λ_=>[(1,.pointer (some ⟨g,0,none⟩)),(3,.bool e.b3),(4,.bool e.b4)]) (λ_=>[aJ g 92 e.cs]) (λ_=>True) ?_ ?_
 ·unfold bH.b4;repeat first|refine aE ?_|intro
  refine bK (λM=>dV M e.last 0 1073741824) ?_;cases h1:decide (0≤e.last∧e.last≤1073741824)
  ·repeat first|refine aE ?_|intro
   exact⟨(),aD,aA,trivial⟩
  ·repeat first|refine aE ?_|intro
   refine bK (λM=>dV M e.cJ 0 1073741824) ?_;cases h2:decide (0≤e.cJ∧e.cJ≤1073741824)
   ·repeat first|refine aE ?_|intro
    exact⟨(),aD,aA,trivial⟩
   ·by_cases h3:0<e.back
    ·rw[decide_eq_true h3];repeat first|refine aE ?_|intro
     exact⟨(),aD,aA,trivial⟩
    ·rw[decide_eq_false h3];repeat first|refine aE ?_|intro
     exact⟨(),aD,aA,trivial⟩
 rintro - G -;repeat first|refine aE ?_|intro
 refine bK (λM=>dV M e.ord 1 255) ?_;cases h1:decide (1≤e.ord∧e.ord≤255)
 ·repeat first|refine aE ?_|intro
  exact B7
 repeat first|refine aE ?_|intro
 refine bK (λM=>ES M e.bC) ?_;generalize e.bC.check=k;by_cases h2:k=0
 case neg =>
  rw[decide_eq_false h2];repeat first|refine aE ?_|intro
  exact B7
 rw[decide_eq_true h2];repeat first|refine aE ?_|intro
 refine bK (λM=>dV M e.aW 1 8) ?_;cases h3:decide (1≤e.aW∧e.aW≤8)
 ·repeat first|refine aE ?_|intro
  exact B7
 cases h4:e.b3
 ·repeat first|refine aE ?_|intro
  exact B7
 ·repeat first|refine aE ?_|intro
  exact B7
theorem bH.bY:e.may=true↔(1≤e.ord∧e.ord≤255)∧e.bC.check=0∧(1≤e.aW∧e.aW≤8)∧((0≤e.back∧e.back≤8)∧(e.Ab=true∨e.back=0))∧(0≤e.last∧e.last≤1073741824)∧(0≤e.cJ∧e.cJ≤1073741824)∧(0<e.back∨e.cJ=0):=by
 simp[bH.may,bH.b3,bH.b4,and_assoc]
end
end Go.Proofs.YtmilalkjbojciaaGreat.Sep
namespace Go.Proofs.YtmilalkjbojciaaGreat.Frm
open Oct
def fr(b:List UInt8):List UInt8:=be b.length 2++b++be (Crc.sum b) 4++[90]
theorem bO(b:List UInt8):(fr b).length=b.length+7:=by simp[fr,aP];omega
def size(l:List UInt8):Nat:=get (l.take 2)
def ok(l:List UInt8):Prop:=2≤l.length∧1≤size l∧size l≤4096∧size l+7≤l.length∧l[size l+6]?=some 90∧get ((l.drop (size l+2)).take 4)=Crc.sum ((l.drop 2).take (size l))
instance (l:List UInt8):Decidable (ok l):=by unfold ok;exact inferInstance
def kG(l:List UInt8):Option (List UInt8×Nat):=if ok l then some ((l.drop 2).take (size l),size l+7) else none
theorem lW{l x:List UInt8}{k:Nat}(h:kG l=some (x,k)):8≤k∧k≤l.length∧x.length+7=k:=by
 unfold kG at h;split at h
 ·rename_i ho;injection h with h;injection h with h1 h2
  subst h1 h2;obtain⟨h1,h2,h3,h4,_⟩:=ho;simp;omega
 ·cases h
theorem Hf{l:List UInt8}(h2:2≤l.length)(_h1:1≤size l)(h3:size l+7≤l.length):(l[size l+6]?=some 90∧get ((l.drop (size l+2)).take 4)=Crc.sum ((l.drop 2).take (size l)))↔fr ((l.drop 2).take (size l))=l.take (size l+7):=by
 have hlen:((l.drop 2).take (size l)).length=size l:=by simp;omega
 have e1:l.take (size l+7)=l.take 2++(l.drop 2).take (size l)++(l.drop (size l+2)).take 4++(l.drop (size l+6)).take 1:=by
  rw[show size l+7=2+size l+4+1 by omega,aDd,aDd,aDd,show 2+size l+4=size l+6 by omega,show 2+size l=size l+2 by omega]
 have e2:be (size l) 2=l.take 2:=by
  have:=Ec (l.take 2);rw[aAg,aBr h2] at this;exact this
 have hl4:((l.drop (size l+2)).take 4).length=4:=by simp;omega
 have lJ:(l.drop (size l+6)).take 1=[90]↔l[size l+6]?=some 90:=by
  rw[aAm o_,aAa o_,aEl,aCg];constructor
  ·intro h;injection h with h _;rw[h]
  ·intro h;injection h with h;rw[h]
 have hfour:be (Crc.sum ((l.drop 2).take (size l))) 4=(l.drop (size l+2)).take 4↔get ((l.drop (size l+2)).take 4)=Crc.sum ((l.drop 2).take (size l)):=by
  constructor
  ·intro h;rw[←h,FD,aEc];exact Crc.EW _
  ·intro h;rw[←h];have:=Ec ((l.drop (size l+2)).take 4);rw[hl4] at this;exact this
 unfold fr;rw[e1,hlen,e2,←lJ,←hfour];constructor
 ·rintro⟨h5,h6⟩;rw[h5,h6]
 ·intro h;have h7:=List.append_inj' h (by rw[aAg];simp;omega);have h8:=List.append_inj' h7.1 (by rw[aP,hl4]);exact⟨h7.2.symm,h8.2⟩
theorem Jq{b t:List UInt8}(h:b.length≤4096):size (fr b++t)=b.length:=by
 unfold size fr;rw[aAb,aAb,aAb,aBj (aP _ _),FD,aEc o_]
theorem yY{b t:List UInt8}(h1:1≤b.length)(h:b.length≤4096):kG (fr b++t)=some (b,b.length+7):=by
 have hs:=Jq (t:=t) h;have hl:(fr b++t).length=b.length+7+t.length:=by rw[aAe,bO]
 have e:((fr b++t).drop 2).take (size (fr b++t))=b:=by
  rw[hs];unfold fr;rw[aAb,aAb,aAb,aBu (aP _ _),aBj rfl]
 have hok:ok (fr b++t):=by
  have h2:2≤(fr b++t).length:=o_;have h3:1≤size (fr b++t):=o_;have h4:size (fr b++t)+7≤(fr b++t).length:=o_;refine⟨h2,h3,by omega,h4,(Hf h2 h3 h4).2 ?_⟩;rw[e,hs,aBj (bO b)]
 unfold kG;rw[if_pos hok,e,hs]
def scan:Nat→List UInt8→List (List UInt8)×Nat
 |0,_=>([],0)
 |k+1,l=>match kG l with
  |none=>([],0)
  |some (x,n)=>(x::(scan k (l.drop n)).1,n+(scan k (l.drop n)).2)
theorem uM{k:Nat}{l:List UInt8}(h:kG l=none):scan k l=([],0):=by
 cases k with
 |zero=>rfl
 |succ k=>simp[scan,h]
theorem AG{k:Nat}{l x:List UInt8}{n:Nat}(h:kG l=some (x,n)):scan (k+1) l=(x::(scan k (l.drop n)).1,n+(scan k (l.drop n)).2):=by simp[scan,h]
theorem Lo{k m:Nat}{l:List UInt8}(hk:l.length≤k)(hm:l.length≤m):scan k l=scan m l:=by
 induction k generalizing l m with
 |zero =>
  have h0:l=[]:=aBi o_;subst h0;rw[uM (k:=m) rfl];rfl
 |succ k ih =>
  cases hq:kG l with
  |none=>rw[uM hq,uM hq]
  |some r =>
   obtain⟨x,n⟩:=r;have hb:=lW hq;cases m with
   |zero=>omega
   |succ m =>
    have:=ih (l:=l.drop n) (m:=m) (by simp;omega) (by simp;omega);rw[AG hq,AG hq,this]
def cZ(l:List UInt8):List (List UInt8):=(scan l.length l).1
def upto(l:List UInt8):Nat:=(scan l.length l).2
theorem gR{l:List UInt8}(h:kG l=none):cZ l=[]∧upto l=0:=by unfold cZ upto;rw[uM h];exact⟨rfl,rfl⟩
theorem kM{l x:List UInt8}{n:Nat}(h:kG l=some (x,n)):cZ l=x::cZ (l.drop n)∧upto l=n+upto (l.drop n):=by
 have hb:=lW h;unfold cZ upto;have e:scan l.length l=(x::(scan (l.length - 1) (l.drop n)).1,n+(scan (l.length - 1) (l.drop n)).2):=by
  rw[show l.length=(l.length - 1)+1 by omega];exact AG h
 have e2:scan (l.length - 1) (l.drop n)=scan (l.drop n).length (l.drop n):=Lo (by simp;omega) (aAf _);rw[e,e2];exact⟨rfl,rfl⟩
theorem yG(l:List UInt8):8*(cZ l).length≤l.length:=by
 have key:∀(k:Nat) (l:List UInt8),l.length≤k→8*(cZ l).length≤l.length:=by
  intro k
  induction k with
  |zero =>
   intro l hl;have h0:l=[]:=aBi o_;subst h0;rw[(gR (l:=[]) rfl).1];simp
  |succ k ih =>
   intro l hl;cases hq:kG l with
   |none=>rw[(gR hq).1];simp
   |some r =>
    obtain⟨x,n⟩:=r;have hb:=lW hq;have:=ih (l.drop n) (by simp;omega);rw[(kM hq).1,aAs];simp at this;omega
 exact key _ l (aAf _)
theorem Cp{b:List UInt8}(h:b.length≤4096){k z:Nat}(hk:k<b.length+7):kG ((fr b).take k++List.replicate z 0)=none:=by
 unfold kG;refine if_neg ?_;rintro⟨h2,h1,h3,h4,h5,_⟩;have hl:((fr b).take k).length=k:=by rw[aAg,bO];omega
 have hge:k≤size ((fr b).take k++List.replicate z 0)+6:=by
  by_cases hk2:2≤k
  ·have e:size ((fr b).take k++List.replicate z 0)=b.length:=by
    have h6:=Jq (t:=[]) h;unfold size at h6⊢;rw[aAc] at h6;rw[aCw o_,aEn,aBr hk2,h6]
   omega
  ·omega
 rw[aBc o_,aDc] at h5;split at h5
 ·cases h5
 ·cases h5
theorem I8(ls:List (List UInt8))(hls:∀x∈ls,1≤x.length∧x.length≤4096)(cut z:Nat)(hc:cut≤(ls.map fr).flatten.length) :
  ∃k,k≤ls.length∧cZ ((ls.map fr).flatten.take cut++List.replicate z 0)=ls.take k∧((ls.take k).map fr).flatten.length≤cut∧(k<ls.length→cut<((ls.take (k+1)).map fr).flatten.length):=by
 induction ls generalizing cut with
 |nil =>
  refine⟨0,aAf _,?_,by simp,λh=>absurd h (by simp)⟩;have h0:kG (List.replicate z 0)=none:=by
   have:=Cp (b:=[]) (k:=0) (z:=z) (by simp) (by simp);simpa using this
  simpa using(gR h0).1
 |cons x ls ih =>
  have hx:=hls x (by simp);simp only[aCi,aFs,aAe,bO] at hc⊢;by_cases hk:cut<x.length+7
  ·refine⟨0,aAh _,?_,by simp,λ_=>by simp[bO];omega⟩;rw[aCw (by rw[bO];omega),(gR (Cp hx.2 hk)).1];rfl
  ·obtain⟨k,h1,h2,h3,h4⟩:=ih (λy hy=>hls y (by simp[hy])) (cut - (x.length+7)) o_;have e:(fr x++(ls.map fr).flatten).take cut=fr x++((ls.map fr).flatten).take (cut - (x.length+7)):=by
    rw[aEt,aAj (by rw[bO];omega),bO]
   refine⟨k+1,by simp;omega,?_,?_,λh=>?_⟩
   ·rw[e,aAb];have hg:=yY (b:=x) (t:=((ls.map fr).flatten).take (cut - (x.length+7))++List.replicate z 0) hx.1 hx.2;rw[(kM hg).1,aBu (bO x),h2];rfl
   ·simp only[aEl,aCi,aFs,aAe,bO];omega
   ·have:=h4 (by simpa using h);rw[aEl,aCi,aFs,aAe,bO];omega
end Go.Proofs.YtmilalkjbojciaaGreat.Frm
namespace Go.Proofs.YtmilalkjbojciaaGreat.Sep
open Go.RowKit Reg Oct
open Mem hiding Rd
def bH.put(e:bH):List UInt8:=be e.ord.toNat 1++(e.bC.put++(be e.aW.toNat 1++(be e.last.toNat 4++(be e.back.toNat 1++(be e.cJ.toNat 4++[UInt8.ofNat e.mJ.toNat,69,69])))))
theorem bH.bD(e:bH):e.put.length=27:=by simp[bH.put,aP,cQ.bD]
theorem Re(e:bH):(((((([UInt8.ofNat e.ord.toNat]++e.bC.put)++[UInt8.ofNat e.aW.toNat])++be e.last.toNat 4)++[UInt8.ofNat e.back.toNat])++be e.cJ.toNat 4)++[UInt8.ofNat e.mJ.toNat,UInt8.ofNat (Int.toNat 69),UInt8.ofNat (Int.toNat 69)])=e.put:=by
 rw[show UInt8.ofNat (Int.toNat 69)=69 from rfl];simp[bH.put,nC]
section
variable (E:Env) (e:bH)
theorem Jx(hm:e.may=false):aK prog E 91 #[.agg e.cs.toArray] [] λr H'=>r=.returned (.slice none 0 0)∧H'=[]:=by
 refine t_ func91 ntmps91 ?_;repeat first|refine aE ?_|intro
 refine bW (λM=>Jk M e) ?_;rw[hm];rintro r H' ⟨rfl,rfl⟩;repeat first|refine aE ?_|intro
 exact B7
theorem J2(hm:e.may=true):aK prog E 91 #[.agg e.cs.toArray] [] λr H'=>∃A' c',r=.returned (.slice A' 27 c')∧H'=[own aU A' 27 c' e.put]:=by
 obtain⟨⟨o0,o1⟩,hw,⟨s0,s1⟩,⟨⟨b0,b1⟩,_⟩,⟨l0,l1⟩,⟨k0,k1⟩,_⟩:=(bH.bY e).1 hm;have w1:=eZ l0 o_;have w2:=eZ k0 o_;have g1:e.last.toNat<18446744073709551616:=o_;have g2:e.cJ.toNat<18446744073709551616:=o_;have o4:1≤4∧4≤8:=o_;have hfin:=Re e;have f0:0≤e.mJ:=by unfold bH.mJ;split<;>split<;>omega
 have f1:e.mJ<256:=by unfold bH.mJ;split<;>split<;>omega
 refine t_ func91 ntmps91 ?_;repeat first|refine aE ?_|intro
 refine bW (λM=>Jk M e) ?_;rw[hm];rintro r H' ⟨rfl,rfl⟩;repeat first|refine aE ?_|intro
 refine bW (λM=>XL M e.bC hw) ?_;rintro r H' ⟨A1,c1,rfl,rfl⟩;repeat first|refine aE ?_|intro
 rename_i gb _ A2 c2 _ _;refine rB (l_ [0,1,2,3,6,7,8] (g_ 4 (g_ 5 (g_ 9 (n_ 10 .nil))))) ([aJ gb 92 e.cs]) ?_;repeat first|refine aE ?_|intro
 rename_i A3 c3 _ _;refine cg rfl sD bA sK aC (λM hE=>kY M A3 (1+13+1) c3 19 4 _ e.last.toNat 4 rfl rfl o4 dB g1 sD) ?_;rintro r H' ⟨A4,c4,rfl,hc4,rfl⟩;repeat first|refine aE ?_|intro
 refine rB (l_ [0,1,2,3,6,7,8] (g_ 4 (g_ 5 (g_ 9 (n_ 10 .nil))))) ([aJ gb 92 e.cs]) ?_;repeat first|refine aE ?_|intro
 rename_i A5 c5 _ _;refine cg rfl sD bA sK aC (λM hE=>kY M A5 (19+1) c5 24 4 _ e.cJ.toNat 4 rfl rfl o4 dB g2 sD) ?_;rintro r H' ⟨A6,c6,rfl,hc6,rfl⟩;repeat first|refine aE ?_|intro
 refine bK (λM=>U3 M e) ?_;repeat first|refine aE ?_|intro
 rw[hfin,show 24+3=27 from rfl];exact jQ ⟨_,_,rfl,rfl⟩
end
end Go.Proofs.YtmilalkjbojciaaGreat.Sep
namespace Go.Proofs.YtmilalkjbojciaaGreat.Sep
open Go.RowKit Oct Dly
theorem FX(l:List UInt8):(sT l).ok:=by
 have a0:=eM l 0 1;have a1:=eM l 1 1;have a2:=Ii (k:=bX l 2 8) (eM l 2 8);have a3:=eM l 10 1;have a4:=eM l 11 2;refine⟨?_,?_,a2,?_,?_⟩;all_goals (simp only[sT];unfold dQ;omega)
theorem DX{l:List UInt8}(h:l.length=13):(sT l).put=l:=by
 have u8:GF (rV (bX l 2 8))=bX l 2 8:=KB (eM l 2 8);have e1:l=(l.drop 0).take 1++((l.drop 1).take 1++((l.drop 2).take 8++((l.drop 10).take 1++l.drop 11))):=by
  have step:∀i w,l.drop i=(l.drop i).take w++l.drop (i+w):=λi w=>by rw[←aBt,aAx]
  have h0:=step 0 1;have h1:=step 1 1;have h2:=step 2 8;have h3:=step 10 1;rw[←h3,←h2,←h1,←h0,aCh]
 have e2:l.drop 11=(l.drop 11).take 2:=(aAj (by simp;omega)).symm;rw[e2] at e1;unfold cQ.put sT;dsimp only;rw[u8];simp only[aAu];rw[dY o_,dY o_,dY o_,dY o_,dY o_];exact e1.symm
theorem La{f:cQ}(hc:f.check=0)(hn:dQ f.n):sT f.put=f:=by
 obtain⟨⟨k0,k1⟩,⟨a0,a1⟩,⟨p0,p1⟩,s0,s1⟩:=cQ.bR hc;have hu:=EV f.n;have f0:bX f.put 0 1=f.kind.toNat:=dL (a:=[]) rfl o_;have f1:bX f.put 1 1=f.a.toNat:=by
  unfold cQ.put;exact dL (by simp[aP]) o_
 have f2:bX f.put 2 8=GF f.n:=by
  unfold cQ.put;rw[←aAb];exact dL (by simp[aP]) o_
 have f3:bX f.put 10 1=f.ref.rep.toNat:=by
  unfold cQ.put;rw[←aAb,←aAb];exact dL (by simp[aP]) o_
 have f4:bX f.put 11 2=f.ref.seq.toNat:=by
  unfold cQ.put;rw[←aAb,←aAb,←aAb];rw[←aAc (be f.ref.seq.toNat 2)];exact dL (by simp[aP]) o_
 unfold sT;rw[f0,f1,f2,f3,f4,Kj hn];rw[aBn o_,aBn a0,aBn p0,aBn s0]
theorem Cg{f:cQ}(hc:f.check=0)(hn:dQ f.n):eY f.put=some f:=by
 unfold eY;rw[La hc hn,if_pos hc]
theorem uE{l:List UInt8}{f:cQ}(h:eY l=some f):f=sT l∧f.check=0:=by
 unfold eY at h;split at h
 ·injection h with h;subst h;exact⟨rfl,by assumption⟩
 ·cases h
end Go.Proofs.YtmilalkjbojciaaGreat.Sep
namespace Go.Proofs.YtmilalkjbojciaaGreat.Sep
open Go.RowKit Oct
def fI:List Nat→List Nat→List UInt8
 |w::ws,v::vs=>be v w++fI ws vs
 |_,_=>[]
def Ay:List Nat→List UInt8→List Nat
 | [],_=>[]
 |w::ws,l=>Oct.get (l.take w)::Ay ws (l.drop w)
theorem yO(ws:List Nat)(l:List UInt8)(h:ws.sum≤l.length):fI ws (Ay ws l)=l.take ws.sum:=by
 induction ws generalizing l with
 |nil=>simp[fI]
 |cons w ws ih =>
  rw[List.sum_cons] at h;have hb:=Ec (l.take w);rw[show(l.take w).length=w by simp;omega] at hb;show be (Oct.get (l.take w)) w++fI ws (Ay ws (l.drop w))=_;rw[ih (l.drop w) (by simp;omega),hb,List.sum_cons,aDd]
def fit:List Nat→List Nat→Prop
 |w::ws,v::vs=>v<256 ^ w∧fit ws vs
 | [],[]=>True
 |_,_=>False
theorem Ca(ws vs:List Nat)(t:List UInt8)(h:fit ws vs):Ay ws (fI ws vs++t)=vs:=by
 induction ws generalizing vs with
 |nil =>
  cases vs with
  |nil=>rfl
  |cons _ _=>cases h
 |cons w ws ih =>
  cases vs with
  |nil=>cases h
  |cons v vs =>
   show Oct.get (((be v w++fI ws vs)++t).take w)::Ay ws (((be v w++fI ws vs)++t).drop w)=_;rw[aAb,aBj (aP _ _),aBu (aP _ _),FD,aEc h.1,ih vs h.2]
theorem Bx(ws vs:List Nat)(h:fit ws vs):(fI ws vs).length=ws.sum:=by
 induction ws generalizing vs with
 |nil =>
  cases vs with
  |nil=>rfl
  |cons _ _=>cases h
 |cons w ws ih =>
  cases vs with
  |nil=>cases h
  |cons v vs =>
   show(be v w++fI ws vs).length=_;rw[aAe,aP,ih vs h.2,List.sum_cons]
structure Mg where
 kind:Int
 fr:Int
 to:Int
 k0:Int
 k1:Int
 k2:Int
 k3:Int
 base:Int
 ids:List bJ
 iS:List aX
 key:bP
 bC:cQ
theorem Mg.eq_iff{x y:Mg}:x=y↔x.kind=y.kind∧x.fr=y.fr∧x.to=y.to∧x.k0=y.k0∧x.k1=y.k1∧x.k2=y.k2∧x.k3=y.k3∧x.base=y.base∧x.ids=y.ids∧x.iS=y.iS∧x.key=y.key∧x.bC=y.bC:=by
 cases x;cases y;simp
instance:DecidableEq Mg:=λ_ _=>decidable_of_iff _ Mg.eq_iff.symm
abbrev Mg.ks(m:Mg):List Int:=[m.k0,m.k1,m.k2,m.k3]
def xX:bP:=⟨⟨0,0⟩,0,false⟩
def rZ:cQ:=⟨0,0,0,⟨0,0⟩⟩
def wV(n:Int):Bool:=decide (0≤n∧n≤3)
def sq(n:Int):Bool:=decide (0≤n∧n≤65535)
def bs(n:Int):Bool:=decide (0≤n∧n≤48)
def Mg.nT(m:Mg):Bool:=if m.kind=3 then wV m.fr&&decide (m.to=9) else if m.kind=4 then decide (m.fr=9)&&wV m.to else wV m.fr&&wV m.to
def Mg.cV(m:Mg):Bool :=
 if m.kind=1 then(sq m.k0&&sq m.k1&&sq m.k2&&sq m.k3)&&bs m.base
 else if m.kind=2 then((decide (m.ids.length≤16)&&m.ids.all bJ.may)&&(decide (m.iS.length≤8)&&m.iS.all aX.may))&&bs m.base
 else if m.kind=3 then m.key.may&&decide (m.bC.check=0)
 else m.key.may
def Mg.bare(m:Mg):Mg :=
 if m.kind=1 then⟨m.kind,m.fr,m.to,m.k0,m.k1,m.k2,m.k3,m.base,[],[],xX,rZ⟩
 else if m.kind=2 then⟨m.kind,m.fr,m.to,0,0,0,0,m.base,m.ids,m.iS,xX,rZ⟩
 else if m.kind=3 then⟨m.kind,m.fr,m.to,0,0,0,0,0,[],[],m.key,m.bC⟩
 else if m.kind=4 then⟨m.kind,m.fr,m.to,0,0,0,0,0,[],[],m.key,rZ⟩
 else⟨m.kind,m.fr,m.to,0,0,0,0,0,[],[],xX,rZ⟩
def Mg.check(m:Mg):Int :=
 if 1≤m.kind∧m.kind≤4 then(if (m.nT&&m.cV)=true then(if m.bare=m then 0 else 16) else 4) else 12
theorem Mg.bR{m:Mg}(h:m.check=0):(1≤m.kind∧m.kind≤4)∧m.nT=true∧m.cV=true∧m.bare=m:=by
 unfold Mg.check at h;split at h
 ·rename_i h1;split at h
  ·rename_i h2;split at h
   ·rename_i h3;simp at h2;exact⟨h1,h2.1,h2.2,h3⟩
   ·cases h
  ·cases h
 ·cases h
def Mg.ok(m:Mg):Prop:=(∀c∈m.iS,dQ c.n)∧dQ m.bC.n
def jS(b:Bool):Nat:=if b then 1 else 0
abbrev kW:List Nat:=[1,2,1,1]
def kK(k:bP):List Nat:=[k.id.rep.toNat,k.id.seq.toNat,k.ord.toNat,jS k.cD]
def gM(a:bJ):List UInt8:=fI [1,2] [a.rep.toNat,a.seq.toNat]
def kH(l:List bJ):List UInt8:=(l.map gM).flatten
def Mg.body(m:Mg):List UInt8 :=
 fI [1,1,1] [m.kind.toNat,m.fr.toNat,m.to.toNat] ++
 (if m.kind=1 then fI [2,2,2,2,1] [m.k0.toNat,m.k1.toNat,m.k2.toNat,m.k3.toNat,m.base.toNat]
 else if m.kind=2 then fI [1,1] [m.base.toNat,m.ids.length]++(kH m.ids++dP m.iS)
 else if m.kind=3 then fI kW (kK m.key)++m.bC.put
 else fI kW (kK m.key))
def Mg.enc(m:Mg):List UInt8:=Frm.fr m.body
theorem xF(a:bJ):(gM a).length=3:=by simp[gM,fI,aP]
theorem jC(l:List bJ):(kH l).length=3*l.length:=by
 induction l with
 |nil=>rfl
 |cons c l ih =>
  have:kH (c::l)=gM c++kH l:=rfl;rw[this,aAe,xF,ih,aAs];omega
theorem DR(l:List bJ)(a:bJ):kH (l++[a])=kH l++gM a:=by simp[kH]
def vS(l:List UInt8)(i:Nat):bJ:=⟨(bX l i 1:Nat),(bX l (i+1) 2:Nat)⟩
def sR:Nat→Nat→List UInt8→List bJ
 |0,_,_=>[]
 |n+1,i,l=>sR n i l++[vS l (i+3*n)]
theorem yF(n i:Nat)(l:List UInt8):(sR n i l).length=n:=by
 induction n with
 |zero=>rfl
 |succ n ih=>rw[sR,aAe,ih];rfl
theorem Iy{l:List UInt8}{i:Nat}(h:i+3≤l.length):gM (vS l i)=(l.drop i).take 3:=by
 unfold gM vS;simp only[fI,aAu,aAc];rw[dY o_,dY o_,show(3:Nat)=1+2 from rfl,aDd,aBt]
theorem Hz(n i:Nat)(l:List UInt8)(h:i+3*n≤l.length):kH (sR n i l)=(l.drop i).take (3*n):=by
 induction n with
 |zero=>simp[sR,kH]
 |succ n ih =>
  rw[sR,DR,ih o_,Iy o_,show 3*(n+1)=3*n+3 by omega,aDd,aBt]
theorem jK{a b:List UInt8}{i w j:Nat}(h:a.length=j):bX (a++b) (j+i) w=bX b i w:=by
 unfold bX;rw[←h,aGj,aCn o_,aBq,show a.length+i - a.length=i by omega]
theorem I4{a:bJ}{x t:List UInt8}{i:Nat}(h:a.may=true)(hx:x.length=i):vS (x++(gM a++t)) i=a:=by
 rw[bJ.bY] at h;unfold vS;have h1:=jK (a:=x) (b:=gM a++t) (i:=0) (w:=1) hx;have h2:=jK (a:=x) (b:=gM a++t) (i:=1) (w:=2) hx;rw[aFb] at h1;rw[h1,h2];have e0:bX (gM a++t) 0 1=a.rep.toNat:=by
  have:=dL (a:=[]) (b:=be a.seq.toNat 2++t) (i:=0) (w:=1) (n:=a.rep.toNat) rfl o_;simpa [gM,fI,aAb] using this
 have e1:bX (gM a++t) 1 2=a.seq.toNat:=by
  have:=dL (a:=be a.rep.toNat 1) (b:=t) (i:=1) (w:=2) (n:=a.seq.toNat) (by simp[aP]) o_;simpa [gM,fI,aAb] using this
 rw[e0,e1];cases a;simp only[bJ.eq_iff];simp at h⊢;omega
theorem Hw(l:List bJ)(x t:List UInt8)(h:l.all bJ.may=true):sR l.length x.length (x++(kH l++t))=l:=by
 have key:∀k,k≤l.length→sR k x.length (x++(kH l++t))=l.take k:=by
  intro k
  induction k with
  |zero=>intro _;rfl
  |succ k ih =>
   intro hk;have hm:(l[k]'hk).may=true:=by
    rw[aDm] at h;exact h _ (aCs _)
   have q:∀(a b:List bJ) (z:bJ),kH (a++z::b)=kH a++(gM z++kH b):=λa b z=>by simp[kH]
   have hl:l.take k++l[k]::l.drop (k+1)=l:=by rw[←aAm hk,aAx]
   have e:=q (l.take k) (l.drop (k+1)) (l[k]'hk);rw[hl] at e;rw[sR,ih o_,aAn hk];congr 1;rw[show x++(kH l++t)=(x++kH (l.take k))++(gM (l[k]'hk)++(kH (l.drop (k+1))++t)) by rw[e];simp];rw[I4 hm (by rw[aAe,jC,aAg];omega)]
 rw[key l.length (aAf _),aAo]
def Al(l:List UInt8)(i:Nat):bP:=⟨⟨(bX l i 1:Nat),(bX l (i+1) 2:Nat)⟩,(bX l (i+3) 1:Nat),decide (((bX l (i+4) 1:Nat):Int)=1)⟩
def tF:List UInt8→Option (List aX)
 | []=>none
 |h::t=>if t.length=22*h.toNat then pieces h.toNat t else none
def mask(x:List UInt8):Option Mg :=
 if x.length=12 then some ⟨1,(bX x 1 1:Nat),(bX x 2 1:Nat),(bX x 3 2:Nat),(bX x 5 2:Nat),(bX x 7 2:Nat),(bX x 9 2:Nat),(bX x 11 1:Nat),[],[],xX,rZ⟩ else none
def GG(x:List UInt8):Option Mg :=
 if 5+3*bX x 4 1+1≤x.length then
  (tF (x.drop (5+3*bX x 4 1))).map λcs=>⟨2,(bX x 1 1:Nat),(bX x 2 1:Nat),0,0,0,0,(bX x 3 1:Nat),sR (bX x 4 1) 5 x,cs,xX,rZ⟩
 else none
def PI(x:List UInt8):Option Mg :=
 if x.length=21∧bX x 7 1≤1 then(eY (x.drop 8)).map λf=>⟨3,(bX x 1 1:Nat),(bX x 2 1:Nat),0,0,0,0,0,[],[],Al x 3,f⟩ else none
def OR(x:List UInt8):Option Mg :=
 if x.length=8∧bX x 7 1≤1 then some ⟨4,(bX x 1 1:Nat),(bX x 2 1:Nat),0,0,0,0,0,[],[],Al x 3,rZ⟩ else none
def B9(x:List UInt8):Option Mg :=
 if x.length<3 then none else if bX x 0 1=1 then mask x else if bX x 0 1=2 then GG x else if bX x 0 1=3 then PI x else if bX x 0 1=4 then OR x else none
def Iw(x:List UInt8):Option Mg:=match B9 x with
 |some m=>if m.check=0 then some m else none
 |none=>none
end Go.Proofs.YtmilalkjbojciaaGreat.Sep
