/- Part AQ: what it needs. No condition. -/
import Derived.Test.YtmilalkjbojciaaGreatOAA
import Derived.Test.YtmilalkjbojciaaGreatOAP
import Derived.Test.YtmilalkjbojciaaGreatOAO
import Derived.Test.YtmilalkjbojciaaGreatOAI
set_option maxRecDepth 100000
set_option maxHeartbeats 8000000
open Go.Proofs.Tryz
namespace Go.Proofs.YtmilalkjbojciaaGreat.Sep
open Go.RowKit Reg Oct
open Mem hiding Rd
def Sd(gr g:Nat)(A:Option Addr)(n c:Nat)(l:List UInt8)(s:Bool×List UInt8)(v:Value)(e:Ending)(H':List aL):Prop :=
 ∃A' n' c',e=.returned v∧nS A n c l A' n' c' s.2∧H'=[aJ gr 276 [.pointer (some ⟨g,0,none⟩)],pC g true s.1 A' n' c']
theorem Gl(s:Bool×List UInt8)(w:Nat):tk (nx s.1 s.2 w).1=.tuple #[.int .u64 (vl s w:Nat),.bool (Ly s w)]:=by
 unfold vl Ly;cases(nx s.1 s.2 w).1<;>rfl
theorem iH(E:Env)(gr g:Nat)(s s':Bool×List UInt8)(w:Nat)(v:Int)(hs:jV s w=s')(hv:rV (vl s w)=v)(A:Option Addr)(n c:Nat)(W:Int)(hW:W=w)(hw:1≤w∧w≤8)(hr:Rd E aU A n c s.2) :
  aK prog E 331 #[.int .i64 W,.pointer (some ⟨gr,0,none⟩)] [aJ gr 276 [.pointer (some ⟨g,0,none⟩)],pC g true s.1 A n c] (Sd gr g A n c s.2 s' (.int .i64 v)):=by
 subst hs hv;have hwid:wid W=(w:Int):=by unfold wid;rw[if_neg o_];exact hW
 have hlt:=jR s w;have hlt2:vl s w<18446744073709551616:=aDe hlt (aBw (aDx o_ hw.2) sD);have hc:=qZ hlt2;refine t_ func331 ntmps331 ?_;repeat first|refine aE ?_|intro
 refine dX (λ(E':Env)=>iG E' g s.1 A n c s.2 W) ?_;obtain⟨o,ho⟩:∃o,nx s.1 s.2 (w:Int)=(o,jV s w):=⟨_,rfl⟩
 have htk:=Gl s w;rw[ho] at htk;rw[hwid,ho];rintro e H' ⟨A',n',c',rfl,hal,rfl⟩;dsimp only at htk hal⊢;rw[htk];repeat first|refine aE ?_|intro
 exact jQ ⟨_,_,_,rfl,hal,rfl⟩
theorem xS(E:Env)(A:Option Addr)(n c:Nat)(l:List UInt8)(r:Option aX)(hx:tT l=r)(hr:Rd E aU A n c l)(hl:n≤140737488355300) :
  aK prog E 283 #[.slice A n c] [] λe H'=>e=.returned (.tuple #[.agg (r.getD dO).cs.toArray,.int .i64 (if r.isSome then 0 else 16)])∧H'=[]:=by
 have o1:1≤1∧1≤8:=by omega
 have o2:1≤2∧2≤8:=by omega
 have o4:1≤4∧4≤8:=by omega
 have o8:1≤8∧8≤8:=by omega
 have q0:rV (vl (false,l) 1)=(va dW l 0:Nat):=cN (aCl (jR _ 1) sD);have q1:rV (vl (st dW l 1) 2)=(va dW l 1:Nat):=cN (aCl (jR _ 2) sD);have q2:rV (vl (st dW l 2) 4)=(va dW l 2:Nat):=cN (aCl (jR _ 4) sD);have q3:rV (vl (st dW l 3) 1)=(va dW l 3:Nat):=cN (aCl (jR _ 1) sD);have q4:rV (vl (st dW l 4) 1)=(va dW l 4:Nat):=cN (aCl (jR _ 1) sD);have q5:rV (vl (st dW l 5) 1)=(va dW l 5:Nat):=cN (aCl (jR _ 1) sD);have q7:rV (vl (st dW l 7) 1)=(va dW l 7:Nat):=cN (aCl (jR _ 1) sD);have q8:rV (vl (st dW l 8) 2)=(va dW l 8:Nat):=cN (aCl (jR _ 2) sD);have q9:rV (vl (st dW l 9) 1)=(va dW l 9:Nat):=cN (aCl (jR _ 1) sD);have b6:=jR (st dW l 6) 8;have i6:dQ (rV (va dW l 6)):=Ii b6;unfold dQ at i6;have hcr:=N0 l;refine t_ func283 ntmps283 ?_;repeat first|refine aE ?_|intro
 refine dX (λ(E':Env) h1=>lD E' A n c l h1 (by omega)) ?_;rintro e H' ⟨g,A0,c0,rfl,h5,h6,rfl⟩;refine gk bG ?_;unfold Bs;repeat first|refine aE ?_|intro
 rename_i gres gr gc;refine L.step sD (S.cW rfl eS rfl rfl func331 q_ rfl aC (λE' hE=>iH E' gr g (false,l) (st dW l 1) 1 _ rfl q0 A0 n c0 1 rfl o1 dB) ?_);rintro e H' ⟨A1,n1,c1,rfl,hal1,rfl⟩;repeat first|refine aE ?_|intro
 refine L.step sD (S.cW rfl eS rfl rfl func331 q_ rfl aC (λE' hE=>iH E' gr g (st dW l 1) (st dW l 2) 2 _ rfl q1 A1 n1 c1 2 rfl o2 (hal1 _ dB)) ?_);rintro e H' ⟨A2,n2,c2,rfl,hal2,rfl⟩;repeat first|refine aE ?_|intro
 refine L.step sD (S.cW rfl eS rfl rfl func331 q_ rfl aC (λE' hE=>iH E' gr g (st dW l 2) (st dW l 3) 4 _ rfl q2 A2 n2 c2 4 rfl o4 (hal2 _ (hal1 _ dB))) ?_);rintro e H' ⟨A3,n3,c3,rfl,hal3,rfl⟩;repeat first|refine aE ?_|intro
 refine L.step sD (S.cW rfl eS rfl rfl func331 q_ rfl aC (λE' hE=>iH E' gr g (st dW l 3) (st dW l 4) 1 _ rfl q3 A3 n3 c3 1 rfl o1 (hal3 _ (hal2 _ (hal1 _ dB)))) ?_);rintro e H' ⟨A4,n4,c4,rfl,hal4,rfl⟩;repeat first|refine aE ?_|intro
 refine L.step sD (S.cW rfl eS rfl rfl func331 q_ rfl aC (λE' hE=>iH E' gr g (st dW l 4) (st dW l 5) 1 _ rfl q4 A4 n4 c4 1 rfl o1 (hal4 _ (hal3 _ (hal2 _ (hal1 _ dB))))) ?_);rintro e H' ⟨A5,n5,c5,rfl,hal5,rfl⟩;repeat first|refine aE ?_|intro
 refine L.step sD (S.cW rfl eS rfl rfl func331 q_ rfl aC (λE' hE=>iH E' gr g (st dW l 5) (st dW l 6) 1 _ rfl q5 A5 n5 c5 1 rfl o1 (hal5 _ (hal4 _ (hal3 _ (hal2 _ (hal1 _ dB)))))) ?_);rintro e H' ⟨A6,n6,c6,rfl,hal6,rfl⟩;repeat first|refine aE ?_|intro
 refine L.step sD (S.cW rfl eS rfl rfl func331 q_ rfl aC (λE' hE=>iH E' gr g (st dW l 6) (st dW l 7) 8 _ rfl rfl A6 n6 c6 8 rfl o8 (hal6 _ (hal5 _ (hal4 _ (hal3 _ (hal2 _ (hal1 _ dB))))))) ?_);rintro e H' ⟨A7,n7,c7,rfl,hal7,rfl⟩;repeat first|refine aE ?_|intro
 refine L.step sD (S.cW rfl eS rfl rfl func331 q_ rfl aC (λE' hE=>iH E' gr g (st dW l 7) (st dW l 8) 1 _ rfl q7 A7 n7 c7 1 rfl o1 (hal7 _ (hal6 _ (hal5 _ (hal4 _ (hal3 _ (hal2 _ (hal1 _ dB)))))))) ?_);rintro e H' ⟨A8,n8,c8,rfl,hal8,rfl⟩;repeat first|refine aE ?_|intro
 refine L.step sD (S.cW rfl eS rfl rfl func331 q_ rfl aC (λE' hE=>iH E' gr g (st dW l 8) (st dW l 9) 2 _ rfl q8 A8 n8 c8 2 rfl o2 (hal8 _ (hal7 _ (hal6 _ (hal5 _ (hal4 _ (hal3 _ (hal2 _ (hal1 _ dB))))))))) ?_);rintro e H' ⟨A9,n9,c9,rfl,hal9,rfl⟩;repeat first|refine aE ?_|intro
 refine L.step sD (S.cW rfl eS rfl rfl func331 q_ rfl aC (λE' hE=>iH E' gr g (st dW l 9) (st dW l 10) 1 _ rfl q9 A9 n9 c9 1 rfl o1 (hal9 _ (hal8 _ (hal7 _ (hal6 _ (hal5 _ (hal4 _ (hal3 _ (hal2 _ (hal1 _ dB)))))))))) ?_);rintro e H' ⟨Ax,nx',cx,rfl,halx,rfl⟩;refine gk bG ?_;have hno:r=none→r.getD dO=dO∧r.isSome=false:=λh=>by rw[h];exact⟨rfl,rfl⟩
 by_cases h9:va dW l 9=67
 ·repeat first|refine aE ?_|intro
  refine cl sD sK aC (λE' hE=>xV E' g (st dW l 10).1 Ax nx' cx (st dW l 10).2 (halx _ (hal9 _ (hal8 _ (hal7 _ (hal6 _ (hal5 _ (hal4 _ (hal3 _ (hal2 _ (hal1 _ dB))))))))))) ?_;rintro e H' ⟨rfl,rfl⟩;refine gk bG ?_;cases hd:(!(st dW l 10).1&&(st dW l 10).2.isEmpty)
  ·obtain⟨e1,e2⟩:=hno (by rw[←hx,hcr,if_neg (by rw[hd];simp)]);rw[e1,e2];repeat first|refine aE ?_|intro
   exact e8_
  ·repeat first|refine aE ?_|intro
   refine bK (λ(E':Env)=>kF E' (wR l)) ?_;cases hm:(wR l).may
   ·obtain⟨e1,e2⟩:=hno (by rw[←hx,hcr,if_neg (by rw[hm];simp)]);rw[e1,e2,if_neg aAl];repeat first|refine aE ?_|intro
    exact e8_
   ·have e1:r=some (wR l):=by rw[←hx,hcr,if_pos ⟨h9,hd,hm⟩]
    rw[e1,if_pos rfl];repeat first|refine aE ?_|intro
    exact e8_
 ·obtain⟨e1,e2⟩:=hno (by rw[←hx,hcr,if_neg (λh=>h9 h.1)]);rw[e1,e2];repeat first|refine aE ?_|intro
  exact e8_
abbrev fK:List Nat:=[1,1,8,1,2]
def sT(l:List UInt8):cQ:=⟨bX l 0 1,bX l 1 1,rV (bX l 2 8),⟨bX l 10 1,bX l 11 2⟩⟩
def WM(l:List UInt8):cQ:=⟨va fK l 0,va fK l 1,rV (va fK l 2),⟨va fK l 3,va fK l 4⟩⟩
theorem Lw{l:List UInt8}(h:13≤l.length):WM l=sT l:=by
 unfold WM sT;rw[dN (k:=0) (w:=1) rfl rfl sD o_,dN (k:=1) (w:=1) rfl rfl sD o_,dN (k:=2) (w:=8) rfl rfl sD o_,dN (k:=10) (w:=1) rfl rfl sD o_,dN (k:=11) (w:=2) rfl rfl sD o_]
def eY(l:List UInt8):Option cQ:=if (sT l).check=0 then some (sT l) else none
theorem iK(E:Env)(gr g:Nat)(s s':Bool×List UInt8)(w:Nat)(v:Nat)(hs:jV s w=s')(hv:vl s w=v)(A:Option Addr)(n c:Nat)(W:Int)(hW:W=w)(hw:1≤w∧w≤8)(hr:Rd E aU A n c s.2) :
  aK prog E 297 #[.int .i64 W,.pointer (some ⟨gr,0,none⟩)] [aJ gr 276 [.pointer (some ⟨g,0,none⟩)],pC g true s.1 A n c] (Sd gr g A n c s.2 s' (.int .u64 v)):=by
 subst hs hv;have hwid:wid W=(w:Int):=by unfold wid;rw[if_neg o_];exact hW
 have hlt:=jR s w;have hlt2:vl s w<18446744073709551616:=aDe hlt (aBw (aDx o_ hw.2) sD);have hc:=qZ hlt2;refine t_ func297 ntmps297 ?_;repeat first|refine aE ?_|intro
 refine dX (λ(E':Env)=>iG E' g s.1 A n c s.2 W) ?_;obtain⟨o,ho⟩:∃o,nx s.1 s.2 (w:Int)=(o,jV s w):=⟨_,rfl⟩
 have htk:=Gl s w;rw[ho] at htk;rw[hwid,ho];rintro e H' ⟨A',n',c',rfl,hal,rfl⟩;dsimp only at htk hal⊢;rw[htk];repeat first|refine aE ?_|intro
 exact jQ ⟨_,_,_,rfl,hal,rfl⟩
theorem HO(E:Env)(A:Option Addr)(n c:Nat)(l:List UInt8)(r:Option cQ)(hx:eY l=r)(hr:Rd E aU A n c l)(hl:n=13) :
  aK prog E 250 #[.slice A n c] [] λe H'=>e=.returned (.tuple #[.agg (r.getD zW).cs.toArray,.int .i64 (if r.isSome then 0 else 16)])∧H'=[]:=by
 have hn:=hr.len;have hcap:=hr.cap;have o1:1≤1∧1≤8:=by omega
 have o2:1≤2∧2≤8:=by omega
 have o8:1≤8∧8≤8:=by omega
 have v0:=Ds fK l 0;have v1:=Ds fK l 1;have v2:=Ds fK l 2;have v3:=Ds fK l 3;have v4:=Ds fK l 4;have y0:va fK l 0<256:=v0;have y1:va fK l 1<256:=v1;have y3:va fK l 3<256:=v3;have y4:va fK l 4<65536:=v4;have hsg:=qZ (k:=va fK l 2) v2;have hrun:=Lw (l:=l) o_;have hst:st fK l 5=(false,l.drop 13):=yX (i:=5) sD (by simp;omega);have hd0:l.drop 13=[]:=aCn o_;rw[hd0] at hst;refine t_ func250 ntmps250 ?_;repeat first|refine aE ?_|intro
 refine dX (λ(E':Env) h1=>lD E' A n c l h1 (by omega)) ?_;rintro e H' ⟨g,A0,c0,rfl,h5,h6,rfl⟩;refine gk bG ?_;unfold Bs;repeat first|refine aE ?_|intro
 rename_i gres gr;refine L.step sD (S.cW rfl eS rfl rfl func297 q_ rfl aC (λE' hE=>iK E' gr g (false,l) (st fK l 1) 1 (va fK l 0) rfl rfl A0 n c0 1 rfl o1 dB) ?_);rintro e H' ⟨A1,n1,c1,rfl,hal1,rfl⟩;repeat first|refine aE ?_|intro
 refine L.step sD (S.cW rfl eS rfl rfl func297 q_ rfl aC (λE' hE=>iK E' gr g (st fK l 1) (st fK l 2) 1 (va fK l 1) rfl rfl A1 n1 c1 1 rfl o1 (hal1 _ dB)) ?_);rintro e H' ⟨A2,n2,c2,rfl,hal2,rfl⟩;repeat first|refine aE ?_|intro
 refine L.step sD (S.cW rfl eS rfl rfl func297 q_ rfl aC (λE' hE=>iK E' gr g (st fK l 2) (st fK l 3) 8 (va fK l 2) rfl rfl A2 n2 c2 8 rfl o8 (hal2 _ (hal1 _ dB))) ?_);rintro e H' ⟨A3,n3,c3,rfl,hal3,rfl⟩;repeat first|refine aE ?_|intro
 refine L.step sD (S.cW rfl eS rfl rfl func297 q_ rfl aC (λE' hE=>iK E' gr g (st fK l 3) (st fK l 4) 1 (va fK l 3) rfl rfl A3 n3 c3 1 rfl o1 (hal3 _ (hal2 _ (hal1 _ dB)))) ?_);rintro e H' ⟨A4,n4,c4,rfl,hal4,rfl⟩;repeat first|refine aE ?_|intro
 refine L.step sD (S.cW rfl eS rfl rfl func297 q_ rfl aC (λE' hE=>iK E' gr g (st fK l 4) (st fK l 5) 2 (va fK l 4) rfl rfl A4 n4 c4 2 rfl o2 (hal4 _ (hal3 _ (hal2 _ (hal1 _ dB))))) ?_);rintro e H' ⟨A5,n5,c5,rfl,hal5,rfl⟩;repeat first|refine aE ?_|intro
 rw[hst] at hal5⊢;dsimp only at hal5⊢;refine cl sD sK aC (λE' hE=>xV E' g false A5 n5 c5 [] (hal5 _ (hal4 _ (hal3 _ (hal2 _ (hal1 _ dB)))))) ?_;rintro e H' ⟨rfl,rfl⟩;repeat first|refine aE ?_|intro
 refine bW (λ(E':Env)=>ES E' (WM l)) ?_;rw[hrun];rintro e H' ⟨rfl,rfl⟩;refine gk bG ?_;unfold eY at hx;by_cases hc:(sT l).check=0
 ·rw[if_pos hc] at hx;subst hx;rw[hc,←hrun];repeat first|refine aE ?_|intro
  exact e8_
 ·rw[if_neg hc] at hx;subst hx;repeat first|refine aE ?_|intro
  exact e8_
def tY(b:List UInt8):bH:=⟨bX b 0 1,(eY ((b.drop 1).take 13)).getD zW,bX b 14 1,bX b 15 4,decide (Go.bits .and .i64 (bX b 24 1:Nat) 1≠0),decide (Go.bits .and .i64 (bX b 24 1:Nat) 2≠0),bX b 19 1,bX b 20 4⟩
def EY(b:List UInt8):Option bH:=if b.length=27∧(tY b).may=true∧(tY b).put=b then some (tY b) else none
theorem oC(E:Env)(gr g:Nat)(s s':Bool×List UInt8)(w:Nat)(v:Int)(hs:jV s w=s')(hv:rV (vl s w)=v)(A:Option Addr)(n c:Nat)(W:Int)(hW:W=w)(hw:1≤w∧w≤8)(hr:Rd E aU A n c s.2) :
  aK prog E 380 #[.int .i64 W,.pointer (some ⟨gr,0,none⟩)] [aJ gr 276 [.pointer (some ⟨g,0,none⟩)],pC g true s.1 A n c] (Sd gr g A n c s.2 s' (.int .i64 v)):=by
 subst hs hv;have hwid:wid W=(w:Int):=by unfold wid;rw[if_neg o_];exact hW
 have hlt:=jR s w;have hlt2:vl s w<18446744073709551616:=aDe hlt (aBw (aDx o_ hw.2) sD);have hc:=qZ hlt2;refine t_ func380 ntmps380 ?_;repeat first|refine aE ?_|intro
 refine dX (λ(E':Env)=>iG E' g s.1 A n c s.2 W) ?_;obtain⟨o,ho⟩:∃o,nx s.1 s.2 (w:Int)=(o,jV s w):=⟨_,rfl⟩
 have htk:=Gl s w;rw[ho] at htk;rw[hwid,ho];rintro e H' ⟨A',n',c',rfl,hal,rfl⟩;dsimp only at htk hal⊢;rw[htk];repeat first|refine aE ?_|intro
 exact jQ ⟨_,_,_,rfl,hal,rfl⟩
theorem Dd(E:Env)(A:Option Addr)(n c:Nat)(b:List UInt8)(hr:Rd E aU A n c b)(hl:n=27) :
  aK prog E 367 #[.slice A n c] [] λe H'=>e=.returned (.tuple #[.agg ((EY b).getD El).cs.toArray,.bool (EY b).isSome])∧H'=[]:=by
 have hn:=hr.len;have hcap:=hr.cap;have o1:1≤1∧1≤8:=by omega
 have o4:1≤4∧4≤8:=by omega
 have t0:=iL (l:=b) (i:=0) (w:=1) o_;rw[aCh] at t0;have q0:rV (vl (false,b) 1)=(bX b 0 1:Nat):=by rw[t0.2.1];exact cN (aCl (eM b 0 1) sD)
 have t0':jV (false,b) 1=(false,b.drop 1):=t0.1;have t14:=iL (l:=b) (i:=14) (w:=1) o_;have q14:rV (vl (false,b.drop 14) 1)=(bX b 14 1:Nat):=by rw[t14.2.1];exact cN (aCl (eM b 14 1) sD)
 have t15:=iL (l:=b) (i:=15) (w:=4) o_;have q15:rV (vl (false,b.drop 15) 4)=(bX b 15 4:Nat):=by rw[t15.2.1];exact cN (aCl (eM b 15 4) sD)
 have t19:=iL (l:=b) (i:=19) (w:=1) o_;have q19:rV (vl (false,b.drop 19) 1)=(bX b 19 1:Nat):=by rw[t19.2.1];exact cN (aCl (eM b 19 1) sD)
 have t20:=iL (l:=b) (i:=20) (w:=4) o_;have q20:rV (vl (false,b.drop 20) 4)=(bX b 20 4:Nat):=by rw[t20.2.1];exact cN (aCl (eM b 20 4) sD)
 have t24:=iL (l:=b) (i:=24) (w:=1) o_;have q24:rV (vl (false,b.drop 24) 1)=(bX b 24 1:Nat):=by rw[t24.2.1];exact cN (aCl (eM b 24 1) sD)
 have hnx:nx false (b.drop 1) 13=(some ((b.drop 1).take 13),false,b.drop 14):=by
  have:=Ai (l:=b.drop 1) (k:=13) (by simp;omega);rw[aBt] at this;exact this
 have hl13:((b.drop 1).take 13).length=13:=by simp;omega
 have hlen:(b.drop 1).length≤140737488355328:=by simp;omega
 refine t_ func367 ntmps367 ?_;repeat first|refine aE ?_|intro
 refine dX (λ(E':Env) h1=>lD E' A n c b h1 (by omega)) ?_;rintro e H' ⟨g,A0,c0,rfl,h5,h6,rfl⟩;refine gk bG ?_;unfold Bs;repeat first|refine aE ?_|intro
 rename_i gres gr;refine L.step sD (S.cW rfl eS rfl rfl func380 q_ rfl aC (λE' hE=>oC E' gr g (false,b) (false,b.drop 1) 1 _ t0' q0 A0 n c0 1 rfl o1 dB) ?_);rintro e H' ⟨A1,n1,c1,rfl,hal1,rfl⟩;dsimp only at hal1⊢;repeat first|refine aE ?_|intro
 refine cl sD sK aC (λE' hE=>kR E' g false A1 n1 c1 (b.drop 1) 13 (hal1 _ dB) hlen) ?_;rw[hnx];rintro e H' ⟨A2,n2,c2,B,d,rfl,hal2,hmd,hd3,rfl⟩;dsimp only at hal2;simp only[aBe,aEf] at hmd⊢;rw[hl13] at hmd⊢;repeat first|refine aE ?_|intro
 have hER:tY b=⟨bX b 0 1,(eY ((b.drop 1).take 13)).getD zW,bX b 14 1,bX b 15 4,decide (Go.bits .and .i64 (bX b 24 1:Nat) 1≠0),decide (Go.bits .and .i64 (bX b 24 1:Nat) 2≠0),bX b 19 1,bX b 20 4⟩:=rfl;refine cl sD sK aC (λE' hE=>HO E' B 13 d _ _ rfl dB rfl) ?_;generalize (eY ((b.drop 1).take 13)).getD zW=y at *;rintro e H' ⟨rfl,rfl⟩;repeat first|refine aE ?_|intro
 refine L.step sD (S.cW rfl eS rfl rfl func380 q_ rfl aC (λE' hE=>oC E' gr g (false,b.drop 14) (false,b.drop 15) 1 _ t14.1 q14 A2 n2 c2 1 rfl o1 (hal2 _ (hal1 _ dB))) ?_);rintro e H' ⟨A3,n3,c3,rfl,hal3,rfl⟩;dsimp only at hal3⊢;repeat first|refine aE ?_|intro
 refine L.step sD (S.cW rfl eS rfl rfl func380 q_ rfl aC (λE' hE=>oC E' gr g (false,b.drop 15) (false,b.drop 19) 4 _ t15.1 q15 A3 n3 c3 4 rfl o4 (hal3 _ (hal2 _ (hal1 _ dB)))) ?_);rintro e H' ⟨A4,n4,c4,rfl,hal4,rfl⟩;dsimp only at hal4⊢;repeat first|refine aE ?_|intro
 refine L.step sD (S.cW rfl eS rfl rfl func380 q_ rfl aC (λE' hE=>oC E' gr g (false,b.drop 19) (false,b.drop 20) 1 _ t19.1 q19 A4 n4 c4 1 rfl o1 (hal4 _ (hal3 _ (hal2 _ (hal1 _ dB))))) ?_);rintro e H' ⟨A5,n5,c5,rfl,hal5,rfl⟩;dsimp only at hal5⊢;repeat first|refine aE ?_|intro
 refine L.step sD (S.cW rfl eS rfl rfl func380 q_ rfl aC (λE' hE=>oC E' gr g (false,b.drop 20) (false,b.drop 24) 4 _ t20.1 q20 A5 n5 c5 4 rfl o4 (hal5 _ (hal4 _ (hal3 _ (hal2 _ (hal1 _ dB)))))) ?_);rintro e H' ⟨A6,n6,c6,rfl,hal6,rfl⟩;dsimp only at hal6⊢;repeat first|refine aE ?_|intro
 refine L.step sD (S.cW rfl eS rfl rfl func380 q_ rfl aC (λE' hE=>oC E' gr g (false,b.drop 24) (false,b.drop 25) 1 _ t24.1 q24 A6 n6 c6 1 rfl o1 (hal6 _ (hal5 _ (hal4 _ (hal3 _ (hal2 _ (hal1 _ dB))))))) ?_);rintro e H' ⟨A7,n7,c7,rfl,hal7,rfl⟩;dsimp only at hal7⊢;repeat first|refine aE ?_|intro
 have heg:EY b=if b.length=27∧(tY b).may=true∧(tY b).put=b then some (tY b) else none:=rfl
 refine rA (l_ [0,3,4] (g_ 1 (l_ [2,5] .nil))) ?_;repeat first|refine aE ?_|intro
 cases hm:(tY b).may
 ·rw[if_neg (λh=>by rw[hm] at h;cases h.2.1)] at heg;rw[heg];have hd:decide (([]:List UInt8)≠b)=true:=decide_eq_true (λh=>by rw[←h] at hn;simp at hn;omega);have hpn:=λE'=>Jx E' (tY b) hm;rw[hER] at hpn;refine eJ hpn ?_;repeat first|refine aE ?_|intro
  exact e8_
 ·have hpn:=λE'=>J2 E' (tY b) hm;generalize hpp:(tY b).put=p at *;rw[hER] at hpn;refine iO hpn ?_;rintro e H' ⟨A9,c9,rfl,rfl⟩;refine gd bG aA ?_;refine Dr.more (Hk':=_) aA aB.refl ?_;by_cases hp:p=b
  ·rw[if_pos ⟨by omega,hm,hp⟩] at heg;rw[heg];have hd:decide (p≠b)=false:=by simp[hp]
   simp only[aBe,aEf];rw[hER];repeat first|refine aE ?_|intro
   exact e8_
  ·rw[if_neg (λh=>hp h.2.2)] at heg;rw[heg];have hd:decide (p≠b)=true:=by simp[hp]
   repeat first|refine aE ?_|intro
   exact e8_
end Go.Proofs.YtmilalkjbojciaaGreat.Sep
namespace Go.Proofs.YtmilalkjbojciaaGreat.Sep
open Go.RowKit Reg
open Mem hiding Rd
structure fG where
 id:bJ
 made:Int
 A:Option Addr
 n:Nat
 c:Nat
 l:List bH
 X:Option Addr
 nx:Nat
 cx:Nat
 w:List cQ
abbrev fG.cs(x:fG):List Value:=[.int .i64 x.id.rep,.int .i64 x.id.seq,.int .i64 x.made,.slice x.A x.n x.c,.slice x.X x.nx x.cx]
def eD:Ty fG where
 val x:=.agg x.cs.toArray
 size:=5
 bytes:=72
 tid:=242
 zero:=.agg #[.int .i64 0,.int .i64 0,.int .i64 0,.slice none 0 0,.slice none 0 0]
 hlen _:=rfl
 lJ a u h:=by simp[Value.cells] at h;rcases h with rfl|rfl|rfl|rfl|rfl<;>rfl
 gL:=by decide
 hzero:=rfl
 fW:=by kernel_rfl
 nR:=.inl ⟨by kernel_rfl,λ_=>⟨_,rfl⟩⟩
instance WT:lL eD 72:=⟨rfl⟩
structure Qc where
 id:bJ
 made:Int
 A:Option Addr
 n:Nat
 c:Nat
 l:List bH
abbrev Qc.cs(x:Qc):List Value:=[.int .i64 x.id.rep,.int .i64 x.id.seq,.int .i64 x.made,.slice x.A x.n x.c]
def pZ:Ty Qc where
 val x:=.agg x.cs.toArray
 size:=4
 bytes:=48
 tid:=90
 zero:=.agg #[.int .i64 0,.int .i64 0,.int .i64 0,.slice none 0 0]
 hlen _:=rfl
 lJ a u h:=by simp[Value.cells] at h;rcases h with rfl|rfl|rfl|rfl<;>rfl
 gL:=by decide
 hzero:=rfl
 fW:=by kernel_rfl
 nR:=.inl ⟨by kernel_rfl,λ_=>⟨_,rfl⟩⟩
instance XD:lL pZ 48:=⟨rfl⟩
theorem NK:Rec prog 242 [.int .i64 0,.int .i64 0,.int .i64 0,.slice none 0 0,.slice none 0 0] [(0,4),(4,1)]:=⟨by kernel_rfl,by kernel_rfl⟩
instance Tc:cL 242 [.int .i64 0,.int .i64 0,.int .i64 0,.slice none 0 0,.slice none 0 0] [(0,4),(4,1)]:=⟨NK⟩
theorem IA:Rec prog 310 [.bool false,.int .i64 0,.slice none 0 0] [(0,1),(1,1),(2,1)]:=⟨by kernel_rfl,by kernel_rfl⟩
instance Qs:cL 310 [.bool false,.int .i64 0,.slice none 0 0] [(0,1),(1,1),(2,1)]:=⟨IA⟩
abbrev gJ(x:fG):aL:=own fH x.A x.n x.c x.l
abbrev iD(x:fG):aL:=own eG x.X x.nx x.cx x.w
abbrev lg(g:Nat)(B:Option Addr)(n d:Nat)(r:Int):aL:=aJ g 310 [.bool true,.int .i64 r,.slice B n d]
abbrev vM(g:Nat)(B:Option Addr)(n d:Nat)(r:Int)(ls:List fG):List aL:=[lg g B n d r,own eD B n d ls,aO gJ ls,aO iD ls]
def fG.s(x:fG):dS:=⟨x.made,x.l,x.w⟩
structure fG.ok(r:Int)(i:Nat)(e:fG):Prop where
 id:e.id=⟨r,((i+1:Nat):Int)⟩
 n:e.n=e.l.length
 c:e.n≤e.c∧e.c≤maxLen
 nx:e.nx=e.w.length
 cx:e.nx≤e.cx∧e.cx≤maxLen
 s:e.s.ok
def EE(r:Int)(ls:List fG):Prop:=∀(i:Nat) (e:fG),ls[i]?=some e→e.ok r i
theorem EE.set{r:Int}{ls:List fG}(h:EE r ls){i:Nat}{e:fG}(he:e.ok r i):EE r (ls.set i e):=by
 intro j x hx;rw[aDr] at hx;split at hx
 ·rename_i hij;subst hij;split at hx
  ·injection hx with hx;subst hx;exact he
  ·cases hx
 ·exact h j x hx
theorem EE.push{r:Int}{ls:List fG}(h:EE r ls){e:fG}(he:e.ok r ls.length):EE r (ls++[e]):=by
 intro j x hx;by_cases hj:j<ls.length
 ·rw[aBp hj] at hx;exact h j x hx
 ·rw[aBc o_] at hx;have h0:j - ls.length=0:=by
   have:=(aAd.1 hx).1;simp at this;omega
  rw[h0] at hx;injection hx with hx
  subst hx;rw[show j=ls.length by omega];exact he
theorem dS.Kk:(⟨0,[],[]⟩:dS).ok:=⟨λ_ h=>(aAk h).elim,λ_ h=>(aAk h).elim,aCd _,by decide,aCd _,by decide⟩
section
variable (E:Env) (g:Nat) (B:Option Addr) (n d:Nat) (r:Int) (ls:List fG)
theorem Xl:aK prog E 264 #[.int .i64 r] [] λe H'=>∃g',e=.returned (.pointer (some ⟨g',0,none⟩))∧H'=[lg g' none 0 0 r]:=by
 refine t_ func264 ntmps264 ?_;repeat first|refine cY ?_|intro
 exact jQ ⟨_,rfl,rfl⟩
theorem u6(s:Int):aK prog E 348 #[.pointer (some ⟨g,0,none⟩),.int .i64 s] [lg g B n d r] λe H'=>e=.returned (.agg #[.int .i64 r,.int .i64 s])∧H'=[lg g B n d r]:=by
 refine t_ func348 ntmps348 ?_;repeat first|refine cY ?_|intro
 exact e7_
def OL(r:Int)(n:Nat)(a:bJ):Prop:=a.rep=r∧1≤a.seq∧a.seq≤n
theorem JR(a:bJ)(hn:n≤100000)(h:¬OL r n a):aK prog E 305 #[.pointer (some ⟨g,0,none⟩),.agg a.cs.toArray] [lg g B n d r] λe H'=>e=.returned (.pointer none)∧H'=[lg g B n d r]:=by
 have hmax:=fX;unfold OL at h;refine t_ func305 ntmps305 ?_;by_cases h1:a.rep=r
 ·by_cases h2:a.seq<1
  ·repeat first|refine cY ?_|intro
   refine rA (l_ [0,1,2,3,4,5,6,7,8,9,10,11,12,13,14,15,16,17,18,19,20,21,22,23,24,25,26,27,28,29,30,31,32] .nil) ?_;repeat first|refine cY ?_|intro
   exact e1_
  ·have h3:(n:Int)<a.seq:=by omega
   repeat first|refine cY ?_|intro
   refine rA (l_ [0,1,2,3,4,5,6,7,8,9,10,11,12,13,14,15,16,17,18,19,20,21,22,23,24,25,26,27,28,29,30,31,32] .nil) ?_;repeat first|refine cY ?_|intro
   exact e1_
 ·repeat first|refine cY ?_|intro
  refine rA (l_ [0,1,2,3,4,5,6,7,8,9,10,11,12,13,14,15,16,17,18,19,20,21,22,23,24,25,26,27,28,29,30,31,32] .nil) ?_;repeat first|refine cY ?_|intro
  exact e1_
theorem uJ(i:Nat)(hn:n≤100000)(hi:i<n){e:fG}(he:ls[i]?=some e):aK prog E 305 #[.pointer (some ⟨g,0,none⟩),.agg #[.int .i64 r,.int .i64 ((i+1:Nat):Int)]] [lg g B n d r,own eD B n d ls] λe H'=>e=.returned (.pointer (some ((ad B).add (i*eD.size))))∧H'=[lg g B n d r,own eD B n d ls]:=by
 have hmax:=fX;have hs:IntKind.i64.wrap (((i+1:Nat):Int) - 1)=((i:Nat):Int):=by rw[aAq _ o_];omega
 refine t_ func305 ntmps305 ?_;repeat first|refine cY ?_|intro
 refine rA (l_ [0,1,2,3,4,5,6,7,8,9,10,11,12,13,14,15,16,17,18,19,20,21,22,23,24,25,26,27,28,29,30,31,32] .nil) ?_;repeat first|refine cY ?_|intro
 refine rA (l_ [0,1,2,3,4,5,6,7,8] .nil) ?_;repeat first|refine cY ?_|intro
 exact e1_
theorem Kf(A:Option Addr)(n c:Nat)(l:List cQ)(hr:Rd E eG A n c l)(hl:n≤100000):aK prog E 232 #[.slice A n c] [] λr H'=>∃A' c',r=.returned (.slice A' n c')∧(n≤c'∧c'≤maxLen)∧H'=[own eG A' n c' l]:=by
 refine t_ func232 ntmps232 ?_;cases A with
 |none =>
  obtain⟨rfl,rfl⟩:=hr.none;repeat first|refine cY ?_|intro
  exact aR rfl aF (aB.nil eG) ⟨_,_,rfl,⟨aAf _,aAh _⟩,rfl⟩
 |some a =>
  repeat first|refine cY ?_|intro
  exact aR rfl aF aA (⟨_,_,rfl,⟨by assumption,by assumption⟩,rfl⟩)
end
end Go.Proofs.YtmilalkjbojciaaGreat.Sep
namespace Go.Proofs.YtmilalkjbojciaaGreat.Sep
open Go.RowKit Oct Dly
theorem FX(l:List UInt8):(sT l).ok:=by
 have a0:=eM l 0 1;have a1:=eM l 1 1;have a2:=Ii (k:=bX l 2 8) (eM l 2 8);have a3:=eM l 10 1;have a4:=eM l 11 2;refine⟨?_,?_,a2,?_,?_⟩;all_goals (simp only[sT];unfold dQ;omega)
theorem DX{l:List UInt8}(h:l.length=13):(sT l).put=l:=by
 have u8:GF (rV (bX l 2 8))=bX l 2 8:=KB (eM l 2 8);have e1:l=(l.drop 0).take 1++((l.drop 1).take 1++((l.drop 2).take 8++((l.drop 10).take 1++l.drop 11))):=by
  have step:∀i w,l.drop i=(l.drop i).take w++l.drop (i+w):=λi w=>by rw[←aBt,aAx]
  have h0:=step 0 1;have h1:=step 1 1;have h2:=step 2 8;have h3:=step 10 1;rw[←h3,←h2,←h1,←h0,aCh]
 have e2:l.drop 11=(l.drop 11).take 2:=(aAj (by simp;omega)).symm;rw[e2] at e1;unfold cQ.put sT;dsimp only;rw[u8];simp only[aAu];rw[dY o_,dY o_,dY o_,dY o_,dY o_];exact e1.symm
theorem La{f:cQ}(hc:f.check=0)(hn:dQ f.n):sT f.put=f:=by
 obtain⟨⟨k0,k1⟩,⟨a0,a1⟩,⟨p0,p1⟩,s0,s1⟩:=cQ.bR hc;have hu:=EV f.n;have f0:bX f.put 0 1=f.kind.toNat:=dL (a:=[]) rfl o_;have f1:bX f.put 1 1=f.a.toNat:=by
  unfold cQ.put;exact dL (by simp[aP]) o_
 have f2:bX f.put 2 8=GF f.n:=by
  unfold cQ.put;rw[←aAb];exact dL (by simp[aP]) o_
 have f3:bX f.put 10 1=f.ref.rep.toNat:=by
  unfold cQ.put;rw[←aAb,←aAb];exact dL (by simp[aP]) o_
 have f4:bX f.put 11 2=f.ref.seq.toNat:=by
  unfold cQ.put;rw[←aAb,←aAb,←aAb];rw[←aAc (be f.ref.seq.toNat 2)];exact dL (by simp[aP]) o_
 unfold sT;rw[f0,f1,f2,f3,f4,Kj hn];rw[aBn o_,aBn a0,aBn p0,aBn s0]
theorem Cg{f:cQ}(hc:f.check=0)(hn:dQ f.n):eY f.put=some f:=by
 unfold eY;rw[La hc hn,if_pos hc]
theorem uE{l:List UInt8}{f:cQ}(h:eY l=some f):f=sT l∧f.check=0:=by
 unfold eY at h;split at h
 ·injection h with h;subst h;exact⟨rfl,by assumption⟩
 ·cases h
theorem Gi:∀k:Nat,k≤3→(decide (Go.bits .and .i64 (k:Nat) 1≠0)=decide (((k:Nat):Int) % 2=1)∧decide (Go.bits .and .i64 (k:Nat) 2≠0)=decide ((1:Int)<(k:Nat))):=by
 intro k hk
 match k,hk with
 |0,_=>decide
 |1,_=>decide
 |2,_=>decide
 |3,_=>decide
def Bl(b:List UInt8):bH:=⟨bX b 0 1,(eY ((b.drop 1).take 13)).getD zW,bX b 14 1,bX b 15 4,decide (((bX b 24 1:Nat):Int) % 2=1),decide ((1:Int)<(bX b 24 1:Nat)),bX b 19 1,bX b 20 4⟩
theorem Tj{b:List UInt8}(h:bX b 24 1≤3):tY b=Bl b:=by
 unfold tY Bl;rw[(Gi _ h).1,(Gi _ h).2]
theorem LG{b:List UInt8}(h:bX b 24 1≤3):(Bl b).mJ.toNat=bX b 24 1:=by
 unfold bH.mJ Bl;dsimp only;generalize bX b 24 1=k at *
 match k,h with
 |0,_=>rfl
 |1,_=>rfl
 |2,_=>rfl
 |3,_=>rfl
theorem Xf{b:List UInt8}:b=(b.drop 0).take 1++((b.drop 1).take 13++((b.drop 14).take 1++((b.drop 15).take 4++((b.drop 19).take 1++((b.drop 20).take 4++((b.drop 24).take 1++b.drop 25)))))):=by
 have step:∀i w,b.drop i=(b.drop i).take w++b.drop (i+w):=λi w=>by rw[←aBt,aAx]
 have h0:=step 0 1;have h1:=step 1 13;have h2:=step 14 1;have h3:=step 15 4;have h4:=step 19 1;have h5:=step 20 4;have h6:=step 24 1;rw[←h6,←h5,←h4,←h3,←h2,←h1,←h0,aCh]
theorem EU{b:List UInt8}(h:b.length=27)(h24:bX b 24 1≤3)(h25:b[25]?=some 69)(h26:b[26]?=some 69){f:cQ}(hf:eY ((b.drop 1).take 13)=some f):(Bl b).put=b:=by
 obtain⟨hfe,_⟩:=uE hf;have e1:f.put=(b.drop 1).take 13:=by rw[hfe];exact DX (by simp;omega)
 have e2:[UInt8.ofNat (bX b 24 1)]=(b.drop 24).take 1:=by rw[←nC];exact dY o_
 have e3:b.drop 25=[69,69]:=by
  obtain⟨k1,k2⟩:=aAd.1 h25;obtain⟨k3,k4⟩:=aAd.1 h26;rw[aAm k1,k2,aAm k3,k4,aCn o_]
 have e4:=Xf (b:=b);rw[e3] at e4;have e5:([UInt8.ofNat (bX b 24 1),69,69]:List UInt8)=(b.drop 24).take 1++[69,69]:=by rw[←e2];rfl
 have hfl:=LG h24;unfold bH.put;rw[hfl,e5];unfold Bl;dsimp only;rw[hf,aBe,e1];simp only[aAu];rw[dY o_,dY o_,dY o_,dY o_,dY o_];exact e4.symm
abbrev bH.front(e:bH):List UInt8:=be e.ord.toNat 1++(e.bC.put++(be e.aW.toNat 1++(be e.last.toNat 4++(be e.back.toNat 1++be e.cJ.toNat 4))))
theorem bH.FJ(e:bH):e.front.length=24:=by simp[aP,cQ.bD]
theorem bH.MU(e:bH):e.put=e.front++(be e.mJ.toNat 1++[69,69]):=by simp[bH.put,nC]
theorem bH.FM(e:bH):e.mJ.toNat≤3:=by unfold bH.mJ;split<;>split<;>decide
theorem DU(e:bH):decide (((e.mJ.toNat:Nat):Int) % 2=1)=e.cX∧decide ((1:Int)<(e.mJ.toNat:Nat))=e.gone:=by
 unfold bH.mJ;cases e.cX<;>cases e.gone<;>exact⟨rfl,rfl⟩
theorem GA(e:bH):e.put[25]?=some 69∧e.put[26]?=some 69∧bX e.put 24 1=e.mJ.toNat:=by
 have hl:=e.FJ;have hf:=e.FM;rw[e.MU];generalize e.front=x at *;refine⟨?_,?_,dL hl o_⟩
 ·rw[aBc o_,hl,nC];rfl
 ·rw[aBc o_,hl,nC];rfl
def Ea(b:List UInt8):Option bH:=if b.length=27∧bX b 24 1≤3∧b[25]?=some 69∧b[26]?=some 69∧(eY ((b.drop 1).take 13)).isSome=true∧(Bl b).may=true then some (Bl b) else none
theorem HT(b:List UInt8):EY b=Ea b:=by
 unfold Ea;by_cases hc:b.length=27∧bX b 24 1≤3∧b[25]?=some 69∧b[26]?=some 69∧(eY ((b.drop 1).take 13)).isSome=true∧(Bl b).may=true
 ·rw[if_pos hc];obtain⟨h1,h2,h3,h4,h5,h6⟩:=hc;obtain⟨f,hf⟩:=Option.isSome_iff_exists.1 h5;unfold EY;rw[Tj h2,if_pos ⟨h1,h6,EU h1 h2 h3 h4 hf⟩]
 ·rw[if_neg hc];unfold EY;refine if_neg λ⟨h1,h2,h3⟩=>hc ?_;have ht:=GA (tY b);have hf:=(tY b).FM;rw[h3] at ht;have h24:bX b 24 1≤3:=by rw[ht.2.2];exact hf
  refine⟨h1,h24,ht.1,ht.2.1,?_,by rw[←Tj h24];exact h2⟩;cases hx:eY ((b.drop 1).take 13) with
  |some f=>rfl
  |none =>
   have hk:=((bH.bY _).1 h2).2.1;have:(tY b).bC=zW:=by unfold tY;dsimp only;rw[hx];rfl
   rw[this] at hk;exact absurd hk sD
theorem Il{e:bH}(hm:e.may=true)(hn:dQ e.bC.n):Ea e.put=some e:=by
 obtain⟨⟨o0,o1⟩,hw,⟨s0,s1⟩,⟨⟨b0,b1⟩,_⟩,⟨l0,l1⟩,⟨k0,k1⟩,_⟩:=(bH.bY e).1 hm;have ht:=GA e;have hfl:=e.FM;have f0:bX e.put 0 1=e.ord.toNat:=dL (a:=[]) rfl o_;have f1:(e.put.drop 1).take 13=e.bC.put:=by
  unfold bH.put;rw[aBu (aP _ _),aBj (cQ.bD _)]
 have f2:bX e.put 14 1=e.aW.toNat:=by
  unfold bH.put;rw[←aAb];exact dL (by simp[aP,cQ.bD]) o_
 have f3:bX e.put 15 4=e.last.toNat:=by
  unfold bH.put;rw[←aAb,←aAb];exact dL (by simp[aP,cQ.bD]) o_
 have f4:bX e.put 19 1=e.back.toNat:=by
  unfold bH.put;rw[←aAb,←aAb,←aAb];exact dL (by simp[aP,cQ.bD]) o_
 have f5:bX e.put 20 4=e.cJ.toNat:=by
  unfold bH.put;rw[←aAb,←aAb,←aAb,←aAb];exact dL (by simp[aP,cQ.bD]) o_
 have hg:=Cg hw hn;have hM:Bl e.put=e:=by
  unfold Bl;rw[f0,f1,f2,f3,f4,f5,ht.2.2,hg,aBe,(DU e).1,(DU e).2];rw[aBn o_,aBn o_,aBn l0,aBn b0,aBn k0]
 unfold Ea;rw[hM,f1,hg];exact if_pos ⟨e.bD,by rw[ht.2.2];exact hfl,ht.1,ht.2.1,rfl,hm⟩
theorem HH{e:bH}(hm:e.may=true)(hn:dQ e.bC.n):EY e.put=some e:=by rw[HT,Il hm hn]
end Go.Proofs.YtmilalkjbojciaaGreat.Sep
