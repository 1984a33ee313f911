/- 'TopOwn' of any input returns true: the row's step out of the walk. No condition. -/
import Derived.Test.YtmilalkjbojciaaGreatOAA
import Derived.Test.YtmilalkjbojciaaGreatOBY
import Derived.Test.YtmilalkjbojciaaGreatOBX
import Derived.Test.YtmilalkjbojciaaGreatOBR
import Derived.Test.YtmilalkjbojciaaGreatOBP
import Derived.JoinedCond
set_option maxRecDepth 100000
set_option maxHeartbeats 8000000
open Go.Proofs.Tryz
namespace Go.Proofs.YtmilalkjbojciaaGreat.Sep
open Go.RowKit Reg Oct
open Mem hiding Rd
section
variable (E:Env) (P:List Ov) (g t:Nat) (v:Wv)
theorem Vx(ht:t≤990000)(hn:(1≤v.bU.length∧v.bU.length≤4)∧(v.bU.length:Int)=v.cf.bN):G E 67 [pt g] [aQ P g t v,aI P] λe H'=>∃Q,e=.returned (.bool v.round.short)∧H'=[aQ (P++Q) g (t+1200) v.round.w,aI (P++Q)]:=by
 have k1:xA 132=true:=by kernel_rfl
 have k2:xA 134=true:=by kernel_rfl
 have k3:xA 135=true:=by kernel_rfl
 unfold Wv.round;have c0:∀d:Dv,d.w.cf=v.cf→d.w.bU.length=v.bU.length→d.w.bU.length≤4∧(d.w.bU.length:Int)=d.w.cf.bN:=λd h1 h2=>⟨by rw[h2];exact hn.1.2,by rw[h1,h2];exact hn.2⟩
 have dl:=λE' P gv t (d:Dv) (h1:d.w.bU.length=v.bU.length) ht=>e8 E' P gv g t d ht (by rw[h1];exact hn.1.1);have al:=λE' P gv t (d:Dv) (h1:d.w.cf=v.cf∧d.w.bU.length=v.bU.length) f cs F hk law hF i hi ht=>XV E' P gv g t d f cs F hk law hF i hi ht (c0 d h1.1 h1.2);have dw:=λE' P gv t (d:Dv) A c st hr ht hI=>Yp E' P gv g t d A 1 c [st] hr ht hI;have e1:∀(d:Dv) st,Dv.J1 d [st]=d.pE st:=λd st=>rfl;simp only[e1] at dw;have dl0:=λE' gv=>dl E' P gv t ⟨v,false⟩ rfl o_;dsimp only[dA] at dl al dw dl0;obtain⟨d1,hd1⟩:∃d,(Dv.mk v false).bV=d:=⟨_,rfl⟩
 have b1:=uC ⟨v,false⟩;rw[hd1] at b1 dl0⊢;dsimp only at b1;obtain⟨d2,hd2⟩:∃d,d1.all 0 (pH 15)=d:=⟨_,rfl⟩
 have b2:=oZ d1 0 (pH 15);rw[hd2,b1.1,b1.2] at b2;rw[hd2];obtain⟨d3,hd3⟩:∃d,d2.all 1 EH=d:=⟨_,rfl⟩
 have b3:=oZ d2 1 EH;rw[hd3,b2.1,b2.2] at b3;rw[hd3];obtain⟨d4,hd4⟩:∃d,d3.bV=d:=⟨_,rfl⟩
 have b4:=uC d3;rw[hd4,b3.1,b3.2] at b4;rw[hd4];obtain⟨d5,hd5⟩:∃d,d4.pE (pB 4 0 0 16)=d:=⟨_,rfl⟩
 have b5:=oY d4 (pB 4 0 0 16);rw[hd5,b4.1,b4.2] at b5;rw[hd5];obtain⟨d6,hd6⟩:∃d,d5.all 1 AK=d:=⟨_,rfl⟩
 have b6:=oZ d5 1 AK;rw[hd6,b5.1,b5.2] at b6;rw[hd6];obtain⟨d7,hd7⟩:∃d,d6.bV=d:=⟨_,rfl⟩
 have b7:=uC d6;rw[hd7,b6.1,b6.2] at b7;rw[hd7];obtain⟨d8,hd8⟩:∃d,d7.all 0 (pH 5)=d:=⟨_,rfl⟩
 have b8:=oZ d7 0 (pH 5);rw[hd8,b7.1,b7.2] at b8;rw[hd8];obtain⟨d9,hd9⟩:∃d,d8.bV=d:=⟨_,rfl⟩
 have b9:=uC d8;rw[hd9,b8.1,b8.2] at b9;rw[hd9];obtain⟨d10,hd10⟩:∃d,d9.pE (pB 6 0 0 v.cf.cap)=d:=⟨_,rfl⟩
 rw[hd10];have cfg:=λE' P t=>xU E' P g t d9.w;rw[b9.1] at cfg;refine t_ func67 ntmps67 ?_;repeat first|refine v_ ?_|intro
 rename_i gv;refine bW (λ(E':Env)=>dl0 E' gv) ?_;rintro e H' ⟨Q1,n1,rfl,rfl⟩;repeat first|refine v_ ?_|intro
 refine bW (λ(E':Env)=>S4 E' 15) ?_;rintro e H' ⟨ga1,rfl,rfl⟩;repeat first|refine v_ ?_|intro
 refine cl sD sK aC (λE' hE=>al E' (P++Q1) gv (t+256) d1 b1 132 [pt ga1] (pH 15) k1 (KW E' ga1 15 (gE.of hE aS)) (BL 15) 0 o_ o_) ?_;rintro e H' ⟨Q2,rfl,rfl⟩;rw[hd2];repeat first|refine v_ ?_|intro
 refine cl sD sK aC (λE' hE=>al E' (P++Q1++Q2) gv (t+256+8) d2 b2 134 [] EH k2 (YZ E') Nn 1 o_ o_) ?_;rintro e H' ⟨Q3,rfl,rfl⟩;rw[hd3];repeat first|refine v_ ?_|intro
 refine bW (λ(E':Env)=>dl E' (P++Q1++Q2++Q3) gv (t+256+8+8) d3 b3.2 (by omega)) ?_;rintro e H' ⟨Q4,n4,rfl,rfl⟩;rw[hd4];repeat first|refine v_ ?_|intro
 refine L.fQ sD (S.QZ (T:=mX) (e1:=pB 4 0 0 16) rfl eS rfl FV (by rfl) sD) ?_;rintro _ _ ⟨_,rfl,rfl⟩;repeat first|refine v_ ?_|intro
 refine cl sD sK aC (λE' hE=>dw E' (P++Q1++Q2++Q3++Q4) gv (t+256+8+8+256) d4 _ _ (pB 4 0 0 16) dB o_ (λst hst=>by rw[aAp.1 hst];exact Am)) ?_;rintro e H' ⟨Q5,rfl,rfl⟩;rw[hd5];repeat first|refine v_ ?_|intro
 refine cl sD sK aC (λE' hE=>al E' (P++Q1++Q2++Q3++Q4++Q5) gv (t+256+8+8+256+1) d5 b5 135 [] AK k3 (Uq E') Le 1 o_ o_) ?_;rintro e H' ⟨Q6,rfl,rfl⟩;rw[hd6];repeat first|refine v_ ?_|intro
 refine bW (λ(E':Env)=>dl E' (P++Q1++Q2++Q3++Q4++Q5++Q6) gv (t+256+8+8+256+1+8) d6 b6.2 (by omega)) ?_;rintro e H' ⟨Q7,n7,rfl,rfl⟩;rw[hd7];repeat first|refine v_ ?_|intro
 refine bW (λ(E':Env)=>S4 E' 5) ?_;rintro e H' ⟨ga2,rfl,rfl⟩;repeat first|refine v_ ?_|intro
 refine cl sD sK aC (λE' hE=>al E' (P++Q1++Q2++Q3++Q4++Q5++Q6++Q7) gv (t+256+8+8+256+1+8+256) d7 b7 132 [pt ga2] (pH 5) k1 (KW E' ga2 5 (gE.of hE aS)) (BL 5) 0 o_ o_) ?_;rintro e H' ⟨Q8,rfl,rfl⟩;rw[hd8];repeat first|refine v_ ?_|intro
 refine bW (λ(E':Env)=>dl E' (P++Q1++Q2++Q3++Q4++Q5++Q6++Q7++Q8) gv (t+256+8+8+256+1+8+256+8) d8 b8.2 (by omega)) ?_;rintro e H' ⟨Q9,n9,rfl,rfl⟩;rw[hd9];repeat first|refine v_ ?_|intro
 refine bK (λ(E':Env)=>cfg E' (P++Q1++Q2++Q3++Q4++Q5++Q6++Q7++Q8++Q9) (t+256+8+8+256+1+8+256+8+256)) ?_;repeat first|refine v_ ?_|intro
 refine L.fQ sD (S.QZ (T:=mX) (e1:=pB 6 0 0 v.cf.cap) rfl eS rfl FV (by rfl) sD) ?_;rintro _ _ ⟨_,rfl,rfl⟩;repeat first|refine v_ ?_|intro
 refine cl sD sK aC (λE' hE=>dw E' (P++Q1++Q2++Q3++Q4++Q5++Q6++Q7++Q8++Q9) gv (t+256+8+8+256+1+8+256+8+256) d9 _ _ (pB 6 0 0 v.cf.cap) dB o_ (λst hst=>by rw[aAp.1 hst];exact Am)) ?_;rintro e H' ⟨Q10,rfl,rfl⟩;rw[hd10];repeat first|refine v_ ?_|intro
 exact aR (H':=[aQ (P++(Q1++(Q2++(Q3++(Q4++(Q5++(Q6++(Q7++(Q8++(Q9++Q10)))))))))) g (t+1200) d10.w,aI (P++(Q1++(Q2++(Q3++(Q4++(Q5++(Q6++(Q7++(Q8++(Q9++Q10))))))))))]) rfl aF (by simp only[←aAb];exact aB.trans (rS (show t+256+8+8+256+1+8+256+8+256+1≤t+1200 by omega) aC) aA) ⟨_,rfl,rfl⟩
end
theorem N2(v:Wv):v.round.w.cf=v.cf∧v.round.w.bU.length=v.bU.length:=by
 unfold Wv.round;have e:=λ(a b c:Dv) (h:a.w.cf=b.w.cf∧a.w.bU.length=b.w.bU.length) (k:b.w.cf=c.w.cf∧b.w.bU.length=c.w.bU.length)=>(⟨h.1.trans k.1,h.2.trans k.2⟩:a.w.cf=c.w.cf∧a.w.bU.length=c.w.bU.length)
 exact e _ _ ⟨v,false⟩ (oY _ _) (e _ _ _ (uC _) (e _ _ _ (oZ _ _ _) (e _ _ _ (uC _) (e _ _ _ (oZ _ _ _) (e _ _ _ (oY _ _) (e _ _ _ (uC _) (e _ _ _ (oZ _ _ _) (e _ _ _ (oZ _ _ _) (uC _)))))))))
theorem Py(v:Wv):v.start.cf=v.cf∧v.start.bU.length=v.bU.length:=by
 unfold Wv.start;have h1:=oY ⟨v,false⟩ (pB 11 0 0 0);have h2:=oZ (Dv.pE ⟨v,false⟩ (pB 11 0 0 0)) 0 (pH 14);have h3:=oZ ((Dv.pE ⟨v,false⟩ (pB 11 0 0 0)).all 0 (pH 14)) 0 (pH 13);exact⟨h3.1.trans (h2.1.trans h1.1),h3.2.trans (h2.2.trans h1.2)⟩
theorem Fk{k:Nat}{v:Wv}{sh:Bool}{n:Nat}(h:v.quiet=true):xY (k+1) v sh n=(v,n,sh):=by
 show(if v.quiet then(v,n,sh) else _)=_;rw[if_pos h]
theorem OF{k:Nat}{v:Wv}{sh:Bool}{n:Nat}(h:v.quiet=false):xY (k+1) v sh n=xY k v.round.w (v.round.short||sh) (n+1):=by
 show(if v.quiet then(v,n,sh) else _)=_;rw[if_neg (by rw[h];decide)]
section
variable (E:Env) (P:List Ov) (g t:Nat) (v:Wv)
theorem YE(ht:t≤1000)(hn:(1≤v.bU.length∧v.bU.length≤4)∧(v.bU.length:Int)=v.cf.bN):G E 11 [pt g,.int .i64 40] [aQ P g t v,aI P] λe H'=>∃Q,e=.returned (.tuple #[.int .i64 (v.fair 40).2.1,.bool (v.fair 40).2.2])∧H'=[aQ (P++Q) g (t+50000) (v.fair 40).1,aI (P++Q)]:=by
 have k1:xA 132=true:=by kernel_rfl
 have st0:=Py v;unfold Wv.fair;have hsd:v.start=((((Dv.mk v false).pE (pB 11 0 0 0)).all 0 (pH 14)).all 0 (pH 13)).w:=rfl;have al:=λE' P gv t (d:Dv) (h1:d.w.cf=v.cf∧d.w.bU.length=v.bU.length) f cs F hk law hF i hi ht=>XV E' P gv g t d f cs F hk law hF i hi ht (by rw[h1.1,h1.2];exact⟨hn.1.2,hn.2⟩);have dw:=λE' P gv A c hr=>Yp E' P gv g t ⟨v,false⟩ A 1 c [pB 11 0 0 0] hr o_ (λst hst=>by rw[aAp.1 hst];exact Am);have e1:∀(d:Dv) st,Dv.J1 d [st]=d.pE st:=λd st=>rfl;rw[e1] at dw;dsimp only[dA] at al dw;obtain⟨d1,hd1⟩:∃d,(Dv.mk v false).pE (pB 11 0 0 0)=d:=⟨_,rfl⟩
 have b1:=oY ⟨v,false⟩ (pB 11 0 0 0);rw[hd1] at b1 dw hsd;dsimp only at b1;obtain⟨d2,hd2⟩:∃d,d1.all 0 (pH 14)=d:=⟨_,rfl⟩
 have b2:=oZ d1 0 (pH 14);rw[hd2,b1.1,b1.2] at b2;rw[hd2] at hsd;obtain⟨d3,hd3⟩:∃d,d2.all 0 (pH 13)=d:=⟨_,rfl⟩
 rw[hd3] at hsd;have hclamp:dF 40 0 100=40:=by decide
 have hfe:xY 40 v.start false 0=(xY 40 v.start false 0):=rfl;generalize hfE:xY 40 v.start false 0=fE at *;clear hfe;refine t_ func11 ntmps11 ?_;repeat first|refine v_ ?_|intro
 rename_i gv;refine L.fQ sD (S.QZ (T:=mX) (e1:=pB 11 0 0 0) rfl eS rfl FV (by rfl) sD) ?_;rintro _ _ ⟨_,rfl,rfl⟩;repeat first|refine v_ ?_|intro
 refine dX (λ(E':Env)=>dw E' P gv _ _) ?_;rintro e H' ⟨Q1,rfl,rfl⟩;repeat first|refine v_ ?_|intro
 refine bW (λ(E':Env)=>S4 E' 14) ?_;rintro e H' ⟨ga1,rfl,rfl⟩;repeat first|refine v_ ?_|intro
 refine cl sD sK aC (λE' hE=>al E' (P++Q1) gv (t+1) d1 b1 132 [pt ga1] (pH 14) k1 (KW E' ga1 14 (gE.of hE aS)) (BL 14) 0 o_ o_) ?_;rintro e H' ⟨Q2,rfl,rfl⟩;rw[hd2];repeat first|refine v_ ?_|intro
 refine bW (λ(E':Env)=>S4 E' 13) ?_;rintro e H' ⟨ga2,rfl,rfl⟩;repeat first|refine v_ ?_|intro
 refine cl sD sK aC (λE' hE=>al E' (P++Q1++Q2) gv (t+1+8) d2 b2 132 [pt ga2] (pH 13) k1 (KW E' ga2 13 (gE.of hE aS)) (BL 13) 0 o_ o_) ?_;rintro e H' ⟨Q3,rfl,rfl⟩;rw[hd3,←hsd];repeat first|refine v_ ?_|intro
 rw[hclamp];refine C.loop (X:=Nat×Wv×Bool×List Ov) (λx=>[(0,pt g),(1,.int .i64 40),(7,.bool x.2.2.1),(23,.int .i64 40),(24,.int .i64 x.1)]) (λx=>[aQ (P++x.2.2.2) g (t+100+1200*x.1) x.2.1,aI (P++x.2.2.2)])
  (λx=>x.1≤40∧xY (40 - x.1) x.2.1 x.2.2.1 x.1=fE∧x.2.1.cf=v.cf∧x.2.1.bU.length=v.bU.length) (λx=>40 - x.1) (0,v.start,false,Q1++(Q2++Q3)) aD (by simp only[←aAb];exact aB.trans (rS (show t+1+8+8≤t+100+1200*0 by omega) aC) aA) ⟨aAh _,hfE,st0.1,st0.2⟩ ?_
 rintro⟨m,v1,sh,y⟩ G ⟨h1,h2,h3,h4⟩;dsimp only at h1 h2 h3 h4⊢;by_cases hlt:m<40
 ·have hn1:(1≤v1.bU.length∧v1.bU.length≤4)∧(v1.bU.length:Int)=v1.cf.bN:=by rw[h3,h4];exact hn
  have hrep:=hn1.2;have hrep1:=hn1.1.1;have cfg:=λE'=>xU E' (P++y) g (t+100+1200*m) v1;have qt:=λE'=>O7 E' (P++y) g (t+100+1200*m) v1 o_ hn1;have rd:=λE' P=>Vx E' P g (t+100+1200*m) v1 o_ hn1;have rcf:=N2 v1;rw[show 40 - m=(40 - (m+1))+1 by omega] at h2;cases hq:v1.quiet with
  |true =>
   rw[Fk hq] at h2;subst h2;rw[hq] at qt;repeat first|refine v_ ?_|intro
   refine bK cfg ?_;repeat first|refine v_ ?_|intro
   refine bW qt ?_;rintro e H' ⟨Q4,rfl,rfl⟩;repeat first|refine v_ ?_|intro
   exact vT (H':=[aQ (P++(y++Q4)) g (t+50000) v1,aI (P++(y++Q4))]) rfl aF aF (by simp only[←aAb];exact aB.trans (rS (show t+100+1200*m≤t+50000 by omega) aC) aA) ⟨_,rfl,rfl⟩
  |false =>
   rw[OF hq] at h2;rw[hq] at qt;generalize v1.round=d4 at *;obtain⟨v4,sh4⟩:=d4;dsimp only at h2 rd rcf;repeat first|refine v_ ?_|intro
   refine bK cfg ?_;repeat first|refine v_ ?_|intro
   refine bW qt ?_;rintro e H' ⟨Q4,rfl,rfl⟩;repeat first|refine v_ ?_|intro
   refine bW (λ(E':Env)=>rd E' (P++y++Q4)) ?_;rintro e H' ⟨Q5,rfl,rfl⟩;refine gk bG ?_;cases sh4 with
   |true =>
    repeat first|refine v_ ?_|intro
    exact⟨(m+1,v4,true,y++(Q4++Q5)),aD,by simp only[←aAb];exact aA,⟨by dsimp only;omega,h2,rcf.1.trans h3,rcf.2.trans h4⟩,by dsimp only;omega⟩
   |false =>
    repeat first|refine v_ ?_|intro
    exact⟨(m+1,v4,sh,y++(Q4++Q5)),aD,by simp only[←aAb];exact aA,⟨by dsimp only;omega,h2,rcf.1.trans h3,rcf.2.trans h4⟩,by dsimp only;omega⟩
 ·obtain rfl:m=40:=by omega
  have h2:(v1,40,sh)=fE:=h2;subst h2;repeat first|refine v_ ?_|intro
  rw[hclamp];exact vT (H':=[aQ (P++y) g (t+50000) v1,aI (P++y)]) rfl aF aF (aB.trans (rS (show t+100+1200*40≤t+50000 by omega) aC) aA) ⟨_,rfl,rfl⟩
end
def Bb:fU:=⟨2,40,4,1,2⟩
def vW:List cH :=
 [⟨1,0,0,0,⟨⟨0,0⟩,0,1,2,0,9,⟨0,0⟩⟩⟩,⟨1,0,0,0,⟨⟨0,0⟩,0,2,1,0,50,⟨0,0⟩⟩⟩,⟨1,0,0,0,⟨⟨0,0⟩,0,9,2,0,3,⟨0,0⟩⟩⟩,
 ⟨4,0,0,9,mW⟩,⟨3,1,0,0,mW⟩,⟨7,0,0,0,mW⟩,⟨7,0,0,0,mW⟩,
 ⟨1,1,0,0,⟨⟨0,0⟩,0,3,1,2,4,⟨0,0⟩⟩⟩,⟨5,1,0,0,mW⟩,⟨7,0,0,0,mW⟩]
theorem Uv(E:Env):G E 45 [] [] (cM (.agg Bb.cs.toArray) []):=by
 refine t_ func45 ntmps45 ?_;repeat first|refine v_ ?_|intro
 exact cI (H':=[]) (cs:=[.int .i64 2,.int .i64 40,.int .i64 4,.int .i64 1,.int .i64 2]) rfl aF rfl rfl rfl aS rfl aA ⟨rfl,rfl⟩
theorem Uo(E:Env):G E 46 [] [] λe H'=>∃A c,e=.returned (.slice A 10 c)∧H'=[own mX A 10 c vW]:=by
 refine t_ func46 ntmps46 ?_;repeat first|refine v_ ?_|intro
 refine L.fQ sD (S.pP (T:=mX) (l:=vW) rfl rfl rfl rfl sD) ?_;rintro _ _ ⟨_,rfl,rfl⟩;repeat first|refine v_ ?_|intro
 exact jQ ⟨_,_,rfl,rfl⟩
noncomputable def aw:Wv:=(Wv.new Bb).run vW
noncomputable def fw:Wv×Nat×Bool:=aw.fair 40
theorem WO:aw.app.length=1:=by kernel_rfl
theorem VA:aw.bU.length=2:=by kernel_rfl
theorem US:aw.cf.bN=2:=by kernel_rfl
theorem Zi:decide (0<fw.2.1)=true:=by kernel_rfl
theorem NT:fw.2.2=false:=by kernel_rfl
theorem Uu:fw.1.bU.length=2:=by kernel_rfl
theorem Uj:fw.1.cf.bN=2:=by kernel_rfl
theorem Pe:fw.1.quiet=true:=by kernel_rfl
theorem Vn:(fw.1.state 0).v.l.length=4:=by kernel_rfl
instance (x:Int):Decidable (dQ x):=by unfold dQ;infer_instance
instance (x:bJ):Decidable x.ok:=by unfold bJ.ok;infer_instance
instance (x:aX):Decidable x.ok:=by unfold aX.ok;infer_instance
theorem YC:decide (∀c∈(fw.1.state 0).v.l,c.ok)=true:=by kernel_rfl
theorem UQ:decide ((GJ (fw.1.state 0).v.l).length<20)=true:=by kernel_rfl
theorem Vu:decide (FP fw.1.app=Ep (fw.1.state 0).v.l)=true:=by kernel_rfl
theorem Vs:fw.1.app.length=3:=by kernel_rfl
theorem PX:decide (∀st∈vW,dQ st.c.n)=true:=by kernel_rfl
theorem OE(E:Env):G E 7 [] [] (cM (.bool true) []):=by
 refine aK.pre (aB.kP dM) ?_;have hv:(Wv.new Bb).run vW=aw:=rfl;have hw0:aw.fair 40=fw:=rfl;have hfine:Bb.cV:=by decide
 have hsok:∀st∈vW,dQ st.c.n:=of_decide_eq_true PX;have a1:=WO;have a2:(1≤aw.bU.length∧aw.bU.length≤4)∧(aw.bU.length:Int)=aw.cf.bN:=by rw[VA,US];decide
 have f1:=of_decide_eq_true Zi;have f2:=NT;have f3:(1≤fw.1.bU.length∧fw.1.bU.length≤4)∧(fw.1.bU.length:Int)=fw.1.cf.bN:=by rw[Uu,Uj];decide
 have f4:=Pe;have f5:=Vn;have f6:=of_decide_eq_true YC;have f7:=of_decide_eq_true UQ;have f8:=of_decide_eq_true Vu;have f9:=Vs;have wld:=λE' A c hr=>Is E' [] Bb hfine A 10 c vW hr sD hsok;rw[hv] at wld;have fr:=λE' P g=>YE E' P g 11 aw sD a2;rw[hw0] at fr;clear hv hw0;generalize aw=v at *;obtain⟨⟨v1,n,sh⟩,hf⟩:∃z,fw=z:=⟨_,rfl⟩
 rw[hf] at f1 f2 f3 f4 f5 f6 f7 f8 f9 fr;dsimp only at f1 f2 f3 f4 f5 f6 f7 f8 f9 fr;subst f2;obtain⟨n0,hn0⟩:∃n0,v1.bU[0]?=some n0:=⟨_,aAa o_⟩
 have hst:v1.state 0=n0.state:=by unfold Wv.state;rw[hn0]
 rw[hst] at f5 f6 f7 f8;have qt:=λE' P g=>O7 E' P g (11+50000) v1 sD f3;rw[f4] at qt;have sta:=λE' P g=>FH E' P g (11+50000) v1 0 n0 hn0 sD;refine t_ func7 ntmps7 ?_;repeat first|refine v_ ?_|intro
 refine bK Uv ?_;repeat first|refine v_ ?_|intro
 refine bW Uo ?_;rintro e H' ⟨A,c,rfl,rfl⟩;repeat first|refine v_ ?_|intro
 refine dX (λ(E':Env)=>wld E' A c) ?_;rintro e H' ⟨Q,g,rfl,rfl⟩;repeat first|refine v_ ?_|intro
 refine cl sD sK aC (λE' hE=>zZ E' _ g _ v sD) ?_;rintro e H' ⟨g2,rfl,rfl⟩;repeat first|refine v_ ?_|intro
 refine bW (λ(E':Env)=>oB E' g2 v.ref v.app (by omega)) ?_;rintro e H' ⟨A2,c2,hc2,rfl,rfl⟩;repeat first|refine v_ ?_|intro
 refine bW (λ(E':Env)=>fr E' _ g) ?_;rintro e H' ⟨Q2,rfl,rfl⟩;repeat first|refine v_ ?_|intro
 refine bW (λ(E':Env)=>sta E' _ g) ?_;rintro e H' ⟨Q3,g3,rfl,rfl⟩;repeat first|refine v_ ?_|intro
 refine bW (λ(E':Env)=>qQ E' _ g3 n0.state) ?_;rintro e H' ⟨g4,rfl,rfl⟩;repeat first|refine v_ ?_|intro
 refine bW (λ(E':Env)=>iV E' _ g4 n0.state.v) ?_;rintro e H' ⟨B,k,hk,rfl,rfl⟩;repeat first|refine v_ ?_|intro
 refine bW (λ(E':Env)=>qt E' _ g) ?_;rintro e H' ⟨Q4,rfl,rfl⟩;repeat first|refine v_ ?_|intro
 refine cl sD sK aC (λE' hE=>zZ E' _ g _ v1 sD) ?_;rintro e H' ⟨g5,rfl,rfl⟩;repeat first|refine v_ ?_|intro
 refine bW (λ(E':Env)=>oB E' g5 v1.ref v1.app (by omega)) ?_;rintro e H' ⟨A5,c5,hc5,rfl,rfl⟩;repeat first|refine v_ ?_|intro
 refine C1 (λ(E':Env) h1 h2=>QR E' A5 v1.app.length c5 v1.app h1 (by omega) B n0.state.v.l.length k n0.state.v.l h2 f6 (by omega) f7) ?_;rintro e H' ⟨rfl,rfl⟩;rw[decide_eq_true f8];repeat first|refine v_ ?_|intro
 refine cl sD sK aC (λE' hE=>zZ E' _ g _ v1 sD) ?_;rintro e H' ⟨g6,rfl,rfl⟩;repeat first|refine v_ ?_|intro
 refine bW (λ(E':Env)=>oB E' g6 v1.ref v1.app (by omega)) ?_;rintro e H' ⟨A6,c6,hc6,rfl,rfl⟩;repeat first|refine v_ ?_|intro
 exact aR rfl aF aA (⟨rJ,rfl⟩)
theorem N9{E:Env}{P Q:List Ov}{g t:Nat}{v:Wv}{H R:List aL}(hp:cS [aQ P g t v] H R):aB E H (aQ (P++Q) g t v::R):=aB.imp (aQ.mono (aAf t)) hp
section
variable (E:Env) (P:List Ov) (g1 t1:Nat) (v1:Wv)
theorem TC(cf:fU)(hf:cf.cV)(A:Option Addr)(m c:Nat)(l:List cH)(hr:Rd E mX A m c l)(hm:m≤256)(hl:∀st∈l,dQ st.c.n):G E 24 [.agg cf.cs.toArray,.slice A m c] [aQ P g1 t1 v1,aI P] λe H'=>∃Q g,e=.returned (.tuple #[pt g,.int .i64 0])∧H'=[aQ (P++Q) g1 t1 v1,aQ (P++Q) g (m+1) ((Wv.new cf).run l),aI (P++Q)]:=by
 refine aK.pre (aB.lB (l:=[aI P]) aC) (aK.post (aK.beside λE' hE=>Is E' P cf hf A m c l (hr.sub hE) hm hl) ?_);rintro e H' ⟨H1,⟨Q,g,rfl,rfl⟩,rfl⟩;dsimp only[List.cons_append,List.nil_append];exact⟨[aQ (P++Q) g1 t1 v1,aQ (P++Q) g (m+1) ((Wv.new cf).run l),aI (P++Q)],aB.trans (N9 (P:=P) (Q:=Q) (g:=g1) aC) aA,Q,g,rfl,rfl⟩
theorem Nz(g t:Nat)(v:Wv)(r:Nat)(n:Nd)(hn:v.bU[r]?=some n)(ht:t≤1000000):G E 13 [pt g,.int .i64 r] [aQ P g t v,aQ P g1 t1 v1,aI P] λe H'=>∃Q g2,e=.returned (pt g2)∧H'=[dI (P++Q) g2 n.state,aQ (P++Q) g t v,aQ (P++Q) g1 t1 v1,aI (P++Q)]:=by
 refine aK.pre (aB.lB (l:=[aQ P g t v,aI P]) aC) (aK.post (aK.beside λE' hE=>FH E' P g t v r n hn ht) ?_);rintro e H' ⟨H1,⟨Q,g2,rfl,rfl⟩,rfl⟩;dsimp only[List.cons_append,List.nil_append];exact⟨[dI (P++Q) g2 n.state,aQ (P++Q) g t v,aQ (P++Q) g1 t1 v1,aI (P++Q)],aB.trans (N9 (P:=P) (Q:=Q) (g:=g1) aC) aA,Q,g2,rfl,rfl⟩
theorem Iv(g t:Nat)(v:Wv)(ht:t≤20000):G E 28 [pt g] [aQ P g t v] λe H'=>∃B k,e=.returned (.slice B v.aW.length k)∧H'=[own mK B v.aW.length k v.aW,aQ P g t v]:=by
 refine zT E P g t v (R:=[]) λx ho hx=>?_;have rK:=ho.rK;have hsn:=ho.aW;have his:=λE' hb=>Ix E' g x v.now v.aW.length v.cf v.bU.length v.sub hb rK.2;rw[decide_eq_true o_] at his;have cn:=λE' hr=>RO E' x.sA v.aW.length x.sc v.aW hr o_;dsimp only[List.cons_append,List.nil_append];refine t_ func28 ntmps28 ?_;repeat first|refine v_ ?_|intro
 refine eV his ?_;repeat first|refine v_ ?_|intro
 refine dX cn ?_;rintro e H' ⟨B,k,hk,rfl,rfl⟩;repeat first|refine v_ ?_|intro
 exact aR (H':=[own mK B v.aW.length k v.aW,aQ P g t v]) rfl aF (aB.trans (BR (x:=x) ho hx aC) aA) ⟨B,k,rfl,rfl⟩
end
theorem L.r7{N:Nat}{E:Env}{F:Nat→Value}{H R:List aL}{Q:QF}{ops os:List Oper}{P:List Ov}{g t:Nat}{v:Wv}(hh:Has (aQ P g t v) H R)(h:v.ok t→L prog N E ops Q os F H):L prog N E ops Q os F H:=⟨λa w ha hw=>by
 obtain⟨x,hx,_⟩:=hw.Jn hh;exact(h hx.1).get a w ha hw⟩
theorem C.gd{N:Nat}{E:Env}{F:Nat→Value}{H R:List aL}{Q:QF}{cd:Code}{P:List Ov}{g:Nat}{s:Sv}(hh:Has (dI P g s) H R)(h:Gd s→C prog N E cd Q F H):C prog N E cd Q F H:=⟨λa w ha hw=>by
 obtain⟨x,hx,_⟩:=hw.Jn hh;exact(h hx.2).get a w ha hw⟩
theorem Kz(E:Env)(cf:fU)(hf:¬cf.cV)(A:Option Addr)(m c:Nat)(l:List cH)(hr:Rd E mX A m c l)(r:Int):G E 4 [.agg cf.cs.toArray,.slice A m c,.int .i64 r] [] (cM (.bool true) []):=by
 have wld:=λE' sl=>LW E' cf hf sl;have fin:=λE'=>XW E' cf;rw[decide_eq_false hf] at fin;refine t_ func4 ntmps4 ?_;repeat first|refine v_ ?_|intro
 refine bK OE ?_;repeat first|refine v_ ?_|intro
 refine eV (λ(E':Env) h1=>XQ E' A m c l h1 60) ?_;repeat first|refine v_ ?_|intro
 refine bK (λ(E':Env)=>wld E' _) ?_;repeat first|refine v_ ?_|intro
 refine bK (λ(E':Env)=>wld E' _) ?_;repeat first|refine v_ ?_|intro
 refine bK fin ?_;repeat first|refine v_ ?_|intro
 exact e1_
theorem NY{r:Int}{n:Nat}(h:1≤n):∃j:Nat,Sa r 0 ((n:Int) - 1)=(j:Int)∧j<n:=by
 unfold Sa;split
 ·exact⟨0,rfl,by omega⟩
 split
 ·exact⟨n - 1,by omega,by omega⟩
 ·exact⟨r.toNat,by omega,by omega⟩
theorem Vf(l:List cH):∀v:Wv,(v.run l).cf=v.cf∧(v.run l).bU.length=v.bU.length:=by
 induction l with
 |nil=>exact λv=>⟨rfl,rfl⟩
 |cons st l ih=>exact λv=>⟨(ih (v.step st).1).1.trans (Eg v st).1,(ih (v.step st).1).2.trans (Eg v st).2⟩
theorem VB(E:Env)(cf:fU)(hf:cf.cV)(A:Option Addr)(m c:Nat)(l:List cH)(hr:Rd E mX A m c l)(hl:∀st∈l,dQ st.c.n)(r:Int):G E 4 [.agg cf.cs.toArray,.slice A m c,.int .i64 r] [] (cM (.bool true) []):=by
 refine aK.pre (aB.kP dM) ?_;have hlen:=hr.len;have hcap:=hr.cap;have hmax:=fX;have hr2:Rd E mX A (min m 60) c (l.take 60):=by
  have h:=hr.upto (k:=min m 60) (m:=c) o_ o_ (aAf _);by_cases h60:m≤60
  ·rw[aBr h60,aAj o_] at h⊢;exact h
  ·rw[aFe o_] at h⊢;exact h
 have hl2:∀st∈l.take 60,dQ st.c.n:=λst h=>hl st (aBs h);have hm2:min m 60≤60:=Nat.min_le_right _ _;have rK:=λE' hr=>XQ E' A m c l hr 60;have wld:=λE' hr=>Is E' [] cf hf A (min m 60) c (l.take 60) hr o_ hl2;have wldB:=λE' P g1 t1 v1 hr=>TC E' P g1 t1 v1 cf hf A (min m 60) c (l.take 60) hr o_ hl2;have hrc:=Vf (l.take 60) (Wv.new cf);have hfr:=hf.1;have hnl:(Wv.new cf).bU.length=cf.bN.toNat:=rX _ _;rw[hnl] at hrc;have hcfn:(Wv.new cf).cf=cf:=rfl;rw[hcfn] at hrc;clear hnl hcfn;generalize (Wv.new cf).run (l.take 60)=v at *;generalize min m 60=m2 at *;have hrep:cf.bN=((cf.bN.toNat:Nat):Int):=by omega
 obtain⟨j,hj,hjn⟩:=NY (r:=r) (n:=cf.bN.toNat) o_;rw[←hrep] at hj;obtain⟨nd,hnd⟩:∃nd,v.bU[j]?=some nd:=⟨_,aAa o_⟩
 have nea:=λE'=>Xs E' r 0 (cf.bN - 1);rw[hj] at nea;have sta:=λE' P ga g1=>Nz E' P g1 (m2+1) v ga (m2+1) v j nd hnd o_;refine t_ func4 ntmps4 ?_;repeat first|refine v_ ?_|intro
 refine bK OE ?_;repeat first|refine v_ ?_|intro
 refine eV rK ?_;repeat first|refine v_ ?_|intro
 refine cl sD sK aC (λE' hE=>wld E' (hr2.sub hE)) ?_;rintro e H' ⟨Q1,g1,rfl,rfl⟩;repeat first|refine v_ ?_|intro
 refine cl sD sK aC (λE' hE=>wldB E' _ g1 (m2+1) v (hr2.sub hE)) ?_;rintro e H' ⟨Q2,g2,rfl,rfl⟩;repeat first|refine v_ ?_|intro
 refine bK nea ?_;repeat first|refine v_ ?_|intro
 refine bW (λ(E':Env)=>sta E' _ g1 g2) ?_;rintro e H' ⟨Q3,g3,rfl,rfl⟩;repeat first|refine v_ ?_|intro
 refine cl sD sK aC (λE' hE=>zZ E' _ g1 _ v o_) ?_;rintro e H' ⟨g4,rfl,rfl⟩;repeat first|refine v_ ?_|intro
 refine bW (λ(E':Env)=>CF E' _ g1 _ v) ?_;rintro e H' ⟨g5,rfl,rfl⟩;repeat first|refine v_ ?_|intro
 refine bW (λ(E':Env)=>SV E' _ g3 nd.state) ?_;rintro e H' ⟨A3,n3,c3,hn3,rfl,rfl⟩;repeat first|refine v_ ?_|intro
 refine L.r7 (g:=g1) (t:=m2+1) (v:=v) (.aM (.aM (.aM .aN))) λhok=>?_;have ho:v.app.length≤m2+1:=hok.app;have hsn:v.aW.length≤48*(m2+1):=hok.aW;clear hok;refine bW (λ(E':Env)=>oB E' g4 v.ref v.app (by omega)) ?_;rintro e H' ⟨A4,c4,hc4,rfl,rfl⟩;repeat first|refine v_ ?_|intro
 refine cl sD sK aC (λE' hE=>Iv E' _ g1 _ v o_) ?_;rintro e H' ⟨A6,c6,rfl,rfl⟩;repeat first|refine v_ ?_|intro
 generalize hP3:[]++Q1++Q2++Q3=P3 at *;refine C.loop (X:=Nat×List dK) (λx=>[(2,.int .i64 j),(7,pt g1),(9,pt g2),(11,pt g3),(12,pt g4),(13,pt g5),(14,.slice A3 n3 c3),(15,.slice A4 v.app.length c4),(16,.slice A6 v.aW.length c6),(17,.int .i64 x.1)])
  (λx=>[own aU A3 n3 c3 (fJ nd.state),dI P3 g3 nd.state,aZ g5 v.ws,aQ P3 g1 (m2+1) v,cK g4 v.ref v.app,aQ P3 g2 (m2+1) v,aI P3,own mK A6 v.aW.length c6 v.aW,own cP A4 v.app.length c4 x.2])
  (λx=>x.1≤v.app.length∧x.2.length=v.app.length) (λx=>v.app.length - x.1) (0,v.app) aD aA ⟨aAh _,rfl⟩ ?_
 rintro⟨i,a⟩ G1 ⟨h1,h2⟩;dsimp only at h1 h2⊢;by_cases hi:i<v.app.length
 ·obtain⟨e,he⟩:∃e,a[i]?=some e:=⟨_,aAa o_⟩
  repeat first|refine v_ ?_|intro
  refine L.pX (S.Eo (e':=wN) rfl rfl rfl dH he rfl rfl rfl) ?_;rintro _ _ ⟨rfl,rfl⟩;repeat first|refine v_ ?_|intro
  exact⟨(i+1,a.set i wN),aD,aA,⟨by dsimp only;omega,by dsimp only;rw[aAt];exact h2⟩,by dsimp only;omega⟩
 obtain rfl:i=v.app.length:=by omega
 repeat first|refine v_ ?_|intro
 refine C.loop (X:=Nat×List fM) (λx=>[(2,.int .i64 j),(7,pt g1),(9,pt g2),(11,pt g3),(12,pt g4),(13,pt g5),(14,.slice A3 n3 c3),(16,.slice A6 v.aW.length c6),(18,.int .i64 x.1)])
  (λx=>[own aU A3 n3 c3 (fJ nd.state),dI P3 g3 nd.state,aZ g5 v.ws,aQ P3 g1 (m2+1) v,cK g4 v.ref v.app,aQ P3 g2 (m2+1) v,aI P3,own mK A6 v.aW.length c6 x.2])
  (λx=>x.1≤v.aW.length∧x.2.length=v.aW.length) (λx=>v.aW.length - x.1) (0,v.aW) aD aA ⟨aAh _,rfl⟩ ?_
 rintro⟨i,a⟩ G2 ⟨h1,h2⟩;dsimp only at h1 h2⊢;by_cases hi:i<v.aW.length
 ·obtain⟨e,he⟩:∃e,a[i]?=some e:=⟨_,aAa o_⟩
  repeat first|refine v_ ?_|intro
  refine L.pX (S.Eo (e':=Pj) rfl rfl rfl dH he rfl rfl rfl) ?_;rintro _ _ ⟨rfl,rfl⟩;repeat first|refine v_ ?_|intro
  exact⟨(i+1,a.set i Pj),aD,aA,⟨by dsimp only;omega,by dsimp only;rw[aAt];exact h2⟩,by dsimp only;omega⟩
 obtain rfl:i=v.aW.length:=by omega
 have gdo:=λE'=>Yg E' g4 v.ref v.app ⟨⟨⟨0,0⟩,77,false⟩,⟨0,0,0,⟨0,0⟩⟩⟩ o_;generalize L8 v.ref v.app ⟨⟨⟨0,0⟩,77,false⟩,⟨0,0,0,⟨0,0⟩⟩⟩=gz at *;have wpt:=λE'=>TO E' g5 v.ws 1 none 0 0 [] (Rd.nil _ _) o_;generalize zX v.ws ⟨1,[],false⟩=wz at *;have mk:=λE'=>T3 E' P3 g3 nd.state ⟨⟨0,0⟩,0,2,0,0,1,⟨0,0⟩⟩;generalize nd.state.make ⟨⟨0,0⟩,0,2,0,0,1,⟨0,0⟩⟩=mz2 at *;obtain⟨xc,xe⟩:=mz2;dsimp only at mk;repeat first|refine v_ ?_|intro
 refine bK gdo ?_;repeat first|refine v_ ?_|intro
 refine bK wpt ?_;repeat first|refine v_ ?_|intro
 refine bK mk ?_;repeat first|refine v_ ?_|intro
 rename_i gx;refine bW (λ(E':Env)=>Kn E' P3 g3 nd.state) ?_;rintro e H' ⟨O,oc,chl,hcs,rfl,rfl⟩;repeat first|refine v_ ?_|intro
 refine C.gd (P:=P3) (g:=g3) (s:=nd.state) (by first|exact aS) λhgd=>?_;have hps:=hgd.np;clear hgd;generalize hPn:nd.state.ps.length=pn at *;have hcl:chl.length=pn:=by rw[hcs.len,hPn]
 refine C.loop (X:=Nat×Unit) (λz=>[(2,.int .i64 j),(7,pt g1),(9,pt g2),(11,pt g3),(14,.slice A3 n3 c3),(19,pt gx),(21,.slice O pn oc),(22,.int .i64 z.1)])
  (λz=>[own aU A3 n3 c3 (fJ nd.state),dI P3 g3 nd.state,aQ P3 g1 (m2+1) v,aQ P3 g2 (m2+1) v,aI P3,aJ gx 34 xc.cs,own pZ O pn oc chl,aO mV (chl.drop z.1)])
  (λz=>z.1≤pn) (λz=>pn - z.1) (0,()) aD (by show aB E _ [own aU A3 n3 c3 (fJ nd.state),dI P3 g3 nd.state,aQ P3 g1 (m2+1) v,aQ P3 g2 (m2+1) v,aI P3,aJ gx 34 xc.cs,own pZ O pn oc chl,aO mV chl];exact aA) (aAh _) ?_
 rintro⟨i,⟨⟩⟩ G3 h3;dsimp only at h3⊢;by_cases hi3:i<pn
 ·obtain⟨x,hx⟩:∃x,chl[i]?=some x:=⟨_,aAa o_⟩
  obtain⟨p,hp⟩:∃p,nd.state.ps[i]?=some p:=⟨_,aAa o_⟩
  obtain⟨x',hx',_,_,hxl,hxn,hxc,hxm⟩:=hcs.at_ i p hp;rw[hx] at hx';injection hx' with hx'
  subst hx';rw[←hxl] at hxn;have hd0:(chl.drop i)[0]?=some x:=by rw[aCv];exact hx
  refine C.conv (H':=mV x::aO mV ((chl.drop i).eraseIdx 0)::[own aU A3 n3 c3 (fJ nd.state),dI P3 g3 nd.state,aQ P3 g1 (m2+1) v,aQ P3 g2 (m2+1) v,aI P3,aJ gx 34 xc.cs,own pZ O pn oc chl]) (aB.out (f:=mV) (.aM (.aM (.aM (.aM (.aM (.aM (.aM .aN))))))) hd0) ?_;rw[Ct o_];generalize hwr:chl.drop (i+1)=wr at *;dsimp only[mV];repeat first|refine v_ ?_|intro
  refine C.loop (X:=Nat×List bH) (λy=>[(2,.int .i64 j),(7,pt g1),(9,pt g2),(11,pt g3),(14,.slice A3 n3 c3),(19,pt gx),(21,.slice O pn oc),(22,.int .i64 i),(23,.int .i64 y.1)])
   (λy=>[own aU A3 n3 c3 (fJ nd.state),dI P3 g3 nd.state,aQ P3 g1 (m2+1) v,aQ P3 g2 (m2+1) v,aI P3,aJ gx 34 xc.cs,own pZ O pn oc chl,own fH x.A x.n x.c y.2,aO mV wr])
   (λy=>y.1≤x.n∧y.2.length=x.n) (λy=>x.n - y.1) (0,x.l) aD aA ⟨aAh _,hxn.symm⟩ ?_
  rintro⟨k,le⟩ G4 ⟨h4,h5⟩;dsimp only at h4 h5⊢;by_cases hk4:k<x.n
  ·obtain⟨e,he⟩:∃e,le[k]?=some e:=⟨_,aAa o_⟩
   have hF:Ba fH e 0 (.int .i64 0) ⟨0,e.bC,e.aW,e.last,e.cX,e.gone,e.back,e.cJ⟩:=Ba.Yu rfl sD rfl;repeat first|refine v_ ?_|intro
   exact⟨(k+1,le.set k ⟨0,e.bC,e.aW,e.last,e.cX,e.gone,e.back,e.cJ⟩),aD,aA,⟨by dsimp only;omega,by dsimp only;rw[aAt];exact h5⟩,by dsimp only;omega⟩
  ·have hkk:k=x.n:=by omega
   repeat first|refine v_ ?_|intro
   exact⟨(i+1,()),aD,by dsimp only;rw[hwr];exact aA,by dsimp only;omega,by dsimp only;omega⟩
 obtain rfl:i=pn:=by omega
 clear hcl hcs;repeat first|refine v_ ?_|intro
 refine bW (λ(E':Env)=>qQ E' P3 g3 nd.state) ?_;rintro e H' ⟨g7,rfl,rfl⟩;repeat first|refine v_ ?_|intro
 refine bW (λ(E':Env)=>iV E' P3 g7 nd.state.v) ?_;rintro e H' ⟨B7,k7,hk7,rfl,rfl⟩;repeat first|refine v_ ?_|intro
 generalize hCn:nd.state.v.l.length=cn at *;refine C.loop (X:=Nat×List aX) (λx=>[(2,.int .i64 j),(7,pt g1),(9,pt g2),(14,.slice A3 n3 c3),(19,pt gx),(24,.slice B7 cn k7),(25,.int .i64 x.1)])
  (λx=>[own aU A3 n3 c3 (fJ nd.state),aQ P3 g1 (m2+1) v,aQ P3 g2 (m2+1) v,aI P3,aJ gx 34 xc.cs,own bE B7 cn k7 x.2])
  (λx=>x.1≤cn∧x.2.length=cn) (λx=>cn - x.1) (0,nd.state.v.l) aD aA ⟨aAh _,hCn⟩ ?_
 rintro⟨i,a⟩ G5 ⟨h8,h9⟩;dsimp only at h8 h9⊢;by_cases hi8:i<cn
 ·obtain⟨e,he⟩:∃e,a[i]?=some e:=⟨_,aAa o_⟩
  repeat first|refine v_ ?_|intro
  exact⟨(i+1,a.set i xc),aD,aA,⟨by dsimp only;omega,by dsimp only;rw[aAt];exact h9⟩,by dsimp only;omega⟩
 obtain rfl:i=cn:=by omega
 have hd:decide (fJ nd.state=fJ nd.state)=true:=decide_eq_true rfl;have hd2:(decide (nd.state.r=nd.state.r)&&decide (fJ nd.state=fJ nd.state))=true:=by rw[decide_eq_true rfl,decide_eq_true rfl];rfl
 have hd3:decide (v.app=v.app)=true:=decide_eq_true rfl;have hd4:decide (v.aW=v.aW)=true:=decide_eq_true rfl;have hd5:decide ((v.ws.length:Int)=(v.ws.length:Int))=true:=decide_eq_true rfl;repeat first|refine v_ ?_|intro
 refine rB (l_ [0,1,5,6] (g_ 2 (g_ 3 (l_ [4,7,8,9,10,12,13] (g_ 11 (g_ 14 (g_ 15 (l_ [16,17,18,21] (g_ 19 (g_ 20 (g_ 22 (g_ 23 (g_ 24 (l_ [25,26,27,30] (g_ 28 (g_ 29 (g_ 31 (g_ 32 (l_ [33,34,35,36,38] (g_ 37 (g_ 39 (g_ 40 (l_ [41,42] .nil))))))))))))))))))))))) ([own aU A3 n3 c3 (fJ nd.state)]) ?_;repeat first|refine v_ ?_|intro
 refine iO (λ(E':Env)=>sta E' P3 g1 g2) ?_;rintro e H' ⟨Q4,g8,rfl,rfl⟩;repeat first|refine v_ ?_|intro
 refine iO (λ(E':Env)=>SV E' _ g8 nd.state) ?_;rintro e H' ⟨A9,n9,c9,hn9,rfl,rfl⟩;refine gd bG aA ?_;refine Dr.more (Hk':=([own aU A9 n9 c9 (fJ nd.state),own aU A3 n3 c3 (fJ nd.state)])) aA aA ?_;repeat first|refine v_ ?_|intro
 refine iO (λ(E':Env)=>sta E' _ g1 g2) ?_;rintro e H' ⟨Q5,g10,rfl,rfl⟩;repeat first|refine v_ ?_|intro
 refine iO (λ(E':Env)=>sta E' _ g2 g1) ?_;rintro e H' ⟨Q6,g11,rfl,rfl⟩;repeat first|refine v_ ?_|intro
 refine iO (λ(E':Env)=>YN E' _ g10 nd.state _ g11 nd.state) ?_;rintro e H' ⟨rfl,rfl⟩;rw[hd2];repeat first|refine v_ ?_|intro
 refine cg rfl sD bA sK aC (λE' hE=>zZ E' _ g1 _ v o_) ?_;rintro e H' ⟨g12,rfl,rfl⟩;repeat first|refine v_ ?_|intro
 refine iO (λ(E':Env)=>oB E' g12 v.ref v.app (by omega)) ?_;rintro e H' ⟨A12,c12,hc12,rfl,rfl⟩;repeat first|refine v_ ?_|intro
 refine cg rfl sD bA sK aC (λE' hE=>zZ E' _ g2 _ v o_) ?_;rintro e H' ⟨g13,rfl,rfl⟩;repeat first|refine v_ ?_|intro
 refine iO (λ(E':Env)=>oB E' g13 v.ref v.app (by omega)) ?_;rintro e H' ⟨A13,c13,hc13,rfl,rfl⟩;repeat first|refine v_ ?_|intro
 refine OW (λ(E':Env)=>SY E' A12 _ c12 A13 _ c13 v.app v.app) ?_;rintro e H' ⟨rfl,rfl⟩;rw[hd3];repeat first|refine v_ ?_|intro
 refine iO (λ(E':Env)=>CF E' _ g1 _ v) ?_;rintro e H' ⟨g14,rfl,rfl⟩;repeat first|refine v_ ?_|intro
 refine eJ (λ(E':Env)=>Ko E' g14 v.ws) ?_;repeat first|refine v_ ?_|intro
 refine iO (λ(E':Env)=>CF E' _ g2 _ v) ?_;rintro e H' ⟨g15,rfl,rfl⟩;repeat first|refine v_ ?_|intro
 refine eJ (λ(E':Env)=>Ko E' g15 v.ws) ?_;repeat first|refine v_ ?_|intro
 refine cg rfl sD bA sK aC (λE' hE=>Iv E' _ g1 _ v o_) ?_;rintro e H' ⟨A16,c16,rfl,rfl⟩;repeat first|refine v_ ?_|intro
 refine cg rfl sD bA sK aC (λE' hE=>Iv E' _ g2 _ v o_) ?_;rintro e H' ⟨A17,c17,rfl,rfl⟩;repeat first|refine v_ ?_|intro
 refine OW (λ(E':Env)=>Qv E' A16 _ c16 A17 _ c17 v.aW v.aW) ?_;rintro e H' ⟨rfl,rfl⟩;rw[hd4];repeat first|refine v_ ?_|intro
 exact e1_
theorem topOwn(E:Env)(cf:fU)(A:Option Addr)(m c:Nat)(l:List cH)(hr:Rd E mX A m c l)(hl:∀st∈l,st.ok)(r:Int):aK prog E 4 #[.agg cf.cs.toArray,.slice A m c,.int .i64 r] [] λe _=>e=.returned (.bool true):=by
 by_cases hf:cf.cV
 ·exact aK.post (VB E cf hf A m c l hr (λst h=>(hl st h).2.2.2.2.2.2.2.2.2.1) r) λe H' h=>⟨H',aB.refl,h.1⟩
 ·exact aK.post (Kz E cf hf A m c l hr r) λe H' h=>⟨H',aB.refl,h.1⟩
end Go.Proofs.YtmilalkjbojciaaGreat.Sep
namespace Go.Proofs.YtmilalkjbojciaaGreat.Sep
open Go.RowKit Reg Go.ChangeShapes Go.WideShapes Go.ChangeAt Go.Deep Go.Proofs.YtmilalkjbojciaaGreat.Open
open Mem hiding Rd
section
variable {H:Type} {enc:TypeId×Value→H} {W:World} {α:Type}
theorem uT{n:Nat}{t:TypeId}{fs:Array Field}{cs:List Value}{y:DataW H×List MemPlace}(ht:prog.underlying t=some (.struct fs))(h:DataW.trod enc prog W 0 (λ_=>true) true n t cs=some y) :
  ∃n',∀(j:Nat) (f:Field) (M5:List Value) (k:Nat),fs[j]?=some f→prog.cellsOf f.type=k→(cs.drop f.offset).take k=M5→∃z:DataW H×List MemPlace,DataW.trod enc prog W 0 (λ_=>true) true n' f.type M5=some z:=by
 obtain⟨ys,n',hn',hy,hlen,hyl,hf⟩:=DataW.trod_struct ht h;refine⟨n',λj f M5 k hj hk hs=>?_⟩;have hjl:j<fs.size:=(aBv.1 hj).1;have h1:=hf j f hj;rw[hk,hs] at h1;have hys:ys[j]?=some (ys[j]'o_):=aAa o_;exact⟨_,h1.trans hys⟩
theorem Ni(T:Ty α)(R:DataW H→α→Prop)(hce:prog.cellsOf T.tid=T.size)
  (dec:∀n cs y,cs.length=T.size→DataW.trod enc prog W 0 (λ_=>true) true n T.tid cs=some y→∃a,cs=T.enc a∧R y.1 a)
  {fs:Array Field} {v:Value} {d:DataW H} {p:List MemPlace} {base:Nat} (ht:prog.underlying T.tid=some (.struct fs)) (hv:Value.okWide prog W .any base T.tid v) (h:DataW.Trod enc prog W 0 (λ_=>true) true T.tid v d p) :
  ∃a,v=T.val a∧R d a:=by
 unfold Value.okWide at hv;rw[ht] at hv;obtain⟨cs,rfl,hs,_⟩:=hv;obtain⟨fuel,hf⟩:=h;have hc:(Value.agg cs).cells.toList=cs.toList:=rfl;rw[hc] at hf;obtain⟨a,ha,hR⟩:=dec _ _ _ (by rw[aDs,hs,hce]) hf;refine⟨a,?_,hR⟩;rcases T.nR with⟨_,hg⟩|⟨hg,_⟩
 ·obtain⟨cs',e⟩:=hg a;have h2:T.enc a=cs'.toList:=by unfold Ty.enc;rw[e];rfl
  rw[e,show cs=cs' from Array.ext' (ha.trans h2)]
 ·rw[ht] at hg;simp[lT] at hg
end
section
variable {H:Type} {enc:TypeId×Value→H} {W:World}
theorem GK:∀n cs y,cs.length=fN.size→DataW.trod enc prog W 0 (λ_=>true) true n fN.tid cs=some y→∃x,cs=fN.enc x∧(λ_ x=>x.ok:DataW H→bJ→Prop) y.1 x:=by
 intro n cs y hl h
 match cs,hl with
 | [c0,c1],_ =>
  obtain⟨n',hf⟩:=uT underlying32 h;obtain⟨z0,h0⟩:=hf 0 _ [c0] 1 rfl q_ rfl;obtain⟨i0,rfl,w0⟩:=gA (k:=.i64) q_ h0;obtain⟨z1,h1⟩:=hf 1 _ [c1] 1 rfl q_ rfl;obtain⟨i1,rfl,w1⟩:=gA (k:=.i64) q_ h1;exact⟨⟨i0,i1⟩,rfl,bounds_i64 w0,bounds_i64 w1⟩
theorem P5:∀n cs y,cs.length=bE.size→DataW.trod enc prog W 0 (λ_=>true) true n bE.tid cs=some y→∃x,cs=bE.enc x∧(λ_ x=>x.ok:DataW H→aX→Prop) y.1 x:=by
 intro n cs y hl h
 match cs,hl with
 | [c0,c1,c2,c3,c4,c5,c6,c7,c8],_ =>
  obtain⟨n',hf⟩:=uT underlying34 h;obtain⟨z0,h0⟩:=hf 0 _ [c0,c1] 2 rfl q_ rfl;obtain⟨i0,e0,w0⟩:=GK _ _ _ rfl h0;change _=i0.cs at e0;simp only[bJ.cs,List.cons.injEq,and_true] at e0;obtain⟨rfl,rfl⟩:=e0;obtain⟨z1,h1⟩:=hf 1 _ [c2] 1 rfl q_ rfl;obtain⟨i1,rfl,w1⟩:=gA (k:=.i64) q_ h1;obtain⟨z2,h2⟩:=hf 2 _ [c3] 1 rfl q_ rfl;obtain⟨i2,rfl,w2⟩:=gA (k:=.i64) q_ h2;obtain⟨z3,h3⟩:=hf 3 _ [c4] 1 rfl q_ rfl;obtain⟨i3,rfl,w3⟩:=gA (k:=.i64) q_ h3;obtain⟨z4,h4⟩:=hf 4 _ [c5] 1 rfl q_ rfl;obtain⟨i4,rfl,w4⟩:=gA (k:=.i64) q_ h4;obtain⟨z5,h5⟩:=hf 5 _ [c6] 1 rfl q_ rfl;obtain⟨i5,rfl,w5⟩:=gA (k:=.i64) q_ h5;obtain⟨z6,h6⟩:=hf 6 _ [c7,c8] 2 rfl q_ rfl;obtain⟨i6,e6,w6⟩:=GK _ _ _ rfl h6;change _=i6.cs at e6;simp only[bJ.cs,List.cons.injEq,and_true] at e6;obtain⟨rfl,rfl⟩:=e6;exact⟨⟨i0,i1,i2,i3,i4,i5,i6⟩,rfl,w0,bounds_i64 w1,bounds_i64 w2,bounds_i64 w3,bounds_i64 w4,bounds_i64 w5,w6⟩
theorem PT:∀n cs y,cs.length=Qh.size→DataW.trod enc prog W 0 (λ_=>true) true n Qh.tid cs=some y→∃x,cs=Qh.enc x∧(λ_ x=>x.ok:DataW H→fU→Prop) y.1 x:=by
 intro n cs y hl h
 match cs,hl with
 | [c0,c1,c2,c3,c4],_ =>
  obtain⟨n',hf⟩:=uT underlying23 h;obtain⟨z0,h0⟩:=hf 0 _ [c0] 1 rfl q_ rfl;obtain⟨i0,rfl,w0⟩:=gA (k:=.i64) q_ h0;obtain⟨z1,h1⟩:=hf 1 _ [c1] 1 rfl q_ rfl;obtain⟨i1,rfl,w1⟩:=gA (k:=.i64) q_ h1;obtain⟨z2,h2⟩:=hf 2 _ [c2] 1 rfl q_ rfl;obtain⟨i2,rfl,w2⟩:=gA (k:=.i64) q_ h2;obtain⟨z3,h3⟩:=hf 3 _ [c3] 1 rfl q_ rfl;obtain⟨i3,rfl,w3⟩:=gA (k:=.i64) q_ h3;obtain⟨z4,h4⟩:=hf 4 _ [c4] 1 rfl q_ rfl;obtain⟨i4,rfl,w4⟩:=gA (k:=.i64) q_ h4;exact⟨⟨i0,i1,i2,i3,i4⟩,rfl,bounds_i64 w0,bounds_i64 w1,bounds_i64 w2,bounds_i64 w3,bounds_i64 w4⟩
theorem LM{v:Value}{d:DataW H}{p:List MemPlace}{base:Nat}(hv:Value.okWide prog W .any base 23 v)(h:DataW.Trod enc prog W 0 (λ_=>true) true 23 v d p):∃x:fU,v=.agg x.cs.toArray∧x.ok:=Ni Qh (λ_ x=>x.ok) q_ PT underlying23 hv h
theorem PU:∀n cs y,cs.length=mX.size→DataW.trod enc prog W 0 (λ_=>true) true n mX.tid cs=some y→∃x,cs=mX.enc x∧(λ_ x=>x.ok:DataW H→cH→Prop) y.1 x:=by
 intro n cs y hl h
 match cs,hl with
 | [c0,c1,c2,c3,c4,c5,c6,c7,c8,c9,c10,c11,c12],_ =>
  obtain⟨n',hf⟩:=uT underlying39 h;obtain⟨z0,h0⟩:=hf 0 _ [c0] 1 rfl q_ rfl;obtain⟨i0,rfl,w0⟩:=gA (k:=.i64) q_ h0;obtain⟨z1,h1⟩:=hf 1 _ [c1] 1 rfl q_ rfl;obtain⟨i1,rfl,w1⟩:=gA (k:=.i64) q_ h1;obtain⟨z2,h2⟩:=hf 2 _ [c2] 1 rfl q_ rfl;obtain⟨i2,rfl,w2⟩:=gA (k:=.i64) q_ h2;obtain⟨z3,h3⟩:=hf 3 _ [c3] 1 rfl q_ rfl;obtain⟨i3,rfl,w3⟩:=gA (k:=.i64) q_ h3;obtain⟨z4,h4⟩:=hf 4 _ [c4,c5,c6,c7,c8,c9,c10,c11,c12] 9 rfl q_ rfl;obtain⟨i4,e4,w4⟩:=P5 _ _ _ rfl h4;change _=i4.cs at e4;simp only[aX.cs,List.cons.injEq,and_true] at e4;obtain⟨rfl,rfl,rfl,rfl,rfl,rfl,rfl,rfl,rfl⟩:=e4;exact⟨⟨i0,i1,i2,i3,i4⟩,rfl,bounds_i64 w0,bounds_i64 w1,bounds_i64 w2,bounds_i64 w3,w4⟩
theorem Jm{v:Value}{d:DataW H}{p:List MemPlace}{base:Nat}(hv:Value.okWide prog W .any base 64 v)(h:DataW.Trod enc prog W 0 (λ_=>true) true 64 v d p) :
  ∃A n c l,v=.slice A n c∧Rd (top W) mX A n c l∧Sh (λ_ x=>x.ok) d l c:=P8 mX (λ_ x=>x.ok) q_ PU underlying64 hv h
end
end Go.Proofs.YtmilalkjbojciaaGreat.Sep
namespace Go.Proofs.YtmilalkjbojciaaGreat.topOwn
open Go.ChangeShapes Go.WideShapes Go.ChangeAt Go.RowKit Go.Proofs.YtmilalkjbojciaaGreat.Open Go.Proofs.YtmilalkjbojciaaGreat.Sep
theorem own:ownKnob prog.godebug=none:=by kernel_rfl
theorem QK(H:Type)(enc:TypeId×Value→H)(W:World)(base:Nat)(args:Array Value)(ds gs:List (DataW H))(before:List MemPlace)
  (hval:∀(j:Nat) t v,Tryz.f4.params[j]?=some t→args[j]?=some v→Value.okWide prog W .any base t v)
  (hW:DataW.Whole enc prog Tryz.f4.params.toList Rows.topOwnSpec.vars false W args.toList ds gs before) :
  Calls prog 4 args W λe W'=>∃v,e=.returned v∧Rows.topOwnSpec.post enc prog Tryz.f4 false true false false W args v W':=by
 have hW':=hW;obtain⟨p,q,hA0,hV,rfl,hfz,hnd⟩:=hW;have hA:DataW.TrodAll enc prog W 0 (λ_=>true) true Tryz.f4.params.toList args.toList ds p:=hA0;rw[Tryz.params4] at hA hval;obtain⟨v0,vs0,d0,ds0,p0,q0,hargs,rfl,rfl,h0,r0⟩:=trodAll_cons hA;obtain⟨v1,vs1,d1,ds1,p1,q1,rfl,rfl,rfl,h1,r1⟩:=trodAll_cons r0;obtain⟨v2,vs2,d2,ds2,p2,q2,rfl,rfl,rfl,h2,r2⟩:=trodAll_cons r1;obtain⟨rfl,rfl,rfl⟩:=trodAll_nil r2;obtain rfl:args=#[v0,v1,v2]:=by cases args;simp_all
 obtain⟨rfl,rfl⟩:=trodVars_none hV;obtain⟨x0,rfl,hs0⟩:=LM (hval 0 23 v0 rfl rfl) h0;obtain⟨A1,n1,c1,l1,rfl,hr1,hs1⟩:=Jm (hval 1 64 v1 rfl rfl) h1;obtain⟨a2,rfl,rfl,rfl,w2⟩:=open_int underlying3 (hval 2 3 v2 rfl rfl) h2;clear hA0;simp only[aAc] at hW';refine(RD (topOwn (top W) x0 A1 n1 c1 l1 hr1 (Vo hs1) a2)).mono λe W' ⟨he,hb⟩=>?_;subst he;exact⟨_,rfl,Na hW' rfl rfl rfl rfl q_ q_ hb⟩
theorem lifted(os:Os)(started:os.Started)(H:Type)(enc:TypeId×Value→H) :
  ReturnsInHanded {} Tryz.checked os 4 .any (Rows.topOwnSpec.pre6 enc prog Tryz.f4 Rows.topOwnRow.domain false) (Rows.topOwnSpec.post enc prog Tryz.f4 false true false false):=by
 refine returnsInHanded_of_change (C:=Tryz.checked) own started q_ func4
  (ChangeSpec.witness6 (enc:=enc) (C:=Tryz.checked) false ⟨#[],#[.agg #[.int .i64 0,.int .i64 0,.int .i64 0,.int .i64 0,.int .i64 0],.slice none 0 0,.int .i64 0],[]⟩ 8 q_ q_ q_ q_) ?_
 intro W base args ds gs before hval hW _ _;exact QK H enc W base args ds gs before hval hW
theorem k1:Rows.topOwnRow.wf (OpenSpec.ofChange Rows.topOwnSpec)=true:=by kernel_rfl
theorem k2:laidOutB prog=true:=by kernel_rfl
theorem k3:mapsRowed prog=true:=by kernel_rfl
theorem k4:Tryz.f4.params.all (prog.readableRec ·)=true:=by kernel_rfl
theorem k5:namedTie prog Rows.topOwnRow.named Rows.topOwnSpec.vars=true:=by kernel_rfl
theorem k6:(Rows.topOwnRow.stops == [])=true:=by kernel_rfl
theorem k7:(prog.stops == [])=true:=by kernel_rfl
theorem k8:(Rows.topOwnRow.knobs == [])=true:=by kernel_rfl
theorem k9:(prog.stopKnobs == [])=true:=by kernel_rfl
theorem z8:(Rows.topOwnRow.inPlace == prog.inPlace 4)=true:=by kernel_rfl
theorem s7:(Rows.topOwnRow.unfollowed == prog.unfollowed 4)=true:=by kernel_rfl
theorem u0:(Rows.topOwnRow.recurses == prog.recurses 4)=true:=by kernel_rfl
theorem k13:(Rows.topOwnRow.named == prog.varsNamed 4)=true:=by kernel_rfl
theorem x5:(Rows.topOwnRow.maps == (Tryz.f4.params.toList++Rows.topOwnSpec.plain.varTypes prog).any (prog.mapsRec ·))=true:=by kernel_rfl
theorem o9:(Rows.topOwnRow.ifaces == (Tryz.f4.params.toList++Rows.topOwnSpec.plain.varTypes prog).any (prog.ifacesRec ·))=true:=by kernel_rfl
theorem r5:(Rows.topOwnRow.mapsOut == prog.mapsAmong Tryz.f4.resultTypes.toList)=true:=by kernel_rfl
theorem v9:(Rows.topOwnRow.loops == (Tryz.f4.params.toList++Rows.topOwnSpec.plain.varTypes prog).any (prog.loopsFrom ·))=true:=by kernel_rfl
theorem z9:(Rows.topOwnRow.wideKeys == (Tryz.f4.params.toList++Rows.topOwnSpec.plain.varTypes prog++Tryz.f4.resultTypes.toList).any (prog.wideKeysFrom ·))=true:=by kernel_rfl
theorem s6:Rows.topOwnSpec.vars.all (prog.varReadable ·)=true:=by kernel_rfl
theorem k20:Tryz.f4.resultTypes.all (λt=>prog.readableRec t&&decide (t<prog.types.size))=true:=by kernel_rfl
theorem y7:(Rows.topOwnRow.ifacesOut == Tryz.f4.resultTypes.toList.any (prog.ifacesRec ·))=true:=by kernel_rfl
theorem r9:(Rows.topOwnRow.loopsOut == Tryz.f4.resultTypes.toList.any (prog.loopsFrom ·))=true:=by kernel_rfl
theorem x9:(Rows.topOwnRow.plainKeys == prog.plainKeys)=true:=by kernel_rfl
theorem k24:Rows.topOwnRow.shortTexts.isNone=true:=by kernel_rfl
theorem y6:prog.stopsHeard=true:=by kernel_rfl
theorem v7:prog.mayEnter=true:=by kernel_rfl
theorem r8:(Rows.topOwnRow.lifted == prog.liftsFinal)=true:=by kernel_rfl
theorem u3:(prog.make == some Rows.topOwnRow.make)=true:=by kernel_rfl
theorem y9:(Rows.topOwnRow.kinds == (if Rows.topOwnRow.domain.isEmpty then[] else Tryz.f4.params.toList.map λt=>match prog.underlying t with|some (.int k)=>some k|_=>none))=true:=by kernel_rfl
theorem u9:(Rows.topOwnRow.pinned == Rows.topOwnRow.pinnedBy)=true:=by kernel_rfl
theorem s9:(Rows.topOwnRow.veiled == (Tryz.f4.params.toList++Rows.topOwnSpec.plain.varTypes prog++Tryz.f4.resultTypes.toList).any (prog.veiledRec ·))=true:=by kernel_rfl
theorem v8:Rows.topOwnRow.veiledFits prog Tryz.f4.params.toList (Tryz.f4.params.toList++Rows.topOwnSpec.plain.varTypes prog++Tryz.f4.resultTypes.toList)=true:=by kernel_rfl
theorem kI{a b:Bool}(h:a=true)(k:b=true):(a&&b)=true:=by rw[h,k];rfl
theorem closed:joinedFacts prog 4 Tryz.f4 Rows.topOwnSpec Rows.topOwnRow=true:=(kI (kI (kI (kI (kI (kI (kI (kI (kI (kI (kI (kI (kI (kI (kI (kI (kI (kI (kI (kI (kI (kI (kI (kI (kI (kI (kI (kI (kI (kI (kI k1 k2) k3) k4) k5) k6) k7) k8) k9) z8) s7) u0) k13) x5) o9) r5) v9) z9) s6) k20) y7) r9) x9) k24) y6) v7) r8) u3) y9) u9) s9) v8)
theorem called:prog.funcNamed Rows.topOwnRow.func=some 4:=by kernel_rfl
theorem proved:Rows.TopOwnSaid :=
 OpenClaim.holds_of_wide 4 Tryz.f4 rfl rfl rfl rfl rfl rfl rfl ⟨rfl,rfl,rfl,rfl,rfl⟩ rfl rfl rfl rfl rfl called func4 closed
  (of_decide_eq_true q_) (by unfold Func.isWrapper;first|(rw[if_pos (by decide +kernel)];kernel_rfl)|(rw[if_neg (by decide +kernel)];exact⟨rfl,rfl⟩))
  (λos started H enc _=>lifted os started H enc)
#print axioms proved
end Go.Proofs.YtmilalkjbojciaaGreat.topOwn
