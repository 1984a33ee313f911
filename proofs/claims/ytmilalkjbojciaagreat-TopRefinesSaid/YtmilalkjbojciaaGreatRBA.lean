/- Part BA: what it needs. No condition. -/
import Derived.Test.YtmilalkjbojciaaGreatRAA
import Derived.Test.YtmilalkjbojciaaGreatRAZ
import Derived.Test.YtmilalkjbojciaaGreatRAY
import Derived.Test.YtmilalkjbojciaaGreatRAW
import Derived.Test.YtmilalkjbojciaaGreatRAX
set_option maxRecDepth 100000
set_option maxHeartbeats 8000000
open Go.Proofs.Tryz
namespace Go.Proofs.YtmilalkjbojciaaGreat.Sep
open Go.RowKit Reg Oct
open Mem hiding Rd
section
variable (E:Env) (P:List Ov) (g t:Nat) (v:Wv)
theorem O7(ht:t≤1000000)(hn:(1≤v.bU.length∧v.bU.length≤4)∧(v.bU.length:Int)=v.cf.bN):G E 19 [pt g] [aQ P g t v,aI P] λe H'=>∃Q,e=.returned (.bool v.quiet)∧H'=[aQ (P++Q) g t v,aI (P++Q)]:=by
 have cfg:=λM=>xU M P g t v;have wr:=λM=>CF M P g t v;have wl:=λM g2=>Ko M g2 v.ws;obtain⟨⟨h1,h4⟩,hrep⟩:=hn;have sta:=λM P r n hn=>FH M P g t v r n hn ht;have upp:=λM P r n hn=>Zj M P g t v r n hn;have hq:v.quiet=if v.ws.length=0 then vY v 0 v.bU.length else false:=by
  unfold Wv.quiet;cases v.ws with
  |nil=>rfl
  |cons p ws=>rfl
 rw[hq];clear hq;generalize v.ws.length=wn at *;by_cases hw:wn=0
 case neg =>
  rw[if_neg hw];refine t_ func19 ntmps19 ?_;repeat first|refine v_ ?_|intro
  refine bK cfg ?_;repeat first|refine v_ ?_|intro
  refine bW wr ?_;rintro e H' ⟨g2,rfl,rfl⟩;repeat first|refine v_ ?_|intro
  refine bK (λM=>wl M g2) ?_;repeat first|refine v_ ?_|intro
  exact aR (H':=[aQ P g t v,aI P]) rfl aF aA ⟨[],rfl,by rw[aAc]⟩
 rw[if_pos hw];subst hw;obtain⟨n0,hn0⟩:∃n0,v.bU[0]?=some n0:=⟨_,aAa o_⟩
 have hs0:v.state 0=n0.state:=by unfold Wv.state;rw[hn0]
 obtain⟨n,hnn⟩:∃n,v.bU.length=n:=⟨_,rfl⟩
 rw[hnn] at hrep;refine t_ func19 ntmps19 ?_;repeat first|refine v_ ?_|intro
 refine bK cfg ?_;repeat first|refine v_ ?_|intro
 refine bW wr ?_;rintro e H' ⟨g2,rfl,rfl⟩;repeat first|refine v_ ?_|intro
 refine bK (λM=>wl M g2) ?_;repeat first|refine v_ ?_|intro
 refine bW (λM=>sta M P 0 n0 hn0) ?_;rintro e H' ⟨Q,g3,rfl,rfl⟩;repeat first|refine v_ ?_|intro
 refine bW (λM=>qQ M (P++Q) g3 n0.state) ?_;rintro e H' ⟨g4,rfl,rfl⟩;repeat first|refine v_ ?_|intro
 refine bW (λM=>iV M (P++Q) g4 n0.state.v) ?_;rintro e H' ⟨B,k,hk,rfl,rfl⟩;repeat first|refine v_ ?_|intro
 rw[hnn];generalize hl0:n0.state.v.l=l0 at *;refine C.loop (X:=Nat×List Ov) (λx=>[(0,pt g),(4,.slice B l0.length k),(22,.int .i64 n),(23,.int .i64 x.1)]) (λx=>[aQ (P++x.2) g t v,aI (P++x.2),own bE B l0.length k l0])
  (λx=>x.1≤n∧vY v x.1 (n - x.1)=vY v 0 n) (λx=>n - x.1) (0,Q) (by rw[←hrep];exact aD) aA ⟨aAh _,by rw[Nat.sub_zero]⟩ ?_
 rintro⟨r,y⟩ G ⟨h5,h6⟩;dsimp only at h5 h6⊢;by_cases hlt:r<n
 ·obtain⟨nd,hnd⟩:∃nd,v.bU[r]?=some nd:=⟨_,aAa o_⟩
  have hst:v.state r=nd.state:=by unfold Wv.state;rw[hnd]
  have hup:v.up r=nd.up:=by unfold Wv.up;rw[hnd]
  have up1:=λM P=>upp M P r nd hnd;have h7:vY v r (n - r)=if nd.up∧nd.state.quiet=true∧nd.state.v.l=l0 then vY v (r+1) (n - (r+1)) else false:=by
   rw[show n - r=(n - (r+1))+1 by omega];show(if v.up r∧(v.state r).quiet=true∧(v.state r).v.l=(v.state 0).v.l then _ else _)=_;rw[hst,hup,hs0,hl0]
  rw[h7] at h6;have qt:=λM PP g5=>Vh M PP g5 nd.state;have lg:=λM PP g5=>qQ M PP g5 nd.state;generalize nd.up=bu at *;repeat first|refine v_ ?_|intro
  refine bW (λM=>sta M (P++y) r nd hnd) ?_;rintro e H' ⟨Q2,g5,rfl,rfl⟩;repeat first|refine v_ ?_|intro
  refine bK (λM=>up1 M _) ?_;cases bu with
  |false =>
   rw[if_neg (by rintro⟨h,_⟩;cases h)] at h6;rw[←h6];repeat first|refine v_ ?_|intro
   exact aR (H':=[aQ (P++(y++Q2)) g t v,aI (P++(y++Q2))]) rfl aF (by rw[←aAb];exact aA) ⟨y++Q2,rfl,rfl⟩
  |true =>
   generalize hqq:nd.state.quiet=qq at *;repeat first|refine v_ ?_|intro
   refine bK (λM=>qt M _ g5) ?_;cases qq with
   |false =>
    rw[if_neg (by rintro⟨_,h,_⟩;cases h)] at h6;rw[←h6];repeat first|refine v_ ?_|intro
    exact aR (H':=[aQ (P++(y++Q2)) g t v,aI (P++(y++Q2))]) rfl aF (by rw[←aAb];exact aA) ⟨y++Q2,rfl,rfl⟩
   |true =>
    repeat first|refine v_ ?_|intro
    refine bW (λM=>lg M _ g5) ?_;rintro e H' ⟨g6,rfl,rfl⟩;repeat first|refine v_ ?_|intro
    refine bW (λM=>iV M _ g6 nd.state.v) ?_;rintro e H' ⟨B2,k2,hk2,rfl,rfl⟩;repeat first|refine v_ ?_|intro
    refine DY (λM=>Sp M _ _ _ _ _ _ nd.state.v.l l0) ?_;by_cases hle:nd.state.v.l=l0
    ·have hd:(!decide (nd.state.v.l=l0))=false:=by rw[decide_eq_true hle];rfl
     rw[if_pos ⟨rfl,rfl,hle⟩] at h6;repeat first|refine v_ ?_|intro
     exact⟨(r+1,y++Q2),aD,by rw[←aAb];exact aA,⟨by dsimp only;omega,h6⟩,by dsimp only;omega⟩
    ·have hd:(!decide (nd.state.v.l=l0))=true:=by rw[decide_eq_false hle];rfl
     rw[if_neg (λh=>hle h.2.2)] at h6;rw[←h6];repeat first|refine v_ ?_|intro
     exact aR (H':=[aQ (P++(y++Q2)) g t v,aI (P++(y++Q2))]) rfl aF (by rw[←aAb];exact aA) ⟨y++Q2,rfl,rfl⟩
 ·obtain rfl:r=n:=o_;rw[aEi] at h6;rw[←h6];repeat first|refine v_ ?_|intro
  exact aR (H':=[aQ (P++y) g t v,aI (P++y)]) rfl aF aA ⟨y,rfl,rfl⟩
end
theorem N2(v:Wv):v.round.w.cf=v.cf∧v.round.w.bU.length=v.bU.length:=by
 unfold Wv.round;have e:=λ(a b c:Dv) (h:a.w.cf=b.w.cf∧a.w.bU.length=b.w.bU.length) (k:b.w.cf=c.w.cf∧b.w.bU.length=c.w.bU.length)=>(⟨h.1.trans k.1,h.2.trans k.2⟩:a.w.cf=c.w.cf∧a.w.bU.length=c.w.bU.length)
 exact e _ _ ⟨v,false⟩ (oY _ _) (e _ _ _ (uC _) (e _ _ _ (oZ _ _ _) (e _ _ _ (uC _) (e _ _ _ (oZ _ _ _) (e _ _ _ (oY _ _) (e _ _ _ (uC _) (e _ _ _ (oZ _ _ _) (e _ _ _ (oZ _ _ _) (uC _)))))))))
theorem Py(v:Wv):v.start.cf=v.cf∧v.start.bU.length=v.bU.length:=by
 unfold Wv.start;have h1:=oY ⟨v,false⟩ (pB 11 0 0 0);have h2:=oZ (Dv.pE ⟨v,false⟩ (pB 11 0 0 0)) 0 (pH 14);have h3:=oZ ((Dv.pE ⟨v,false⟩ (pB 11 0 0 0)).all 0 (pH 14)) 0 (pH 13);exact⟨h3.1.trans (h2.1.trans h1.1),h3.2.trans (h2.2.trans h1.2)⟩
theorem Fk{k:Nat}{v:Wv}{sh:Bool}{n:Nat}(h:v.quiet=true):xY (k+1) v sh n=(v,n,sh):=by
 show(if v.quiet then(v,n,sh) else _)=_;rw[if_pos h]
theorem OF{k:Nat}{v:Wv}{sh:Bool}{n:Nat}(h:v.quiet=false):xY (k+1) v sh n=xY k v.round.w (v.round.short||sh) (n+1):=by
 show(if v.quiet then(v,n,sh) else _)=_;rw[if_neg (by rw[h];decide)]
section
variable (E:Env) (P:List Ov) (g t:Nat) (v:Wv)
theorem YE(ht:t≤1000)(hn:(1≤v.bU.length∧v.bU.length≤4)∧(v.bU.length:Int)=v.cf.bN):G E 11 [pt g,.int .i64 40] [aQ P g t v,aI P] λe H'=>∃Q,e=.returned (.tuple #[.int .i64 (v.fair 40).2.1,.bool (v.fair 40).2.2])∧H'=[aQ (P++Q) g (t+50000) (v.fair 40).1,aI (P++Q)]:=by
 have k1:xA 132=true:=q_;have st0:=Py v;unfold Wv.fair;have hsd:v.start=((((Dv.mk v false).pE (pB 11 0 0 0)).all 0 (pH 14)).all 0 (pH 13)).w:=rfl;have al:=λM P gv t (d:Dv) (h1:d.w.cf=v.cf∧d.w.bU.length=v.bU.length) f cs F hk law hF i hi ht=>XV M P gv g t d f cs F hk law hF i hi ht (by rw[h1.1,h1.2];exact⟨hn.1.2,hn.2⟩);have dw:=λM P gv A c hr=>Yp M P gv g t ⟨v,false⟩ A 1 c [pB 11 0 0 0] hr o_ (λst hst=>by rw[aAp.1 hst];exact Am);have e1:∀(d:Dv) st,Dv.J1 d [st]=d.pE st:=λd st=>rfl;rw[e1] at dw;dsimp only[dA] at al dw;obtain⟨d1,hd1⟩:∃d,(Dv.mk v false).pE (pB 11 0 0 0)=d:=⟨_,rfl⟩
 have b1:=oY ⟨v,false⟩ (pB 11 0 0 0);rw[hd1] at b1 dw hsd;dsimp only at b1;obtain⟨d2,hd2⟩:∃d,d1.all 0 (pH 14)=d:=⟨_,rfl⟩
 have b2:=oZ d1 0 (pH 14);rw[hd2,b1.1,b1.2] at b2;rw[hd2] at hsd;obtain⟨d3,hd3⟩:∃d,d2.all 0 (pH 13)=d:=⟨_,rfl⟩
 rw[hd3] at hsd;have hclamp:dF 40 0 100=40:=sD;have hfe:xY 40 v.start false 0=(xY 40 v.start false 0):=rfl;generalize hfE:xY 40 v.start false 0=fE at *;clear hfe;refine t_ func11 ntmps11 ?_;repeat first|refine v_ ?_|intro
 rename_i gv;refine L.fQ sD (S.QZ (T:=mX) (e1:=pB 11 0 0 0) rfl eS rfl FV (by rfl) sD) ?_;rintro _ _ ⟨_,rfl,rfl⟩;repeat first|refine v_ ?_|intro
 refine dX (λM=>dw M P gv _ _) ?_;rintro e H' ⟨Q1,rfl,rfl⟩;repeat first|refine v_ ?_|intro
 refine bW (λM=>S4 M 14) ?_;rintro e H' ⟨ga1,rfl,rfl⟩;repeat first|refine v_ ?_|intro
 refine cl sD sK aC (λM hE=>al M (P++Q1) gv (t+1) d1 b1 132 [pt ga1] (pH 14) k1 (KW M ga1 14 (gE.of hE aS)) (BL 14) 0 o_ o_) ?_;rintro e H' ⟨Q2,rfl,rfl⟩;rw[hd2];repeat first|refine v_ ?_|intro
 refine bW (λM=>S4 M 13) ?_;rintro e H' ⟨ga2,rfl,rfl⟩;repeat first|refine v_ ?_|intro
 refine cl sD sK aC (λM hE=>al M (P++Q1++Q2) gv (t+1+8) d2 b2 132 [pt ga2] (pH 13) k1 (KW M ga2 13 (gE.of hE aS)) (BL 13) 0 o_ o_) ?_;rintro e H' ⟨Q3,rfl,rfl⟩;rw[hd3,←hsd];repeat first|refine v_ ?_|intro
 rw[hclamp];refine C.loop (X:=Nat×Wv×Bool×List Ov) (λx=>[(0,pt g),(1,.int .i64 40),(7,.bool x.2.2.1),(23,.int .i64 40),(24,.int .i64 x.1)]) (λx=>[aQ (P++x.2.2.2) g (t+100+1200*x.1) x.2.1,aI (P++x.2.2.2)])
  (λx=>x.1≤40∧xY (40 - x.1) x.2.1 x.2.2.1 x.1=fE∧x.2.1.cf=v.cf∧x.2.1.bU.length=v.bU.length) (λx=>40 - x.1) (0,v.start,false,Q1++(Q2++Q3)) aD (by simp only[←aAb];exact aB.trans (rS (show t+1+8+8≤t+100+1200*0 by omega) aC) aA) ⟨aAh _,hfE,st0.1,st0.2⟩ ?_
 rintro⟨m,v1,sh,y⟩ G ⟨h1,h2,h3,h4⟩;dsimp only at h1 h2 h3 h4⊢;by_cases hlt:m<40
 ·have hn1:(1≤v1.bU.length∧v1.bU.length≤4)∧(v1.bU.length:Int)=v1.cf.bN:=by rw[h3,h4];exact hn
  have hrep:=hn1.2;have hrep1:=hn1.1.1;have cfg:=λM=>xU M (P++y) g (t+100+1200*m) v1;have qt:=λM=>O7 M (P++y) g (t+100+1200*m) v1 o_ hn1;have rd:=λM P=>Vx M P g (t+100+1200*m) v1 o_ hn1;have rcf:=N2 v1;rw[show 40 - m=(40 - (m+1))+1 by omega] at h2;cases hq:v1.quiet with
  |true =>
   rw[Fk hq] at h2;subst h2;rw[hq] at qt;repeat first|refine v_ ?_|intro
   refine bK cfg ?_;repeat first|refine v_ ?_|intro
   refine bW qt ?_;rintro e H' ⟨Q4,rfl,rfl⟩;repeat first|refine v_ ?_|intro
   exact vT (H':=[aQ (P++(y++Q4)) g (t+50000) v1,aI (P++(y++Q4))]) rfl aF aF (by simp only[←aAb];exact aB.trans (rS (show t+100+1200*m≤t+50000 by omega) aC) aA) ⟨_,rfl,rfl⟩
  |false =>
   rw[OF hq] at h2;rw[hq] at qt;generalize v1.round=d4 at *;obtain⟨v4,sh4⟩:=d4;dsimp only at h2 rd rcf;repeat first|refine v_ ?_|intro
   refine bK cfg ?_;repeat first|refine v_ ?_|intro
   refine bW qt ?_;rintro e H' ⟨Q4,rfl,rfl⟩;repeat first|refine v_ ?_|intro
   refine bW (λM=>rd M (P++y++Q4)) ?_;rintro e H' ⟨Q5,rfl,rfl⟩;refine gk bG ?_;cases sh4 with
   |true =>
    repeat first|refine v_ ?_|intro
    exact⟨(m+1,v4,true,y++(Q4++Q5)),aD,by simp only[←aAb];exact aA,⟨by dsimp only;omega,h2,rcf.1.trans h3,rcf.2.trans h4⟩,by dsimp only;omega⟩
   |false =>
    repeat first|refine v_ ?_|intro
    exact⟨(m+1,v4,sh,y++(Q4++Q5)),aD,by simp only[←aAb];exact aA,⟨by dsimp only;omega,h2,rcf.1.trans h3,rcf.2.trans h4⟩,by dsimp only;omega⟩
 ·obtain rfl:m=40:=o_;have h2:(v1,40,sh)=fE:=h2;subst h2;repeat first|refine v_ ?_|intro
  rw[hclamp];exact vT (H':=[aQ (P++y) g (t+50000) v1,aI (P++y)]) rfl aF aF (aB.trans (rS (show t+100+1200*40≤t+50000 by omega) aC) aA) ⟨_,rfl,rfl⟩
end
def Bb:fU:=⟨2,40,4,1,2⟩
def vW:List cH :=
 [⟨1,0,0,0,⟨⟨0,0⟩,0,1,2,0,9,⟨0,0⟩⟩⟩,⟨1,0,0,0,⟨⟨0,0⟩,0,2,1,0,50,⟨0,0⟩⟩⟩,⟨1,0,0,0,⟨⟨0,0⟩,0,9,2,0,3,⟨0,0⟩⟩⟩,
 ⟨4,0,0,9,mW⟩,⟨3,1,0,0,mW⟩,⟨7,0,0,0,mW⟩,⟨7,0,0,0,mW⟩,
 ⟨1,1,0,0,⟨⟨0,0⟩,0,3,1,2,4,⟨0,0⟩⟩⟩,⟨5,1,0,0,mW⟩,⟨7,0,0,0,mW⟩]
theorem Uv(E:Env):G E 45 [] [] (cM (.agg Bb.cs.toArray) []):=by
 refine t_ func45 ntmps45 ?_;repeat first|refine v_ ?_|intro
 exact cI (H':=[]) (cs:=[.int .i64 2,.int .i64 40,.int .i64 4,.int .i64 1,.int .i64 2]) rfl aF rfl rfl rfl aS rfl aA ⟨rfl,rfl⟩
theorem Uo(E:Env):G E 46 [] [] λe H'=>∃A c,e=.returned (.slice A 10 c)∧H'=[own mX A 10 c vW]:=by
 refine t_ func46 ntmps46 ?_;repeat first|refine v_ ?_|intro
 refine L.fQ sD (S.pP (T:=mX) (l:=vW) rfl rfl rfl rfl sD) ?_;rintro _ _ ⟨_,rfl,rfl⟩;repeat first|refine v_ ?_|intro
 exact jQ ⟨_,_,rfl,rfl⟩
noncomputable def aw:Wv:=(Wv.new Bb).run vW
noncomputable def fw:Wv×Nat×Bool:=aw.fair 40
theorem WO:aw.app.length=1:=q_
theorem VA:aw.bU.length=2:=q_
theorem US:aw.cf.bN=2:=q_
theorem Zi:decide (0<fw.2.1)=true:=q_
theorem NT:fw.2.2=false:=q_
theorem Uu:fw.1.bU.length=2:=q_
theorem Uj:fw.1.cf.bN=2:=q_
theorem Pe:fw.1.quiet=true:=q_
theorem Vn:(fw.1.state 0).v.l.length=4:=q_
instance (x:Int):Decidable (dQ x):=by unfold dQ;infer_instance
instance (x:bJ):Decidable x.ok:=by unfold bJ.ok;infer_instance
instance (x:aX):Decidable x.ok:=by unfold aX.ok;infer_instance
theorem YC:decide (∀c∈(fw.1.state 0).v.l,c.ok)=true:=q_
theorem UQ:decide ((GJ (fw.1.state 0).v.l).length<20)=true:=q_
theorem Vu:decide (FP fw.1.app=Ep (fw.1.state 0).v.l)=true:=q_
theorem Vs:fw.1.app.length=3:=q_
theorem PX:decide (∀st∈vW,dQ st.c.n)=true:=q_
theorem OE(E:Env):G E 7 [] [] (cM (.bool true) []):=by
 refine aK.pre (aB.kP dM) ?_;have hv:(Wv.new Bb).run vW=aw:=rfl;have hw0:aw.fair 40=fw:=rfl;have hfine:Bb.cV:=sD;have hsok:∀st∈vW,dQ st.c.n:=of_decide_eq_true PX;have a1:=WO;have a2:(1≤aw.bU.length∧aw.bU.length≤4)∧(aw.bU.length:Int)=aw.cf.bN:=by rw[VA,US];decide
 have f1:=of_decide_eq_true Zi;have f2:=NT;have f3:(1≤fw.1.bU.length∧fw.1.bU.length≤4)∧(fw.1.bU.length:Int)=fw.1.cf.bN:=by rw[Uu,Uj];decide
 have f4:=Pe;have f5:=Vn;have f6:=of_decide_eq_true YC;have f7:=of_decide_eq_true UQ;have f8:=of_decide_eq_true Vu;have f9:=Vs;have wld:=λM A c hr=>Is M [] Bb hfine A 10 c vW hr sD hsok;rw[hv] at wld;have fr:=λM P g=>YE M P g 11 aw sD a2;rw[hw0] at fr;clear hv hw0;generalize aw=v at *;obtain⟨⟨v1,n,sh⟩,hf⟩:∃z,fw=z:=⟨_,rfl⟩
 rw[hf] at f1 f2 f3 f4 f5 f6 f7 f8 f9 fr;dsimp only at f1 f2 f3 f4 f5 f6 f7 f8 f9 fr;subst f2;obtain⟨n0,hn0⟩:∃n0,v1.bU[0]?=some n0:=⟨_,aAa o_⟩
 have hst:v1.state 0=n0.state:=by unfold Wv.state;rw[hn0]
 rw[hst] at f5 f6 f7 f8;have qt:=λM P g=>O7 M P g (11+50000) v1 sD f3;rw[f4] at qt;have sta:=λM P g=>FH M P g (11+50000) v1 0 n0 hn0 sD;refine t_ func7 ntmps7 ?_;repeat first|refine v_ ?_|intro
 refine bK Uv ?_;repeat first|refine v_ ?_|intro
 refine bW Uo ?_;rintro e H' ⟨A,c,rfl,rfl⟩;repeat first|refine v_ ?_|intro
 refine dX (λM=>wld M A c) ?_;rintro e H' ⟨Q,g,rfl,rfl⟩;repeat first|refine v_ ?_|intro
 refine cl sD sK aC (λM hE=>zZ M _ g _ v sD) ?_;rintro e H' ⟨g2,rfl,rfl⟩;repeat first|refine v_ ?_|intro
 refine bW (λM=>oB M g2 v.ref v.app (by omega)) ?_;rintro e H' ⟨A2,c2,hc2,rfl,rfl⟩;repeat first|refine v_ ?_|intro
 refine bW (λM=>fr M _ g) ?_;rintro e H' ⟨Q2,rfl,rfl⟩;repeat first|refine v_ ?_|intro
 refine bW (λM=>sta M _ g) ?_;rintro e H' ⟨Q3,g3,rfl,rfl⟩;repeat first|refine v_ ?_|intro
 refine bW (λM=>qQ M _ g3 n0.state) ?_;rintro e H' ⟨g4,rfl,rfl⟩;repeat first|refine v_ ?_|intro
 refine bW (λM=>iV M _ g4 n0.state.v) ?_;rintro e H' ⟨B,k,hk,rfl,rfl⟩;repeat first|refine v_ ?_|intro
 refine bW (λM=>qt M _ g) ?_;rintro e H' ⟨Q4,rfl,rfl⟩;repeat first|refine v_ ?_|intro
 refine cl sD sK aC (λM hE=>zZ M _ g _ v1 sD) ?_;rintro e H' ⟨g5,rfl,rfl⟩;repeat first|refine v_ ?_|intro
 refine bW (λM=>oB M g5 v1.ref v1.app (by omega)) ?_;rintro e H' ⟨A5,c5,hc5,rfl,rfl⟩;repeat first|refine v_ ?_|intro
 refine C1 (λM h1 h2=>QR M A5 v1.app.length c5 v1.app h1 (by omega) B n0.state.v.l.length k n0.state.v.l h2 f6 (by omega) f7) ?_;rintro e H' ⟨rfl,rfl⟩;rw[decide_eq_true f8];repeat first|refine v_ ?_|intro
 refine cl sD sK aC (λM hE=>zZ M _ g _ v1 sD) ?_;rintro e H' ⟨g6,rfl,rfl⟩;repeat first|refine v_ ?_|intro
 refine bW (λM=>oB M g6 v1.ref v1.app (by omega)) ?_;rintro e H' ⟨A6,c6,hc6,rfl,rfl⟩;repeat first|refine v_ ?_|intro
 exact aR rfl aF aA (⟨rJ,rfl⟩)
end Go.Proofs.YtmilalkjbojciaaGreat.Sep
namespace Go.Proofs.YtmilalkjbojciaaGreat.Sep
structure WI(v:Wv):Prop where
 h:NI v.bU
 p:PkL v.bU v.ws
 now:0≤v.now∧v.now≤1073741824
theorem G4{α:Type}{l:List α}{i:Nat}{x:α}(h:l[i]?=some x):l.set i x=l:=by
 obtain⟨hi,rfl⟩:=aAd.1 h;exact List.set_getElem_self hi
theorem NI.take{bU:List Nd}{i:Nat}{n:Nd}(h:NI bU)(hn:bU[i]?=some n){l:List Rc}(ha:n.up=true→G5 bU i n.s l):NI (bU.set i (n.take l).1)∧Le bU (bU.set i (n.take l).1)∧(n.take l).1.up=n.up:=by
 unfold Nd.take;by_cases hu:n.up=true
 ·rw[if_pos hu];obtain⟨r1,r2,_,r4⟩:=NI.AQ (k:=0) h hn hu (ha hu);exact⟨r1,r2,r4.trans hu.symm⟩
 ·rw[if_neg hu,G4 hn];exact⟨h,Le.refl _,rfl⟩
theorem NI.sync{bU:List Nd}{i:Nat}{n:Nd}(h:NI bU)(hn:bU[i]?=some n):NI (bU.set i n.sync.1)∧Le bU (bU.set i n.sync.1):=by
 obtain⟨s1,s2,_⟩:=(h.nv i n hn).1.sync;exact h.kE hn s1 s2
theorem NI.aJh:∀ {k:Nat} {bU:List Nd} {n:Nd} {j:Nat},NI bU→bU[0]?=some n→NI (bU.set 0 (AI k n j).1)∧Le bU (bU.set 0 (AI k n j).1)
 |0,bU,n,j,h,hn=>by
  show NI (bU.set 0 n)∧Le bU (bU.set 0 n);rw[G4 hn];exact⟨h,Le.refl _⟩
 |k+1,bU,n,j,h,hn=>by
  unfold AI;split
  ·show NI (bU.set 0 n)∧Le bU (bU.set 0 n);rw[G4 hn];exact⟨h,Le.refl _⟩
  ·rename_i c _;obtain⟨t1,t2,_⟩:=h.take hn (l:=[.rI c.id]) λ_=>⟨trivial,λ_=>⟨.inl rfl,trivial⟩⟩
   split
   ·have hat:(bU.set 0 (n.take [.rI c.id]).1)[0]?=some (n.take [.rI c.id]).1:=by rw[ML hn,if_pos rfl]
    obtain⟨r1,r2⟩:=NI.aJh (k:=k) (j:=j+1) t1 hat;rw[aGk] at r1 r2;exact⟨r1,t2.trans r2⟩
   ·exact⟨t1,t2⟩
theorem NI.tries{now:Int}(hnow:dQ now):∀ {l acc:List dK} {bU:List Nd} {i:Nat} {n:Nd},NI bU→bU[i]?=some n→n.up=true→(∀q∈acc,q.bC.ok)→(∀q∈l,q.bC.ok)→NI (bU.set i (n.tries now l acc).1)∧Le bU (bU.set i (n.tries now l acc).1)∧∀q∈(n.tries now l acc).2.1,q.bC.ok
 | [],acc,bU,i,n,h,hn,hu,h1,_=>by
  show NI (bU.set i n)∧Le bU (bU.set i n)∧_;rw[G4 hn];exact⟨h,Le.refl _,h1⟩
 |q::l,acc,bU,i,n,h,hn,hu,h1,h2=>by
  obtain⟨t1,t2,_⟩:=h.write hn hu (x:=.DG q.key now) hnow λ_=>trivial;obtain⟨_,w2,_⟩:=(h.nv i n hn).1.write hu (x:=.DG q.key now) hnow;unfold Nd.tries;split
  ·have hat:(bU.set i (n.write (.DG q.key now)).1)[i]?=some (n.write (.DG q.key now)).1:=by rw[ML hn,if_pos rfl]
   obtain⟨r1,r2,r3⟩:=NI.tries hnow (l:=l) (acc:=acc++[q]) t1 hat w2 (λy hy=>by
    rcases aBg.1 hy with hy|hy
    ·exact h1 y hy
    ·rw[aAp.1 hy];exact h2 q aBo) λy hy=>h2 y (aBl _ hy)
   rw[aGk] at r1 r2;exact⟨r1,t2.trans r2,r3⟩
  ·exact⟨t1,t2,h1⟩
theorem NI.qD{cf:fU}{now:Int}(hnow:dQ now){bU:List Nd}{i:Nat}{n:Nd}(h:NI bU)(hn:bU[i]?=some n):NI (bU.set i (n.qD cf now).1)∧Le bU (bU.set i (n.qD cf now).1)∧∀q∈(n.qD cf now).2.1,q.bC.ok:=by
 unfold Nd.qD;by_cases hu:n.up=true
 ·rw[if_pos hu];obtain⟨_,g2,_⟩:=h.gd hn;rw[G3 hu] at g2;obtain⟨t1,t2,t3⟩:=NI.tries hnow (l:=n.s.ready cf now) (acc:=[]) h hn hu (λ_ hq=>(aAk hq).elim) (aIg g2 cf now);have hat:(bU.set i (n.tries now (n.s.ready cf now) []).1)[i]?=some (n.tries now (n.s.ready cf now) []).1:=by rw[ML hn,if_pos rfl]
  obtain⟨s1,s2⟩:=t1.sync hat;rw[aGk] at s1 s2;split
  ·exact⟨s1,t2.trans s2,t3⟩
  ·exact⟨s1,t2.trans s2,λ_ hq=>(aAk hq).elim⟩
 ·rw[if_neg hu];show NI (bU.set i n)∧Le bU (bU.set i n)∧_;rw[G4 hn];exact⟨h,Le.refl _,λ_ hq=>(aAk hq).elim⟩
theorem aIn{s:Sv}(hr:0≤s.r∧s.r≤3){c:aX}(hz:(s.make c).2=0):(s.make c).1.id.rep=s.r:=by
 unfold Sv.make at hz⊢;split at hz
 ·cases hz
 ·rename_i h1;rw[if_neg h1];split at hz
  ·rename_i h2;rw[if_pos h2];have:=((aX.bY _).1 h2)
   dsimp only at this⊢;unfold vK at this⊢;rw[if_pos hr] at this⊢;split
   ·rename_i h3;rw[if_pos h3] at this;dsimp only at this;omega
   ·rfl
  ·cases hz
theorem NI.fC{bU:List Nd}{i:Nat}{n:Nd}(h:NI bU)(hn:bU[i]?=some n){c:aX}(hc:dQ c.n):NI (bU.set i (n.fC c).1)∧Le bU (bU.set i (n.fC c).1):=by
 obtain⟨_,g2,_,g4,_⟩:=h.gd hn;have same:NI (bU.set i n)∧Le bU (bU.set i n):=by rw[G4 hn];exact⟨h,Le.refl _⟩
 unfold Nd.fC;by_cases hu:n.up=true
 ·rw[if_pos hu];rw[G3 hu] at g2 g4;by_cases hm:(n.s.make c).2=0
  ·rw[if_pos hm];obtain⟨m1,_⟩:=Rz hc hm;obtain⟨t1,t2,_⟩:=h.write hn hu (x:=.lI (n.s.make c).1) m1 λ_=>.inl ((aIn g2.rep hm).trans g4);split<;>exact⟨t1,t2⟩
  ·rw[if_neg hm];exact same
 ·rw[if_neg hu];exact same
theorem dQ.now{x:Int}(h:0≤x∧x≤1073741824):dQ x:=by unfold dQ;omega
theorem WI.bV{v:Wv}(h:WI v)(j:Int):WI (v.bV j).1:=by
 have hw:PkL v.bU (cR v.ws j):=h.p.take j;have h0:WI ⟨v.cf,v.now,v.sub,v.aW,cR v.ws j,v.ref,v.app,v.bU⟩:=⟨h.h,hw,h.now⟩
 unfold Wv.bV;split
 ·exact h
 rename_i p hp;obtain⟨k,_,hk⟩:=uP hp;have hpk:=h.p p (aAi hk);split
 ·exact h0
 rename_i m hm;have hmk:=hpk.b m hm;have hmo:=(tU hm).2.2;split
 ·refine⟨h.h,?_,h.now⟩;show PkL v.bU (gG (cR v.ws j) v.ref v.app m).1.1;unfold gG;split
  ·exact hw.post λ_=>⟨⟨λc hc=>(aAk hc).elim,dQ.zero⟩,okM.plain (show(4:Int)≠2 by decide) rfl⟩
  ·exact hw
 split
 ·exact h0
 split
 ·exact h0
 rename_i n hn;by_cases hu:n.up=true
 ·rw[if_pos hu];have key:NI (v.bU.set p.to.toNat (dG (cR v.ws j) n m).1.2)∧PkL (v.bU.set p.to.toNat (dG (cR v.ws j) n m).1.2) (dG (cR v.ws j) n m).1.1:=by
   unfold dG;split
   ·obtain⟨s1,s2⟩:=h.h.sync hn;split
    ·exact⟨s1,hw.le s2⟩
    ·rename_i hz;obtain⟨_,_,y3⟩:=(h.h.nv _ n hn).1.sync;obtain⟨_,y4,y5,y6⟩:=y3 (Classical.not_not.1 hz);have hat:(v.bU.set p.to.toNat n.sync.1)[p.to.toNat]?=some n.sync.1:=by rw[ML hn,if_pos rfl]
     exact⟨s1,(hw.le s2).post λ_=>aIc s1 hat (y6.trans y5.symm) y4 m⟩
   split
   ·obtain⟨t1,t2,_⟩:=h.h.take hn (l:=kL n.s m) λ_=>aHq h.h hn hu hmk hmo;exact⟨t1,hw.le t2⟩
   split
   ·show NI (v.bU.set p.to.toNat n)∧PkL (v.bU.set p.to.toNat n) _;rw[G4 hn];exact⟨h.h,hw⟩
   ·obtain⟨t1,t2,_⟩:=h.h.take hn (l:=[.qJ m.key]) λ_=>⟨trivial,λ_=>⟨trivial,trivial⟩⟩
    exact⟨t1,hw.le t2⟩
  exact⟨key.1,key.2,h.now⟩
 ·rw[if_neg hu];exact h0
theorem WI.aJr{v:Wv}(h:WI v){i:Nat}{n n':Nd}(hn:v.bU[i]?=some n)(hd:Nv n'∧Dur n n')(r:Int):WI ⟨v.cf,v.now,v.sub,v.aW,v.ws,r,v.app,v.bU.set i n'⟩:=by
 obtain⟨h1,h2⟩:=h.h.kE hn hd.1 hd.2;exact⟨h1,h.p.le h2,h.now⟩
theorem WI.step{v:Wv}(h:WI v)(st:cH)(hc:dQ st.c.n):WI (v.step st).1:=by
 unfold Wv.step;split
 ·exact h
 split
 ·exact h
 rename_i n hn;have hv:=(h.h.nv _ n hn).1;unfold Wv.SB;split
 ·have key:NI (v.bU.set st.r.toNat (kA v.sub n st.c).2.1)∧Le v.bU (v.bU.set st.r.toNat (kA v.sub n st.c).2.1):=by
   unfold kA;split
   ·show NI (v.bU.set st.r.toNat n)∧Le _ (v.bU.set st.r.toNat n);rw[G4 hn];exact⟨h.h,Le.refl _⟩
   have:=h.h.fC hn hc;split<;>exact this
  exact⟨key.1,h.p.le key.2,h.now⟩
 split
 ·obtain⟨s1,s2⟩:=h.h.sync hn;exact⟨s1,h.p.le s2,h.now⟩
 split
 ·have key:NI (v.bU.set st.r.toNat (yI v.bU.length v.ws n st).1.2)∧PkL (v.bU.set st.r.toNat (yI v.bU.length v.ws n st).1.2) (yI v.bU.length v.ws n st).1.1:=by
   obtain⟨s1,s2⟩:=h.h.sync hn;unfold yI;split
   ·show NI (v.bU.set st.r.toNat n)∧PkL (v.bU.set st.r.toNat n) _;rw[G4 hn];exact⟨h.h,h.p⟩
   split
   ·exact⟨s1,h.p.le s2⟩
   ·exact⟨s1,(h.p.le s2).post λ_=>⟨⟨λc hc=>(aAk hc).elim,dQ.zero⟩,okM.plain (show(1:Int)≠2 by decide) rfl⟩⟩
  exact⟨key.1,key.2,h.now⟩
 split
 ·unfold Wv.qA;split
  ·exact h
  ·rename_i p hp;have key:NI (v.bU.set 0 (mT p st.n).1)∧Le v.bU (v.bU.set 0 (mT p st.n).1):=by
    have same:NI (v.bU.set 0 p)∧Le v.bU (v.bU.set 0 p):=by rw[G4 hp];exact⟨h.h,Le.refl _⟩
    unfold mT;split
    ·split
     ·exact h.h.aJh hp
     ·exact same
    ·exact same
   exact⟨key.1,h.p.le key.2,h.now⟩
 split
 ·obtain⟨t1,t2,t3⟩:=h.h.qD (cf:=v.cf) (dQ.now h.now) hn;exact⟨t1,PkL.aJb (h.p.le t2) t3,h.now⟩
 split
 ·refine⟨h.h,h.p,?_⟩;show 0≤(uD v.now st.n).1∧(uD v.now st.n).1≤1073741824;have:=h.now;unfold uD;split
  ·dsimp only;omega
  ·exact this
 split
 ·exact h.bV _
 split
 ·exact⟨h.h,h.p.rY st,h.now⟩
 ·have same:Nv n∧Dur n n:=⟨hv,Dur.refl hv⟩
  refine h.aJr hn ?_ _;unfold wF;split
  ·split<;>exact same
  split
  ·split
   ·exact hv.CA
   ·exact same
  split
  ·exact hv.rO
  split
  ·exact hv.pack
  split
  ·split
   ·exact same
   split
   ·exact hv.arm o_
   ·exact same
  ·exact same
theorem WI.run{l:List cH}:∀ {v:Wv},WI v→(∀st∈l,dQ st.c.n)→WI (v.run l):=by
 induction l with
 |nil=>exact λh _=>h
 |cons st l ih=>exact λh hl=>ih (h.step st (hl st aBo)) λx hx=>hl x (aBl _ hx)
theorem WI.new{cf:fU}(h:cf.cV):WI (Wv.new cf):=by
 obtain⟨⟨r0,r1⟩,⟨s0,s1⟩,_⟩:=h;have at_:∀(i:Nat) (n:Nd),(gU cf.eF.toNat cf.bN.toNat)[i]?=some n→i<cf.bN.toNat∧n=Nd.new i cf.eF.toNat:=λi n hn=>by
  unfold gU at hn;rw[aBf] at hn;obtain⟨x,hx,rfl⟩:=aGg.1 hn;obtain⟨hlt,hx⟩:=aAd.1 hx;rw[List.getElem_range] at hx;subst hx;rw[aFu] at hlt;exact⟨hlt,rfl⟩
 have nw:∀(i:Nat),i<cf.bN.toNat→_:=λi hi=>Nv.new (r:=(i:Int)) (N:=cf.eF.toNat) o_ o_ o_;refine⟨⟨λi n hn=>?_,λi n hn _=>?_,λi n hn c hc=>?_⟩,λp hp=>(aAk hp).elim,aCd _,by show(0:Int)≤_;decide⟩
 ·obtain⟨hi,rfl⟩:=at_ i n hn;exact⟨(nw i hi).1,rfl⟩
 ·obtain⟨hi,rfl⟩:=at_ i n hn;rw[(nw i hi).2.2];exact aGd
 ·obtain⟨hi,rfl⟩:=at_ i n hn;rw[(nw i hi).2.2] at hc;exact(aAk hc).elim
theorem aIx{cf:fU}(hf:cf.cV){l:List cH}(hl:∀st∈l,dQ st.c.n)(r:Nat):(((Wv.new cf).run l).state r).v.l <+: (((Wv.new cf).run l).state 0).v.l:=by
 have h:=(WI.new hf).run hl;generalize (Wv.new cf).run l=v at h;unfold Wv.state;cases hr:v.bU[r]? with
 |none=>exact aGd
 |some n =>
  dsimp only;by_cases h0:r=0
  ·subst h0;rw[hr];exact aFz _
  ·have h1:=h.h.rI r n hr h0;unfold D0 at h1;cases hz:v.bU[0]? with
   |none=>rw[hz] at h1;exact h1.trans aGd
   |some n0 =>
    rw[hz] at h1;exact h1.trans (h.h.gd hz).2.2.2.2.1
end Go.Proofs.YtmilalkjbojciaaGreat.Sep
