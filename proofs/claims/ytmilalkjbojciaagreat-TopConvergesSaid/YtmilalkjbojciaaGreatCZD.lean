/- Part ZD: what it needs. No condition. -/
import Derived.Test.YtmilalkjbojciaaGreatCZB
import Derived.Test.YtmilalkjbojciaaGreatCZC
set_option linter.all false
set_option maxRecDepth 100000
set_option maxHeartbeats 8000000
open Go.Proofs.Tryz
namespace Go.Proofs.YtmilalkjbojciaaGreat.Sep
open Go.RowKit Reg Oct
open Mem hiding Rd
section
variable (E:Env) (P:List Ov) (g t:Nat) (v:Wv)
def OW(ht:t<=1000000)(u:(1<=v.aD.length/\v.aD.length<=4)/\(v.aD.length:Int)=v.cf.eD):G E 19 [pt g] [dD P g t v,aQ P] λe m=>∃Q,e=.returned (.bool v.quiet)/\m=[dD (P++Q) g t v,aQ (P++Q)]:=by
 have q:=λM=>IU M P g t v;have wr:=λM=>Vv M P g t v;have W:=λM s=>Vo M s v.ws;have⟨⟨h1,h4⟩,i⟩:=u;have A:=λM P r n u=>IW M P g t v r n u ht;have R:=λM P r n u=>aIl M P g t v r n u;have U:v.quiet=if v.ws.length=0 then AM v 0 v.aD.length else false:=by
  unfold Wv.quiet;cases v.ws with
  |nil=>rfl
  |cons p ws=>rfl
 rw[U];clear U;generalize v.ws.length=wn at *;by_cases N:wn=0;case neg =>
  rw[b! N];refine p_ func19 ntmps19 ?_;refine r_ q ?_;refine u_ wr ?_;intro s;refine r_ (λM=>W M s) ?_;exact aX (H':=[dD P g t v,aQ P]) rfl aJ aC ⟨[],rfl,by rw[aY]⟩
 rw[c! N];subst N;have⟨l,w⟩:∃l,v.aD[0]?=some l:=⟨_,bS o_⟩;have H:v.state 0=l.state:=by unfold Wv.state;rw[w]
 have⟨n,z⟩:∃n,v.aD.length=n:=⟨_,rfl⟩;rw[z] at i;refine p_ func19 ntmps19 ?_;refine r_ q ?_;refine u_ wr ?_;intro s;refine r_ (λM=>W M s) ?_;refine u_ (λM=>A M P 0 l w) ?_;intro Q g3;refine u_ (λM=>uW M (P++Q) g3 l.state) ?_;intro g4;refine u_ (λM=>BB M (P++Q) g4 l.state.v) ?_;intro B k hk;rw[z];generalize F:l.state.v.l=j at *;refine C.loop (X:=Nat×List Ov) (λx=>[(0,pt g),(4,.slice B j.length k),(22,a! n),(23,a! x.1)]) (λx=>[dD (P++x.2) g t v,aQ (P++x.2),own bO B j.length k j])
  (λx=>x.1<=n/\AM v x.1 (n - x.1)=AM v 0 n) (λx=>n - x.1) (0,Q) (by rw[<-i];exact aK) aC ⟨bY _,by rw[Nat.sub_zero]⟩ ?_
 rintro⟨r,y⟩ G ⟨h5,b⟩;dsimp only at h5 b⊢;by_cases a9:r<n
 ·have⟨a,f⟩:∃a,v.aD[r]?=some a:=⟨_,bS o_⟩;have J:v.state r=a.state:=by unfold Wv.state;rw[f]
  have K:v.up r=a.up:=by unfold Wv.up;rw[f]
  have O:=λM P=>R M P r a f;have h7:AM v r (n - r)=if a.up/\a.state.quiet=true/\a.state.v.l=j then AM v (r+1) (n - (r+1)) else false:=by
   rw[show n - r=(n - (r+1))+1 by omega];show(if v.up r/\(v.state r).quiet=true/\(v.state r).v.l=(v.state 0).v.l then _ else _)=_;rw[J,K,H,F]
  rw[h7] at b;have qt:=λM D o=>aOl M D o a.state;have lg:=λM D o=>uW M D o a.state;generalize a.up=Z at *;refine a_ ?_
  refine u_ (λM=>A M (P++y) r a f) ?_;intro c o;refine aP (λM=>O M _) ?_;cases Z with
  |false =>
   rw[b! (by rintro⟨h,_⟩;cases h)] at b;rw[<-b];refine a_ ?_;exact aX (H':=[dD (P++(y++c)) g t v,aQ (P++(y++c))]) rfl aJ (by rw[<-bF];exact aC) ⟨y++c,rfl,rfl⟩
  |true =>
   generalize b0:a.state.quiet=qq at *;refine a_ ?_
   refine aP (λM=>qt M _ o) ?_;cases qq with
   |false =>
    rw[b! (by rintro⟨_,h,_⟩;cases h)] at b;rw[<-b];refine a_ ?_;exact aX (H':=[dD (P++(y++c)) g t v,aQ (P++(y++c))]) rfl aJ (by rw[<-bF];exact aC) ⟨y++c,rfl,rfl⟩
   |true =>
    refine a_ ?_;refine u_ (λM=>lg M _ o) ?_;intro g6;refine u_ (λM=>BB M _ g6 a.state.v) ?_;intro B2 k2 a8;refine oE (λM=>ZA M _ _ _ _ _ _ a.state.v.l j) ?_;by_cases d:a.state.v.l=j
    ·have hd:(!decide (a.state.v.l=j))=false:=by rw[d! d];rfl
     rw[c! ⟨rfl,rfl,d⟩] at b;refine a_ ?_;exact⟨(r+1,y++c),aK,by rw[<-bF];exact aC,⟨by dsimp only;omega,b⟩,d_⟩
    ·have hd:(!decide (a.state.v.l=j))=true:=by rw[e! d];rfl
     rw[b! (λh=>d h.2.2)] at b;rw[<-b];refine a_ ?_;exact aX (H':=[dD (P++(y++c)) g t v,aQ (P++(y++c))]) rfl aJ (by rw[<-bF];exact aC) ⟨y++c,rfl,rfl⟩
 ·obtain rfl:r=n:=o_;rw[BZ] at b;rw[<-b];refine a_ ?_;exact aX (H':=[dD (P++y) g t v,aQ (P++y)]) rfl aJ aC ⟨y,rfl,rfl⟩
end
section
variable (E:Env) (P:List Ov) (g t:Nat) (v:Wv)
def aNe(K:t<=990000)(hn:(1<=v.aD.length/\v.aD.length<=4)/\(v.aD.length:Int)=v.cf.eD):G E 67 [pt g] [dD P g t v,aQ P] λe h=>∃Q,e=.returned (.bool v.round.short)/\h=[dD (P++Q) g (t+1200) v.round.w,aQ (P++Q)]:=by
 have k1:jT 132=true:=q_;have k2:jT 134=true:=q_;have k3:jT 135=true:=q_;unfold Wv.round;have c0:∀d:Dv,d.w.cf=v.cf->d.w.aD.length=v.aD.length->d.w.aD.length<=4/\(d.w.aD.length:Int)=d.w.cf.eD:=λd J h2=>⟨by rw[h2];exact hn.1.2,by rw[J,h2];exact hn.2⟩
 have X:=λM P a t (d:Dv) (J:d.w.aD.length=v.aD.length) K=>aFo M P a g t d K (by rw[J];exact hn.1.1);have R:=λM P a t (d:Dv) (J:d.w.cf=v.cf/\d.w.aD.length=v.aD.length) f cs F hk law hF i hi K=>Uh M P a g t d f cs F hk law hF i hi K (c0 d J.1 J.2);have dw:=λM P a t (d:Dv) A c st hr K hI=>Kj M P a g t d A 1 c [st] hr K hI;have e1:∀(d:Dv) st,Dv.oH d [st]=d.dB st:=λd st=>rfl;simp only[e1] at dw;have p:=λM a=>X M P a t ⟨v,false⟩ rfl o_;dsimp only[dA] at X R dw p;have⟨d1,b0⟩:∃d,(Dv.mk v false).bZ=d:=⟨_,rfl⟩
 have U:=Ct ⟨v,false⟩;rw[b0] at U p⊢;dsimp only at U;have⟨d2,r⟩:∃d,d1.all 0 (eV 15)=d:=⟨_,rfl⟩
 have b2:=zQ d1 0 (eV 15);rw[r,U.1,U.2] at b2;rw[r];have⟨d3,s⟩:∃d,d2.all 1 xE=d:=⟨_,rfl⟩
 have b3:=zQ d2 1 xE;rw[s,b2.1,b2.2] at b3;rw[s];have⟨d4,u⟩:∃d,d3.bZ=d:=⟨_,rfl⟩
 have b4:=Ct d3;rw[u,b3.1,b3.2] at b4;rw[u];have⟨d5,w⟩:∃d,d4.dB (bP 4 0 0 16)=d:=⟨_,rfl⟩
 have b5:=zV d4 (bP 4 0 0 16);rw[w,b4.1,b4.2] at b5;rw[w];have⟨d6,x⟩:∃d,d5.all 1 tY=d:=⟨_,rfl⟩
 have b6:=zQ d5 1 tY;rw[x,b5.1,b5.2] at b6;rw[x];have⟨d7,y⟩:∃d,d6.bZ=d:=⟨_,rfl⟩
 have b7:=Ct d6;rw[y,b6.1,b6.2] at b7;rw[y];have⟨d8,z⟩:∃d,d7.all 0 (eV 5)=d:=⟨_,rfl⟩
 have b8:=zQ d7 0 (eV 5);rw[z,b7.1,b7.2] at b8;rw[z];have⟨d9,B⟩:∃d,d8.bZ=d:=⟨_,rfl⟩
 have b9:=Ct d8;rw[B,b8.1,b8.2] at b9;rw[B];have⟨a9,n⟩:∃d,d9.dB (bP 6 0 0 v.cf.cap)=d:=⟨_,rfl⟩
 rw[n];have W:=λM P t=>IU M P g t d9.w;rw[b9.1] at W;refine p_ func67 ntmps67 ?_;intros
 rename_i a;refine u_ (λM=>p M a) ?_;intro b n1
 refine u_ (λM=>Kr M 15) ?_;intro Z
 refine cl sD sK aH (λM q=>R M (P++b) a (t+256) d1 U 132 [pt Z] (eV 15) k1 (Ks M Z 15 (gX.of q aV)) (JZ 15) 0 o_ o_) ?_;rintro e h ⟨j,rfl,rfl⟩;rw[r];refine a_ ?_
 refine cl sD sK aH (λM q=>R M (P++b++j) a (t+256+8) d2 b2 134 [] xE k2 (aGt M) ZO 1 o_ o_) ?_;rintro e h ⟨k,rfl,rfl⟩;rw[s];refine a_ ?_
 refine aU (λM=>X M (P++b++j++k) a (t+256+8+8) d3 b3.2 o_) ?_;rintro e h ⟨l,n4,rfl,rfl⟩;rw[u];refine a_ ?_
 refine L.lI sD (S.Af (T:=nK) (e1:=bP 4 0 0 16) rfl cQ rfl rH (by rfl) sD) ?_;rintro _ _ ⟨_,rfl,rfl⟩;refine a_ ?_
 refine cl sD sK aH (λM q=>dw M (P++b++j++k++l) a (t+256+8+8+256) d4 _ _ (bP 4 0 0 16) bK o_ (λst D=>by rw[eM.1 D];exact C6)) ?_;rintro e h ⟨m,rfl,rfl⟩;rw[w];refine a_ ?_
 refine cl sD sK aH (λM q=>R M (P++b++j++k++l++m) a (t+256+8+8+256+1) d5 b5 135 [] tY k3 (aEw M) ZP 1 o_ o_) ?_;rintro e h ⟨o,rfl,rfl⟩;rw[x];refine a_ ?_
 refine aU (λM=>X M (P++b++j++k++l++m++o) a (t+256+8+8+256+1+8) d6 b6.2 o_) ?_;rintro e h ⟨H,n7,rfl,rfl⟩;rw[y];refine a_ ?_
 refine u_ (λM=>Kr M 5) ?_;intro a8
 refine cl sD sK aH (λM q=>R M (P++b++j++k++l++m++o++H) a (t+256+8+8+256+1+8+256) d7 b7 132 [pt a8] (eV 5) k1 (Ks M a8 5 (gX.of q aV)) (JZ 5) 0 o_ o_) ?_;rintro e h ⟨O,rfl,rfl⟩;rw[z];refine a_ ?_
 refine aU (λM=>X M (P++b++j++k++l++m++o++H++O) a (t+256+8+8+256+1+8+256+8) d8 b8.2 o_) ?_;rintro e h ⟨Q9,n9,rfl,rfl⟩;rw[B];refine a_ ?_
 refine r_ (λM=>W M (P++b++j++k++l++m++o++H++O++Q9) (t+256+8+8+256+1+8+256+8+256)) ?_
 refine L.lI sD (S.Af (T:=nK) (e1:=bP 6 0 0 v.cf.cap) rfl cQ rfl rH (by rfl) sD) ?_;rintro _ _ ⟨_,rfl,rfl⟩;refine a_ ?_
 refine cl sD sK aH (λM q=>dw M (P++b++j++k++l++m++o++H++O++Q9) a (t+256+8+8+256+1+8+256+8+256) d9 _ _ (bP 6 0 0 v.cf.cap) bK o_ (λst D=>by rw[eM.1 D];exact C6)) ?_;rintro e h ⟨N,rfl,rfl⟩;rw[n];refine a_ ?_
 exact aX (H':=[dD (P++(b++(j++(k++(l++(m++(o++(H++(O++(Q9++N)))))))))) g (t+1200) a9.w,aQ (P++(b++(j++(k++(l++(m++(o++(H++(O++(Q9++N))))))))))]) rfl aJ (by simp only[<-bF];exact aB.trans (Ed (show t+256+8+8+256+1+8+256+8+256+1<=t+1200 by omega) aH) aC) ⟨_,rfl,rfl⟩
end
def UC(v:Wv):v.round.w.cf=v.cf/\v.round.w.aD.length=v.aD.length:=by
 unfold Wv.round;have e:=λ(a b c:Dv) (h:a.w.cf=b.w.cf/\a.w.aD.length=b.w.aD.length) (k:b.w.cf=c.w.cf/\b.w.aD.length=c.w.aD.length)=>(⟨h.1.trans k.1,h.2.trans k.2⟩:a.w.cf=c.w.cf/\a.w.aD.length=c.w.aD.length)
 exact e _ _ ⟨v,false⟩ (zV _ _) (e _ _ _ (Ct _) (e _ _ _ (zQ _ _ _) (e _ _ _ (Ct _) (e _ _ _ (zQ _ _ _) (e _ _ _ (zV _ _) (e _ _ _ (Ct _) (e _ _ _ (zQ _ _ _) (e _ _ _ (zQ _ _ _) (Ct _)))))))))
def U7(v:Wv):v.start.cf=v.cf/\v.start.aD.length=v.aD.length:=by
 unfold Wv.start;have a:=zV ⟨v,false⟩ (bP 11 0 0 0);have b:=zQ (Dv.dB ⟨v,false⟩ (bP 11 0 0 0)) 0 (eV 14);have c:=zQ ((Dv.dB ⟨v,false⟩ (bP 11 0 0 0)).all 0 (eV 14)) 0 (eV 13);exact⟨c.1.trans (b.1.trans a.1),c.2.trans (b.2.trans a.2)⟩
def Mi{k:Nat}{v:Wv}{a:Bool}{n:Nat}(h:v.quiet=true):vM (k+1) v a n=(v,n,a):=by
 show(if v.quiet then(v,n,a) else _)=_;rw[c! h]
def Mh{k:Nat}{v:Wv}{a:Bool}{n:Nat}(h:v.quiet=false):vM (k+1) v a n=vM k v.round.w (v.round.short||a) (n+1):=by
 show(if v.quiet then(v,n,a) else _)=_;rw[b! (by rw[h];decide)]
section
variable (E:Env) (P:List Ov) (g t:Nat) (v:Wv)
def Uu(ht:t<=1000)(hn:(1<=v.aD.length/\v.aD.length<=4)/\(v.aD.length:Int)=v.cf.eD):G E 11 [pt g,a! 40] [dD P g t v,aQ P] λe p=>∃Q,e=.returned (.tuple #[a! (v.fair 40).2.1,.bool (v.fair 40).2.2])/\p=[dD (P++Q) g (t+50000) (v.fair 40).1,aQ (P++Q)]:=by
 have k1:jT 132=true:=q_;have B:=U7 v;unfold Wv.fair;have l:v.start=((((Dv.mk v false).dB (bP 11 0 0 0)).all 0 (eV 14)).all 0 (eV 13)).w:=rfl;have U:=λM P n t (d:Dv) (H:d.w.cf=v.cf/\d.w.aD.length=v.aD.length) f cs F hk law hF i hi ht=>Uh M P n g t d f cs F hk law hF i hi ht (by rw[H.1,H.2];exact⟨hn.1.2,hn.2⟩);have D:=λM P n A c hr=>Kj M P n g t ⟨v,false⟩ A 1 c [bP 11 0 0 0] hr o_ (λst b6=>by rw[eM.1 b6];exact C6);have e1:∀(d:Dv) st,Dv.oH d [st]=d.dB st:=λd st=>rfl;rw[e1] at D;dsimp only[dA] at U D;have⟨W,a8⟩:∃d,(Dv.mk v false).dB (bP 11 0 0 0)=d:=⟨_,rfl⟩
 have r:=zV ⟨v,false⟩ (bP 11 0 0 0);rw[a8] at r D l;dsimp only at r;have⟨d2,o⟩:∃d,W.all 0 (eV 14)=d:=⟨_,rfl⟩;have b2:=zQ W 0 (eV 14);rw[o,r.1,r.2] at b2;rw[o] at l;have⟨d3,z⟩:∃d,d2.all 0 (eV 13)=d:=⟨_,rfl⟩;rw[z] at l;have a:fC 40 0 100=40:=sD;have b0:vM 40 v.start false 0=(vM 40 v.start false 0):=rfl;generalize a9:vM 40 v.start false 0=fE at *;clear b0;refine p_ func11 ntmps11 ?_;intros;rename_i n;refine L.lI sD (S.Af (T:=nK) (e1:=bP 11 0 0 0) rfl cQ rfl rH (by rfl) sD) ?_;rintro _ _ ⟨_,rfl,rfl⟩;refine a_ ?_;refine C_ (λM=>D M P n _ _) ?_;intro R;refine u_ (λM=>Kr M 14) ?_;intro u;refine cl sD sK aH (λM Z=>U M (P++R) n (t+1) W r 132 [pt u] (eV 14) k1 (Ks M u 14 (gX.of Z aV)) (JZ 14) 0 o_ o_) ?_;rintro e p ⟨Q2,rfl,rfl⟩;rw[o];refine a_ ?_;refine u_ (λM=>Kr M 13) ?_;intro w;refine cl sD sK aH (λM Z=>U M (P++R++Q2) n (t+1+8) d2 b2 132 [pt w] (eV 13) k1 (Ks M w 13 (gX.of Z aV)) (JZ 13) 0 o_ o_) ?_;rintro e p ⟨Q3,rfl,rfl⟩;rw[z,<-l];refine a_ ?_;rw[a];refine C.loop (X:=Nat×Wv×Bool×List Ov) (λx=>[(0,pt g),(1,a! 40),(7,.bool x.2.2.1),(23,a! 40),(24,a! x.1)]) (λx=>[dD (P++x.2.2.2) g (t+100+1200*x.1) x.2.1,aQ (P++x.2.2.2)])
  (λx=>x.1<=40/\vM (40 - x.1) x.2.1 x.2.2.1 x.1=fE/\x.2.1.cf=v.cf/\x.2.1.aD.length=v.aD.length) (λx=>40 - x.1) (0,v.start,false,R++(Q2++Q3)) aK (by simp only[<-bF];exact aB.trans (Ed (show t+1+8+8<=t+100+1200*0 by omega) aH) aC) ⟨bY _,a9,B.1,B.2⟩ ?_
 rintro⟨m,b,sh,y⟩ G ⟨H,h,J,K⟩;dsimp only at H h J K⊢;by_cases b9:m<40
 ·have k:(1<=b.aD.length/\b.aD.length<=4)/\(b.aD.length:Int)=b.cf.eD:=by rw[J,K];exact hn
  have b8:=k.2;have b5:=k.1.1;have s:=λM=>IU M (P++y) g (t+100+1200*m) b;have O:=λM=>OW M (P++y) g (t+100+1200*m) b o_ k;have rd:=λM P=>aNe M P g (t+100+1200*m) b o_ k;have j:=UC b;rw[show 40 - m=(40 - (m+1))+1 by omega] at h;cases N:b.quiet with
  |true =>
   rw[Mi N] at h;subst h;rw[N] at O;refine a_ ?_;refine r_ s ?_;refine u_ O ?_;intro q;exact uX (H':=[dD (P++(y++q)) g (t+50000) b,aQ (P++(y++q))]) rfl aJ aJ (by simp only[<-bF];exact aB.trans (Ed (show t+100+1200*m<=t+50000 by omega) aH) aC) ⟨_,rfl,rfl⟩
  |false =>
   rw[Mh N] at h;rw[N] at O;generalize b.round=d4 at *;have⟨v4,b7⟩:=d4;dsimp only at h rd j;refine a_ ?_
   refine r_ s ?_
   refine u_ O ?_;intro q
   refine aU (λM=>rd M (P++y++q)) ?_;rintro e p ⟨Q5,rfl,rfl⟩;refine gk bU ?_;cases b7 with
   |true =>
    refine a_ ?_;exact⟨(m+1,v4,true,y++(q++Q5)),aK,by simp only[<-bF];exact aC,⟨by dsimp only;omega,h,j.1.trans J,j.2.trans K⟩,d_⟩
   |false =>
    refine a_ ?_;exact⟨(m+1,v4,sh,y++(q++Q5)),aK,by simp only[<-bF];exact aC,⟨by dsimp only;omega,h,j.1.trans J,j.2.trans K⟩,d_⟩
 ·obtain rfl:m=40:=o_;have h:(b,40,sh)=fE:=h;subst h;refine a_ ?_;rw[a];exact uX (H':=[dD (P++y) g (t+50000) b,aQ (P++y)]) rfl aJ aJ (aB.trans (Ed (show t+100+1200*40<=t+50000 by omega) aH) aC) ⟨_,rfl,rfl⟩
end
end Go.Proofs.YtmilalkjbojciaaGreat.Sep
