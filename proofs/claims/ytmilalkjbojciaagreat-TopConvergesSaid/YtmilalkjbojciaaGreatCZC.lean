/- Part ZC: what it needs. No condition. -/
import Derived.Test.YtmilalkjbojciaaGreatCZA
set_option linter.all false
set_option maxRecDepth 100000
set_option maxHeartbeats 8000000
open Go.Proofs.Tryz
namespace Go.Proofs.YtmilalkjbojciaaGreat.Sep
open Go.RowKit Reg Oct
open Mem hiding Rd
variable{v:Wv}
def aIr{l:List cK}{i:Nat}{x:cK}(h:l[i]?=some x):v.run (l.take (i+1))=((v.run (l.take i)).step x).1:=Cy h
theorem Wv.ok.mono{t t':Nat}(h:v.ok t)(a:t<=t'):v.ok t':=⟨h.dI,h.len,h.now,h.sub,by have:=h.bI;omega,by have:=h.app;omega,h.pk⟩
def aZ.Zp{X:Type}{p:X->Prop}{l:X->List aG}{B:List aG}(h:∀x,p x->aZ (l x) B):aZ [tQ p l] B:=λF w i=>by
 have⟨j,k,g,o,⟨x,m,c,d,n,e,f⟩,q⟩:=i;have⟨a,k1,k2⟩:=h x e.1 c w f;exact⟨a,k1,λb hb=>(g b).2 (.inl ((d b).2 (.inr (k2 b hb))))⟩
theorem dD.mono{P Q:List Ov}{g t t':Nat}(a:t<=t'):aZ [dD P g t v] [dD (P++Q) g t' v] :=
 aZ.Zp λx b=>(aZ.cons aZ.refl (aZ.cons aZ.refl (aZ.cons aZ.refl (aZ.cons aZ.refl (aZ.cons aZ.refl (aZ.HA (λ_z=>bA.mono (P:=P) (Q:=Q) (Fe a)))))))).trans (aZ.fp (l:=wL (P++Q) g (kt t') v) (x:=x) ⟨b.1.mono a,b.2⟩)
section
variable (E:Env) (P:List Ov)
def pw1(a:iX):G E 87 [.agg a.cs.toArray] [] (bL (.tuple #[]) []):=by
 refine p_ func87 ntmps87 ?_;intros
 exact vK
def aRt(cf:bW)(b:¬cf.dI)(d a:p!):G E 86 [.agg cf.cs.toArray,d,a] [] (bL (.tuple #[.pointer none,a! 6]) []):=by
 have c:=λM=>aFi M cf b;refine p_ func86 ntmps86 ?_;intros
 refine r_ c ?_
 exact mZ
def aAg(cf:bW)(o:cf.dI)(A:n!)(m c:Nat)(l:List cK)(q:Rd E nK A m c l)(v:m<=256)(p:∀st∈l,bQ st.c.n):G E 86 [.agg cf.cs.toArray,.slice A m c,.func (.func 87) #[] #[]] [aQ P] λe f=>∃Q g,e=.returned (.tuple #[pt g,a! 0])/\f=[dD (P++Q) g (m+1) ((Wv.new cf).run l),aQ (P++Q)]:=by
 have r:=λM=>aNq M P cf o;have b:=q.len;generalize Wv.new cf=h at *;refine t_ func86 ntmps86 ?_;repeat first|refine v_ ?_|intro
 refine aU r ?_;rintro e f ⟨Q,g,rfl,rfl⟩;repeat first|refine v_ ?_|intro
 rename_i s;refine C.scan (Y:=List Ov) (l:=l) (n:=m) b (λi _=>[(2,.func (.func 87) #[] #[]),(8,pt g),(25,.slice A m c),(26,a! m),(27,a! i)])
  (λi y=>[dD (P++y) g (i+1) (h.run (l.take i)),aQ (P++y)]) (λ_ _=>True) Q aK (by show aB E _ [dD (P++Q) g 1 h,aQ (P++Q)];exact aC) trivial ?_ ?_
 ·rintro i y st F u d -;have k:=p st (dG d);have dW:=λM=>Vu M (P++y) g (i+1) (h.run (l.take i)) o_ st k;rw[aIr d];generalize (h.run (l.take i)).step st=z at *;obtain⟨w,a⟩:=z;dsimp only at dW⊢;repeat first|refine v_ ?_|intro
  refine aU dW ?_;rintro e f ⟨j,rfl,rfl⟩;repeat first|refine v_ ?_|intro
  refine cv sD rfl rfl rfl .nil (λM t=>pw1 M a) ?_;rintro e f ⟨rfl,rfl⟩;repeat first|refine v_ ?_|intro
  exact⟨y++j,aK,by rw[<-bF];exact aC,trivial⟩
 ·rintro y F -;rw[show l.take m=l by rw[b,gY]];repeat first|refine v_ ?_|intro
  exact oN ⟨y,g,rfl,rfl⟩
def aHr(cf:bW)(d:¬cf.dI)(a:p!):G E 24 [.agg cf.cs.toArray,a] [] (bL (.tuple #[.pointer none,a! 6]) []):=by
 have b:=λM c=>aRt M cf d a c;refine p_ func24 ntmps24 ?_;intros
 refine r_ (λM=>b M _) ?_
 exact mZ
def Tx(cf:bW)(f:cf.dI)(A:n!)(m c:Nat)(l:List cK)(a:Rd E nK A m c l)(i:m<=256)(h:∀st∈l,bQ st.c.n):G E 24 [.agg cf.cs.toArray,.slice A m c] [aQ P] λe b=>∃Q g,e=.returned (.tuple #[pt g,a! 0])/\b=[dD (P++Q) g (m+1) ((Wv.new cf).run l),aQ (P++Q)]:=by
 have d:=λM a=>aAg M P cf f A m c l a i h;generalize (Wv.new cf).run l=v at *;refine p_ func24 ntmps24 ?_;intros
 refine C_ d ?_;intro Q g
 exact oN ⟨Q,g,rfl,rfl⟩
end
instance:iB 134 [.pointer none,.bool false] [(0,1),(1,1)]:=⟨⟨q_,q_⟩⟩
def Yp{d:Dv}{l:List cK}{i:Nat}{x:cK}(h:l[i]?=some x):d.oH (l.take (i+1))=(d.oH (l.take i)).dB x:=Cy h
abbrev dA(P:List Ov)(gv g t:Nat)(d:Dv):List aG:=[aE gv 134 [pt g,.bool d.short],dD P g t d.w,aQ P]
section
variable (E:Env) (P:List Ov) (gv g t:Nat) (d:Dv)
def Kj(A:n!)(m c:Nat)(l:List cK)(v:Rd E nK A m c l)(D:t+m<=1000000)(u:∀st∈l,bQ st.c.n):G E 62 [pt gv,.slice A m c] (dA P gv g t d) λe j=>∃Q,e=.returned (.tuple #[])/\j=dA (P++Q) gv g (t+m) (d.oH l):=by
 have b:=v.len;dsimp only[dA];refine t_ func62 ntmps62 ?_;repeat first|refine v_ ?_|refine Dr.two ?_ ?_|intro
 refine C.scan (Y:=List Ov) (l:=l) (n:=m) b (λi _=>[(0,pt gv),(7,.slice A m c),(8,a! m),(9,a! i)])
  (λi y=>[aE gv 134 [pt g,.bool (d.oH (l.take i)).short],dD (P++y) g (t+i) (d.oH (l.take i)).w,aQ (P++y)]) (λ_ _=>True) [] aK (by rw[aY];show aB E _ [aE gv 134 [pt g,.bool d.short],dD P g t d.w,aQ P];exact aC) trivial ?_ ?_
 ·rintro i y st F B f -;have r:=u st (dG f);rw[Yp f];generalize d.oH (l.take i)=p at *;obtain⟨o,w⟩:=p;have dW:=λM=>Vu M (P++y) g (t+i) o o_ st r;unfold Dv.dB;dsimp only;generalize o.step st=z at *;obtain⟨H,a⟩:=z;dsimp only at dW⊢;repeat first|refine v_ ?_|refine Dr.two ?_ ?_|intro
  rename_i q;refine C.fL 7 (l_ [0,1,2,3,4] (.two 5 (g_ 6 (g_ 7 .nil)) 6 (g_ 5 (g_ 7 .nil)))) ([aE gv 134 _,aE q 39 _]) q_ q_ aC ?_;repeat first|refine v_ ?_|intro
  refine Dr.two ?_ ?_;refine lC rfl sD bB sK aH (λM x=>dW M) ?_;rotate_left;repeat first|refine v_ ?_|intro
  refine eI dW ?_;all_goals
   rintro e j ⟨k,rfl,rfl⟩;repeat first|refine v_ ?_|refine Dr.two ?_ ?_|intro
   cases w with
   |true =>
    rw[Bool.true_or];repeat first|refine v_ ?_|refine Dr.two ?_ ?_|intro
    exact⟨y++k,aK,by rw[<-bF,<-Ac];exact aC,trivial⟩
   |false =>
    by_cases h:st.kind=15;rw[show(false||(!decide (st.kind=15)&&decide (a.code=10)))=false by simp[h]];have s:decide (st.kind≠15)=false:=e! o_;rotate_left;have s:decide (st.kind≠15)=true:=d! h;rw[show(false||(!decide (st.kind=15)&&decide (a.code=10)))=decide (a.code=10) by simp[h]];all_goals
     repeat first|refine v_ ?_|refine Dr.two ?_ ?_|intro
     exact⟨y++k,aK,by rw[<-bF,<-Ac];exact aC,trivial⟩
 ·rintro y F -;rw[show l.take m=l by rw[b,gY]];repeat first|refine v_ ?_|refine Dr.two ?_ ?_|intro
  exact gG rfl aC (⟨y,rfl,rfl⟩)
end
def Iy(E:Env)(f:FuncId)(cs:List p!)(F:Nat->List cK):Prop:=∀M R,Sub E R M->∀r:Nat,r<=4->aF prog M f (a! r::cs).toArray [] λe a=>∃A c,e=.returned (.slice A (F r).length c)/\a=[own nK A (F r).length c (F r)]
def JY(F:Nat->List cK):Prop:=∀r,(F r).length<=2/\∀st∈F r,bQ st.c.n
def Ed{E:Env}{P:List Ov}{g t t':Nat}{H R:List aG}(b:t<=t')(a:fJ [dD P g t v] H R):aB E H (dD P g t' v::R):=by
 have:=aB.imp (E:=E) (dD.mono (P:=P) (Q:=[]) b) a;rw[aY] at this;exact this
def aEw(E:Env):Iy E 135 [] tY:=λM R a r b=>by
 refine p_ func135 ntmps135 ?_
 refine L.lI sD (S.Af (T:=nK) (e1:=bP 3 r 0 0) rfl cQ rfl rH (by rfl) sD) ?_;rintro _ _ ⟨_,rfl,rfl⟩;refine a_ ?_
 exact dS ⟨_,_,rfl,rfl⟩
def aGt(E:Env):Iy E 134 [] xE:=λM R a r b=>by
 refine p_ func134 ntmps134 ?_
 refine L.lI sD (S.QD (T:=nK) (e1:=bP 3 r 0 0) (e2:=bP 3 0 r 0) rfl cQ cQ rfl rH (by rfl) (by rfl) sD) ?_;rintro _ _ ⟨_,rfl,rfl⟩;refine a_ ?_
 exact dS ⟨_,_,rfl,rfl⟩
def Ks(E:Env)(b:Nat)(a:Int)(hb:gX E b [a! a]):Iy E 132 [pt b] (eV a):=λM R c r e=>by
 have hb:=hb.sub c;show G M 132 [a! r,pt b] [] _;refine p_ func132 ntmps132 ?_
 refine L.lI sD (S.Af (T:=nK) (e1:=bP a r 0 0) rfl cQ rfl rH (by rfl) sD) ?_;rintro _ _ ⟨_,rfl,rfl⟩;refine a_ ?_
 exact dS ⟨_,_,rfl,rfl⟩
def Kr(E:Env)(a:Int):G E 64 [a! a] [] λe c=>∃b,e=.returned (.func (.func 132) #[] #[pt b])/\c=[aE b 3 [a! a]]:=by
 refine p_ func64 ntmps64 ?_;intros
 exact dS ⟨_,rfl,rfl⟩
def C6:bQ 0:=⟨by decide,by decide⟩
def ZP:JY tY:=λr=>⟨pV 1,λst a=>by rw[eM.1 a];exact C6⟩
def JZ(a:Int):JY (eV a):=λr=>⟨pV 1,λst b=>by rw[eM.1 b];exact C6⟩
def ZO:JY xE:=λr=>⟨bM 2,λst a=>by
 rcases tK.1 a with h|h
 ·rw[h];exact C6
 ·rw[eM.1 h];exact C6⟩
def Yr(F:Nat->List cK)(i k:Nat)(d:Dv):yD F i (k+1) d=yD F (i+1) k (d.oH (F i)):=rfl
section
variable (E:Env) (P:List Ov) (gv g t:Nat) (d:Dv)
def Uh(f:FuncId)(cs:List p!)(F:Nat->List cK)(R:jT f=true)(v:Iy E f cs F)(m:JY F)(i:Nat)(hi:i<=1)(Z:t<=999990)(W:d.w.aD.length<=4/\(d.w.aD.length:Int)=d.w.cf.eD):G E 63 [pt gv,a! i,.func (.func f) #[] cs.toArray] (dA P gv g t d) λe D=>∃Q,e=.returned (.tuple #[])/\D=dA (P++Q) gv g (t+8) (d.all i F):=by
 have⟨n,u⟩:∃n,d.w.aD.length=n:=⟨_,rfl⟩;have h:yD F i (n - i) d=d.all i F:=by rw[<-u];rfl
 generalize d.all i F=w at *;dsimp only[dA];refine p_ func63 ntmps63 ?_;refine C.loop (X:=Nat×Dv×List Ov) (λx=>[(0,pt gv),(2,.func (.func f) #[] cs.toArray),(6,a! x.1)]) (λx=>[aE gv 134 [pt g,.bool x.2.1.short],dD (P++x.2.2) g (t+2*(x.1 - i)) x.2.1.w,aQ (P++x.2.2)])
  (λx=>i<=x.1/\(x.1<=n\/x.1=i)/\yD F x.1 (n - x.1) x.2.1=w/\x.2.1.w.cf=d.w.cf) (λx=>n - x.1) (i,d,[]) aK (by rw[aY,BZ];exact aC) ⟨bM _,.inr rfl,h,rfl⟩ ?_
 rintro⟨r,⟨a,j⟩,y⟩ G ⟨K,N,b,l⟩;dsimp only at K N b l⊢;have B:a.cf.eD=n:=by rw[l];omega
 have k:=λM=>IU M (P++y) g (t+2*(r - i)) a;refine a_ ?_
 refine aP k ?_;by_cases s:r<n
 ·have q:n - r=(n - (r+1))+1:=o_;rw[q,Yr] at b;have o:=(G8 (F r) ⟨a,j⟩).1;have z:=λM A c U=>Kj M (P++y) gv g (t+2*(r - i)) ⟨a,j⟩ A (F r).length c (F r) U (by have:=(m r).1;omega) (m r).2;dsimp only[dA] at z;generalize Dv.oH ⟨a,j⟩ (F r)=J at *;refine a_ ?_
  refine cv sD rfl rfl R .nil (λM O=>v M _ O r o_) (b_ ?_);intro A c;refine C_ (λM=>z M A c) ?_;intro H;exact⟨(r+1,J,y++H),aK,by rw[<-bF];exact aB.trans (Ed (show t+2*(r - i)+(F r).length<=t+2*(r+1 - i) by have:=(m r).1;omega) aH) aC,⟨by dsimp only;omega,.inl s,b,o.trans l⟩,d_⟩
 ·have p:n - r=0:=o_;rw[p] at b;obtain rfl:(⟨a,j⟩:Dv)=w:=b;refine a_ ?_;refine gG rfl (aB.trans (Ed (show t+2*(r - i)<=t+8 by omega) aH) aC) ⟨y,rfl,rfl⟩
end
def U9(b:1<=v.aD.length):(v.step (bP 7 0 0 0)).1=(v.bZ 0).1:=by
 unfold Wv.step;rw[b! (show ¬(bP 7 0 0 0).check≠0 by decide)];have a:(bP 7 0 0 0).r.toNat=0:=rfl;rw[a,bS (show 0<v.aD.length by omega)];rfl
def G9(k:Nat)(d:Dv)(n:Nat)(h:d.w.ws≠[]):pJ (k+1) d n=pJ k (d.dB (bP 7 0 0 0)) (n+1):=by
 show(match d.w.ws with|[]=>(d,n)|_::_=>pJ k (d.dB (bP 7 0 0 0)) (n+1))=_;cases a:d.w.ws with
 |nil=>exact i! a h
 |cons p b=>rfl
theorem Cu(k:Nat)(d:Dv)(n:Nat)(h:d.w.ws=[]):pJ k d n=(d,n):=by
 cases k with
 |zero=>rfl
 |succ k =>
  show(match d.w.ws with|[]=>(d,n)|_::_=>pJ k (d.dB (bP 7 0 0 0)) (n+1))=_;rw[h]
def Qx:∀(k:Nat) (d:Dv) (n:Nat) (j:Nat),1<=d.w.aD.length->iD d.w.ws<=k->pJ (k+j) d n=pJ k d n
 |0,d,n,j,_,h=>by
  have:d.w.ws=[]:=by
   cases a:d.w.ws with
   |nil=>rfl
   |cons p b=>rw[a] at h;have:=(LJ p).1;have e:iD (p::b)=wt p+iD b:=rfl;omega
  rw[Cu _ d n this,Cu _ d n this]
 |k+1,d,n,j,hn,h=>by
  by_cases a:d.w.ws=[]
  ·rw[Cu _ d n a,Cu _ d n a]
  ·have e:k+1+j=(k+j)+1:=o_;rw[e,G9 _ d n a,G9 _ d n a];refine Qx k _ _ j (by rw[(zV d _).2];exact hn) ?_;have⟨p,b,f⟩:∃p b,d.w.ws=p::b:=by
    cases c:d.w.ws with
    |nil=>exact i! c a
    |cons p b=>exact⟨p,b,rfl⟩
   have:=O9 f;show iD (d.w.step (bP 7 0 0 0)).1.ws<=k;rw[U9 hn];omega
section
variable (E:Env) (P:List Ov) (gv g t:Nat) (d:Dv)
def aFo(ht:t<=999000)(W:1<=d.w.aD.length):G E 133 [pt gv] (dA P gv g t d) λe w=>∃Q n,e=.returned (a! n)/\w=dA (P++Q) gv g (t+256) d.bZ:=by
 refine aF.Jg (p:=λx:lX=>d.w.ok t/\x.gs.length=d.w.aD.length) (l:=wL P g (kt t) d.w) (.bJ .aR) (λhx=>?_);have⟨_,F,_⟩:=hx;have hw:iD d.w.ws<=256:=by have:=aEl d.w.ws;have:=F.pk.2;omega
 clear F;have j:pJ (iD d.w.ws) d 0=(d.bZ,(pJ (iD d.w.ws) d 0).2):=rfl;generalize d.bZ=K at *;generalize (pJ (iD d.w.ws) d 0).2=nE at *;dsimp only[dA];refine p_ func133 ntmps133 ?_
 refine C.loop (X:=Dv×Nat×List Ov) (λx=>[(0,pt gv),(3,a! x.2.1)]) (λx=>[aE gv 134 [pt g,.bool x.1.short],dD (P++x.2.2) g (t+x.2.1) x.1.w,aQ (P++x.2.2)])
  (λx=>x.2.1+iD x.1.w.ws<=256/\pJ (iD x.1.w.ws) x.1 x.2.1=(K,nE)/\1<=x.1.w.aD.length) (λx=>iD x.1.w.ws) (d,0,[]) aK (by rw[aY];exact aC) ⟨by dsimp only;omega,j,W⟩ ?_
 rintro⟨⟨a,b⟩,u,y⟩ G ⟨O,i,o⟩;dsimp only at O i o⊢;have wr:=λM=>Vv M (P++y) g (t+u) a;refine a_ ?_
 refine u_ wr ?_;intro N
 refine aP (λM=>Vo M N a.ws) ?_;cases h:a.ws with
 |nil =>
  rw[Cu _ _ _ h] at i;injection i with i _
  subst i;refine a_ ?_
  exact aX (H':=dA (P++y) gv g (t+256) ⟨a,b⟩) rfl aJ (aB.trans (Ed (show t+u<=t+256 by omega) aH) aC) ⟨y,_,rfl,rfl⟩
 |cons p H =>
  have s:a.ws≠[]:=by rw[h];exact List.cons_ne_nil _ _
  have D:=O9 h;have r:iD a.ws=(iD a.ws - 1)+1:=o_;have U:decide ((0:Int)<((p::H).length:Nat))=true:=d! (by rw[gL];omega);rw[r,G9 _ _ _ s] at i;have m:(Dv.dB ⟨a,b⟩ (bP 7 0 0 0)).w.ws=(a.bZ 0).1.ws:=by show(a.step _).1.ws=_;rw[U9 o]
  have k:=(zV ⟨a,b⟩ (bP 7 0 0 0)).2;have f:=Qx (iD (Dv.dB ⟨a,b⟩ (bP 7 0 0 0)).w.ws) (Dv.dB ⟨a,b⟩ (bP 7 0 0 0)) (u+1) (iD a.ws - 1 - iD (Dv.dB ⟨a,b⟩ (bP 7 0 0 0)).w.ws) (by rw[k];exact o) (bM _);rw[show iD (Dv.dB ⟨a,b⟩ (bP 7 0 0 0)).w.ws+(iD a.ws - 1 - iD (Dv.dB ⟨a,b⟩ (bP 7 0 0 0)).w.ws)=iD a.ws - 1 by rw[m];omega,i] at f;rw[<-m] at D;have q:=λM A c Z=>Kj M (P++y) gv g (t+u) ⟨a,b⟩ A 1 c [bP 7 0 0 0] Z o_ (λst v=>by rw[eM.1 v];exact C6);have B:Dv.oH ⟨a,b⟩ [bP 7 0 0 0]=Dv.dB ⟨a,b⟩ (bP 7 0 0 0):=rfl;rw[B] at q;generalize Dv.dB ⟨a,b⟩ (bP 7 0 0 0)=z at *;dsimp only[dA] at q;refine a_ ?_
  refine L.lI sD (S.Af (T:=nK) (e1:=bP 7 0 0 0) rfl cQ rfl rH (by rfl) sD) ?_;rintro _ _ ⟨_,rfl,rfl⟩;refine a_ ?_
  refine C_ (λM=>q M _ _) ?_;intro J
  have R:iD z.w.ws<iD (p::H):=by rw[<-h];exact D
  exact⟨(z,u+1,y++J),aK,by rw[<-bF,<-Ac];exact aC,⟨by dsimp only;omega,f.symm,by dsimp only;rw[k];exact o⟩,d_⟩
end
end Go.Proofs.YtmilalkjbojciaaGreat.Sep
