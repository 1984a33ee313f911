/- Part AV: what it needs. No condition. -/
import Derived.Test.YtmilalkjbojciaaGreatCAT
import Derived.Test.YtmilalkjbojciaaGreatCAU
set_option linter.all false
set_option maxRecDepth 100000
set_option maxHeartbeats 8000000
open Go.Proofs.Tryz
namespace Go.Proofs.YtmilalkjbojciaaGreat.Sep
variable{A:dT}{a:List Nd}{j:Nat}{k:Int}{x:Rc}{z:Lc}{α:Type}
section
open Go.RowKit Reg Oct
open Mem hiding Rd
section
variable (E:Env) (P:List Ov) (g gr:Nat) (x:lX) (now:Int) (sn:Nat) (cf:bW) (nn:Nat) (sub:Int) (n:Nd) (k:Int) (ws:List bX)
theorem aJe(m:Mg)(A:Option Addr)(na c:Nat)(B:Option Addr)(nb d:Nat)(hu:n.up=true)(h1:m.kind≠1)(h2:m.kind≠2):G E 123 [pt g,pt gr,.agg (fV m A na c B nb d).toArray] [aE g 121 (wC x now sn cf nn sub),bA P gr cf n k,cI x.gw ws,aQ P] λe H'=>∃Q,e=.returned (.agg (eC ws n m).2.cs.toArray)/\H'=[aE g 121 (wC x now sn cf nn sub),bA (P++Q) gr cf (eC ws n m).1.2 k,cI x.gw (eC ws n m).1.1,aQ (P++Q)]:=by
 have st:=λM=>EK M P gr cf n k;simp only[hu,if_true] at st;unfold eC;rw[if_neg h1,if_neg h2];have doo:=λM gs=>CC M P gs n.s (.cR m.key) trivial;have tk:=λ(M:Env) Q X qc (hr:Rd M jC X 1 qc [⟨4,mG,⟨0,0⟩,m.key,0⟩])=>aF.pre (show aB M [bA P gr cf n k,aQ (P++Q)] [bA (P++Q) gr cf n k,aQ (P++Q)] from aB.imp (bA.mono (dV k)) aH) (NW M (P++Q) gr cf n k X 1 qc [.cR m.key] hr (by simp[Rc.ok]) o_);generalize n.take [.cR m.key]=res at *;obtain⟨n2,z,code⟩:=res;generalize n.s.doc (.cR m.key)=dd at *;obtain⟨s2,cd⟩:=dd;dsimp only at tk doo⊢;have hget:([⟨4,mG,⟨0,0⟩,m.key,0⟩]:List fQ)[0]?=some ⟨4,mG,⟨0,0⟩,m.key,0⟩:=rfl;by_cases h0:cd=0
 ·subst h0;rw[if_neg sD];refine t_ func123 ntmps123 ?_;refine a_ ?_;intros
  rename_i g5 g6;refine cl sD sK aH (λM hE=>NR (E:=M) m.key) ?_;rintro e H' ⟨rfl,rfl⟩;refine a_ ?_;intros
  rename_i g7;refine rB (l_ [0,2,3,4] (g_ 1 (g_ 5 (n_ 6 .nil)))) ([own jC (some ⟨g7,0,none⟩) 1 1 _]) ?_;refine a_ ?_
  refine eI st ?_;rintro e H' ⟨gs,rfl,rfl⟩;refine a_ ?_
  refine eI (λM=>doo M gs) ?_;rintro e H' ⟨Q,rfl,rfl⟩;refine a_ ?_
  refine cU (λM=>tk M Q _ _) ?_;rintro e H' ⟨Q2,rfl,rfl⟩;refine a_ ?_
  exact eP (H':=[aE g 121 (wC x now sn cf nn sub),bA (P++(Q++Q2)) gr cf n2 k,cI x.gw ws,aQ (P++(Q++Q2))]) rfl aJ rfl rfl rfl aV rfl (by rw[<-bF];exact aC) ⟨Q++Q2,rfl,rfl⟩
 ·rw[if_pos h0];refine t_ func123 ntmps123 ?_;refine a_ ?_;intros
  rename_i g5 g6;refine cl sD sK aH (λM hE=>NR (E:=M) m.key) ?_;rintro e H' ⟨rfl,rfl⟩;refine a_ ?_;intros
  rename_i g7;refine rB (l_ [0,2,3,4] (g_ 1 (g_ 5 (n_ 6 .nil)))) ([own jC (some ⟨g7,0,none⟩) 1 1 _]) ?_;refine a_ ?_
  refine eI st ?_;rintro e H' ⟨gs,rfl,rfl⟩;refine a_ ?_
  refine eI (λM=>doo M gs) ?_;rintro e H' ⟨Q,rfl,rfl⟩;refine a_ ?_
  exact eP (H':=[aE g 121 (wC x now sn cf nn sub),bA (P++Q) gr cf n k,cI x.gw ws,aQ (P++Q)]) rfl aJ rfl rfl rfl aV rfl (aB.trans (aB.imp (bA.mono (dV k)) aH) aC) ⟨Q,rfl,rfl⟩
end
end
section
section
variable {A:dT}
def may(A:dT)(l:List Rc):Prop:=∀x∈l,(x.may=true/\x.ok)/\oA A x
def Ext(A:dT)(S s:Sv):Prop:=∃l,may A l/\s=fW S l
theorem Ext.refl(s:Sv):Ext A s s:=⟨[],λ_ h=>(cZ h).elim,rfl⟩
def Ext.grow{S s:Sv}(h:Ext A S s)(d:Gd S):S.v.l <+: s.v.l/\(∀c∈S.all,c∈s.all)/\Gd s/\s.r=S.r:=by
 obtain⟨l,b,rfl⟩:=h;have⟨e,f⟩:=UL d λx a=>(b x a).1;have⟨g,i⟩:=UK (λx a=>(b x a).1) d
 grind
structure Nv(A:dT)(n:Nd):Prop where
 ok:n.ok
 a:n.up=true->∀x∈n.lc.l,oA A x
 d:∀x∈(lH n.r n.iS).l,oA A x
 b:n.up=true->n.lc.base.isSome=true->1<=n.ls.dP
theorem ND{r:Int}(a:z.ok r)(hb:z.base.isSome=true->1<=j):∃k,lH r (z.bs.take j)=⟨z.base,z.l.take k⟩/\(z.bs.length<=j->z.l.take k=z.l):=by
 have⟨b,l⟩:=z;cases b with
 |none =>
  refine⟨j,Jy ⟨a.rep,a.base,λx c=>a.l x (mD c)⟩ ?_,λh=>fX ?_⟩;all_goals grind [Lc.bs,Bd,List.map_take]
 |some s =>
  have:=hb rfl;obtain⟨j,rfl⟩:∃i,j=i+1:=⟨j - 1,o_⟩
  refine⟨j,Jy ⟨a.rep,a.base,λx c=>a.l x (mD c)⟩ ?_,λh=>fX ?_⟩;all_goals grind [Lc.bs,Bd,List.map_take]
def Rh{n:Nd}(b:z.ok n.r)(p:∀x∈z.l,oA A x){i:Nat}(f:i<=j)(hb:z.base.isSome=true->1<=i):Ext A ((lH n.r (z.bs.take i)).sv n.r) ((lH n.r (z.bs.take j)).sv n.r)/\Ext A ((lH n.r (z.bs.take j)).sv n.r) (z.sv n.r):=by
 have d:∀ {m:Lc} {k:Nat},m.ok n.r->(∀x∈m.l,oA A x)->Ext A (Lc.sv n.r ⟨m.base,m.l.take k⟩) (m.sv n.r):=λ{m k} r o=>by
  refine⟨m.l.drop k,λx a=>⟨r.l x (CZ a),o x (CZ a)⟩,?_⟩;show fW _ _=fW (fW _ _) _;rw[<-F6,mE]
 have⟨k,g,_⟩:=ND b (j:=j) λh=>iR (hb h) f;have c:Lc.ok n.r ⟨z.base,z.l.take k⟩:=⟨b.rep,b.base,λx a=>b.l x (mD a)⟩
 have e:Lc.bs ⟨z.base,z.l.take k⟩=z.bs.take j:=by
  rw[<-g];have⟨u,s,t⟩:=b.take j
  grind [Fh]
 have⟨k2,l,_⟩:=ND c (j:=i) hb;refine⟨?_,by rw[g];exact d b p⟩;have q:z.bs.take i=(z.bs.take j).take i:=by grind
 rw[q,<-e,l,e,g];exact d c λx a=>p x (mD a)
def Qv{r:Int}(b:z.ok r)(a:∀x∈z.l,oA A x)(hb:z.base.isSome=true->1<=j):∀x∈(lH r (z.bs.take j)).l,oA A x:=by
 grind [ND,hb,List.mem_of_mem_take]
def Nv.of{n:Nd}(a:n.ok)(b:n.up=true)(hb:n.lc.base.isSome=true->1<=n.ls.dP)(c:∀x∈n.lc.l,oA A x):Nv A n :=
 ⟨a,λ_=>c,by rw[show n.iS=n.lc.bs.take n.ls.dP by rw[(a.lc b).2.1];exact yC (a.inv b).1];exact Qv (a.lc b).1 c hb,λ_=>hb⟩
structure qQ(A:dT)(n n':Nd):Prop where
 r:n'.r=n.r
 a:Ext A n.stored n'.stored
 b:Ext A n'.stored n.state
 c:n'.state=n.state\/n'.state=n'.stored
theorem jH{n:Nd}(h:n.up=true):n.state=n.s:=by grind [Nd.state]
theorem IE{n:Nd}(h:n.up=false):n.state=n.stored:=by grind [Nd.state]
theorem Nv.iS{n:Nd}(h:Nv A n)(a:n.up=true):n.iS=n.lc.bs.take n.ls.dP:=by
 rw[(h.ok.lc a).2.1];exact yC (h.ok.inv a).1
def Nv.ext{n:Nd}(h:Nv A n):Ext A n.stored n.state:=by
 by_cases a:n.up=true
 ·rw[jH a];have⟨b,_,c⟩:=h.ok.lc a;rw[c];unfold Nd.stored;rw[h.iS a];exact(Rh b (h.a a) (bM _) (h.b a)).2
 ·grind [IE,Ext.refl]
theorem qQ.refl{n:Nd}(h:Nv A n):qQ A n n:=⟨rfl,Ext.refl _,h.ext,.inl rfl⟩
def Kx{n n':Nd}(c:n'.r=n.r)(b:n'.ls.N=n.ls.N)(a:n'.ls.D=n.ls.D):n'.stored=n.stored:=by
 grind [Nd.stored,Nd.iS]
theorem Nv.write{n:Nd}(h:Nv A n)(hu:n.up=true)(hx:x.ok)(hA:oA A x):Nv A (n.write x).1/\(n.write x).1.up=true/\(n.write x).1.r=n.r/\(n.write x).1.stored=n.stored /\
  (((n.write x).2≠0/\(n.write x).1.s=n.s)\/((n.write x).2=0/\(n.s.doc x).2=0/\(n.write x).1.s=(n.s.doc x).1)):=by
 have hok:=h.ok.write hx hu;unfold Nd.write at hok⊢;by_cases hd:(n.s.doc x).2=0
 ·rw[c! hd] at hok⊢;by_cases ha:(n.ls.append x.b).1=0
  ·rw[c! ha] at hok⊢;have hbl:=x.Dq;have cR:∀y∈n.lc.l++[x],oA A y:=λy hy=>by
    rcases eL.1 hy with hy|hy
    ·exact h.a hu y hy
    ·grind
   rcases I8 (s:=n.ls) (b:=x.b) with e|⟨_,_,_,_,e⟩
   ·refine⟨Nv.of hok hu (λhb=>?_) cR,hu,rfl,Kx rfl ?_ ?_,.inr ⟨rfl,hd,rfl⟩⟩
    ·dsimp only;rw[e];exact h.b hu hb
    ·dsimp only;rw[e]
    ·dsimp only;rw[e]
   ·refine⟨Nv.of hok hu (λhb=>?_) cR,hu,rfl,Kx rfl ?_ ?_,.inr ⟨rfl,hd,rfl⟩⟩
    ·dsimp only;rw[e];exact h.b hu hb
    ·dsimp only;rw[e]
    ·dsimp only;rw[e]
  ·rw[b! ha] at hok⊢;exact⟨h,hu,rfl,rfl,.inl ⟨ha,rfl⟩⟩
 ·rw[b! hd];exact⟨h,hu,rfl,rfl,.inl ⟨hd,rfl⟩⟩
theorem QE(h:z.base.isSome=true):1<=z.bs.length:=by
 have⟨b,l⟩:=z;cases b with
 |none=>cases h
 |some s=>unfold Lc.bs Bd;simp
def IG{n:Nd}(a:z.ok n.r)(h:n.iS=z.bs):n.stored=z.sv n.r:=by
 grind [Nd.stored,Jy]
theorem Nv.sync{n:Nd}(h:Nv A n):Nv A n.sync.1/\qQ A n n.sync.1/\(n.sync.2=0->n.up=true/\n.sync.1.up=true/\n.sync.1.s=n.s/\n.sync.1.stored=n.s):=by
 have hok:=h.ok.sync;have hext:=h.ext;unfold Nd.sync at hok⊢;by_cases hu:n.up=true
 ·rw[c! hu] at hok⊢;rw[jH hu] at hext;have⟨i1,i2⟩:=h.ok.inv hu;have⟨l1,l2,l3⟩:=h.ok.lc hu;by_cases hc:n.ls.sync.1=0
  ·rw[c! hc] at hok⊢;cases hq:jR n.ls.aO n.ls.pos n.ls.cY.length
   ·have hs:=Kz i2 hq;have hst:Nd.stored ⟨n.r,n.ls.sync.2,true,n.lc,n.s⟩=n.s:=by
     rw[l3];refine IG l1 ?_;have hinv:=i1.synced (fO n.ls.aO n.ls.pos n.ls.cY.length);rw[l2,hs];exact(yC hinv).trans (fX (bM _))
    refine⟨Nv.of hok rfl (λhb=>?_) (h.a hu),⟨rfl,?_,?_,?_⟩,λ_=>⟨hu,rfl,rfl,hst⟩⟩;all_goals grind [QE,hb,jH,Ext.refl]
   ·grind [Of]
  ·rw[b! hc] at hok⊢;have⟨k,k1,_,_,k4⟩:=VI i1 i2 hc;have hdk:Nd.iS ⟨n.r,n.ls.sync.2,false,n.lc,n.s⟩=n.lc.bs.take k:=by rw[l2];exact k1
   have⟨f1,f2⟩:=Rh l1 (h.a hu) k4 (h.b hu);have hst:Nd.stored ⟨n.r,n.ls.sync.2,false,n.lc,n.s⟩=(lH n.r (n.lc.bs.take k)).sv n.r:=by grind [Nd.stored]
   refine⟨⟨hok,(λhu=>by cases hu),by rw[hdk];exact Qv l1 (h.a hu) λhb=>iR (h.b hu hb) k4,λhu=>by cases hu⟩,⟨rfl,?_,?_,.inr (IE rfl)⟩,λh=>by cases h⟩
   ·rw[hst];unfold Nd.stored;rw[h.iS hu];exact f1
   ·grind [jH]
 ·grind [qQ.refl]
def Nv.wO{n:Nd}(h:Nv A n):Nv A n.wO/\qQ A n n.wO:=by
 have e:n.wO.stored=n.stored:=Kx rfl rfl rfl;exact⟨⟨h.ok.wO,(λhu=>by cases hu),h.d,λhu=>by cases hu⟩,rfl,by rw[e];exact Ext.refl _,by rw[e];exact h.ext,.inr (IE rfl)⟩
def Nv.qJ{n:Nd}(h:Nv A n):Nv A n.qJ.1/\qQ A n n.qJ.1:=by
 have a:=h.ok.qJ;unfold Nd.qJ at a⊢;by_cases f:n.up=true
 ·grind [qQ.refl]
 ·rw[b! f] at a⊢;have c:Inv (LS.open n.ls.N n.ls.D (-1)):=Inv.open h.ok.len h.ok.n0 h.ok.n1;have⟨g,d⟩:=Fh h.ok.iS;have b:n.opened.stored=n.stored:=by
   refine IG (z:=lH n.r n.iS) g ?_;rw[d];exact(yC c).trans (fX (bM _))
  refine⟨Nv.of a rfl (λhb=>?_) h.d,rfl,by rw[b];exact Ext.refl _,by rw[b];exact h.ext,.inr ?_⟩
  ·have:=QE hb;show 1<=(LS.open n.ls.N n.ls.D (-1)).bT.length;have e:(lH n.r n.iS).bs=(LS.open n.ls.N n.ls.D (-1)).bT:=d;rw[<-e];exact this
  ·rw[b];exact jH rfl
theorem Nv.arm{n:Nd}(h:Nv A n)(c:k<=9223372036854775807):Nv A (n.arm k)/\qQ A n (n.arm k):=by
 have a:=h.ok.arm c;unfold Nd.arm at a⊢;by_cases b:n.up=true
 ·rw[c! b] at a⊢;have e:Nd.stored ⟨n.r,n.ls.arm k,true,n.lc,n.s⟩=n.stored:=Kx rfl rfl rfl;exact⟨Nv.of a rfl (h.b b) (h.a b),rfl,by rw[e];exact Ext.refl _,by rw[e];exact h.ext,.inl (by grind [jH])⟩
 ·grind [qQ.refl]
def Nv.pack{n:Nd}(h:Nv A n):Nv A n.pack.1/\qQ A n n.pack.1:=by
 have hok:=h.ok.pack;have hext:=h.ext;unfold Nd.pack at hok⊢;by_cases hu:n.up=true
 ·rw[c! hu] at hok⊢;rw[jH hu] at hext;have⟨i1,i2⟩:=h.ok.inv hu;have⟨l1,l2,l3⟩:=h.ok.lc hu;have hg:=h.ok.gd hu;have hnew:Lc.ok n.r ⟨some n.s,[]⟩:=⟨h.ok.rep,(λs hs=>by injection hs with hs;subst hs;exact hg),λx hx=>(cZ hx).elim⟩;have⟨f1,f2,f3⟩:=VF i1 i2 n.fD;by_cases hc:(n.ls.swap n.fD).1=0
  ·rw[c! hc] at hok⊢;have hinv:=i1.swap i2 n.fD hc;have hrecs:=VG hc;have hst:Nd.stored ⟨n.r,(n.ls.swap n.fD).2,true,⟨some n.s,[]⟩,n.s⟩=n.s:=by
    refine IG (z:=⟨some n.s,[]⟩) hnew ?_;show(LS.open (n.ls.swap n.fD).2.N (n.ls.swap n.fD).2.D (-1)).bT=[5::kA n.s]++[];rw[yC hinv,hrecs.1,hrecs.2.1];rfl
   refine⟨Nv.of hok rfl (λ_=>?_) (λx hx=>(cZ hx).elim),rfl,by rw[hst];exact hext,by rw[hst,jH hu];exact Ext.refl _,.inl (by grind [jH])⟩;grind
  ·rw[b! hc] at hok⊢;by_cases hc2:(n.ls.swap n.fD).1=19
   ·rw[c! hc2] at hok⊢;have hst:Nd.stored ⟨n.r,(n.ls.swap n.fD).2,false,n.lc,n.s⟩=n.stored\/Nd.stored ⟨n.r,(n.ls.swap n.fD).2,false,n.lc,n.s⟩=n.s:=by
     rcases f3 with⟨f3,_⟩|⟨f3,_⟩
     ·refine .inl ?_;unfold Nd.stored;rw[show n.iS=n.ls.bT.take n.ls.dP from yC i1,<-f3];show(lH n.r (Frm.iH (cN (n.ls.swap n.fD).2.D (n.ls.swap n.fD).2.N _))).sv n.r=_;rw[f1]
     ·refine .inr (IG (z:=⟨some n.s,[]⟩) hnew ?_);show Frm.iH (cN (n.ls.swap n.fD).2.D (n.ls.swap n.fD).2.N _)=[5::kA n.s]++[];rw[f1,f3];rfl
    have hdl:∀x∈(lH n.r (Nd.iS ⟨n.r,(n.ls.swap n.fD).2,false,n.lc,n.s⟩)).l,oA A x:=by
     rcases f3 with⟨f3,_⟩|⟨f3,_⟩
     ·show ∀x∈(lH n.r (Frm.iH (cN (n.ls.swap n.fD).2.D (n.ls.swap n.fD).2.N _))).l,oA A x;rw[f1,f3,<-show n.iS=n.ls.bT.take n.ls.dP from yC i1];exact h.d
     ·rw[Jy (z:=⟨some n.s,[]⟩) hnew]
      ·grind
      ·show[5::kA n.s]++[]=Frm.iH (cN (n.ls.swap n.fD).2.D (n.ls.swap n.fD).2.N _);rw[f1,f3];rfl
    refine⟨⟨hok,(λhu=>by cases hu),hdl,λhu=>by cases hu⟩,rfl,?_,?_,.inr (IE rfl)⟩;all_goals grind [Ext.refl,jH]
   ·grind [qQ.refl]
 ·grind [qQ.refl]
def Nv.new{r:Int}{N:Nat}(c:0<=r/\r<=3)(a:1<=N)(b:N<=64):Nv A (Nd.new r N)/\(Nd.new r N).stored=xI r/\(Nd.new r N).state=xI r:=by
 have d:=Inv.new a b;refine⟨Nv.of (Nd.ok.new c a b) rfl (λhb=>by cases hb) (λx e=>(cZ e).elim),?_,jH rfl⟩;exact IG (z:=⟨none,[]⟩) (Lc.KE c) (yC d)
structure Lo(k d:Int)(s s':Sv):Prop where
 n:s'.v.known.get s'.r<=s.v.known.get s.r+d
 made:∀i,(s'.ps.getD i s0).made<=(s.ps.getD i s0).made+k
theorem Lo.refl{d:Int}(b:0<=k)(a:0<=d)(s:Sv):Lo k d s s:=⟨o_,λ_=>by omega⟩
theorem Lo.trans{d k' e:Int}{a b c:Sv}(h:Lo k d a b)(j:Lo k' e b c):Lo (k+k') (d+e) a c:=⟨by have:=h.n;have:=j.n;omega,λi=>by have:=h.made i;have:=j.made i;omega⟩
def Jw{S s:Sv}(e:Gd S)(d:Gd s){r:Int}(b:0<=r/\r<=3)(h:∀c∈S.all,c.id.rep=r->c∈s.all):S.v.known.get r<=s.v.known.get r:=by
 have g:=(d.v.count b).1;by_cases i:S.v.known.get r<=0
 ·omega
 ·have⟨x,f,a⟩:=Cz e.v.lQ b (q:=S.v.known.get r) (by grind [vC]) (dV _);have:=(yF d.v.lQ (h x f (by rw[a]))).2.2.2.1;grind
def Oq(p:bC)(id:aL)(now:Int):p.made<=(p.dK id now).made/\(p.dK id now).made<=p.made+1:=by
 grind [Ot]
def UM{i:Nat}{m:Int}:∀ {l:List Rc} {s:Sv},may A l->Gd s->m<=(s.ps.getD i s0).made->m<=((fW s l).ps.getD i s0).made
 | [],_,_,_,h=>h
 |x::l,s,hm,c,h=>by
  have⟨⟨_,b⟩,_⟩:=hm x (.head _);refine UM (l:=l) (s:=(s.doc x).1) (λy d=>hm y (.tail _ d)) (c.doc b) ?_;exact(G6 (P:=λj p=>j=i->m<=p.made) c b (λj e=>by subst e;exact h) (λ_ _ _ _ a=>a) (λ_ p _ _ _ _ a e=>BX (a e) (Oq p _ _).1) λ_ _ _ _ a=>a).2 i rfl
def Ext.lo{S s:Sv}(h:Ext A S s)(a:Gd S):Lo 0 0 s S:=by
 have⟨_,d,e,f⟩:=h.grow a;refine⟨by have:=Jw a e a.rep λc g _=>d c g;rw[f];omega,λi=>?_⟩;obtain⟨l,b,rfl⟩:=h;have:=UM (i:=i) (l:=l) b a (dV _);omega
def qQ.lo{n n':Nd}(h:qQ A n n')(a:n'.ok):Lo 0 0 n.state n'.state:=by
 rcases h.c with e|e<;>rw[e]
 ·grind [Lo.refl]
 ·exact h.b.lo a.stored.1
def JM{s:Sv}(a:Gd s){d:aI}(h:d∈(s.doc x).1.all):d∈s.all\/x=.cB d:=by
 grind [JN,Sv.all,List.mem_append_left,List.mem_append_right]
def Yo{s:Sv}(a:Gd s)(d:x.ok)(g:∀k t,x≠.fH k t)(h:∀c,x=.cB c->c.id.rep=s.r->c∈s.all):Lo 0 0 s (s.doc x).1:=by
 have⟨n,f⟩:=G6 (P:=λj p=>p.made<=(s.ps.getD j s0).made) a d (λ_=>dV _) (λ_ _ _ _ b=>b) (λ_ _ k now e _ _=>i! e (g k now)) λ_ _ _ _ b=>b;refine⟨?_,λi=>by have:=f i;omega⟩;have:=Jw (a.doc d) a a.rep λc l m=>(JM a l).elim id λe=>h c e m
 grind
end
def qO.run:∀ {l:List Rc} {s:Sv},may A l->Gd s->qO A s->qO A (fW s l)
 | [],_,_,_,h=>h
 |x::l,s,hm,b,h=>by
  have⟨⟨_,a⟩,c⟩:=hm x (.head _);exact qO.run (l:=l) (s:=(s.doc x).1) (λy d=>hm y (.tail _ d)) (b.doc a) (h.doc b a c)
def pS.run{q:aM}:∀ {l:List Rc} {s:Sv},may A l->Gd s->pS A s q->pS A (fW s l) q
 | [],_,_,_,h=>h
 |x::l,s,hm,b,h=>by
  have⟨⟨_,a⟩,c⟩:=hm x (.head _);exact pS.run (l:=l) (s:=(s.doc x).1) (λy d=>hm y (.tail _ d)) (b.doc a) (h.doc b a c)
def Ext.cg{S s:Sv}(h:Ext A S s)(b:Gd S)(c:qO A S):qO A s:=by
 obtain⟨l,a,rfl⟩:=h;exact c.run a b
def Ext.Mw{S s:Sv}{q:aM}(h:Ext A S s)(b:Gd S)(c:pS A S q):pS A s q:=by
 obtain⟨l,a,rfl⟩:=h;exact c.run a b
noncomputable def D0(aD:List Nd):List aI:=match aD[0]? with
 |some n=>n.stored.v.l
 |none=>[]
def Kn(aD:List Nd)(c:aI):Prop:=∃(j:Nat) (n:Nd),aD[j]?=some n/\c.id.rep=j/\c∈n.stored.all
def Ow(aD:List Nd)(a:aL):Prop:=∃j i:Nat,j<aD.length/\a=dC j i
def Eu(A:dT)(aD:List Nd)(q:aM):Prop:=Ow aD q.key.id/\∀(j:Nat) (n:Nd),aD[j]?=some n->q.key.id.rep=j->pS A n.stored q
structure NI(A:dT)(aD:List Nd):Prop where
 nv:∀(i:Nat) (n:Nd),aD[i]?=some n->Nv A n/\n.r=i
 cg:∀(i:Nat) (n:Nd),aD[i]?=some n->qO A n.stored
 cD:∀(i:Nat) (n:Nd),aD[i]?=some n->i≠0->n.state.v.l <+: D0 aD
 own:∀(i:Nat) (n:Nd),aD[i]?=some n->∀c∈n.state.all,c.id.rep≠i->Kn aD c
 ids:∀q∈A.a,Ow aD q.key.id
structure yQ(A:dT)(aD:List Nd)(m:Mg):Prop where
 ids:m.kind=2->m.ids <+: ((D0 aD).drop m.base.toNat).map aI.id
 cL:∀c∈m.cL,Kn aD c
 CG:m.kind=3->Eu A aD ⟨m.key,m.bD⟩
 vJ:m.kind=4->∃q∈A.a,q.key=m.key
structure Le(A:dT)(aD nds':List Nd):Prop where
 d:D0 aD <+: D0 nds'
 k:∀c,Kn aD c->Kn nds' c
 h:∀q,Eu A aD q->Eu A nds' q
section
variable {A:dT}
theorem Le.refl(aD:List Nd):Le A aD aD:=⟨E3 _,λ_ h=>h,λ_ h=>h⟩
theorem Le.trans{b c:List Nd}(h:Le A a b)(k:Le A b c):Le A a c:=⟨h.d.trans k.d,λx e=>k.k x (h.k x e),λq d=>k.h q (h.h q d)⟩
theorem KT{a b:List α}(h:a <+: b)(n:Nat):a.drop n <+: b.drop n:=by
 obtain⟨t,rfl⟩:=h
 grind [List.drop_append,List.prefix_append]
theorem Nt{c:Type}{a b:List α}(f:α->c)(h:a <+: b):a.map f <+: b.map f:=by
 grind
theorem yQ.mono{b:List Nd}(h:Le A a b){m:Mg}(hm:yQ A a m):yQ A b m:=⟨λhk=>(hm.ids hk).trans (Nt _ (KT h.d _)),λc hc=>h.k c (hm.cL c hc),λhk=>h.h _ (hm.CG hk),hm.vJ⟩
section
variable {aD:List Nd} {i:Nat} {n n':Nd}
theorem xG(a:aD[i]?=some n)(j:Nat):(aD.set i n')[j]?=if j=i then some n' else aD[j]?:=by
 grind
theorem BE(a:aD[i]?=some n):(aD.set i n')[i]?=some n':=by grind
theorem Km{l:List α}{i:Nat}{x:α}(h:l[i]?=some x):l.set i x=l:=by
 grind [List.getElem?_eq_some_iff,List.set_getElem_self]
def Ow.set{a:aL}(h:Ow aD a):Ow (aD.set i n') a:=by grind [Ow,List.length_set]
def Le.set(b:aD[i]?=some n)(p:n.stored.v.l <+: n'.stored.v.l)(l:∀c∈n.stored.all,c∈n'.stored.all)(o:∀q,pS A n.stored q->pS A n'.stored q):Le A aD (aD.set i n'):=by
 constructor
 ·grind [D0]
 ·rintro c ⟨j,m,a,k,f⟩;by_cases h:j=i
  ·subst h;rw[b] at a;have e:=iN a;subst e;exact⟨j,n',BE b,k,l c f⟩
  ·exact⟨j,m,by rw[xG b,b! h];exact a,k,f⟩
 ·refine λq d=>⟨d.1.set,λj m a g=>?_⟩
  rw[xG b] at a;split at a
  ·have e:=iN a;subst e;subst j;exact o q (d.2 _ _ b g)
  ·exact d.2 j m a g
def NI.set(h:NI A aD)(k:aD[i]?=some n)(t:Nv A n')(s:n'.r=n.r)(p:qO A n'.stored)(d:Le A aD (aD.set i n'))(l:i≠0->n'.state.v.l <+: D0 aD)(o:∀c∈n'.state.all,c.id.rep≠i->Kn aD c):NI A (aD.set i n'):=by
 refine⟨λj m a=>?_,λj m a=>?_,λj m a g=>?_,λj m a c f b=>?_,λq r=>(h.ids q r).set⟩<;>rw[xG k] at a<;>split at a
 ·have e:=iN a;subst e;subst j;exact⟨t,s.trans (h.nv i n k).2⟩
 ·exact h.nv j m a
 ·grind
 ·exact h.cg j m a
 ·have e:=iN a;subst e;subst j;exact(l g).trans d.d
 ·exact(h.cD j m a g).trans d.d
 ·have e:=iN a;subst e;subst j;exact d.k c (o c f b)
 ·exact d.k c (h.own j m a c f b)
def NI.gd(h:NI A aD)(d:aD[i]?=some n):Gd n.stored/\Gd n.state/\n.stored.r=i/\n.state.r=i/\n.stored.v.l <+: n.state.v.l/\∀c∈n.stored.all,c∈n.state.all:=by
 have⟨a,l⟩:=h.nv i n d;have⟨b,e⟩:=a.ok.stored;have⟨f,g,j,k⟩:=a.ext.grow b
 grind
def NI.one(h:NI A aD){m:Nd}(hn:aD[i]?=some n)(hm:aD[j]?=some m){c d:aI}(hc:c∈n.state.all)(hd:d∈m.state.all)(e:c.id=d.id):c=d:=by
 have own:∀ {i:Nat} {n:Nd} {c:aI},aD[i]?=some n->c∈n.state.all->c.id.rep=i\/∃(j:Nat) (m:Nd),aD[j]?=some m/\c.id.rep=j/\c∈m.state.all:=λ{i n c} hn hc=>by
  by_cases hr:c.id.rep=i
  ·exact .inl hr
  ·have⟨j,m,hm,hj,hcm⟩:=h.own i n hn c hc hr;exact .inr ⟨j,m,hm,hj,(h.gd hm).2.2.2.2.2 c hcm⟩
 have key:∀ {i:Nat} {n:Nd} {c:aI},aD[i]?=some n->c∈n.state.all->∃(j:Nat) (m:Nd),aD[j]?=some m/\c.id.rep=j/\c∈m.state.all:=λ{i n c} hn hc=>(own hn hc).elim (λhr=>⟨i,n,hn,hr,hc⟩) id;have⟨a,x,hx,ha,hcx⟩:=key hn hc;have⟨b,y,hy,hb,hdy⟩:=key hm hd;have:a=b:=by grind
 subst this;rw[hx] at hy;have e2:=iN hy;subst e2;exact(h.gd hx).2.1.uniq hcx hdy e
structure Mv(A:dT)(aD:List Nd)(i:Nat)(n n':Nd)(k d:Int):Prop where
 h:NI A (aD.set i n')
 l:Le A aD (aD.set i n')
 lo:Lo k d n.state n'.state
theorem Mv.refl(h:NI A aD)(c:aD[i]?=some n){d:Int}(b:0<=k)(a:0<=d):Mv A aD i n n k d:=by
 refine⟨?_,?_,Lo.refl b a _⟩<;>rw[Km c]
 ·exact h
 ·exact Le.refl _
theorem Mv.trans{g:Nd}{d k' f:Int}(a:Mv A aD i n n' k d)(b:Mv A (aD.set i n') i n' g k' f):Mv A aD i n g (k+k') (d+f):=by
 have⟨c,e,b3⟩:=b;rw[List.set_set] at c e;exact⟨c,a.l.trans e,a.lo.trans b3⟩
def NI.dP(h:NI A aD)(hn:aD[i]?=some n)(hv:Nv A n')(hd:qQ A n n'):Mv A aD i n n' 0 0:=by
 have⟨g1,g2,_,_,_,_⟩:=h.gd hn;have⟨a1,a2,a3,_⟩:=hd.a.grow g1;have⟨b1,b2,_,_⟩:=hd.b.grow a3;have hl:=Le.set (A:=A) hn a1 a2 λq=>hd.a.Mw g1;refine⟨h.set hn hv hd.r (hd.a.cg g1 (h.cg i n hn)) hl (λhi=>?_) (λc hc hci=>?_),hl,hd.lo hv.ok⟩
 ·rcases hd.c with e|e<;>rw[e]
  ·exact h.cD i n hn hi
  ·exact b1.trans (h.cD i n hn hi)
 ·refine h.own i n hn c ?_ hci;rcases hd.c with e|e<;>rw[e] at hc
  all_goals grind
def Eo(aD:List Nd)(i:Nat)(s:Sv):Rc->Prop
 | .cB c=>Kn aD c
 | .cD a=>i=0\/s.v.l.map aI.id++[a] <+: (D0 aD).map aI.id
 | .fH _ _=>False
 | .cR _=>True
theorem NI.write(h:NI A aD)(hn:aD[i]?=some n)(hu:n.up=true)(hx:x.ok)(hA:oA A x){d:Int}(hk:0<=k)(hd:0<=d)(ha:(n.s.doc x).2=0->(Eo aD i n.s x\/(∃c,x=.cB c/\c.id.rep=i)\/∃a t,x=.fH a t)/\Lo k d n.s (n.s.doc x).1):Mv A aD i n (n.write x).1 k d:=by
 have⟨hv,hr⟩:=h.nv i n hn;have⟨w1,w2,w3,w4,w5⟩:=hv.write hu hx hA;have⟨g1,g2,_,_,g3,g4⟩:=h.gd hn;have hst:=jH hu;have hst2:(n.write x).1.state=(n.write x).1.s:=jH w2;have hl:Le A aD (aD.set i (n.write x).1):=Le.set hn (by grind) (by grind) (by grind);have hcg:qO A (n.write x).1.stored:=by rw[w4];exact h.cg i n hn
 rcases w5 with⟨_,e⟩|⟨_,hz,e⟩
 ·refine⟨h.set hn w1 w3 hcg hl (λhi=>?_) (λc hc hci=>?_),hl,?_⟩
  ·rw[hst2,e,<-hst];exact h.cD i n hn hi
  ·rw[hst2,e,<-hst] at hc;exact h.own i n hn c hc hci
  ·grind [Lo.refl]
 ·have⟨ha,hlo⟩:=ha hz;have own:=h.own i n hn;have cD:=h.cD i n hn;have one:=λ{j:Nat} {m:Nd} {c d:aI} (hm:aD[j]?=some m)=>NI.one h (c:=c) (d:=d) hn hm;rw[hst] at g2 own cD one;refine⟨h.set hn w1 w3 hcg hl (λhi=>?_) (λd hdm hdi=>?_),hl,by rw[hst2,e,hst];exact hlo⟩
  ·rw[hst2,e];rcases JN n.s g2 x with hd|⟨c,hc,h1,_⟩|⟨a,c,p,q,hxa,_,hp,hca,hd⟩
   ·grind
   ·grind
   ·subst hxa;rcases ha with ha|⟨_,ha,_⟩|⟨_,_,ha⟩
    ·have ha:=ha.resolve_left hi;rw[hd];have⟨t,ht⟩:=cD hi;rw[<-ht] at ha⊢;rw[gP] at ha;have ha:=(List.prefix_append_right_inj _).1 ha;cases t with
     |nil=>simp at ha
     |cons d t =>
      have had:a=d.id:=by
       grind
      have hdD:d∈D0 aD:=by grind
      have hcd:c=d:=by
       unfold D0 at hdD;cases h0:aD[0]? with
       |none=>rw[h0] at hdD;exact(cZ hdD).elim
       |some n0 =>
        rw[h0] at hdD;exact one h0 (tJ _ (by grind)) ((h.gd h0).2.2.2.2.2 d (zN _ hdD)) (hca.trans had)
      rw[hcd];exact⟨t,s_⟩
    ·cases ha
    ·cases ha
  ·rw[hst2,e] at hdm;rcases JM g2 hdm with hm|hm
   ·grind
   ·subst hm;rcases ha with ha|⟨c,ha,hc⟩|⟨_,_,ha⟩
    ·exact ha
    ·grind
    ·cases ha
def xN(A:dT)(aD:List Nd)(i:Nat):Sv->List Rc->Prop
 |_,[]=>True
 |s,x::l=>(x.ok/\oA A x)/\((s.doc x).2=0->Eo aD i s x/\xN A aD i (s.doc x).1 l)
def Eo.le{b:List Nd}(h:Le A a b){s:Sv}(d:Eo a i s x):Eo b i s x:=by
 cases x with
 |cB c=>exact h.k c d
 |cD c=>exact d.imp id λk=>k.trans (Nt _ h.d)
 |fH _ _=>exact d
 |cR _=>trivial
def xN.le{b:List Nd}(h:Le A a b):∀ {l:List Rc} {s:Sv},xN A a i s l->xN A b i s l
 | [],_,_=>trivial
 |_::_,_,hl=>⟨hl.1,λhz=>⟨(hl.2 hz).1.le h,xN.le h (hl.2 hz).2⟩⟩
def NI.We(h:NI A aD)(f:aD[i]?=some n)(g:n.up=true)(k:x.ok)(b:Eo aD i n.s x):Lo 0 0 n.s (n.s.doc x).1:=by
 have⟨_,a,_,d,_⟩:=h.gd f;rw[jH g] at a d;refine Yo a k (λk t e=>?_) λc e q=>?_
 ·subst e;exact b
 ·subst e;have⟨j,m,p,o,l⟩:=(b:Kn aD c);grind [Option.some.inj,jH]
theorem NI.oP:∀ {l:List Rc} {k:Nat} {n:Nd} {aD:List Nd},NI A aD->aD[i]?=some n->n.up=true->xN A aD i n.s l->Mv A aD i n (n.oP l k).1 0 0/\(n.oP l k).1.up=true
 | [],k,n,aD,h,hn,hu,_=>⟨Mv.refl h hn (dV _) (dV _),hu⟩
 |x::l,k,n,aD,h,hn,hu,ha=>by
  have h1:=h.write hn hu ha.1.1 ha.1.2 (dV 0) (dV 0) λhz=>⟨.inl (ha.2 hz).1,h.We hn hu ha.1.1 (ha.2 hz).1⟩
  have⟨w1,w2,w3,w4,w5⟩:=(h.nv i n hn).1.write hu ha.1.1 ha.1.2;unfold Nd.oP;by_cases hc:(n.write x).2=0
  ·rw[c! hc];have hal:xN A (aD.set i (n.write x).1) i (n.write x).1.s l:=by
    rcases w5 with⟨e,_⟩|⟨_,hz,e⟩
    ·grind
    ·rw[e];exact(ha.2 hz).2.le h1.l
   have⟨r1,r2⟩:=NI.oP (l:=l) (k:=k+1) h1.h (BE hn) w2 hal;exact⟨h1.trans r1,r2⟩
  ·grind
end
end
end
end Go.Proofs.YtmilalkjbojciaaGreat.Sep
