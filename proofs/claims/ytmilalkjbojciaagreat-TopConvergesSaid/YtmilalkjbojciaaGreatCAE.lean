/- Part AE: what it needs. No condition. -/
import Derived.Test.YtmilalkjbojciaaGreatCAD
import Derived.Test.YtmilalkjbojciaaGreatCAC
set_option linter.all false
set_option maxRecDepth 100000
set_option maxHeartbeats 8000000
open Go.Proofs.Tryz
namespace Go.Proofs.YtmilalkjbojciaaGreat.Sep
open Go.RowKit Reg
open Mem hiding Rd
variable{a:aL}
instance:iB 45 [a! 0,a! 0,a! 0,a! 0,a! 0,a! 0,a! 0,a! 0,a! 0,a! 0,a! 0,a! 0,a! 0,a! 0,a! 0,a! 0,a! 0,a! 0,a! 0,a! 0,a! 0,a! 0,a! 0,a! 0,.slice none 0 0] [(0,8),(8,8),(16,8),(24,1)]:=⟨⟨q_,q_⟩⟩
def KB(E:Env)(a b:Int)(j:0<=a/\a<=1099511627776)(hb:0<=b/\b<=1099511627776):G E 352 [a! a,a! b] [] (bL (.tuple #[a! (a+b),.bool true]) []):=by
 have d:¬a<0:=o_;have e:¬b<0:=o_;have f:¬a+b<0:=o_;have g:(decide (a<0) == decide (b<0))=true:=by simp[d,e]
 have h:(!(decide (a+b<0) == decide (a<0)))=false:=by simp[d,f]
 refine p_ func352 ntmps352 ?_
 exact mZ
def OT.WE(E:Env)(i:Int):G E 355 [a! i] [] (bL (.bool (decide (0<=i/\i<=7))) []):=by
 refine p_ func355 ntmps355 ?_
 exact aS
instance {i:Int}:uD 355 [a! i] (.bool (decide (0<=i/\i<=7))):=⟨λE=>OT.WE E i⟩
def jB.V7(E:Env)(i:Int):G E 354 [a! i] [] (bL (.bool (decide (0<=i/\i<=7))) []):=by
 refine p_ func354 ntmps354 ?_
 exact aS
instance {i:Int}:uD 354 [a! i] (.bool (decide (0<=i/\i<=7))):=⟨λE=>jB.V7 E i⟩
def OT.Cx(E:Env)(i n:Int):G E 351 [a! i,a! n] [] (bL (.bool (decide ((0<=i/\i<=7)/\0<=n/\n<=1099511627776))) []):=by
 refine t_ func351 ntmps351 ?_;repeat' (first|refine w_ ?_|refine k_ ?_|refine f_ ?_ ?_|intro _)
 all_goals exact aX rfl aJ aC ⟨iK,rfl⟩
instance {i n:Int}:uD 351 [a! i,a! n] (.bool (decide ((0<=i/\i<=7)/\0<=n/\n<=1099511627776))):=⟨λE=>OT.Cx E i n⟩
def jB.Cx(E:Env)(i n:Int):G E 353 [a! i,a! n] [] (bL (.bool (decide ((0<=i/\i<=7)/\0<=n/\n<=1099511627776))) []):=by
 refine t_ func353 ntmps353 ?_;repeat' (first|refine w_ ?_|refine k_ ?_|refine f_ ?_ ?_|intro _)
 all_goals exact aX rfl aJ aC ⟨iK,rfl⟩
instance {i n:Int}:uD 353 [a! i,a! n] (.bool (decide ((0<=i/\i<=7)/\0<=n/\n<=1099511627776))):=⟨λE=>jB.Cx E i n⟩
section
variable (E:Env) (b:Bk) (A:n!) (m c:Nat) (i n:Int)
def lW(A:n!)(m c:Nat)(r:Bk×Int):Ending->List aG->Prop:=bL (.tuple #[.agg (if r.2=0 then r.1.cs A m c else fY.cs none 0 0).toArray,a! r.2]) []
theorem lW.ok:lW A m c (b,0)=bL (.tuple #[.agg (b.cs A m c).toArray,a! 0]) []:=rfl
def lW.no{k:Int}(h:k≠0):lW A m c (b,k)=bL (.tuple #[.agg (fY.cs none 0 0).toArray,a! k]) []:=by unfold lW;rw[b! h]
def OP(hb:b.ok):G E 315 [.agg (b.cs A m c).toArray,a! i,a! n] [] (lW A m c (tZ b i n)):=by
 obtain⟨a,d,e⟩:=hb;unfold O8.nC at a d e;unfold tZ;by_cases h:(0<=i/\i<=7)/\0<=n/\n<=1099511627776
 ·rw[c! h];by_cases f:b.kQ.get i+n<=1099511627776;rw[c! f,lW.ok];rotate_left;rw[b! f,lW.no _ _ _ _ sD];all_goals
   refine t_ func315 ntmps315 ?_;rcases zW h.1 with rfl|rfl|rfl|rfl|rfl|rfl|rfl|rfl;all_goals
    simp only[O8.gs b.kQ,O8.ss b.kQ] at f⊢;refine a_ ?_;intros;refine cl sD sK aH (λM g=>KB M _ n o_ o_) (b_ ?_);exact lO
 ·rw[b! h,lW.no _ _ _ _ sD];refine p_ func315 ntmps315 ?_;intros;exact lO
def Nu(hb:b.ok):G E 316 [.agg (b.cs A m c).toArray,a! i,a! n] [] (lW A m c (tX b i n)):=by
 obtain⟨a,d,e⟩:=hb;unfold O8.nC at a d e;unfold tX;by_cases h:(0<=i/\i<=7)/\0<=n/\n<=1099511627776
 ·rw[c! h];by_cases f:b.jB.get i+n<=1099511627776;rw[c! f,lW.ok];rotate_left;rw[b! f,lW.no _ _ _ _ sD];all_goals
   refine t_ func316 ntmps316 ?_;rcases zW h.1 with rfl|rfl|rfl|rfl|rfl|rfl|rfl|rfl;all_goals
    simp only[O8.gs b.jB,O8.ss b.jB] at f⊢;refine a_ ?_;intros;refine cl sD sK aH (λM g=>KB M _ n o_ o_) (b_ ?_);exact lO
 ·rw[b! h,lW.no _ _ _ _ sD];refine p_ func316 ntmps316 ?_;intros;exact lO
def OS(hb:b.ok):G E 358 [.agg (b.cs A m c).toArray,a! i,a! n] [] (lW A m c (sU b i n)):=by
 obtain⟨a,d,e⟩:=hb;unfold O8.nC at a d e;unfold sU;by_cases h:(0<=i/\i<=7)/\0<=n/\n<=1099511627776
 ·rw[c! h];by_cases f:b.kQ.get i<n;rw[c! f,lW.no _ _ _ _ sD];rotate_left;rw[b! f,lW.ok];all_goals
   refine t_ func358 ntmps358 ?_;rcases zW h.1 with rfl|rfl|rfl|rfl|rfl|rfl|rfl|rfl;all_goals
    simp only[O8.gs b.kQ,O8.ss b.kQ] at f⊢;refine a_ ?_;intros;exact lO
 ·rw[b! h,lW.no _ _ _ _ sD];refine p_ func358 ntmps358 ?_;intros;exact lO
def aLo(hb:b.ok):G E 362 [.agg (b.cs A m c).toArray,a! i,a! n] [] (lW A m c (yS b i n)):=by
 obtain⟨a,d,e⟩:=hb;unfold O8.nC at a d e;unfold yS;by_cases h:(0<=i/\i<=7)/\0<=n/\n<=1099511627776
 ·rw[c! h];by_cases f:b.jB.get i<n;rw[c! f,lW.no _ _ _ _ sD];rotate_left;rw[b! f,lW.ok];all_goals
   refine t_ func362 ntmps362 ?_;rcases zW h.1 with rfl|rfl|rfl|rfl|rfl|rfl|rfl|rfl;all_goals
    simp only[O8.gs b.jB,O8.ss b.jB] at f⊢;refine a_ ?_;intros;exact lO
 ·rw[b! h,lW.no _ _ _ _ sD];refine p_ func362 ntmps362 ?_;intros;exact lO
theorem aIg:G E 324 [.agg (b.cs A m c).toArray,a! i,a! n] [] (lW A m c (BG b i n)):=by
 unfold BG;by_cases h:0<=i/\i<=7
 ·by_cases a:0<=n/\n<=1073741824
  ·rw[c! ⟨h,a⟩,lW.ok];refine t_ func324 ntmps324 ?_;rcases zW h with rfl|rfl|rfl|rfl|rfl|rfl|rfl|rfl
   all_goals
    simp only[O8.ss b.qG];refine a_ ?_;intros
    exact lO
  ·rw[b! λq=>a q.2,lW.no _ _ _ _ sD];refine p_ func324 ntmps324 ?_;intros
   exact lO
 ·rw[b! λq=>h q.1,lW.no _ _ _ _ sD];refine p_ func324 ntmps324 ?_;intros
  exact lO
end
def XQ{α:Type}(p:α->Bool)(l:List α)(x:α):behind p (l++[x])=if p x then l.length+1 else behind p l:=by
 induction l with
 |nil=>simp[behind]
 |cons a l d =>
  rw[mX,behind,d];cases e:p x with
  |true=>simp
  |false=>simp[behind]
def r6(a b:aL):decide (sE a b<0)=Fb a b:=by
 unfold Fb sE nR;rw[uB];simp only[h!];by_cases d:a.seq<b.seq
 ·simp[oM,d]
 ·by_cases e:b.seq<a.seq
  ·simp[oM,d,e];omega
  ·by_cases f:a.rep<b.rep
   ·simp[oM,d,e,f];omega
   ·by_cases g:b.rep<a.rep;all_goals
     simp[oM,d,e,f,g]
section
variable (E:Env) (b:Bk) (A:n!) (n c:Nat)
def aFz(g:Nat)(a:aL)(h:gX E g a.cs)(x:dM):G E 384 [.agg x.cs.toArray,pt g] [] (bL (.bool (decide (x.id=a))) []):=by
 refine p_ func384 ntmps384 ?_;intros
 exact aS
def Fw(hr:Rd E eS A n c b.bG)(r s:Int):G E 375 [.agg (b.cs A n c).toArray,.agg #[a! r,a! s]] [] (bL (a! (nX b ⟨r,s⟩)) []):=by
 refine p_ func375 ntmps375 ?_;intros
 rename_i g2 g3;refine cl sD sK aH (λM hE=>y9 M A n c b.bG bK 384 [_] _ sK λE2 R2 hE2 x=>aFz E2 g3 ⟨r,s⟩ ((gX.of hE aV).sub hE2) x) (b_ ?_)
 exact aS
def aNg(h:nX b a<0):Aw b a=none:=by unfold Aw;rw[b! o_]
def aAx(h:0<=nX b a):∃x,Aw b a=some x/\b.bG[(nX b a).toNat]?=some x/\x.id=a:=by
 have⟨f,x,d,e⟩:=CD h;unfold Aw;rw[c! h];exact⟨x,d,d,g! e⟩
def aDm(d:Rd E eS A n c b.bG)(r s:Int):G E 387 [.agg (b.cs A n c).toArray,.agg #[a! r,a! s]] [] (bL (.tuple #[.agg ((Aw b ⟨r,s⟩).getD Nc).cs.toArray,.bool (Aw b ⟨r,s⟩).isSome]) []):=by
 have g:=d.len;refine p_ func387 ntmps387 ?_;intros;refine cV (λM a=>Fw M b A n c a r s) ?_;by_cases h:nX b ⟨r,s⟩<0
 ·rw[aNg b h];simp only[Option.isSome_none,Option.getD_none];refine a_ ?_;exact lO
 ·have⟨x,a,e,f⟩:=aAx b (show 0<=nX b ⟨r,s⟩ by omega);rw[a];simp only[FB,oD];refine a_ ?_;exact lO
def Qe(B:n!)(m d:Nat)(l:List Int)(o:Rd E yI B m d l)(x:Int):G E 388 [.slice B m d,a! x] [] (bL (.bool (l.contains x)) []):=by
 have e:∀M,Rd M yI B m d l->G M 392 [.slice B m d,a! x] [] (bL (a! (place (λy=>decide (x=y)) l)) []):=by
  intro M o;have u:=o.len;have q:=o.cap;have s:=cS;refine p_ func392 ntmps392 ?_;refine C.scan (Y:=Unit) u (λi _=>[(0,.slice B m d),(1,a! x),(7,a! m),(8,a! i)]) (λ_ _=>[]) (λi _=>∀j y,j<i->l[j]?=some y->decide (x=y)=false) () aK aB.refl (λj y r=>by omega) ?_ ?_
  ·intro i _ y t v h a;by_cases f:x=y
   ·refine a_ ?_;exact aX rfl aJ aC (⟨yW (Ho (p:=λy=>decide (x=y)) h (d! f) a).symm,rfl⟩)
   ·refine a_ ?_;refine⟨(),aK,aB.refl,λj z r g=>?_⟩;by_cases k:j=i
    ·subst k;rw[h] at g;injection g with g;subst g;exact e! f
    ·exact a j z o_ g
  ·intro _ t a;refine a_ ?_;exact aX rfl aJ aC (⟨yW (KQ (HY λj y r h=>a j y o_ h)).symm,rfl⟩)
 refine p_ func388 ntmps388 ?_;refine z_ e ?_;exact aX rfl aJ aC (⟨by rw[Hn,List.contains_eq_any_beq];congr 2,rfl⟩)
def TV(f:Rd E eS A n c b.bG)(r s:Int)(B:n!)(m d:Nat)(st:List Int)(g:Rd E yI B m d st):G E 377 [.agg (b.cs A n c).toArray,.agg #[a! r,a! s],.slice B m d] [] (bL (.tuple #[.agg (qZ b ⟨r,s⟩ st).1.cs.toArray,a! (qZ b ⟨r,s⟩ st).2]) []):=by
 unfold qZ;refine p_ func377 ntmps377 ?_;intros
 refine cV (λM a=>aDm M b A n c a r s) ?_;cases h:Aw b ⟨r,s⟩ with
 |none =>
  simp only[Option.isSome_none,Option.getD_none];refine a_ ?_;intros
  exact lO
 |some x =>
  simp only[FB,oD];cases e:st.contains x.state with
  |true =>
   simp only[if_true];refine a_ ?_;intros
   refine cU (λM a=>Qe M B m d st a x.state) ?_;rw[e];refine b_ ?_
   exact lO
  |false =>
   simp only[tG,if_false];refine a_ ?_;intros
   refine cU (λM a=>Qe M B m d st a x.state) ?_;rw[e];refine b_ ?_
   exact lO
theorem Ta(hr:Rd E eS A n c b.bG)(o:dM)(hm:n<=1000):G E 376 [.agg (b.cs A n c).toArray,.agg o.cs.toArray] [] λe H'=>∃B d,((lT b o).bG.length<=d/\d<=maxLen)/\e=.returned (.agg ((lT b o).cs B (lT b o).bG.length d).toArray)/\H'=[own eS B (lT b o).bG.length d (lT b o).bG]:=by
 have hn:=hr.len;have hcap:=hr.cap;have hmax:=cS;unfold lT;refine t_ func376 ntmps376 ?_;by_cases h:0<=nX b o.id
 ·rw[c! h];obtain⟨h1,x,h2,h3⟩:=CD h;obtain⟨k,hk⟩:=zI h;change b.bG[(nX b o.id).toNat]?=some x at h2;rw[hk,jK] at h2⊢;have hl:(b.bG.set k o).length=n:=by rw[iM,hn]
  dsimp only;rw[hl];have hk':nX b ⟨o.id.rep,o.id.seq⟩=(k:Int):=hk;refine a_ ?_;intros
  refine cU (λM h1=>Fw M b A n c h1 o.id.rep o.id.seq) ?_;rw[hk'];refine b_ ?_
  refine C_ (λM h1=>MP M A n c b.bG h1 o_) ?_;intro B d hd
  exact eP rfl aJ rfl rfl rfl aV rfl aC (⟨_,_,hd,rfl,rfl⟩)
 ·rw[b! h];have hk':¬0<=nX b ⟨o.id.rep,o.id.seq⟩:=h;obtain⟨p,hp⟩:∃p:dM->Bool,p=λx=>Fb x.id o.id:=⟨_,rfl⟩
  rw[show(λx:dM=>Fb x.id o.id)=p from hp.symm];refine a_ ?_;intros
  rename_i g2 g3 g4;refine cV (λM h1=>Fw M b A n c h1 o.id.rep o.id.seq) ?_;repeat ((fail_if_success (refine C.seq (x:=Code.region 7 _ _) ?_));first|refine mV ?_|refine k_ ?_|intro _|refine Dr.two ?_ ?_)
  refine C.cW (X:=Unit) (λ_=>[(2,.pointer (some ⟨g2,0,none⟩)),(3,.pointer (some ⟨g3,0,none⟩)),(4,.pointer (some ⟨g4,0,none⟩)),(6,a! (behind p b.bG))]) (λ_=>[aE g4 45 (fY.cs none 0 0),aE g3 155 o.cs,aE g2 45 (b.cs A n c)]) (λ_=>True) ?_ ?_
  ·refine a_ ?_
   refine C.scan (Y:=Unit) hn (λi _=>[(2,.pointer (some ⟨g2,0,none⟩)),(3,.pointer (some ⟨g3,0,none⟩)),(4,.pointer (some ⟨g4,0,none⟩)),(6,a! (behind p (b.bG.take i))),(26,.slice A n c),(27,a! n),(28,a! i)]) (λ_ _=>[aE g4 45 (fY.cs none 0 0),aE g3 155 o.cs,aE g2 45 (b.cs A n c)]) (λ_ _=>True) () aK aC trivial ?_ ?_
   ·intro i _ x Gf hi hx _;have hb2:behind p (b.bG.take (i+1))=if p x then i+1 else behind p (b.bG.take i):=by
     rw[take_succ hx,XQ,dR,nM o_]
    have hpx:decide (sE ⟨x.id.rep,x.id.seq⟩ ⟨o.id.rep,o.id.seq⟩<0)=p x:=by rw[hp];exact r6 x.id o.id
    cases hc:p x with
    |true =>
     rw[hc] at hb2 hpx;rw[c! rfl] at hb2;refine a_ ?_;intros
     refine⟨(),?_,aC,trivial⟩;rw[hb2];exact aK
    |false =>
     rw[hc] at hb2 hpx;rw[b! sD] at hb2;refine a_ ?_;intros
     refine⟨(),?_,aC,trivial⟩;rw[hb2];exact aK
   ·intro _ Gf _;rw[hn,gY,<-hn];refine a_ ?_
    exact⟨(),aK,aC,trivial⟩
  intro _ Gf _;have hkn:behind p b.bG<=n:=by rw[hn];exact MD p b.bG
  have hlen:(b.bG.take (behind p b.bG)++[o]++b.bG.drop (behind p b.bG)).length=n+1:=by
   simp only[bR,dR,lB,gL,tH];omega
  dsimp only;generalize behind p b.bG=m at hkn hlen⊢;have h1:Rd E eS A m c (b.bG.take m):=hr.upto hkn o_ (bM _);have h2:=hr.from_ (k:=m) hkn;refine a_ ?_
  refine C.fL 13 (l_ [0,1,2,3,4,6,7,8,9] (g_ 5 (g_ 10 (g_ 11 (n_ 12 (g_ 13 .nil)))))) _ q_ q_ aB.refl (a_ ?_);intros
  refine cg rfl sD bB sK aH (λM hE=>Xn M _ _ _ _ bK (by intro s hs;simp at hs;rcases hs with rfl|rfl|rfl;exact h1.sub hE;exact bK;exact h2.sub hE) (by simp;omega)) ?_;simp only[zK,GZ,aY,<-bF,hlen];refine b_ ?_;intro B d hd
  exact eP rfl aJ rfl rfl rfl aV rfl aC (⟨_,_,hd,rfl,rfl⟩)
end
instance:iB 371 [a! 0] [(0,1)]:=⟨⟨q_,q_⟩⟩
def Jb(k:Int):List PanicEntry:=Nj (.iface 371 (.agg #[a! k]))
def xZ(E:Env)(p:Bool)(k:Int):G E 313 [.bool p,a! k] [] (λe a=>(if p then e=.returned (.tuple #[]) else e=.panicked (Jb k))/\a=[]):=by
 refine t_ func313 ntmps313 ?_;cases p with
 |true =>
  refine a_ ?_
  exact gG rfl aC ⟨rfl,rfl⟩
 |false =>
  refine a_ ?_
  refine L.val sD (λ_ _=>V.M1 rfl rfl q_) ?_;refine L.panic rfl ?_;exact⟨rfl,rfl⟩
def fR{X:Type}(r:Except Int X)(ok:X->Ending->List aG->Prop):Ending->List aG->Prop:=match r with
 | .ok x=>ok x
 | .error k=>λe a=>e=.panicked (Jb k)/\a=[]
instance:iB 369 [a! 0,a! 0,a! 0,a! 0,a! 0,a! 0,a! 0,a! 0,a! 0,a! 0,a! 0,a! 0,a! 0,a! 0,a! 0,a! 0,a! 0,a! 0,a! 0,a! 0,a! 0,a! 0,a! 0,a! 0,.slice none 0 0,.slice none 0 0,a! 0,a! 0] [(0,25),(25,1),(26,2)]:=⟨⟨q_,q_⟩⟩
def Wk.cs(w:Wk)(A:n!)(m c:Nat)(X:n!)(n x:Nat):List p!:=w.b.cs A m c++[.slice X n x,a! w.ref.rep,a! w.ref.seq]
def yM(E:Env)(w:Wk)(r:Bk×Int)(g:Nat)(A B:n!)(m c m' c':Nat)(X:n!)(n x:Nat) :
  G E 314 [.pointer (some ⟨g,0,none⟩),.agg (if r.2=0 then r.1.cs B m' c' else fY.cs none 0 0).toArray,a! r.2] [aE g 369 (w.cs A m c X n x)]
   (fR (w.iU r) λw'=>bL (.tuple #[]) [aE g 369 (w'.cs B m' c' X n x)]):=by
 have⟨b',k⟩:=r;unfold Wk.iU;by_cases h:k=0
 ·subst h;simp only[if_true];dsimp only[fR,Wk.cs,Bk.cs,k!,l!,G];refine p_ func314 ntmps314 ?_;intros;exact gG rfl aC ⟨rfl,rfl⟩
 ·simp only[b! h];dsimp only[fR];refine p_ func314 ntmps314 ?_;intros;refine L.val sD (λ_ _=>V.M1 rfl rfl q_) ?_;refine L.conv (H':=[]) aC ?_;refine L.panic rfl ?_;exact⟨rfl,rfl⟩
def uA(E:Env)(w:Wk)(b a k:Int)(g:Nat)(A:n!)(m c:Nat)(X:n!)(n x:Nat)(i:n<=1000) :
  G E 317 [.pointer (some ⟨g,0,none⟩),a! b,a! a,a! k] [aE g 369 (w.cs A m c X n x),own eT X n x w.out]
   λe h=>∃Y y,(n+1<=y/\y<=maxLen)/\e=.returned (.tuple #[])/\h=[aE g 369 ((w.tell b a k).cs A m c Y (n+1) y),own eT Y (n+1) y (w.tell b a k).out]:=by
 dsimp only[Wk.tell,Wk.cs,Bk.cs,k!,l!,G];refine t_ func317 ntmps317 ?_;refine C.fL 17 (l_ [0,1,2,3,4,5,6,7,8,9,10,11,12] (g_ 13 (g_ 14 (l_ [15,16] (g_ 17 .nil))))) ([aE g 369 _]) q_ q_ aC (a_ ?_)
 refine Dr.mK rfl (by rintro k ⟨⟩<;>decide) bB (S.pY (T:=eT) (e:=⟨b,a,k,w.ref⟩) rfl rfl rfl rfl sD) ?_;rintro _ _ ⟨_,rfl,rfl⟩;refine⟨aC,?_⟩;refine a_ ?_;intros
 exact gG rfl aC ⟨_,_,⟨‹_›,‹_›⟩,rfl,rfl⟩
section
variable {N:Nat} {E:Env} {F:Nat->p!} {H R Hp:List aG} {d:Nat} {f:FuncId} {ops:List r!} {tys:Array q!} {ty:q!} {pos:String} {af:Array Edge} {Q:QF} {Q1:Ending->List aG->Prop}
def mN{os g:List Oper}(x:d<N)(y:jT f=true)(z:fJ Hp H R)(n:∀M,Sub E R M->aF prog M f (mI F ops).toArray Hp Q1)
  (j:∀e H',Q1 e H'->(∃v,e=.returned v/\∃b,kE H' R b/\L prog N E os Q g (gK F d v) b)\/∃c,e=.panicked c/\∃b,aB E (H'++R) b/\Q (.panic c) (λ_=>undef) b) :
  L prog N E os Q (⟨some d,.call { callee:=.value (.func f),args:=ops.toArray,argTypes:=tys },ty,pos,af,none⟩::g) F H:=by
 have⟨B,r,s,t⟩:=AK y;refine⟨λa w k A=>wpList_plain rfl λ_ u=>O6 rfl rfl r s t z n k A (λv H' o i h=>?_) (λc H' o i h=>?_) λH' i=>?_⟩
 ·rcases j _ _ i with⟨p,a,b,l,m⟩|⟨c,a,_⟩
  ·injection a with a;subst a;exact u _ _ (m.get _ o (k.put x v) (by rw[l.eq];exact h))
  ·cases a
 ·rcases j _ _ i with⟨p,a,_⟩|⟨q,a,b,l,m⟩
  ·cases a
  ·injection a with a;subst a;exact⟨k.defers,b,l _ h,m⟩
 ·rcases j _ _ i with⟨p,a,_⟩|⟨q,a,_⟩<;>cases a
end
theorem Hh(E:Env)(w:Wk)(g:Nat)(A:n!)(m c:Nat)(X:n!)(n x:Nat)(t:Rd E eS A m c w.b.bG)(r s:Int)(B:n!)(i d:Nat)(st:List Int)(u:Rd E yI B i d st) :
  G E 359 [.pointer (some ⟨g,0,none⟩),.agg #[a! r,a! s],.slice B i d] [aE g 369 (w.cs A m c X n x)]
   (fR (w.order ⟨r,s⟩ st) λp=>bL (.agg p.2.cs.toArray) [aE g 369 (p.1.cs A m c X n x)]):=by
 unfold Wk.order;have⟨o,l⟩:∃o,o=qZ w.b ⟨r,s⟩ st:=⟨_,rfl⟩
 rw[<-l];have⟨o,k⟩:=o;dsimp only[Wk.cs,Bk.cs,dM.cs,k!,l!,G];refine p_ func359 ntmps359 ?_;intros
 refine rA (l_ [0,1,2,3,4,5] (.two 6 (l_ [7,8,9] (g_ 10 (g_ 11 (n_ 12 .nil)))) 10 (g_ 6 (l_ [7,8,9] (g_ 11 (n_ 12 .nil)))))) (a_ ?_)
 refine Dr.two ?_ ?_
 ·refine lC rfl sD bB sK aH (λM b=>TV M w.b A m c (t.sub b) r s B i d st (u.sub b)) ?_;rw[<-l];refine b_ ?_;intros
  by_cases h:k=0
  ·subst h;rw[c! rfl];dsimp only[fR];refine mN sD sK aH (λM b=>xZ M _ _) ?_;rintro e j ⟨a,rfl⟩;rw[c! s_] at a;subst a;refine .inl ⟨_,rfl,_,bU,(a_ ?_)⟩
   exact gE
  ·rw[b! h];dsimp only[fR];refine mN sD sK aH (λM b=>xZ M _ _) ?_;rintro e j ⟨a,rfl⟩;rw[b! (by simpa using h)] at a;subst a;exact .inr ⟨_,rfl,[],aC,rfl,rfl⟩
 ·refine a_ ?_;intros
  refine Da (λM q=>TV M w.b A m c q r s B i d st) ?_;rw[<-l];refine b_ ?_
  by_cases h:k=0
  ·subst h;rw[c! rfl];dsimp only[fR];refine mN sD sK aH (λM b=>xZ M _ _) ?_;rintro e j ⟨a,rfl⟩;rw[c! s_] at a;subst a;refine .inl ⟨_,rfl,_,bU,(a_ ?_)⟩
   exact gE
  ·rw[b! h];dsimp only[fR];refine mN sD sK aH (λM b=>xZ M _ _) ?_;rintro e j ⟨a,rfl⟩;rw[b! (by simpa using h)] at a;subst a;exact .inr ⟨_,rfl,[],aC,rfl,rfl⟩
def Tc(E:Env)(b:Bk)(A:n!)(n c:Nat)(j:Rd E eS A n c b.bG)(i:n<=1000):G E 274 [.agg (b.cs A n c).toArray] [] λe a=>∃B d,(n<=d/\d<=maxLen)/\e=.returned (.agg (b.cs B n d).toArray)/\a=[own eS B n d b.bG]:=by
 dsimp only[Bk.cs,k!,l!,G];refine p_ func274 ntmps274 ?_;intros
 refine C_ (λM g=>MP M A n c b.bG g o_) ?_;intro B d h
 exact eP rfl aJ rfl rfl rfl aV rfl aC (⟨_,_,h,rfl,rfl⟩)
def Ej(E:Env)(w:Wk)(o:dM)(st:Int)(g:Nat)(A:n!)(m c:Nat)(X:n!)(n x:Nat)(u:Rd E eS A m c w.b.bG)(j:m<=1000) :
  G E 360 [.pointer (some ⟨g,0,none⟩),.agg o.cs.toArray,a! st] [aE g 369 (w.cs A m c X n x)]
   λe b=>∃B d,((w.put o st).b.bG.length<=d/\d<=maxLen)/\e=.returned (.tuple #[])/\b=[aE g 369 ((w.put o st).cs B (w.put o st).b.bG.length d X n x),own eS B (w.put o st).b.bG.length d (w.put o st).b.bG]:=by
 unfold Wk.put;have⟨a,hb⟩:∃a,a=lT w.b { o with state:=st }:=⟨_,rfl⟩
 rw[<-hb];have⟨k,l,p,q,t,v⟩:=o;have⟨r,s⟩:=k;dsimp only[Wk.cs,Bk.cs,dM.cs,k!,l!,G];refine p_ func360 ntmps360 ?_;intros
 refine C.fL 9 (l_ [0,1,2,3,4,5] (g_ 6 (l_ [7,8] (g_ 9 .nil)))) _ q_ q_ aB.refl (a_ ?_)
 refine AV (λM h=>Ta M w.b A m c h ⟨⟨r,s⟩,l,p,q,t,st⟩ j) ?_;dsimp only at hb⊢;rw[<-hb];refine b_ ?_;intro B d i
 exact gG rfl aC ⟨_,_,i,rfl,rfl⟩
def kT(g:Nat)(w:Wk)(A:n!)(m c:Nat)(X:n!)(n x:Nat):List aG:=[aE g 369 (w.cs A m c X n x),own eS A m c w.b.bG,own eT X n x w.out]
def Dn(g:Nat)(w:Wk):Ending->List aG->Prop:=λe a=>∃A m c X n x,e=.returned (.tuple #[])/\a=kT g w A m c X n x
def yR{w:Wk}{st:List Int}{o:dM}{k:Int}(h:(o,k)=qZ w.b a st):w.order ⟨a.rep,a.seq⟩ st=if k=0 then .ok (⟨w.b,w.out,a⟩,o) else .error k:=by
 unfold Wk.order;rw[show qZ w.b ⟨a.rep,a.seq⟩ st=(o,k) from h.symm]
section
variable (E:Env) (w:Wk) (ch:aI) (g:Nat) (A:n!) (m c:Nat) (X:n!) (n x:Nat)
def aDl(t:m<=1000)(J:n<=900):G E 322 [.pointer (some ⟨g,0,none⟩),.agg ch.cs.toArray] (kT g w A m c X n x) (fR (w.Kq ch) (Dn g)):=by
 unfold Wk.Kq;have⟨q,i⟩:∃q,q=qZ w.b ch.ref [2]:=⟨_,rfl⟩;have⟨o,k⟩:=q;rw[show w.order ch.ref [2]=_ from yR i];dsimp only[aI.cs,kT,k!,l!,G];refine p_ func322 ntmps322 ?_;intros;refine mN sD sK aH (λM F=>Hh M w g A m c X n x bK ch.ref.rep ch.ref.seq _ 1 1 [2] bK) ?_;rw[yR i];by_cases h:k=0
 ·rw[c! h];try rw[c! h]
  dsimp only[fR,bind,Except.bind];rintro e b ⟨rfl,rfl⟩;refine .inl ⟨_,rfl,_,bU,?_⟩;dsimp only[dM.cs];refine a_ ?_;intros;refine cU (λM s=>Ej M ⟨w.b,w.out,ch.ref⟩ o 3 g A m c X n x s t) ?_;dsimp only[Wk.put];have⟨a,hb⟩:∃a,a=lT w.b ⟨o.id,o.dX,o.item,o.dL,o.cost,3⟩:=⟨_,rfl⟩;rw[<-hb];refine b_ ?_;intro B d H;refine u_ (λM=>uA M ⟨a,w.out,ch.ref⟩ 5 o.item o.dL g B a.bG.length d X n x o_) ?_;intro l x1 u;refine u_ (λM=>uA M (Wk.tell ⟨a,w.out,ch.ref⟩ 5 o.item o.dL) 6 o.item o.dL g B a.bG.length d l (n+1) x1 o_) ?_;intro p x2 v;refine u_ (λM=>uA M (Wk.tell (Wk.tell ⟨a,w.out,ch.ref⟩ 5 o.item o.dL) 6 o.item o.dL) 11 o.item o.dL g B a.bG.length d p (n+1+1) x2 o_) ?_;intro r D y;refine u_ (λM=>uA M (Wk.tell (Wk.tell (Wk.tell ⟨a,w.out,ch.ref⟩ 5 o.item o.dL) 6 o.item o.dL) 11 o.item o.dL) 7 o.dX 3 g B a.bG.length d r (n+1+1+1) D o_) ?_;intro f j z;exact gG rfl (H':=[aE g 369 _,own eS B a.bG.length d a.bG,own eT f _ j _]) aC ⟨B,a.bG.length,d,f,n+1+1+1+1,j,rfl,rfl⟩
 ·rw[b! h];dsimp only[fR,bind,Except.bind];rintro e b ⟨rfl,rfl⟩;exact .inr ⟨_,rfl,[],aC,rfl,rfl⟩
end
end Go.Proofs.YtmilalkjbojciaaGreat.Sep
