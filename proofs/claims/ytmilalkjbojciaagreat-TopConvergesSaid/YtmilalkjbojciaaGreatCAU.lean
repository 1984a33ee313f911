/- Part AU: what it needs. No condition. -/
import Derived.Test.YtmilalkjbojciaaGreatCAP
set_option linter.all false
set_option maxRecDepth 100000
set_option maxHeartbeats 8000000
open Go.Proofs.Tryz
namespace Go.Proofs.YtmilalkjbojciaaGreat.Sep
variable{E:Env}{a:aL}{c:aI}{e:aN}{f:bE}{i j k:Nat}{l:List aM}{q x y:aM}{α:Type}
section
open Go.RowKit Reg Oct
open Mem hiding Rd
def Jt(a b:bV):Int:=oM [sE a.id b.id,nR a.ord b.ord]
def Bv(a b:bV):Bool:=if Jt a b≠0 then decide (Jt a b<0) else(!a.cJ&&b.cJ)
def SZ(E:Env)(a b:bV):G E 210 [.agg a.cs.toArray,.agg b.cs.toArray] [] (bL (.bool (Bv a b)) []):=by
 have g:Jt a b=oM [sE ⟨a.id.rep,a.id.seq⟩ ⟨b.id.rep,b.id.seq⟩,nR a.ord b.ord]:=rfl;unfold Bv;rw[g];by_cases h:oM [sE ⟨a.id.rep,a.id.seq⟩ ⟨b.id.rep,b.id.seq⟩,nR a.ord b.ord]=0
 ·have e:decide (oM [sE ⟨a.id.rep,a.id.seq⟩ ⟨b.id.rep,b.id.seq⟩,nR a.ord b.ord]≠0)=false:=e! (by rw[h];decide);rw[b! (by rw[h];decide)];refine p_ func210 ntmps210 ?_;intros;refine rA (l_ [0,1,2,3,5,6,7,8] (g_ 4 (g_ 9 (g_ 10 (g_ 11 (n_ 12 .nil)))))) (a_ ?_);intros;rcases tF a.cJ with c|c;have i:(!a.cJ)=false:=by rw[c];rfl
  rotate_left;have i:(!a.cJ)=true:=by rw[c];rfl
  all_goals
   refine a_ ?_;exact aX rfl aJ aC (⟨iK (by rw[c];rfl),rfl⟩)
 ·have e:decide (oM [sE ⟨a.id.rep,a.id.seq⟩ ⟨b.id.rep,b.id.seq⟩,nR a.ord b.ord]≠0)=true:=d! h;rw[c! h];refine p_ func210 ntmps210 ?_;intros;refine rA (l_ [0,1,2,3,5,6,7,8] (g_ 4 (g_ 9 (g_ 10 (g_ 11 (n_ 12 .nil)))))) (a_ ?_);intros;exact aS
def yB(a b:aM):Int:=if Bv a.key b.key then -1 else if Bv b.key a.key then 1 else 0
def JD(E:Env)(a b:aM):G E 209 [.agg a.cs.toArray,.agg b.cs.toArray] [] (bL (a! (yB a b)) []):=by
 have c:=λM=>SZ M a.key b.key;have e:=λM=>SZ M b.key a.key;unfold yB;generalize Bv a.key b.key=x at *;generalize Bv b.key a.key=y at *;cases x with
 |true =>
  refine p_ func209 ntmps209 ?_;intros
  refine r_ c ?_
  exact aS
 |false =>
  cases y with
  |true =>
   refine p_ func209 ntmps209 ?_;intros
   refine r_ c ?_
   refine r_ e ?_
   exact aS
  |false =>
   refine p_ func209 ntmps209 ?_;intros
   refine r_ c ?_
   refine r_ e ?_
   exact aS
def vP(a:Nat):Nat->List aM->List aM
 |0,l=>l
 |j+1,l=>if a<j+1 then(match l[j+1]?,l[j]? with
  |some x,some y=>if yB x y<0 then vP a j ((l.set (j+1) y).set j x) else l
  |_,_=>l) else l
def C8(a:Nat):Nat->Nat->List aM->List aM
 |_,0,l=>l
 |i,k+1,l=>C8 a (i+1) k (vP a i l)
def qX(a b:Nat)(l:List aM):List aM:=C8 a (a+1) (b - (a+1)) l
def M3(a:Nat):∀(j:Nat) (l:List aM),(vP a j l).length=l.length
 |0,l=>rfl
 |j+1,l=>by
  unfold vP;split
  ·split
   ·split
    ·rw[M3 a j];simp
    ·rfl
   ·rfl
  ·rfl
def R9{a:Nat}(h:j<=a):vP a j l=l:=by
 cases j with
 |zero=>rfl
 |succ j=>unfold vP;rw[b! o_]
def R8{a:Nat}(h:a<j+1)(b:l[j+1]?=some x)(c:l[j]?=some y):vP a (j+1) l=if yB x y<0 then vP a j ((l.set (j+1) y).set j x) else l:=by
 show(if a<j+1 then(match l[j+1]?,l[j]? with|some x,some y=>if yB x y<0 then vP a j ((l.set (j+1) y).set j x) else l|_,_=>l) else l)=_;rw[c! h,b,c]
def M4(a:Nat):∀(k i:Nat) (l:List aM),(C8 a i k l).length=l.length
 |0,_,_=>rfl
 |k+1,i,l=>by show(C8 a (i+1) k (vP a i l)).length=_;rw[M4 a k,M3]
section
variable {N:Nat} {E:Env} {F:Nat->p!} {H R:List aG} {Q:QF} {d z:Nat} {f:FuncId} {x:r!} {cs vs':List p!} {ops:List r!} {tys:Array q!} {ty:q!} {pos:String} {af:Array Edge} {Hp:List aG} {Q1:Ending->List aG->Prop}
def Co{os:List Oper}{a:Td}{c:List aG}{gd:Option (Nat×Bool)}(hi:nth os i=some ⟨some d,.call { callee:=.value x,args:=ops.toArray,argTypes:=tys },ty,pos,af,gd⟩)(n:d<N)(o:gV os N F true gd)(s:ev F x=.func (.func f) #[] cs.toArray)(r:mI F ops++cs=vs')(p:jT f=true)(q:fJ Hp H R)
  (g:∀M,Sub E R M->aF prog M f vs'.toArray Hp Q1) (m:∀e H',Q1 e H'->∃v,e=.returned v/\∃b,kE H' R b/\aB E b c/\Dr prog N E z os Q c a (gK F d v) b):Dr prog N E z os Q c (.one i true a) F H:=by
 have⟨t,h,j,l⟩:=AK p;exact Dr.all (lJ.go hi (by rintro k ⟨⟩;exact n) o (S.Ds rfl s rfl r h j l q g m))
end
def Hj{T:Ty α}{f:FuncId}{args:Array p!}{A:n!}{n c:Nat}{l:List α}{R:List aG}{Q:Ending->List aG->Prop}(h:(n=0\/∃a,A=some a)->aF prog E f args (own T A n c l::R) Q):aF prog E f args (own T A n c l::R) Q:=λhd w hw=>by
 have⟨F,h1,_⟩:=hw.has Has.aR;refine h ?_ hd w hw;rcases h1.2 with⟨h0,_⟩|⟨g,_,hA,_⟩
 ·exact .inl h0
 ·exact .inr ⟨_,hA⟩
def I2{T:Ty α}{H:List aG}{e:r!->p!}{o:Oper}{t:q!}{x i:r!}{k:IntKind}{j:Int}{m n c:Nat}{A:n!}(g:∃a,A=some a)(l:o.op=.indexAddr t x i)(r:e x=.slice A n c)(hi:e i=.int k j)(p:prog.underlying t=some (.slice T.tid))(h:j.toNat=m)(f:0<=j)(s:m<n){q:Nat}(d:m*T.size=q):gM prog E H e o (.pointer (some ((ad A).add q))):=by
 subst d;obtain⟨a,rfl⟩:=g;intro u v;have b:=T.lF;cases d:prog.info? T.tid with
 |none=>simp[d] at b
 |some w =>
  simp[d] at b;exact V.indexAddr l r hi p d f o_ h b.2.1 rfl
abbrev mJ:p!:=.func (.func 209) #[] #[]
theorem M5(E:Env)(A:n!)(n c:Nat)(l:List aM)(hn:n<=1000000)(B:l.length=n)(a b:Nat)(U:a<=b)(hb:b<=n):G E 310 [.slice A n c,a! a,a! b,mJ] [own cF A n c l] (bL (.tuple #[]) [own cF A n c (qX a b l)]):=by
 have K:jT 209=true:=q_;unfold qX;have⟨p,q⟩:∃p,C8 a (a+1) (b - (a+1)) l=p:=⟨_,rfl⟩
 rw[q];have H:=cS;refine Hj λhA=>?_;refine p_ func310 ntmps310 ?_
 refine C.loop (X:=Nat×List aM) (λx=>[(0,.slice A n c),(1,a! a),(2,a! b),(3,mJ),(8,a! x.1)]) (λx=>[own cF A n c x.2])
  (λx=>a+1<=x.1/\(x.1<=b\/x.1=a+1)/\x.2.length=n/\C8 a x.1 (b - x.1) x.2=p) (λx=>b - x.1) (a+1,l) aK aC ⟨bM _,.inr rfl,B,q⟩ ?_
 rintro⟨i,s⟩ G ⟨O,P,u,d⟩;dsimp only at O P u d⊢;by_cases W:i<b
 ·have N:b - i=(b - (i+1))+1:=o_;rw[N] at d;have d:C8 a (i+1) (b - (i+1)) (vP a i s)=p:=d;have⟨t,h⟩:∃t,vP a i s=t:=⟨_,rfl⟩
  have D:t.length=n:=by rw[<-h,M3,u]
  rw[h] at d;refine a_ ?_
  refine C.loop (X:=Nat×List aM) (λx=>[(0,.slice A n c),(1,a! a),(2,a! b),(3,mJ),(8,a! i),(9,a! x.1)]) (λx=>[own cF A n c x.2])
   (λx=>a<=x.1/\x.1<=i/\x.2.length=n/\vP a x.1 x.2=t) (λx=>x.1) (i,s) aK aC ⟨by dsimp only;omega,bM _,u,h⟩ ?_
  rintro⟨j,f⟩ G2 ⟨Q,R,F,g⟩;dsimp only at Q R F g⊢;by_cases v:a<j
  ·obtain⟨j,rfl⟩:∃m,j=m+1:=⟨j - 1,o_⟩
   have⟨x,Z⟩:∃x,f[j+1]?=some x:=⟨_,bS o_⟩
   have⟨y,r⟩:∃y,f[j]?=some y:=⟨_,bS o_⟩
   rw[R8 v Z r] at g;have o:=λM=>JD M x y;have e:(((j+1:Nat):Int) - 1).toNat=j:=o_;have a8:f[(((j+1:Nat):Int) - 1).toNat]?=some y:=by rw[e];exact r
   have b0:(f.set (j+1) y)[j]?=some y:=by rw[BY o_];exact r
   have a9:(f.set (j+1) y)[(((j+1:Nat):Int) - 1).toNat]?=some y:=by rw[e,BY o_];exact r
   generalize yB x y=z at *;by_cases J:z<0
   ·rw[c! J] at g;refine a_ ?_
    refine rA (l_ [0,1,2,3,4,5,6,7,8,9,10,11,12,13] (g_ 14 (l_ [15,16] .nil))) (a_ ?_)
    refine Co rfl sD bB rfl rfl K .nil (λM q=>o M) (b_ ?_)
    refine C.Hw 15 (l_ [0,1,2,3,4,5,6,7,8,9,10,11,12,13,14] (g_ 15 (n_ 16 (g_ 17 .nil)))) [own cF A n c f] [] q_ q_ aC ?_;repeat (first|refine Dt.take rfl sD rfl bB kP kP ?_|refine Dt.gS rfl sD rfl q_ bB kP ?_)
    refine Dt.IK rfl (by rintro k ⟨⟩<;>decide) bB uY ?_;rintro _ _ ⟨rfl,rfl⟩;refine⟨aC,?_⟩;refine Dr.take rfl sD bB (I2 (hA.resolve_left o_) rfl rfl rfl rfl e o_ o_ (T:=cF) rfl) (a_ ?_)
    simp only[e];exact⟨(j,(f.set (j+1) y).set j x),aK,aC,⟨by dsimp only;omega,by dsimp only;omega,by simp[F],g⟩,d_⟩
   ·rw[b! J] at g;subst g;refine a_ ?_
    refine rA (l_ [0,1,2,3,4,5,6,7,8,9,10,11,12,13] (g_ 14 (l_ [15,16] .nil))) (a_ ?_)
    refine Co rfl sD bB rfl rfl K .nil (λM q=>o M) (b_ ?_)
    exact⟨(i+1,f),aK,aC,⟨by dsimp only;omega,.inl d_,D,d⟩,d_⟩
  ·rw[R9 o_] at g;subst g;refine a_ ?_
   refine rA (l_ [0,1,2,3,4,5,6,7,8,9,10,11,12,13] (g_ 14 (l_ [15,16] .nil))) (a_ ?_)
   exact⟨(i+1,f),aK,aC,⟨by dsimp only;omega,.inl d_,D,d⟩,d_⟩
 ·have w:b - i=0:=o_;rw[w] at d;have d:s=p:=d;subst d;refine a_ ?_
  exact vK
def Xg(E:Env)(A:n!)(n c:Nat)(l:List aM)(h:n<20)(a:l.length=n):G E 148 [.slice A n c] [own cF A n c l] (bL (.slice A n c) [own cF A n c (qX 0 n l)]):=by
 have sW:=λM=>M5 M A n c l o_ a 0 n (bY _) (bM _);generalize qX 0 n l=b at *;have f:=cS;have d:∀M,G M 268 [.slice A n c,a! n,mJ] [own cF A n c l] (bL (.tuple #[]) [own cF A n c b]):=λM=>by
  refine I_ func268 ntmps268 ?_
  refine C.loop (X:=Unit) (λ_=>[(0,.slice A n c),(1,a! n),(2,mJ),(6,a! 20),(7,a! 0),(8,a! 20)]) (λ_=>[own cF A n c l]) (λ_=>True) (λ_=>0) () aK aC trivial ?_;rintro⟨⟩ G -;refine j_ ?_
  refine aP sW ?_;refine j_ ?_
  refine C.loop (X:=Unit) (λ_=>[(0,.slice A n c),(1,a! n),(2,mJ),(6,a! 20)]) (λ_=>[own cF A n c b]) (λ_=>True) (λ_=>0) () aK aC trivial ?_;rintro⟨⟩ g -;refine j_ ?_
  exact vK
 have e:∀M,G M 208 [.slice A n c,mJ] [own cF A n c l] (bL (.tuple #[]) [own cF A n c b]):=λM=>by
  refine I_ func208 ntmps208 ?_
  refine aP d ?_;refine j_ ?_
  exact vK
 refine I_ func148 ntmps148 ?_
 refine aP e ?_;refine j_ ?_
 exact aS
def BK(o:List aM):Prop:=∀(E:Env) (A:n!) (c:Nat),G E 148 [.slice A o.length c] [own cF A o.length c o] (bL (.slice A o.length c) [own cF A o.length c (qX 0 o.length o)])
def BK.fK{o:List aM}(h:o.length<20):BK o:=λE A c=>Xg E A o.length c o h rfl
theorem aLk(E:Env)(g:Nat)(q:aM)(hb:gX E g q.cs)(x:aM):G E 146 [.agg x.cs.toArray,pt g] [] (bL (.bool (decide (x.key=q.key.other))) []):=by
 have a:=λM=>aKe (E:=M) q.key;obtain⟨k2,b⟩:∃k2,q.key.other=k2:=⟨_,rfl⟩
 rw[b] at a⊢;refine t_ func146 ntmps146 ?_;refine j_ ?_;intros
 rename_i c;refine rB (l_ [0,1,2,3] (g_ 4 (l_ [5,6] .nil))) ([aE c 79 _]) ?_;refine j_ ?_
 refine cP a ?_;refine j_ ?_
 exact aS
def Av(a:List aM)(s:List (aL×Int)×List aM)(q:aM):List (aL×Int)×List aM :=
 if q.key.cJ||a.any (λx=>decide (x.key=q.key.other)) then s else(wV s.1 q.key.id,s.2++[⟨⟨q.key.id,jP (wV s.1 q.key.id) q.key.id,q.key.cJ⟩,q.bD⟩])
def pA:List aM->List (aL×Int)×List aM->List aM
 | [],s=>s.2
 |q::l,s=>pA l (Av l s q)
def NT:∀(l:List aM) (s:List (aL×Int)×List aM),(pA l s).length<=s.2.length+l.length
 | [],s=>bM _
 |q::l,s=>by
  refine iR (NT l (Av l s q)) ?_;have:(Av l s q).2.length<=s.2.length+1:=by
   unfold Av;split
   ·exact pV _
   ·exact Nat.le_of_eq (bR ..)
  rw[gL];omega
def xA(l:List aM):List aM:=qX 0 (pA l ([],[])).length (pA l ([],[]))
def HO(i:Nat)(ks:List (aL×Int)):Prop:=∀z∈ks,0<=z.2/\z.2<=i
def SH{ks:List (aL×Int)}(h:HO i ks)(k:aL):0<=jP ks k/\jP ks k<=i:=by
 unfold jP;cases a:hZ ks k with
 |none=>exact⟨dV _,by show(0:Int)<=i;omega⟩
 |some q=>have⟨q,v⟩:=q;exact h _ (dG (M7 a))
def o?{ks:List (aL×Int)}(h:HO i ks)(k:aL):HO (i+1) (wV ks k):=by
 have c:=SH h k;intro z a;unfold wV at a;rcases Ca a with a|a
 ·unfold uS at a;cases b:hZ ks k with
  |none =>
   rw[b] at a;rcases eL.1 a with a|a
   ·have:=h z a;omega
   ·rw[eM.1 a];exact⟨dV _,by show(0:Int)<=_;omega⟩
  |some q=>rw[b] at a;have:=h z a;omega
 ·rw[a];exact⟨by show 0<=jP ks k+1;omega,by show jP ks k+1<=_;omega⟩
def SD{ks:List (aL×Int)}{k:aL}(h:hZ ks k=none)(v:Int):hZ (ks++[(k,v)]) k=some (ks.length,v):=by
 induction ks with
 |nil=>exact c! rfl
 |cons x ks d =>
  unfold hZ at h;split at h
  ·cases h
  ·rename_i c;have a:hZ ks k=none:=by
    cases b:hZ ks k with
    |none=>rfl
    |some z=>rw[b] at h;cases h
   show(if k=x.1 then _ else _)=_;rw[b! c];show(hZ (ks++[(k,v)]) k).map _=_;rw[d a];rfl
def q?(ks:List (aL×Int))(k:aL):jP (uS ks k) k=jP ks k:=by
 unfold uS;cases a:hZ ks k with
 |none =>
  show jP (ks++[(k,0)]) k=_;unfold jP;rw[SD a,a];rfl
 |some z=>rfl
def p?{ks:List (aL×Int)}{k:aL}{q:Nat}{v:Int}(h:hZ ks k=some (q,v))(w:Int):hZ (ks.set q (k,w)) k=some (q,w):=by
 induction ks generalizing q with
 |nil=>cases h
 |cons x ks e =>
  unfold hZ at h;split at h
  ·injection h with h;injection h with a c;subst a;exact c! rfl
  ·rename_i d;cases b:hZ ks k with
   |none=>rw[b] at h;cases h
   |some z =>
    have⟨f,g⟩:=z;rw[b] at h;injection h with h;injection h with a c;subst a c;show(if k=x.1 then _ else(hZ (ks.set f (k,w)) k).map _)=_;rw[b! d,e b];rfl
def HN(ks:List (aL×Int))(k:aL):jP (wV ks k) k=jP ks k+1:=by
 unfold wV;have h:hZ (uS ks k) k=some (Ap ks k,jP ks k):=by
  unfold uS Ap jP;cases a:hZ ks k with
  |none=>exact SD a 0
  |some z=>exact a
 unfold jP;rw[p? h];rfl
def aFk(h:l[i]?=some q)(s:List (aL×Int)×List aM):pA (l.drop i) s=pA (l.drop (i+1)) (Av (l.drop (i+1)) s q):=by
 obtain⟨a,rfl⟩:=cH.1 h;rw[lL a];rfl
def aCm(E:Env)(A:n!)(n c:Nat)(l:List aM)(hr:Rd E cF A n c l)(hn:n<=100000)(hb:BK (pA l ([],[]))):G E 82 [.slice A n c] [] λe H'=>∃B k,e=.returned (.slice B (xA l).length k)/\H'=[own cF B (xA l).length k (xA l)]:=by
 have kf:jT 146=true:=q_;have hln:=hr.len;have hcap:=hr.cap;have hmax:=cS;have hNl:∀s,qX 0 (pA l s).length (pA l s)=qX 0 (pA l s).length (pA l s):=λ_=>rfl;have hnp:(xA l).length=(pA l ([],[])).length:=by unfold xA qX;rw[M4]
 rw[hnp];unfold xA;generalize hG:pA l ([],[])=out at *;clear hNl hnp;refine p_ func82 ntmps82 ?_;refine L.lI sD (S.aRb rfl) ?_;rintro _ _ ⟨gm,rfl,rfl⟩;refine a_ ?_;refine C.scan (Y:=List (aL×Int)×n!×Nat×List aM) (l:=l) (n:=n) hln (λi y=>[(0,.slice A n c),(3,.map (some gm)),(4,.slice y.2.1 y.2.2.2.length y.2.2.1),(9,.slice A n c),(10,a! n),(11,a! i)])
  (λi y=>[At gm y.1,own cF y.2.1 y.2.2.2.length y.2.2.1 y.2.2.2]) (λi y=>pA (l.drop i) (y.1,y.2.2.2)=out/\y.2.2.2.length<=i/\HO i y.1) ([],none,0,[]) aK (by show aB E _ [At gm [],own cF none 0 0 []];exact aB.trans (aB.nil cF) aC) ⟨hG,bM _,λz hz=>(cZ hz).elim⟩ ?_ ?_
 ·rintro i ⟨ks,B,k,o⟩ q F hi hq ⟨h1,h2,h3⟩;dsimp only at h1 h2 h3⊢;rw[aFk hq] at h1;unfold Av at h1;dsimp only at h1;have hJ:((i:Int)+1).toNat=i+1:=o_;have hfr:Rd E cF (if c=((i:Int)+1).toNat then A else A.map (λx=>x.add (((i:Int)+1).toNat*cF.size))) (n - ((i:Int)+1).toNat) (c - ((i:Int)+1).toNat) (l.drop (i+1)):=by
   have:=hr.from_ (k:=((i:Int)+1).toNat) o_;rw[hJ] at this⊢;exact this
  have kg:=SH h3 q.key.id;refine a_ ?_;intros;rename_i g6;refine cl sD sK aH (λM hE=>Xs M _ _ _ (l.drop (i+1)) (hfr.sub hE) 146 [pt g6] (λx=>decide (x.key=q.key.other)) kf (λE2 R2 hE2 x=>aLk E2 g6 q ((gX.of hE aV).sub hE2) x)) ?_;rintro e H' ⟨rfl,rfl⟩;refine gk bU ?_;generalize (l.drop (i+1)).any (λx=>decide (x.key=q.key.other))=lost at *;have hmore:HO (i+1) ks:=λz hz=>⟨(h3 z hz).1,by have:=(h3 z hz).2;omega⟩
  rcases tF q.key.cJ with hu|hu
  ·rw[c! (by rw[hu];rfl)] at h1;refine a_ ?_;exact⟨(ks,B,k,o),aK,aC,h1,by dsimp only;omega,hmore⟩
  cases lost with
  |true =>
   rw[c! (by rw[hu];rfl)] at h1;refine a_ ?_;exact⟨(ks,B,k,o),aK,aC,h1,by dsimp only;omega,hmore⟩
  |false =>
   rw[b! (by rw[hu];decide)] at h1;have hb:=o? h3 q.key.id;have hke:=SI ks q.key.id;have hge:=q? ks q.key.id;have hgb:=HN ks q.key.id;have hbm:(uS ks q.key.id).set (Ap ks q.key.id) (q.key.id,jP ks q.key.id+1)=wV ks q.key.id:=rfl;repeat ((fail_if_success (refine C.seq (x:=Code.region 8 _ _) ?_));first|refine mV ?_|refine k_ ?_|intro _|refine Dr.two ?_ ?_)
   refine T.n ?_;refine C.seq ?_;refine C.cW (X:=Unit) (λ_=>[(0,.slice A n c),(3,.map (some gm)),(4,.slice B o.length k),(6,pt g6),(9,.slice A n c),(10,a! n),(11,a! i)]) (λ_=>[At gm (wV ks q.key.id),aE g6 79 q.cs,own cF B o.length k o]) (λ_=>True) ?_ ?_
   ·refine C.fL 8 (l_ [0,1,2,3] (.two 4 (n_ 5 (g_ 6 (n_ 7 (g_ 8 .nil)))) 6 (n_ 7 (g_ 4 (n_ 5 (g_ 8 .nil)))))) ([aE g6 79 _]) q_ q_ aC (a_ ?_);refine Dr.two ?_ ?_;refine lJ.val rfl sD bB (Y.NM (k:=q.key.id) rfl rfl rfl q_ aV) aC (a_ ?_);refine Dr.mK rfl (by rintro k ⟨⟩<;>decide) bB (S.Sq (k:=q.key.id) rfl rfl rfl q_ gR) ?_;rintro _ _ ⟨rfl,rfl⟩;refine⟨aC,?_⟩;rotate_left;refine lJ.mK rfl (by rintro k ⟨⟩<;>decide) bB (S.Sq (k:=q.key.id) rfl rfl rfl q_ gR) ?_;rintro _ _ ⟨rfl,rfl⟩;refine⟨aC,?_⟩;refine a_ ?_;refine Dr.val rfl sD bB (Y.NM (k:=q.key.id) rfl rfl rfl q_ aV) aC ?_;rw[hge];all_goals
     refine a_ ?_;refine Dr.FX rfl (by rintro k ⟨⟩) bB (S.RE rfl rfl rfl rfl hke gR) ?_;rintro _ _ ⟨rfl,rfl⟩;dsimp only;rw[hbm];exact⟨(),aK,aC,trivial⟩
   ·rintro⟨⟩ G2 -;generalize wV ks q.key.id=ks2 at *;refine a_ ?_;refine L.val sD (Y.NM (k:=q.key.id) rfl rfl rfl q_ aV) (a_ ?_);refine L.lI sD (S.Af (T:=cF) (e1:=(⟨⟨q.key.id,jP ks2 q.key.id,q.key.cJ⟩,q.bD⟩:aM)) rfl cQ rfl rH (by rfl) sD) ?_;rintro _ _ ⟨_,rfl,rfl⟩;refine a_ ?_;intros;rename_i B2 k2 hc1 hc2;refine⟨(ks2,B2,k2,o++[⟨⟨q.key.id,jP ks2 q.key.id,q.key.cJ⟩,q.bD⟩]),?_⟩;dsimp only;rw[bR,xU];exact⟨aK,aC,h1,o_,hb⟩
 ·rintro⟨ks,B,k,o⟩ F ⟨h1,h2,h3⟩;dsimp only at h1 h2 h3⊢;rw[show l.drop n=[] by rw[hln];exact uF] at h1;have h1:o=out:=h1;subst h1;have by1:=λM=>hb M B k;refine a_ ?_
  refine r_ by1 ?_;exact dS ⟨B,k,rfl,rfl⟩
def Ag:Ty (Sl bE) where
 val x:=.slice x.A x.n x.c
 size:=1
 bytes:=24
 tid:=139
 zero:=.slice none 0 0
 hlen _:=rfl
 kL a u h:=by simp[Value.cells] at h;subst h;rfl
 fZ:=sD
 hzero:=rfl
 lF:=q_
 mQ:=.inr ⟨q_,λ_=>rfl⟩
instance:pR Ag 24:=⟨rfl⟩
abbrev yP(s:Sl bE):aG:=own eT s.A s.n s.c s.l
def aCr(E:Env)(A:n!)(n c:Nat)(l:List aI)(p:Rd E bO A n c l)(r:∀c∈l,c.ok)(hn:n<=1000):G E 149 [.slice A n c,a! n] [] λe t=>∃O k,∃g:List (Sl bE),g.map Sl.l=(fM fY l).2.map (λo=>qM o true)/\e=.returned (.slice O g.length k)/\t=[own Ag O g.length k g,aT yP g]:=by
 have W:=p.len;have v:=p.cap;have D:=cS;have run:=λM p=>Iw M ⟨fY,none,0,0⟩ (Rd.nil _ _) Bf A n c l p r o_;have h:=(EP Bf r).2;have s:=BD (b:=fY) (l:=l);dsimp only at run;refine p_ func149 ntmps149 ?_
 refine cU run ?_;rintro e t ⟨y,O,k,a,N,h2,rfl,rfl⟩;rw[<-N] at h s⊢;have X:a.length=n:=by rw[fB] at s;omega
 refine a_ ?_;intros;refine C.scan (Y:=n!×Nat×List (Sl bE)) (l:=a) (n:=a.length) rfl (λi z=>[(1,a! n),(7,.slice z.1 z.2.2.length z.2.1),(16,.slice O a.length k),(17,a! a.length),(18,a! i)])
  (λi z=>[own qF O a.length k a,aT dZ a,own Ag z.1 z.2.2.length z.2.1 z.2.2,aT yP z.2.2]) (λi z=>z.2.2.map Sl.l=(a.take i).map (λo=>qM o.d true)) (none,0,[]) aK (by show aB E _ [own qF O a.length k a,aT dZ a,own Ag none 0 0 [],aT yP []];exact aB.trans (aB.nil Ag) (aB.trans (aB.pK yP) aC)) rfl ?_ ?_
 ·rintro i ⟨B,d,g⟩ o F hi H j;dsimp only at j⊢;have w:=dG H;have u:=h o.d (jX.2 ⟨o,w,rfl⟩);have Z:g.length<=1000:=by have:=j! List.length j;rw[fB,fB,dR] at this;omega
  have U:decide ((i:Int)<(n:Int))=true:=d! o_;have wn:=λM p=>Vk M o (decide ((i:Int)<(n:Int))) p (by have:=p.len;have:=u.len;unfold Ov.d at this;dsimp only at this;omega);dsimp only[Ov.cs] at wn;refine a_ ?_;intros
  refine cl sD sK aH (λM P=>wn M (nN.aT P aV o w)) ?_;rintro e t ⟨Y,m,q,rfl,rfl⟩;rw[U];refine a_ ?_;refine L.lI sD (S.pY (T:=Ag) (e:=(⟨Y,m,q,qM o.d true⟩:Sl bE)) rfl rfl rfl rfl sD) ?_;rintro _ _ ⟨_,rfl,rfl⟩;refine a_ ?_;intros;rename_i J K Q R;refine⟨(J,K,g++[⟨Y,m,q,qM o.d true⟩]),?_⟩;dsimp only;rw[bR,xU];exact⟨aK,aB.trans (aB.push (f:=yP) (x:=(⟨Y,m,q,qM o.d true⟩:Sl bE)) aH) aC,by rw[gP,j,take_succ H,gP];rfl⟩
 ·rintro⟨B,d,g⟩ F j;dsimp only at j⊢;rw[gY] at j;refine a_ ?_;exact aX rfl aJ aC (⟨B,d,g,by rw[j,List.map_map];rfl,rfl,rfl⟩)
def uN(a:aL):Nat->List bE->List aM
 |_,[]=>[]
 |k,e::es=>⟨⟨a,(k:Int)+1,false⟩,e⟩::uN a (k+1) es
def oX:List aI->List (List bE)->List aM
 |c::l,w::ws=>uN c.id 0 w++oX l ws
 |_,_=>[]
def wU(l:List aI):List aM:=oX l ((fM fY l).2.map (λo=>qM o true))
def wT(l:List aI):List aM:=qX 0 (wU l).length (wU l)
theorem Mf(a:aL):∀(w:List bE) (k:Nat),(uN a k w).length=w.length
 | [],_=>rfl
 |e::w,k=>by show(uN a (k+1) w).length+1=_;rw[Mf a w];rfl
def C.aIw{T:Ty α}{P:t!}{N:Nat}{cd:Code}{Q:QF}{F:Nat->p!}{H R:List aG}{A:n!}{n c:Nat}{l:List α}(f:Has (own T A n c l) H R)(h:n=l.length->C P N E cd Q F H):C P N E cd Q F H:=⟨λa w e b=>by
 have⟨_,d,_⟩:=b.has f;exact(h d.1).get a w e b⟩
def ZN{w:List bE}{e:bE}(h:w[k]?=some e):uN a k (w.drop k)=⟨⟨a,(k:Int)+1,false⟩,e⟩::uN a (k+1) (w.drop (k+1)):=by
 obtain⟨b,rfl⟩:=cH.1 h;rw[lL b];rfl
def ZM{l:List aI}{W:List (List bE)}{w:List bE}(h:l[i]?=some c)(a:W[i]?=some w):oX (l.drop i) (W.drop i)=uN c.id 0 w++oX (l.drop (i+1)) (W.drop (i+1)):=by
 obtain⟨b,rfl⟩:=cH.1 h;obtain⟨d,rfl⟩:=cH.1 a;rw[lL b,lL d];rfl
def ZK{l:List α}(h:i<l.length):(l.drop i).eraseIdx 0=l.drop (i+1):=by
 rw[lL h];rfl
theorem aRe(E:Env)(A:Option Addr)(n c:Nat)(l:List aI)(hr:Rd E bO A n c l)(hok:∀c∈l,c.ok)(hn:n<=1000)(hfew:(wU l).length<=100000)(hb:BK (wU l)):G E 83 [.slice A n c] [] λe H'=>∃B k,e=.returned (.slice B (wT l).length k)/\H'=[own cF B (wT l).length k (wT l)]:=by
 have hln:=hr.len;have hcap:=hr.cap;have hmax:=cS;have wnt:=λM hr=>aCr M A n c l hr hok hn;have hpl:(wT l).length=(wU l).length:=by unfold wT qX;rw[M4]
 have hrl:=BD (b:=fY) (l:=l);rw[hpl];unfold wT;have hR:[]++oX (l.drop 0) (((fM fY l).2.map (λo=>qM o true)).drop 0)=wU l:=rfl;generalize wU l=R at *;clear hpl;refine t_ func83 ntmps83 ?_;refine a_ ?_
 refine cU wnt ?_;rintro e H' ⟨O,q,ws,h1,rfl,rfl⟩;rw[<-h1] at hR;have hwl:ws.length=n:=by have:=congrArg List.length h1;rw[fB,fB] at this;omega
 refine a_ ?_
 refine C.scan (Y:=Option Addr×Nat×List aM) (l:=ws) (n:=ws.length) rfl (λi z=>[(0,.slice A n c),(3,.slice z.1 z.2.2.length z.2.1),(11,.slice O ws.length q),(12,.int .i64 ws.length),(13,.int .i64 i)])
  (λi z=>[own Ag O ws.length q ws,aT yP (ws.drop i),own cF z.1 z.2.2.length z.2.1 z.2.2]) (λi z=>z.2.2++oX (l.drop i) ((ws.map Sl.l).drop i)=R) (none,0,[]) aK (by show aB E _ [own Ag O ws.length q ws,aT yP ws,own cF none 0 0 []];exact aB.trans (aB.nil cF) aC) hR ?_ ?_
 ·rintro i ⟨B,d,o⟩ s F hi hs h3;dsimp only at h3⊢;obtain⟨ch,hch⟩:∃ch,l[i]?=some ch:=⟨_,bS o_⟩
  rw[ZM hch (show(ws.map Sl.l)[i]?=some s.l by rw[mM,hs];rfl)] at h3;have hd0:(ws.drop i)[0]?=some s:=by rw[Ga];exact hs
  refine C.conv (H':=yP s::aT yP ((ws.drop i).eraseIdx 0)::[own Ag O ws.length q ws,own cF B o.length d o]) (aB.out (f:=yP) (.bJ .aR) hd0) ?_;rw[ZK hi];generalize hT:oX (l.drop (i+1)) ((ws.map Sl.l).drop (i+1))=T at *;generalize ws.drop (i+1)=wr at *;obtain⟨Ya,m,b,w⟩:=s;dsimp only[yP] at h3⊢;refine C.aIw (T:=eT) (A:=Ya) (n:=m) (c:=b) (l:=w) .aR λhml=>?_;have hms:m<=100000:=by have:=congrArg List.length h3;rw[bR,bR,Mf] at this;omega
  refine a_ ?_
  refine C.scan (Y:=Option Addr×Nat×List aM) (l:=w) (n:=m) hml (λk z=>[(0,.slice A n c),(3,.slice z.1 z.2.2.length z.2.1),(4,.int .i64 i),(11,.slice O ws.length q),(12,.int .i64 ws.length),(13,.int .i64 i),(18,.slice Ya m b),(19,.int .i64 m),(20,.int .i64 k)])
   (λk z=>[own Ag O ws.length q ws,own eT Ya m b w,aT yP wr,own cF z.1 z.2.2.length z.2.1 z.2.2]) (λk z=>z.2.2++(uN ch.id k (w.drop k)++T)=R) (B,d,o) aK aC h3 ?_ ?_
  ·rintro k ⟨B,d,o⟩ e F2 hk he h4;dsimp only at h4⊢;rw[ZN he] at h4;have hol:o.length<=100000:=by have:=congrArg List.length h4;rw[bR] at this;omega
   refine a_ ?_;intros
   rename_i g7;refine rB (l_ [0,1,2,3,4,5,6,7,8,9,10] (g_ 11 (g_ 12 (n_ 13 .nil)))) ([aE g7 77 _]) ?_;refine a_ ?_
   refine Dr.mK rfl (by rintro k ⟨⟩<;>decide) bB (S.Af (T:=cF) (e1:=(⟨⟨ch.id,(k:Int)+1,false⟩,e⟩:aM)) rfl cQ rfl rH (by rfl) sD) ?_;rintro _ _ ⟨_,rfl,rfl⟩;refine⟨aC,?_⟩;refine a_ ?_;intros
   rename_i B2 d2 hc1 hc2;refine⟨(B2,d2,o++[⟨⟨ch.id,(k:Int)+1,false⟩,e⟩]),?_⟩;dsimp only;rw[bR,xU];exact⟨aK,aC,by rw[<-h4];simp⟩
  ·rintro⟨B,d,o⟩ F2 h4;dsimp only at h4⊢;rw[show w.drop m=[] by rw[hml];exact uF] at h4;refine a_ ?_
   exact⟨(B,d,o),aK,aC,h4⟩
 ·rintro⟨B,d,o⟩ F h3;dsimp only at h3⊢;rw[show l.drop ws.length=[] by rw[hwl,hln];exact uF,show oX [] ((ws.map Sl.l).drop ws.length)=[] from rfl,aY] at h3;subst h3;have by1:=λM=>hb M B d;refine a_ ?_
  refine aP by1 ?_;refine a_ ?_
  exact dS ⟨B,d,rfl,rfl⟩
def S4(E:Env)(X:n!)(m d:Nat)(q:List aM)(g:Rd E cF X m d q)(j:m<=100000)(b:BK (pA q ([],[])))(A:n!)(n c:Nat)(l:List aI)(h:Rd E bO A n c l)(f:∀c∈l,c.ok)(k:n<=1000)(a:(wU l).length<=100000)(e:BK (wU l)):G E 20 [.slice X m d,.slice A n c] [] (bL (.bool (decide (xA q=wT l))) []):=by
 have nt:=λM g=>aCm M X m d q g j b;have i:=λM h=>aRe M A n c l h f k a e;generalize xA q=u at *;generalize wT l=v at *;refine p_ func20 ntmps20 ?_
 refine C_ nt ?_;intro o k1
 refine C_ i ?_;intro p k2
 refine F_ (λM=>ZB M _ _ _ _ _ _ u v) ?_
 exact aS
end
section
def vQ(a b:bV):Prop:=a.id.seq<b.id.seq\/a.id.seq=b.id.seq/\(a.id.rep<b.id.rep\/a.id.rep=b.id.rep/\(a.ord<b.ord\/a.ord=b.ord/\a.cJ=false/\b.cJ=true))
theorem r5(a b:aL):(sE a b<0/\(a.seq<b.seq\/a.seq=b.seq/\a.rep<b.rep))\/(sE a b=0/\a.seq=b.seq/\a.rep=b.rep)\/(0<sE a b/\(b.seq<a.seq\/a.seq=b.seq/\b.rep<a.rep)):=by
 have c:sE a b=if nR a.seq b.seq=0 then(if nR a.rep b.rep=0 then 0 else nR a.rep b.rep) else nR a.seq b.seq:=rfl;rw[c];rcases FL a.seq b.seq with⟨h,e⟩|⟨h,e⟩|⟨h,e⟩
 ·grind
 ·rw[e,c! rfl];rcases FL a.rep b.rep with⟨f,d⟩|⟨f,d⟩|⟨f,d⟩;all_goals grind
 ·grind
theorem r?(a b:bV):Bv a b=true↔vQ a b:=by
 grind [Jt,sE,nR,oM,Bv,vQ,r5,FL]
def Gw(x y:aM):yB x y<0↔vQ x.key y.key:=by
 grind [r?,yB,Bv]
def kN(x y:aM):Prop:=¬vQ y.key x.key
def SQ{a b:bV}:vQ a b\/a=b\/vQ b a:=by
 have⟨⟨r,s⟩,o,u⟩:=a;have⟨⟨d,e⟩,c,f⟩:=b
 grind [vQ]
def SR{a b c:bV}(h:vQ a b)(k:vQ b c):vQ a c:=by
 grind [vQ]
def SP{a:bV}:¬vQ a a:=by
 grind [vQ]
def x?(x:aM):kN x x:=SP
def Jv(h:vQ x.key y.key):kN x y:=λk=>SP (SR h k)
def wX{z:aM}(h:kN x y)(k:kN y z):kN x z:=by
 intro c;rcases SQ (a:=x.key) (b:=y.key) with a|a|a
 ·exact k (SR c a)
 ·rw[a] at c;exact k c
 ·exact h a
def w?(h:kN x y)(k:kN y x):x.key=y.key:=by
 rcases SQ (a:=x.key) (b:=y.key) with a|a|a
 ·exact i! a k
 ·exact a
 ·exact i! a h
abbrev lZ(l:List aM):Prop:=l.Pairwise kN
def TX{m:List aM}(c:l.Perm m)(d:lZ l)(e:lZ m)(j:(l.map aM.key).Nodup):l=m:=by
 refine c.eq_of_pairwise (λa b g hb h k=>?_) d e;have hb:b∈l:=c.mem_iff.2 hb;have i:=w? h k;have f:∀ {l:List aM},(l.map aM.key).Nodup->a∈l->b∈l->a=b:=by
  intro l
  induction l with
  |nil=>exact λ_ h=>(cZ h).elim
  |cons x l n =>
   grind
 grind
end
section
open Go.RowKit Reg Oct
open Mem hiding Rd
def Pz(P R:List α)(x:α)(h:i=P.length):(P++x::R)[i]?=some x:=by subst h;simp
def Ur(P R:List α)(x y:α)(h:i=P.length):(P++x::R).set i y=P++y::R:=by subst h;simp
def Ko(P Q R:List α)(x y:α)(hi:i=P.length)(b:j=P.length+1+Q.length):(P++x::(Q++y::R))[i]?=some x/\(P++x::(Q++y::R))[j]?=some y/\((P++x::(Q++y::R)).set i y).set j x=P++y::(Q++x::R):=by
 have e:∀u:α,P++u::(Q++y::R)=(P++u::Q)++y::R:=λu=>by simp
 have a:∀u:α,j=(P++u::Q).length:=λu=>by simp;omega
 refine⟨Pz P _ x hi,?_,?_⟩
 ·rw[e];exact Pz _ _ _ (a x)
 ·rw[Ur P _ x y hi,e,Ur _ _ _ _ (a y)];simp
def sw(A X M_ Y B:List aM)(i:Nat):List aM:=A++(Y.take i++X.drop i)++M_++(X.take i++Y.drop i)++B
def aQq{A X M_ Y B:List aM}(hi:i<X.length)(g:X.length=Y.length):∃x y,(sw A X M_ Y B i)[A.length+i]?=some x/\(sw A X M_ Y B i)[A.length+X.length+M_.length+i]?=some y/\((sw A X M_ Y B i).set (A.length+i) y).set (A.length+X.length+M_.length+i) x=sw A X M_ Y B (i+1):=by
 have d:X[i]?=some X[i]:=bS hi;have f:Y[i]?=some (Y[i]'o_):=bS o_;have e:∀u v:aM,A++(Y.take i++u::X.drop (i+1))++M_++(X.take i++v::Y.drop (i+1))++B=(A++Y.take i)++u::((X.drop (i+1)++M_++X.take i)++v::(Y.drop (i+1)++B)):=λu v=>by simp
 have a:sw A X M_ Y B i=(A++Y.take i)++X[i]::((X.drop (i+1)++M_++X.take i)++(Y[i]'o_)::(Y.drop (i+1)++B)):=by
  rw[<-e];unfold sw;rw[lL hi,lL (l:=Y) o_]
 have b:sw A X M_ Y B (i+1)=(A++Y.take i)++(Y[i]'o_)::((X.drop (i+1)++M_++X.take i)++X[i]::(Y.drop (i+1)++B)):=by
  rw[<-e];unfold sw;rw[take_succ d,take_succ f];simp only[bF,mX,jD]
 refine⟨X[i],Y[i]'o_,?_⟩;rw[a,b];exact Ko _ _ _ _ _ (by simp;omega) (by simp;omega)
def aOz(A X M_ Y B:List aM)(i:Nat)(a:X.length=Y.length):(sw A X M_ Y B i).length=(A++X++M_++Y++B).length:=by
 unfold sw;simp;omega
section
variable (E:Env) (A:n!) (n c:Nat)
def Od(la lx lm ly lb:List aM)(hn:n<=1000000)(hxy:lx.length=ly.length)(hln:(la++lx++lm++ly++lb).length=n):G E 374 [.slice A n c,a! la.length,a! ((la.length+lx.length+lm.length:Nat):Int),a! lx.length,mJ] [own cF A n c (la++lx++lm++ly++lb)] (bL (.tuple #[]) [own cF A n c (la++ly++lm++lx++lb)]):=by
 have hmax:=cS;have e0:la++lx++lm++ly++lb=sw la lx lm ly lb 0:=by unfold sw;simp
 have e1:la++ly++lm++lx++lb=sw la lx lm ly lb lx.length:=by unfold sw;rw[fX (l:=ly) o_,uF,gY,Dg o_];simp
 have hlen:∀i,(sw la lx lm ly lb i).length=n:=λi=>(aOz la lx lm ly lb i hxy).trans hln;have hstep:=λi hi=>aQq (A:=la) (M_:=lm) (B:=lb) (i:=i) hi hxy;have hsum:la.length+lx.length+lm.length+lx.length<=n:=by rw[<-hln];simp;omega
 rw[e0,e1];generalize sw la lx lm ly lb=w at *;generalize hb:la.length+lx.length+lm.length=b at *;generalize lx.length=k at *;generalize la.length=a at *;refine Hj λhA=>?_;refine p_ func374 ntmps374 ?_
 refine C.loop (X:=Nat) (λi=>[(0,.slice A n c),(1,a! a),(2,a! b),(3,a! k),(10,a! i)]) (λi=>[own cF A n c (w i)]) (λi=>i<=k) (λi=>k - i) 0 aK aC (bY _) ?_;rintro i G hi;by_cases hlt:i<k
 ·have⟨x,y,hx,hy,hw⟩:=hstep i hlt;have hl:=hlen i;generalize w i=l3 at *;have ha:((a:Int)+(i:Int)).toNat=a+i:=o_;have hbi:((b:Int)+(i:Int)).toNat=b+i:=o_;have hx':l3[((a:Int)+(i:Int)).toNat]?=some x:=by rw[ha];exact hx
  have hy':l3[((b:Int)+(i:Int)).toNat]?=some y:=by rw[hbi];exact hy
  have hy2:(l3.set (a+i) y)[((b:Int)+(i:Int)).toNat]?=some y:=by rw[hbi,BY o_];exact hy
  have hy4:(l3.set ((a:Int)+(i:Int)).toNat y)[b+i]?=some y:=by rw[ha,BY o_];exact hy
  have hy3:(l3.set (a+i) y)[b+i]?=some y:=by rw[BY o_];exact hy
  refine a_ ?_;refine C.Hw 21 (l_ [0,1,2,3,4,5,6,7,8,9,10,11,12,13,14,15,16,17,18,19,20] (g_ 21 (n_ 22 (g_ 23 .nil)))) [own cF A n c l3] [] q_ q_ aC ?_;repeat (first|refine Dt.take rfl sD rfl bB kP kP ?_|refine Dt.gS rfl sD rfl q_ bB kP ?_)
  refine Dt.IK rfl (by rintro k ⟨⟩<;>decide) bB uY ?_;rintro _ _ ⟨rfl,rfl⟩;refine⟨aC,?_⟩;refine Dr.take rfl sD bB (I2 (hA.resolve_left o_) rfl rfl rfl rfl hbi o_ o_ (T:=cF) rfl) (a_ ?_);simp only[ha,hbi];exact⟨i+1,aK,(by rw[<-hw];exact aC),o_,o_⟩
 ·obtain rfl:i=k:=o_;refine a_ ?_;exact vK
def aEv(d e h r:List aM)(t:n<=1000000)(x:1<=e.length)(y:1<=h.length)(o:(d++e++h++r).length=n):G E 350 [.slice A n c,a! d.length,a! ((d.length+e.length:Nat):Int),a! ((d.length+e.length+h.length:Nat):Int),mJ] [own cF A n c (d++e++h++r)] (bL (.tuple #[]) [own cF A n c (d++h++e++r)]):=by
 have F:=cS;have H:d.length+e.length+h.length<=n:=by rw[<-o];simp;omega
 have⟨m,D⟩:∃m,d.length+e.length=m:=⟨_,rfl⟩;have⟨l,B⟩:∃g,d++h++e++r=g:=⟨_,rfl⟩;rw[B];have P:d.length=m - e.length:=o_;have e1:(d.length:Int)=((m - e.length:Nat):Int):=by rw[P]
 have U:(m:Int) - (d.length:Int)=(e.length:Int):=o_;have W:((m+h.length:Nat):Int) - (m:Int)=(h.length:Int):=o_;have w1:IntKind.i64.wrap ((m:Int) - (d.length:Int))=(e.length:Int):=by rw[U];exact dY _ o_
 have w2:IntKind.i64.wrap (((m+h.length:Nat):Int) - (m:Int))=(h.length:Int):=by rw[W];exact dY _ o_
 rw[D];refine p_ func350 ntmps350 ?_;refine C.loop (X:=List aM×List aM×List aM×List aM) (λz=>[(0,.slice A n c),(2,a! m),(4,mJ),(10,a! z.2.1.length),(11,a! z.2.2.1.length)]) (λz=>[own cF A n c (z.1++z.2.1++z.2.2.1++z.2.2.2)])
  (λz=>z.1.length+z.2.1.length=m/\1<=z.2.1.length/\1<=z.2.2.1.length/\(z.1++z.2.1++z.2.2.1++z.2.2.2).length=n/\z.1++z.2.2.1++z.2.1++z.2.2.2=l) (λz=>z.2.1.length+z.2.2.1.length) (d,e,h,r) aK aC ⟨D,x,y,o,B⟩ ?_
 rintro⟨p,u,v,q⟩ Z ⟨K,N,O,k,s⟩;dsimp only at K N O k s⊢;have h6:p.length+u.length+v.length<=n:=by rw[<-k];simp;omega
 have w3:IntKind.i64.wrap ((m:Int) - (u.length:Int))=(p.length:Int):=by rw[show(m:Int) - (u.length:Int)=(p.length:Int) by omega];exact dY _ o_
 by_cases Q:u.length=v.length
 ·have b:=λM=>Od M A n c p u [] v q t Q (by rw[<-k];simp);rw[show((p.length+u.length+([]:List aM).length:Nat):Int)=(m:Int) by simp;omega,aY,aY,s] at b;refine a_ ?_
  refine r_ b ?_;exact vK
 by_cases R:v.length<u.length
 ·obtain⟨j,i,rfl,w⟩:∃j i,u=j++i/\j.length=v.length:=⟨u.take v.length,u.drop v.length,(mE ..).symm,by rw[dR];omega⟩;have b:=λM=>Od M A n c p j i v q t w (by rw[<-k];simp);rw[bR] at *;rw[show((p.length+j.length+i.length:Nat):Int)=(m:Int) by omega,w] at b;have w4:IntKind.i64.wrap (((j.length+i.length:Nat):Int) - (v.length:Int))=(i.length:Int):=by rw[show((j.length+i.length:Nat):Int) - (v.length:Int)=(i.length:Int) by omega];exact dY _ o_
  refine a_ ?_;rw[<-bF p j i];refine r_ b ?_;rw[<-w];exact⟨(p++v,i,j,q),aK,(by dsimp only;exact aC),⟨by simp;omega,by dsimp only;omega,by dsimp only;omega,by rw[<-k];simp;omega,by rw[<-s];simp⟩,d_⟩
 ·obtain⟨a,f,rfl,J⟩:∃a f,v=a++f/\f.length=u.length:=⟨v.take (v.length - u.length),v.drop (v.length - u.length),(mE ..).symm,by rw[lB];omega⟩;have b:=λM=>Od M A n c p u a f q t J.symm (by rw[<-k];simp);rw[bR] at *;have w5:IntKind.i64.wrap ((m:Int)+((a.length+f.length:Nat):Int))=((m+a.length+f.length:Nat):Int):=by rw[show(m:Int)+((a.length+f.length:Nat):Int)=((m+a.length+f.length:Nat):Int) by omega];exact dY _ o_
  have w6:IntKind.i64.wrap (((m+a.length+f.length:Nat):Int) - (u.length:Int))=((p.length+u.length+a.length:Nat):Int):=by rw[show((m+a.length+f.length:Nat):Int) - (u.length:Int)=((p.length+u.length+a.length:Nat):Int) by omega];exact dY _ o_
  have w7:IntKind.i64.wrap (((a.length+f.length:Nat):Int) - (u.length:Int))=(a.length:Int):=by rw[show((a.length+f.length:Nat):Int) - (u.length:Int)=(a.length:Int) by omega];exact dY _ o_
  refine a_ ?_;rw[<-bF (p++u) a f];refine r_ b ?_;rw[<-J];exact⟨(p,f,a,u++q),aK,(by dsimp only;rw[<-bF];exact aC),⟨by dsimp only;omega,by dsimp only;omega,by dsimp only;omega,by rw[<-k];simp;omega,by rw[<-s];simp⟩,d_⟩
end
def yT(h:lZ l)(hi:l[i]?=some x)(a:l[j]?=some y)(f:i<=j):kN x y:=by
 by_cases e:i=j
 ·subst e;rw[hi] at a;rw[iN a];exact x? y
 ·obtain⟨b,rfl⟩:=cH.1 hi;obtain⟨d,rfl⟩:=cH.1 a;exact List.pairwise_iff_getElem.1 h i j b d o_
def K3(h:x∈l.take k):∃i,i<k/\l[i]?=some x:=by
 obtain⟨i,a,rfl⟩:=oV h;rw[dR] at a;exact⟨i,o_,by rw[List.getElem_take,bS]⟩
def JR(h:x∈l.drop k):∃i,k<=i/\l[i]?=some x:=by
 obtain⟨i,a,rfl⟩:=oV h;rw[lB] at a;exact⟨k+i,o_,by rw[List.getElem_drop,bS]⟩
def U3(h:lZ l)(g:∀y∈l.take k,kN y x)(i:∀y∈l.drop k,kN x y):lZ (l.take k++x::l.drop k):=by
 have j:lZ (l.take k++l.drop k):=by rw[mE];exact h
 have⟨a,b,d⟩:=wH.1 j;refine wH.2 ⟨a,Io.2 ⟨i,b⟩,λy f z e=>?_⟩;rcases tK.1 e with rfl|e
 ·exact g y f
 ·exact d y f z e
def Ti(l:List aM)(x:aM)(k:Nat):(l.take k++x::l.drop k).Perm (x::l):=by
 have h:=List.perm_middle (a:=x) (l₁:=l.take k) (l₂:=l.drop k)
 rwa [mE] at h
def half(i j:Nat)(h:i+j<=2000000):IntKind.i64.wrap (((i+j:Nat):Int) / 2 ^ min (Int.toNat 1) IntKind.u64.bits)=(((i+j) / 2:Nat):Int):=by
 have e:(2:Int) ^ min (Int.toNat 1) IntKind.u64.bits=2:=sD;rw[e];have a:((i+j:Nat):Int) / 2=(((i+j) / 2:Nat):Int):=o_;rw[a];exact dY _ o_
section
variable (A:n!) (n c:Nat)
def Lu(b f g d:List aM):Ending->List aG->Prop:=λe a=>∃z:List aM,(z.Perm (f++g)/\lZ z)/\e=.returned (.tuple #[])/\a=[own cF A n c (b++z++d)]
def aMp(E:Env)(d b e:List aM)(x:aM)(hn:n<=1000000)(O:lZ b)(s:(d++[x]++b++e).length=n):G E 311 [.slice A n c,a! d.length,a! ((d.length+1:Nat):Int),a! ((d.length+1+b.length:Nat):Int),mJ] [own cF A n c (d++[x]++b++e)] (Lu A n c d [x] b e):=by
 have Q:=cS;have W:jT 209=true:=q_;have t:d.length+1+b.length<=n:=by rw[<-s];simp;omega
 have B:(d++[x]++b++e)[d.length]?=some x:=s_
 have p:∀k,(d++[x]++b++e)[d.length+1+k]?=(b++e)[k]?:=λk=>by rw[bF,wG s_];congr 1;simp
 have⟨a,K⟩:∃a,d.length=a:=⟨_,rfl⟩;rw[K] at t B p⊢;have Z:((a+1:Nat):Int) - (a:Int)=1:=o_;have w1:IntKind.i64.wrap (((a+1:Nat):Int) - (a:Int))=1:=by rw[Z];rfl
 refine Hj λhA=>?_;refine p_ func311 ntmps311 ?_
 refine C.loop (X:=Nat×Nat) (λz=>[(0,.slice A n c),(1,a! a),(2,a! ((a+1:Nat):Int)),(3,a! ((a+1+b.length:Nat):Int)),(4,mJ),(10,a! ((a+1+z.1:Nat):Int)),(11,a! ((a+1+z.2:Nat):Int))]) (λ_=>[own cF A n c (d++[x]++b++e)])
  (λz=>(z.1<=z.2/\z.2<=b.length)/\(∀y∈b.take z.1,kN y x)/\∀y∈b.drop z.2,kN x y) (λz=>z.2 - z.1) (0,b.length) aK aC ⟨⟨bY _,bM _⟩,λy h=>by simp at h,λy h=>by simp at h⟩ ?_
 rintro⟨i,j⟩ G ⟨⟨h1,P⟩,H,J⟩;dsimp only at h1 P H J⊢;by_cases a9:i<j
 ·have N:=half (a+1+i) (a+1+j) o_;have⟨q,hq⟩:∃q,(a+1+i+(a+1+j)) / 2=a+1+q:=⟨(i+j) / 2,o_⟩;rw[hq] at N;have⟨y,m⟩:∃y,b[q]?=some y:=⟨_,bS o_⟩;have b1:(d++[x]++b++e)[a+1+q]?=some y:=by rw[p,Aa o_];exact m
  have r:=λM=>JD M y x;have l:=Gw y x;generalize yB y x=z at *;by_cases U:z<0
  ·have v:=l.1 U;refine a_ ?_;refine rA (l_ [0,1,2,3,4,5,6,7,8] (g_ 9 (n_ 10 .nil))) ?_;simp only[<-Dd,N];refine a_ ?_;refine Co rfl sD bB rfl rfl W .nil (λM hE=>r M) (b_ ?_);refine⟨(q+1,j),aK,aC,⟨⟨by dsimp only;omega,P⟩,λy' f=>?_,J⟩,d_⟩;have⟨o,R,f⟩:=K3 f;exact wX (yT O f m o_) (Jv v)
  ·have v:kN x y:=λk=>U (l.2 k);refine a_ ?_
   refine rA (l_ [0,1,2,3,4,5,6,7,8] (g_ 9 (n_ 10 .nil))) ?_;simp only[<-Dd,N];refine a_ ?_;refine Co rfl sD bB rfl rfl W .nil (λM hE=>r M) (b_ ?_);refine⟨(i,q),aK,aC,⟨⟨by dsimp only;omega,d_⟩,H,λy' f=>?_⟩,d_⟩;have⟨o,R,f⟩:=JR f;exact wX v (yT O m f R)
 ·obtain rfl:i=j:=o_;refine a_ ?_;refine C.loop (X:=Nat) (λk=>[(0,.slice A n c),(1,a! a),(2,a! ((a+1:Nat):Int)),(3,a! ((a+1+b.length:Nat):Int)),(4,mJ),(10,a! ((a+1+i:Nat):Int)),(13,a! ((a+k:Nat):Int))]) (λk=>[own cF A n c (d++(b.take k++x::b.drop k)++e)])
   (λk=>k<=i) (λk=>i - k) 0 aK (by rw[qU,uG,jD,show d++x::b++e=d++[x]++b++e by simp];exact aC) (bY _) ?_
  rintro k G2 v;by_cases a8:k<i
  ·have⟨y,u⟩:∃y,b[k]?=some y:=⟨_,bS o_⟩;have ed:b.drop k=y::b.drop (k+1):=by obtain⟨h,rfl⟩:=cH.1 u;exact lL h
   have es:d++(b.take k++x::b.drop k)++e=(d++b.take k)++x::([]++y::(b.drop (k+1)++e)):=by rw[ed];simp
   have et:d++(b.take (k+1)++x::b.drop (k+1))++e=(d++b.take k)++y::([]++x::(b.drop (k+1)++e)):=by rw[take_succ u];simp only[bF,mX,jD]
   have⟨g1,D,F⟩:=Ko (d++b.take k) [] (b.drop (k+1)++e) x y (i:=a+k) (j:=a+k+1) (by rw[bR,K,dR];omega) (by rw[bR,K,dR,tH];omega);rw[<-es] at g1 D F;rw[<-et] at F;have b0:(d++(b.take k++x::b.drop k)++e).length=n:=by rw[<-s];simp;omega
   generalize d++(b.take k++x::b.drop k)++e=w at *;have g:(((a+k:Nat):Int)+1).toNat=a+k+1:=o_;have g4:w[(((a+k:Nat):Int)+1).toNat]?=some y:=by rw[g];exact D
   have g5:(w.set (a+k) y)[a+k+1]?=some y:=by rw[BY o_];exact D
   have g6:(w.set (a+k) y)[(((a+k:Nat):Int)+1).toNat]?=some y:=by rw[g];exact g5
   refine a_ ?_;refine C.Hw 15 (l_ [0,1,2,3,4,5,6,7,8,9,10,11,12,13,14] (g_ 15 (n_ 16 (g_ 17 .nil)))) [own cF A n c w] [] q_ q_ aC ?_;repeat (first|refine Dt.take rfl sD rfl bB kP kP ?_|refine Dt.gS rfl sD rfl q_ bB kP ?_)
   refine Dt.IK rfl (by rintro k ⟨⟩<;>decide) bB uY ?_;rintro _ _ ⟨rfl,rfl⟩;refine⟨aC,?_⟩;refine Dr.take rfl sD bB (I2 (hA.resolve_left o_) rfl rfl rfl rfl g o_ o_ (T:=cF) rfl) (a_ ?_);simp only[g];exact⟨k+1,aK,(by rw[<-F];exact aC),o_,o_⟩
  ·obtain rfl:k=i:=o_;refine a_ ?_;exact Hy rfl aC (⟨_,⟨Ti b x k,U3 O H J⟩,rfl,rfl⟩)
def aIq(E:Env)(d b e:List aM)(y:aM)(hn:n<=1000000)(a8:2<=b.length)(R:lZ b)(u:(d++b++[y]++e).length=n):G E 311 [.slice A n c,a! d.length,a! ((d.length+b.length:Nat):Int),a! ((d.length+b.length+1:Nat):Int),mJ] [own cF A n c (d++b++[y]++e)] (Lu A n c d b [y] e):=by
 have U:=cS;have Z:jT 209=true:=q_;have v:d.length+b.length+1<=n:=by rw[<-u];simp;omega
 have H:(d++b++[y]++e)[d.length+b.length]?=some y:=by rw[bF,wG s_];simp
 have r:∀k,k<b.length->(d++b++[y]++e)[d.length+k]?=b[k]?:=λk D=>by rw[bF,bF,wG o_,Aa o_];congr 1;omega
 have⟨a,P⟩:∃a,d.length=a:=⟨_,rfl⟩;rw[P] at v r H⊢;have w1:IntKind.i64.wrap (((a+b.length:Nat):Int) - (a:Int))=(b.length:Int):=by rw[show((a+b.length:Nat):Int) - (a:Int)=(b.length:Int) by omega];exact dY _ o_
 have w2:IntKind.i64.wrap (((a+b.length+1:Nat):Int) - ((a+b.length:Nat):Int))=1:=by rw[show((a+b.length+1:Nat):Int) - ((a+b.length:Nat):Int)=1 by omega];rfl
 refine Hj λhA=>?_;refine p_ func311 ntmps311 ?_
 refine C.loop (X:=Nat×Nat) (λz=>[(0,.slice A n c),(1,a! a),(2,a! ((a+b.length:Nat):Int)),(3,a! ((a+b.length+1:Nat):Int)),(4,mJ),(14,a! ((a+z.1:Nat):Int)),(15,a! ((a+z.2:Nat):Int))]) (λ_=>[own cF A n c (d++b++[y]++e)])
  (λz=>(z.1<=z.2/\z.2<=b.length)/\(∀x∈b.take z.1,kN x y)/\∀x∈b.drop z.2,kN y x) (λz=>z.2 - z.1) (0,b.length) aK aC ⟨⟨bY _,bM _⟩,λy h=>by simp at h,λy h=>by simp at h⟩ ?_
 rintro⟨i,j⟩ G ⟨⟨h1,K⟩,N,O⟩;dsimp only at h1 K N O⊢;by_cases b2:i<j
 ·have Q:=half (a+i) (a+j) o_;have⟨q,hq⟩:∃q,(a+i+(a+j)) / 2=a+q:=⟨(i+j) / 2,o_⟩;rw[hq] at Q;have⟨x,p⟩:∃x,b[q]?=some x:=⟨_,bS o_⟩;have b6:(d++b++[y]++e)[a+q]?=some x:=by rw[r q o_];exact p
  have s:=λM=>JD M y x;have l:=Gw y x;generalize yB y x=z at *;by_cases F:z<0
  ·have D:=l.1 F;have hd:(!decide (z<0))=false:=by rw[d! F];rfl
   refine a_ ?_;refine rA (l_ [0,1,2,3,4,5,6,7,8] (g_ 9 (l_ [10,11] .nil))) ?_;simp only[<-Dd,Q];refine a_ ?_;refine Co rfl sD bB rfl rfl Z .nil (λM hE=>s M) (b_ ?_);refine⟨(i,q),aK,aC,⟨⟨by dsimp only;omega,d_⟩,N,λx' f=>?_⟩,d_⟩;have⟨o,W,f⟩:=JR f;exact wX (Jv D) (yT R p f W)
  ·have D:kN x y:=λk=>F (l.2 k);have hd:(!decide (z<0))=true:=by rw[e! F];rfl
   refine a_ ?_;refine rA (l_ [0,1,2,3,4,5,6,7,8] (g_ 9 (l_ [10,11] .nil))) ?_;simp only[<-Dd,Q];refine a_ ?_;refine Co rfl sD bB rfl rfl Z .nil (λM hE=>s M) (b_ ?_);refine⟨(q+1,j),aK,aC,⟨⟨by dsimp only;omega,K⟩,λx' f=>?_,O⟩,d_⟩;have⟨o,W,f⟩:=K3 f;exact wX (yT R f p o_) D
 ·obtain rfl:i=j:=o_;refine a_ ?_;refine C.loop (X:=Nat) (λk=>[(0,.slice A n c),(1,a! a),(2,a! ((a+b.length:Nat):Int)),(3,a! ((a+b.length+1:Nat):Int)),(4,mJ),(14,a! ((a+i:Nat):Int)),(17,a! ((a+k:Nat):Int))]) (λk=>[own cF A n c (d++(b.take k++y::b.drop k)++e)])
   (λk=>i<=k/\k<=b.length) (λk=>k - i) b.length aK (by rw[gY,uF,show d++(b++[y])++e=d++b++[y]++e by simp];exact aC) ⟨K,bM _⟩ ?_
  rintro k G2 ⟨a9,b0⟩;by_cases b1:i<k
  ·obtain⟨k,rfl⟩:∃m,k=m+1:=⟨k - 1,o_⟩;have⟨x,B⟩:∃x,b[k]?=some x:=⟨_,bS o_⟩;have ed:b.drop k=x::b.drop (k+1):=by obtain⟨h,rfl⟩:=cH.1 B;exact lL h
   have es:d++(b.take (k+1)++y::b.drop (k+1))++e=(d++b.take k)++x::([]++y::(b.drop (k+1)++e)):=by rw[take_succ B];simp only[bF,mX,jD]
   have et:d++(b.take k++y::b.drop k)++e=(d++b.take k)++y::([]++x::(b.drop (k+1)++e)):=by rw[ed];simp
   have⟨J,g2,t⟩:=Ko (d++b.take k) [] (b.drop (k+1)++e) x y (i:=a+k) (j:=a+(k+1)) (by rw[bR,P,dR];omega) (by rw[bR,P,dR,tH];omega);rw[<-es] at J g2 t;rw[<-et] at t;have b5:(d++(b.take (k+1)++y::b.drop (k+1))++e).length=n:=by rw[<-u];simp;omega
   generalize d++(b.take (k+1)++y::b.drop (k+1))++e=w at *;have g:(((a+(k+1):Nat):Int) - 1).toNat=a+k:=o_;have t:(w.set (a+(k+1)) x).set (a+k) y=d++(b.take k++y::b.drop k)++e:=by rw[List.set_comm _ _ o_];exact t
   have g4:w[(((a+(k+1):Nat):Int) - 1).toNat]?=some x:=by rw[g];exact J
   have g5:(w.set (a+(k+1)) x)[a+k]?=some x:=by rw[BY o_];exact J
   have g6:(w.set (a+(k+1)) x)[(((a+(k+1):Nat):Int) - 1).toNat]?=some x:=by rw[g];exact g5
   refine a_ ?_;refine C.Hw 15 (l_ [0,1,2,3,4,5,6,7,8,9,10,11,12,13,14] (g_ 15 (n_ 16 (g_ 17 .nil)))) [own cF A n c w] [] q_ q_ aC ?_;repeat (first|refine Dt.take rfl sD rfl bB kP kP ?_|refine Dt.gS rfl sD rfl q_ bB kP ?_)
   refine Dt.IK rfl (by rintro k ⟨⟩<;>decide) bB uY ?_;rintro _ _ ⟨rfl,rfl⟩;refine⟨aC,?_⟩;refine Dr.take rfl sD bB (I2 (hA.resolve_left o_) rfl rfl rfl rfl g o_ o_ (T:=cF) rfl) (a_ ?_);simp only[g];exact⟨k,aK,(by rw[<-t];exact aC),⟨o_,o_⟩,o_⟩
  ·obtain rfl:k=i:=o_;refine a_ ?_;exact Hy rfl aC (⟨_,⟨(Ti b y k).trans (PT (l₁:=[y]) (l₂:=b)),U3 R N O⟩,rfl,rfl⟩)
end
def Yc{h k:List aM}(B:lZ h)(D:lZ k){a m b cW lo hi s:Nat}(R:m=a+h.length)(hb:b=m+k.length)(H:a<=lo)(J:lo<=s)(K:s<=hi)(M:hi<=m)(N:hi<=cW)(O:cW+m<=lo+b)(P:lo=a\/cW+m=lo+b)(Q:hi=m\/hi=cW)
  (E:∀q,lo<=q->q<s->∀x y,h[q - a]?=some x->k[cW+m - 1 - q - m]?=some y->kN x y) (F:∀q,s<=q->q<hi->∀x y,h[q - a]?=some x->k[cW+m - 1 - q - m]?=some y->kN y x) :
  (∀x∈h.take (s - a),∀z∈k.drop (cW - s),kN x z)/\∀z∈k.take (cW - s),∀x∈h.drop (s - a),kN z x:=by
 constructor
 ·intro x l z o;have⟨i,r,e⟩:=K3 l;have⟨j,u,g⟩:=JR o;have t:=(cH.1 e).1;have v:=(cH.1 g).1;by_cases w:lo<s
  ·have d:h[s - 1 - a]?=some (h[s - 1 - a]'o_):=bS o_;have f:k[cW+m - 1 - (s - 1) - m]?=some (k[cW+m - 1 - (s - 1) - m]'o_):=bS o_;have p:=E (s - 1) o_ o_ _ _ d f;exact wX (yT B e d o_) (wX p (yT D f g o_))
  ·exfalso;omega
 ·intro z o x l;have⟨j,u,g⟩:=K3 o;have⟨i,r,e⟩:=JR l;have t:=(cH.1 e).1;have v:=(cH.1 g).1;by_cases w:s<hi
  ·have d:h[s - a]?=some (h[s - a]'o_):=bS o_;have f:k[cW+m - 1 - s - m]?=some (k[cW+m - 1 - s - m]'o_):=bS o_;have p:=F s o_ w _ _ d f;exact wX (yT D g f o_) (wX p (yT B d e o_))
  ·exfalso;omega
def Ou{u v w t d e:List aM}(j:d.Perm (u++w))(k:e.Perm (v++t))(k1:lZ d)(k2:lZ e)(g:∀x∈u,∀y∈v,kN x y)(f:∀x∈u,∀y∈t,kN x y)(i:∀x∈w,∀y∈v,kN x y)(h:∀x∈w,∀y∈t,kN x y):(d++e).Perm ((u++v)++(w++t))/\lZ (d++e):=by
 constructor
 ·refine(j.append k).trans ?_;rw[bF,bF];refine GU _ ?_;rw[<-bF,<-bF];exact List.Perm.append_right _ PT
 ·refine wH.2 ⟨k1,k2,λx a y b=>?_⟩;have a:=j.mem_iff.1 a;have b:=k.mem_iff.1 b;rcases eL.1 a with a|a<;>rcases eL.1 b with b|b
  ·exact g x a y b
  ·exact f x a y b
  ·exact i x a y b
  ·exact h x a y b
section
variable (A:n!) (n c:Nat)
theorem Oe:∀(k:Nat) (E:Env) (la lx ly lb:List aM),lx.length+ly.length<=k->n<=1000000->1<=lx.length->1<=ly.length->lZ lx->lZ ly->(la++lx++ly++lb).length=n ->
  G E 311 [.slice A n c,.int .i64 la.length,.int .i64 ((la.length+lx.length:Nat):Int),.int .i64 ((la.length+lx.length+ly.length:Nat):Int),mJ] [own cF A n c (la++lx++ly++lb)] (Lu A n c la lx ly lb)
 |0,E,la,lx,ly,lb,hk,hn,hx1,hy1,hx,hy,hln=>by omega
 |k+1,E,la,lx,ly,lb,hk,hn,hx1,hy1,hx,hy,hln=>by
  by_cases ex:lx.length=1
  ·obtain⟨x,rfl⟩:=Im.1 ex;exact aMp A n c E la ly lb x hn hy hln
  by_cases ey:ly.length=1
  ·obtain⟨y,rfl⟩:=Im.1 ey;exact aIq A n c E la lx lb y hn o_ hx hln
  have ih:=Oe k;have hmax:=cS;have kf:jT 209=true:=q_;have hsum:la.length+lx.length+ly.length<=n:=by rw[<-hln];simp;omega
  have hxn:∀i,i<lx.length->(la++lx++ly++lb)[la.length+i]?=lx[i]?:=λk hk=>by rw[bF,bF,wG o_,Aa o_];congr 1;omega
  have hyn:∀i,i<ly.length->(la++lx++ly++lb)[la.length+lx.length+i]?=ly[i]?:=λk hk=>by rw[bF,wG (by rw[bR];omega),Aa (by rw[bR];omega)];congr 1;rw[bR];omega
  obtain⟨a,ha⟩:∃a,la.length=a:=⟨_,rfl⟩
  rw[ha] at hsum hxn hyn⊢;obtain⟨m,hm⟩:∃m,a+lx.length=m:=⟨_,rfl⟩
  rw[hm] at hsum hyn⊢;obtain⟨b,hb⟩:∃b,m+ly.length=b:=⟨_,rfl⟩
  rw[hb] at hsum⊢;obtain⟨cW,hmid⟩:∃cW,(a+b) / 2=cW:=⟨_,rfl⟩
  have w1:IntKind.i64.wrap ((m:Int) - (a:Int))=(lx.length:Int):=by rw[show(m:Int) - (a:Int)=(lx.length:Int) by omega];exact dY _ o_
  have w2:IntKind.i64.wrap ((b:Int) - (m:Int))=(ly.length:Int):=by rw[show(b:Int) - (m:Int)=(ly.length:Int) by omega];exact dY _ o_
  have w3:=half a b o_;rw[hmid,Dd] at w3;refine Hj λhA=>?_;refine p_ func311 ntmps311 ?_
  refine C.cW (X:=Nat×Nat) (λz=>[(0,.slice A n c),(1,.int .i64 a),(2,.int .i64 m),(3,.int .i64 b),(4,mJ),(18,.int .i64 cW),(19,.int .i64 ((cW:Int)+(m:Int))),(20,.int .i64 z.1),(21,.int .i64 z.2)]) (λ_=>[own cF A n c (la++lx++ly++lb)])
   (λz=>(a<=z.1/\z.1<=z.2/\z.2<=m/\z.2<=cW/\cW+m<=z.1+b)/\(z.1=a\/cW+m=z.1+b)/\(z.2=m\/z.2=cW)) ?_ ?_
  ·by_cases hmm:cW<m
   ·have w4:IntKind.i64.wrap ((cW:Int)+(m:Int) - (b:Int))=((cW+m - b:Nat):Int):=by rw[show(cW:Int)+(m:Int) - (b:Int)=((cW+m - b:Nat):Int) by omega];exact dY _ o_
    refine a_ ?_
    exact⟨(cW+m - b,cW),aK,aC,⟨by dsimp only;omega,by dsimp only;omega,by dsimp only;omega,bM _,by dsimp only;omega⟩,.inr (by dsimp only;omega),.inr rfl⟩
   ·refine a_ ?_
    exact⟨(a,m),aK,aC,⟨bM _,by dsimp only;omega,bM _,by dsimp only;omega,by dsimp only;omega⟩,.inl rfl,.inl rfl⟩
  rintro⟨lo,hi⟩ G ⟨⟨h1,h2,h3,h4,h5⟩,h6,h7⟩;dsimp only at h1 h2 h3 h4 h5 h6 h7⊢;refine a_ ?_
  refine C.loop (X:=Nat×Nat) (λz=>[(0,.slice A n c),(1,.int .i64 a),(2,.int .i64 m),(3,.int .i64 b),(4,mJ),(18,.int .i64 cW),(19,.int .i64 ((cW:Int)+(m:Int))),(20,.int .i64 z.1),(21,.int .i64 z.2),(22,.int .i64 ((cW:Int)+(m:Int) - 1))]) (λ_=>[own cF A n c (la++lx++ly++lb)])
   (λz=>(lo<=z.1/\z.1<=z.2/\z.2<=hi)/\(∀q,lo<=q->q<z.1->∀x y,lx[q - a]?=some x->ly[cW+m - 1 - q - m]?=some y->kN x y)/\∀q,z.2<=q->q<hi->∀x y,lx[q - a]?=some x->ly[cW+m - 1 - q - m]?=some y->kN y x) (λz=>z.2 - z.1) (lo,hi) aK aC ⟨⟨bM _,h2,bM _⟩,λq k1 k2=>by dsimp only at k2;omega,λq k1 k2=>by dsimp only at k1;omega⟩ ?_
  rintro⟨s,r⟩ G2 ⟨⟨j1,j2,j3⟩,j4,j5⟩;dsimp only at j1 j2 j3 j4 j5⊢;by_cases hsr:s<r
  ·have hh:=half s r o_;obtain⟨q,hq⟩:∃q,(s+r) / 2=q:=⟨_,rfl⟩
   rw[hq,Dd] at hh;obtain⟨x,hxq⟩:∃x,lx[q - a]?=some x:=⟨_,bS o_⟩
   obtain⟨y,hyq⟩:∃y,ly[cW+m - 1 - q - m]?=some y:=⟨_,bS o_⟩
   have hxd:(la++lx++ly++lb)[q]?=some x:=by have:=hxn (q - a) o_;rw[show a+(q - a)=q by omega] at this;rw[this];exact hxq
   have hyd:(la++lx++ly++lb)[cW+m - 1 - q]?=some y:=by have:=hyn (cW+m - 1 - q - m) o_;rw[show m+(cW+m - 1 - q - m)=cW+m - 1 - q by omega] at this;rw[this];exact hyq
   have w5:IntKind.i64.wrap ((cW:Int)+(m:Int) - 1 - (q:Int))=((cW+m - 1 - q:Nat):Int):=by rw[show(cW:Int)+(m:Int) - 1 - (q:Int)=((cW+m - 1 - q:Nat):Int) by omega];exact dY _ o_
   have by1:=λM=>JD M y x;have hlt2:=Gw y x;generalize yB y x=z at *;by_cases hz:z<0
   ·have hk:=Jv (hlt2.1 hz);have hd:(!decide (z<0))=false:=by rw[decide_eq_true hz];rfl
    refine a_ ?_
    refine rA (l_ [0,1,2,3,4,5,6,7,8,9,10] (g_ 11 (l_ [12,13] .nil))) (a_ ?_)
    refine Co rfl sD bB rfl rfl kf .nil (λM hE=>by1 M) ?_;rintro e H' ⟨rfl,rfl⟩;refine a_ ?_
    refine⟨(s,q),aK,aC,⟨⟨j1,by dsimp only;omega,by dsimp only;omega⟩,j4,λq' k1 k2 x' y' hx' hy'=>?_⟩,by dsimp only;omega⟩;exact wX (yT hy hy' hyq o_) (wX hk (yT hx hxq hx' (by dsimp only at k1;omega)))
   ·have hk:kN x y:=λk=>hz (hlt2.2 k);have hd:(!decide (z<0))=true:=by rw[decide_eq_false hz];rfl
    refine a_ ?_
    refine rA (l_ [0,1,2,3,4,5,6,7,8,9,10] (g_ 11 (l_ [12,13] .nil))) (a_ ?_)
    refine Co rfl sD bB rfl rfl kf .nil (λM hE=>by1 M) ?_;rintro e H' ⟨rfl,rfl⟩;refine a_ ?_
    refine⟨(q+1,r),aK,aC,⟨⟨by dsimp only;omega,by dsimp only;omega,j3⟩,λq' k1 k2 x' y' hx' hy'=>?_,j5⟩,by dsimp only;omega⟩;exact wX (yT hx hx' hxq (by dsimp only at k2;omega)) (wX hk (yT hy hyq hy' (by dsimp only at k2;omega)))
  obtain rfl:s=r:=o_;obtain⟨c1,c2⟩:=Yc hx hy hm.symm hb.symm h1 j1 j3 h3 h4 h5 h6 h7 j4 j5;clear j4 j5 hxn hyn;obtain⟨en,hen⟩:∃en,cW+m - s=en:=⟨_,rfl⟩
  have w6:IntKind.i64.wrap ((cW:Int)+(m:Int) - (s:Int))=(en:Int):=by rw[show(cW:Int)+(m:Int) - (s:Int)=(en:Int) by omega];exact dY _ o_
  obtain⟨u,v,w,t,exl,eyl,lu,lv,lw,lt',c3,c4⟩:∃u v w t,lx=u++v/\ly=w++t/\u.length=s - a/\v.length=m - s/\w.length=cW - s/\t.length=b - en/\(∀x∈u,∀z∈t,kN x z)/\∀z∈w,∀x∈v,kN z x :=
   ⟨lx.take (s - a),lx.drop (s - a),ly.take (cW - s),ly.drop (cW - s),(mE ..).symm,(mE ..).symm,by rw[dR];omega,by rw[lB];omega,by rw[dR];omega,by rw[lB];omega,c1,c2⟩
  subst exl eyl;obtain⟨su,sv,suv⟩:=wH.1 hx;obtain⟨sw',st,swt⟩:=wH.1 hy;simp only[bR] at hm hb hk hx1 hy1 ex ey;have e1:la++(u++v)++(w++t)++lb=la++u++v++w++(t++lb):=by simp
  rw[e1] at hln⊢;have el1:(la++u).length=s:=by rw[bR,ha,lu];omega
  have law1:=λM (k1:s<m) (k2:m<en)=>aEv M A n c (la++u) v w (t++lb) hn o_ o_ hln;rw[el1,lv,lw,show((s+(m - s):Nat):Int)=(m:Int) by omega,show((s+(m - s)+(cW - s):Nat):Int)=(en:Int) by omega] at law1;repeat ((fail_if_success (refine C.seq (x:=Code.region 39 _ _) ?_));first|refine mV ?_|refine k_ ?_|intro _|refine Dr.two ?_ ?_)
  refine C.cW (X:=Unit) (λ_=>[(0,.slice A n c),(1,.int .i64 a),(3,.int .i64 b),(4,mJ),(18,.int .i64 cW),(20,.int .i64 s),(24,.int .i64 en)]) (λ_=>[own cF A n c (la++u++w++v++(t++lb))]) (λ_=>True) ?_ ?_
  ·by_cases k1:s<m
   ·by_cases k2:m<en
    ·refine a_ ?_
     refine r_ (λM=>law1 M k1 k2) ?_
     exact⟨(),aK,aC,trivial⟩
    ·obtain rfl:w=[]:=zM.1 o_;rw[show la++u++v++[]++(t++lb)=la++u++[]++v++(t++lb) by simp];refine a_ ?_
     exact⟨(),aK,aC,trivial⟩
   ·obtain rfl:v=[]:=zM.1 o_;rw[show la++u++[]++w++(t++lb)=la++u++w++[]++(t++lb) by simp];refine a_ ?_
    exact⟨(),aK,aC,trivial⟩
  rintro - G3 -;rw[bF (la++u++w) v (t++lb)];have law2:=λM (k1:a<s) (k2:s<cW)=>ih M la u w (v++(t++lb)) o_ hn o_ o_ su sw' (by rw[<-hln];simp;omega);rw[ha,lu,lw,show((a+(s - a):Nat):Int)=(s:Int) by omega,show((a+(s - a)+(cW - s):Nat):Int)=(cW:Int) by omega] at law2;repeat ((fail_if_success (refine C.seq (x:=Code.region 41 _ _) ?_));first|refine mV ?_|refine k_ ?_|intro _|refine Dr.two ?_ ?_)
  refine C.cW (X:=List aM) (λ_=>[(0,.slice A n c),(3,.int .i64 b),(4,mJ),(18,.int .i64 cW),(24,.int .i64 en)]) (λz=>[own cF A n c (la++z++(v++(t++lb)))]) (λz=>z.Perm (u++w)/\lZ z) ?_ ?_
  ·by_cases k1:a<s
   ·by_cases k2:s<cW
    ·refine a_ ?_
     refine aU (λM=>law2 M k1 k2) ?_;rintro e H' ⟨z,hz,rfl,rfl⟩;refine a_ ?_
     exact⟨z,aK,aC,hz⟩
    ·obtain rfl:w=[]:=zM.1 o_;rw[bF la u []];refine a_ ?_
     exact⟨u++[],aK,aC,Ez _,by rw[aY];exact su⟩
   ·obtain rfl:u=[]:=zM.1 o_;rw[bF la [] w];refine a_ ?_
    exact⟨[]++w,aK,aC,Ez _,sw'⟩
  rintro z1 G4 ⟨p1,q1⟩;have lz:z1.length=cW - a:=by rw[p1.length_eq,bR];omega
  rw[show la++z1++(v++(t++lb))=la++z1++v++t++lb by simp];have el2:(la++z1).length=cW:=by rw[bR,ha,lz];omega
  have law3:=λM (k1:cW<en) (k2:en<b)=>ih M (la++z1) v t lb o_ hn o_ o_ sv st (by rw[<-hln];simp[p1.length_eq];omega);rw[el2,lv,lt',show((cW+(m - s):Nat):Int)=(en:Int) by omega,show((cW+(m - s)+(b - en):Nat):Int)=(b:Int) by omega] at law3;by_cases k1:cW<en
  ·by_cases k2:en<b
   ·refine a_ ?_
    refine aU (λM=>law3 M k1 k2) ?_;rintro e H' ⟨z2,⟨p2,q2⟩,rfl,rfl⟩;refine a_ ?_
    exact gG rfl aC (⟨z1++z2,Ou p1 p2 q1 q2 suv c3 c4 swt,rfl,by rw[<-bF]⟩)
   ·obtain rfl:t=[]:=zM.1 o_;refine a_ ?_
    exact gG rfl aC (⟨z1++v,Ou p1 (by rw[aY]) q1 sv suv c3 c4 swt,rfl,by rw[<-bF,aY]⟩)
  ·obtain rfl:v=[]:=zM.1 o_;refine a_ ?_
   exact gG rfl aC (⟨z1++t,Ou p1 (Ez _) q1 st suv c3 c4 swt,rfl,by rw[<-bF,aY]⟩)
end
end
section
def R7(c:List aM)(x:aM):∀(k:Nat) (P R:List aM),P.length=k->lZ P->∃z,vP c.length (c.length+k) (c++P++x::R)=c++z++R/\z.Perm (P++[x])/\lZ z
 |0,P,R,h,_=>by
  obtain rfl:=zM.1 h;exact⟨[x],by rw[R9 (a:=c.length) (j:=c.length+0) (bM _)];simp,Ez _,Cc _ _⟩
 |k+1,P,R,h,n=>by
  obtain⟨P,y,rfl⟩:∃l y,P=l++[y]:=by
   rcases GX P with rfl|⟨l,y,rfl⟩
   all_goals grind
  have u:P.length=k:=by grind
  have e:c++(P++[y])++x::R=(c++P)++y::([]++x::R):=s_
  have⟨p,q,r⟩:=Ko (c++P) [] R y x (i:=c.length+k) (j:=c.length+k+1) (by grind) (by grind);rw[e,show c.length+(k+1)=(c.length+k)+1 from rfl,R8 o_ q p];have⟨v,w,o⟩:=wH.1 n;by_cases g:yB x y<0
  ·rw[c! g,List.set_comm _ _ o_,r];have⟨z,s,m,t⟩:=R7 c x k P (y::R) u v;refine⟨z++[y],s.trans s_,(m.append_right [y]).trans ?_,wH.2 ⟨t,Cc _ _,λa d b hb=>?_⟩⟩
   ·rw[bF,bF];exact GU P PT
   ·obtain rfl:=eM.1 hb;rcases eL.1 (m.mem_iff.1 d) with d|d
    ·exact o a d b (.head _)
    ·obtain rfl:=eM.1 d;exact Jv ((Gw _ _).1 g)
  ·rw[b! g];have f:kN y x:=λk=>g ((Gw _ _).2 k);refine⟨P++[y]++[x],s_,Ez _,wH.2 ⟨n,Cc _ _,λa d b hb=>?_⟩⟩;obtain rfl:=eM.1 hb;rcases eL.1 d with d|d
   ·exact wX (o a d y (.head _)) f
   ·obtain rfl:=eM.1 d;exact f
def SA(a R:List aM):∀(Q P:List aM),lZ P->∃z,C8 a.length (a.length+P.length) Q.length (a++P++Q++R)=a++z++R/\z.Perm (P++Q)/\lZ z
 | [],P,h=>⟨P,by rw[aY];rfl,by rw[aY],h⟩
 |x::Q,P,h=>by
  have⟨z,b,c,d⟩:=R7 a x P.length P (Q++R) rfl h;have⟨e,k1,k2,k3⟩:=SA a R Q z d;refine⟨e,?_,k2.trans ?_,k3⟩
  ·rw[<-k1,c.length_eq,bF (a++z),<-b,bR,xU,show a++P++x::Q++R=a++P++x::(Q++R) by simp];rfl
  ·grind
def HM(a P b:List aM):∃z,qX a.length (a.length+P.length) (a++P++b)=a++z++b/\z.Perm P/\lZ z:=by
 cases P with
 |nil=>exact⟨[],by unfold qX;rw[show a.length+([]:List aM).length - (a.length+1)=0 by simp];rfl,Ez _,List.Pairwise.nil⟩
 |cons x Q =>
  have⟨z,e,c,d⟩:=SA a b Q [x] (Cc _ _);refine⟨z,?_,c,d⟩
  grind [qX]
end
section
open Go.RowKit Reg Oct
open Mem hiding Rd
def AW(b:Nat)(cs:List (List aM)):Prop:=∀c∈cs,c.length=b/\lZ c
def AW.len{b:Nat}:∀ {cs:List (List aM)},AW b cs->cs.flatten.length=b*cs.length
 | [],_=>rfl
 |c::cs,h=>by rw[E1,bR,(h c (.head _)).1,AW.len (cs:=cs) (λd a=>h d (.tail _ a)),gL,Nat.mul_succ];omega
theorem AW.put{b:Nat}{cs:List (List aM)}{c:List aM}(h:AW b cs)(e:c.length=b)(f:lZ c):AW b (cs++[c]):=by
 intro d a;rcases eL.1 a with a|a
 ·exact h d a
 ·obtain rfl:=eM.1 a;exact⟨e,f⟩
section
variable (E:Env) (A:n!) (n c:Nat)
theorem aBj(l:List aM)(hn:n<=1000000)(hln:l.length=n):G E 268 [.slice A n c,a! n,mJ] [own cF A n c l] (λe H'=>∃z:List aM,(z.Perm l/\lZ z)/\e=.returned (.tuple #[])/\H'=[own cF A n c z]):=by
 have hmax:=cS;refine p_ func268 ntmps268 ?_
 refine C.loop (X:=List (List aM)×List aM) (λz=>[(0,.slice A n c),(1,a! n),(2,mJ),(6,a! 20),(7,a! z.1.flatten.length),(8,a! ((z.1.flatten.length+20:Nat):Int))]) (λz=>[own cF A n c (z.1.flatten++z.2)])
  (λz=>AW 20 z.1/\(z.1.flatten++z.2).Perm l) (λz=>z.2.length) ([],l) aK aC ⟨(λc h=>by cases h),Ez _⟩ ?_
 rintro⟨cs,r⟩ G1 ⟨h1,h2⟩;dsimp only at h1 h2⊢;have hl:=h2.length_eq;rw[bR,hln] at hl;by_cases hb:cs.flatten.length+20<=n
 ·obtain⟨p,q,rfl,hp⟩:∃p q,r=p++q/\p.length=20:=⟨r.take 20,r.drop 20,(mE ..).symm,by rw[dR];omega⟩
  have⟨z,k1,k2,k3⟩:=HM cs.flatten p q;rw[hp] at k1;rw[<-bF];have law:=λM=>M5 M A n c (cs.flatten++p++q) hn (by rw[bF,h2.length_eq,hln]) cs.flatten.length (cs.flatten.length+20) o_ o_;rw[k1] at law;have⟨F,hF⟩:∃F,cs.flatten.length=F:=⟨_,rfl⟩
  rw[hF] at law hb⊢;refine a_ ?_
  refine r_ law ?_
  have hz:z.length=20:=by rw[k2.length_eq,hp]
  have hc:(cs++[z]).flatten.length=F+20:=by simp[hF,hz]
  refine⟨(cs++[z],q),(by dsimp only;rw[hc];exact aK),(by dsimp only;rw[show(cs++[z]).flatten++q=cs.flatten++z++q by simp];exact aC),⟨h1.put hz k3,?_⟩,by dsimp only;rw[bR,hp];omega⟩;dsimp only;refine List.Perm.trans ?_ h2;rw[show(cs++[z]).flatten++q=cs.flatten++(z++q) by simp];exact GU _ (k2.append_right q)
 have law:=λM=>M5 M A n c (cs.flatten++r) hn (by rw[h2.length_eq,hln]) cs.flatten.length n o_ (bM _);have⟨z,k1,k2,k3⟩:=HM cs.flatten r [];rw[aY,aY,hl] at k1;rw[k1] at law;have hzr:=k2.length_eq;have hp0:(cs.flatten++z).Perm l:=(GU _ k2).trans h2;have hr:z.length<20:=o_;clear k1 k2 h2;have⟨F,hF⟩:∃F,cs.flatten.length=F:=⟨_,rfl⟩
 rw[hF] at law hb⊢;refine a_ ?_
 refine r_ law ?_
 refine C.loop (X:=Nat×List (List aM)×List aM) (λz=>[(0,.slice A n c),(1,a! n),(2,mJ),(6,a! z.1)]) (λz=>[own cF A n c (z.2.1.flatten++z.2.2)])
  (λz=>(1<=z.1/\z.1<=2000000)/\AW z.1 z.2.1/\z.2.2.length<z.1/\lZ z.2.2/\(z.2.1.flatten++z.2.2).Perm l) (λz=>n - z.1) (20,cs,z) aK aC ⟨by dsimp only;omega,h1,hr,k3,hp0⟩ ?_
 clear law hp0 hr k3 h1 hb hzr hF hl;rintro⟨b,cs,r⟩ G2 ⟨⟨b1,b2⟩,h1,h2,h3,h4⟩;dsimp only at b1 b2 h1 h2 h3 h4⊢;by_cases hbn:b<n
 ·have w1:IntKind.i64.wrap (2*(b:Int))=((2*b:Nat):Int):=by rw[show 2*(b:Int)=((2*b:Nat):Int) by omega];exact dY _ o_
  have w2:IntKind.i64.wrap ((b:Int)*2)=((2*b:Nat):Int):=by rw[show(b:Int)*2=((2*b:Nat):Int) by omega];exact dY _ o_
  refine a_ ?_
  refine C.loop (X:=List (List aM)×List (List aM)) (λz=>[(0,.slice A n c),(1,a! n),(2,mJ),(6,a! b),(7,a! z.1.flatten.length),(8,a! ((2*b+z.1.flatten.length:Nat):Int))]) (λz=>[own cF A n c (z.1.flatten++(z.2.flatten++r))])
   (λz=>AW (2*b) z.1/\AW b z.2/\(z.1.flatten++(z.2.flatten++r)).Perm l) (λz=>z.2.length) ([],cs) aK aC ⟨(λc h=>by cases h),h1,h4⟩ ?_
  clear h1 h4;rintro⟨ds,cs⟩ G3 ⟨h0,h1,h4⟩;dsimp only at h0 h1 h4⊢;have hl:=h4.length_eq;rw[bR,bR,hln] at hl;have⟨F,hF⟩:∃F,ds.flatten.length=F:=⟨_,rfl⟩
  rw[hF] at hl⊢;by_cases ht:2*b+F<=n
  ·obtain⟨c1,c2,cs,rfl⟩:∃c1 c2 cs',cs=c1::c2::cs':=by
    rcases cs with _|⟨c1,_|⟨c2,cs⟩⟩
    ·simp at hl;omega
    ·have:=(h1 c1 (.head _)).1;simp at hl;omega
    ·exact⟨_,_,_,rfl⟩
   have⟨l1,s1⟩:=h1 c1 (.head _);have⟨l2,s2⟩:=h1 c2 (.tail _ (.head _));have e1:ds.flatten++((c1::c2::cs).flatten++r)=ds.flatten++c1++c2++(cs.flatten++r):=s_
   rw[e1] at h4⊢;have law:=λM=>Oe A n c (c1.length+c2.length) M ds.flatten c1 c2 (cs.flatten++r) (bM _) hn o_ o_ s1 s2 (by rw[h4.length_eq,hln]);rw[hF,l1,l2,show((F+b+b:Nat):Int)=((2*b+F:Nat):Int) by omega,Dd F b] at law;have w3:IntKind.i64.wrap (((2*b+F:Nat):Int)+((2*b:Nat):Int))=((2*b+(2*b+F):Nat):Int):=by rw[show((2*b+F:Nat):Int)+((2*b:Nat):Int)=((2*b+(2*b+F):Nat):Int) by omega];exact dY _ o_
   refine a_ ?_
   refine aU law ?_;rintro e H' ⟨z,⟨z1,z2⟩,rfl,rfl⟩;refine a_ ?_
   have hz:z.length=2*b:=by rw[z1.length_eq,bR,l1,l2];omega
   have hc:(ds++[z]).flatten.length=2*b+F:=by simp[hF,hz];omega
   refine⟨(ds++[z],cs),(by dsimp only;rw[hc];exact aK),(by dsimp only;rw[show(ds++[z]).flatten++(cs.flatten++r)=ds.flatten++z++(cs.flatten++r) by simp];exact aC),⟨h0.put hz z2,λd hd=>h1 d (.tail _ (.tail _ hd)),?_⟩,by dsimp only[List.length_cons];omega⟩;dsimp only;refine List.Perm.trans ?_ h4;rw[show(ds++[z]).flatten++(cs.flatten++r)=ds.flatten++(z++(cs.flatten++r)) by simp,show ds.flatten++c1++c2++(cs.flatten++r)=ds.flatten++((c1++c2)++(cs.flatten++r)) by simp];exact GU _ (z1.append_right _)
  rcases cs with _|⟨c1,_|⟨c2,cs⟩⟩
  ·simp only[List.flatten_nil,jD,tH,lM] at hl h4⊢;refine a_ ?_
   exact⟨(2*b,ds,r),aK,aC,⟨⟨by dsimp only;omega,d_⟩,h0,by dsimp only;omega,h3,h4⟩,d_⟩
  ·have⟨l1,s1⟩:=h1 c1 (.head _);simp only[E1,List.flatten_nil,aY] at hl h4⊢;by_cases hr:1<=r.length
   ·have e1:ds.flatten++(c1++r)=ds.flatten++c1++r++[]:=s_
    rw[e1] at h4⊢;have law:=λM=>Oe A n c (c1.length+r.length) M ds.flatten c1 r [] (bM _) hn o_ hr s1 h3 (by rw[h4.length_eq,hln]);rw[hF,l1,show((F+b+r.length:Nat):Int)=(n:Int) by omega,Dd F b] at law;refine a_ ?_
    refine aU law ?_;rintro e H' ⟨z,⟨z1,z2⟩,rfl,rfl⟩;rw[aY];refine a_ ?_
    have hz:z.length=b+r.length:=by rw[z1.length_eq,bR,l1]
    refine⟨(2*b,ds,z),aK,aC,⟨⟨by dsimp only;omega,d_⟩,h0,by dsimp only;omega,z2,List.Perm.trans ?_ h4⟩,d_⟩;dsimp only;rw[aY,bF];exact GU _ z1
   ·obtain rfl:r=[]:=zM.1 o_;rw[aY] at h4⊢;rw[tH] at hl;refine a_ ?_
    exact⟨(2*b,ds,c1),aK,aC,⟨⟨by dsimp only;omega,d_⟩,h0,by dsimp only;omega,s1,h4⟩,d_⟩
  ·exfalso;have l1:=(h1 c1 (.head _)).1;have l2:=(h1 c2 (.tail _ (.head _))).1;simp only[E1,bR] at hl;omega
 ·refine a_ ?_
  have hl:=h4.length_eq;rw[bR,hln,h1.len] at hl;rcases cs with _|⟨c1,_|⟨c2,cs⟩⟩
  ·exact gG rfl aC (⟨r,⟨h4,h3⟩,rfl,rfl⟩)
  ·obtain rfl:r=[]:=zM.1 (by simp at hl;omega);exact gG rfl aC (⟨c1,⟨by simpa using h4,(h1 c1 (.head _)).2⟩,rfl,s_⟩)
  ·exfalso;simp only[gL] at hl;rw[Nat.mul_add,Nat.mul_add] at hl;omega
end
def SF{j k:aL}(a:j≠k)(w:Int):∀ {ks:List (aL×Int)} {q:Nat} {v:Int},ks[q]?=some (k,v)->hZ (ks.set q (k,w)) j=hZ ks j
 | [],_,_,h=>by cases h
 |x::ks,0,v,h=>by
  obtain rfl:x=(k,v):=by simpa using h
  show(if j=k then _ else _)=(if j=k then _ else _);rw[b! a,b! a]
 |x::ks,q+1,v,h=>by
  have h:ks[q]?=some (k,v):=by simpa using h
  show(if j=x.1 then _ else(hZ (ks.set q (k,w)) j).map _)=(if j=x.1 then _ else(hZ ks j).map _);rw[SF a w h]
def SE{j k:aL}(a:j≠k)(v:Int):∀(ks:List (aL×Int)),hZ (ks++[(k,v)]) j=hZ ks j
 | []=>b! a
 |x::ks=>by
  show(if j=x.1 then _ else(hZ (ks++[(k,v)]) j).map _)=(if j=x.1 then _ else(hZ ks j).map _);rw[SE a v ks]
def SG{j k:aL}(a:j≠k)(ks:List (aL×Int)):jP (wV ks k) j=jP ks j:=by
 unfold jP wV;rw[SF a _ (SI ks k)];unfold uS;cases b:hZ ks k with
 |none=>dsimp only;rw[SE a]
 |some z=>rfl
def Dj(s:List (aL×Int)×List aM):Prop:=(∀r∈s.2,r.key.ord<=jP s.1 r.key.id)/\(s.2.map aM.key).Nodup
theorem Dj.step{s:List (aL×Int)×List aM}(h:Dj s)(c:List aM)(q:aM):Dj (Av c s q):=by
 unfold Av;split
 ·exact h
 refine⟨λr a=>?_,?_⟩
 ·rcases eL.1 a with a|a
  ·have:=h.1 r a;dsimp only;by_cases e:r.key.id=q.key.id
   ·rw[e,HN];rw[e] at this;omega
   ·rw[SG e];exact this
  ·obtain rfl:=eM.1 a;exact dV _
 ·dsimp only;rw[gP];refine Ab.2 ⟨h.2,s_,λa d b hb=>?_⟩;obtain⟨r,a,rfl⟩:=jX.1 d;obtain rfl:=eM.1 hb;intro e;have:=h.1 r a;rw[e] at this;dsimp only at this;rw[HN] at this;omega
def Dj.go:∀(l:List aM) {s:List (aL×Int)×List aM},Dj s->((pA l s).map aM.key).Nodup
 | [],_,h=>h.2
 |q::l,_,h=>Dj.go l (h.step l q)
def TC(l:List aM):((pA l ([],[])).map aM.key).Nodup:=Dj.go l ⟨(λ_ h=>by cases h),List.Pairwise.nil⟩
def BK.Ql{o:List aM}(i:o.length<=1000000)(h:(o.map aM.key).Nodup):BK o:=λE A c=>by
 have a:=λM=>aBj M A o.length c o i rfl;have one:∀z:List aM,z.Perm o/\lZ z->z=qX 0 o.length o:=by
  rintro z ⟨d,g⟩;have⟨m,k1,k2,k3⟩:=HM [] o [];rw[jD,aY,aY,jD,tH,lM] at k1;rw[k1];exact TX (d.trans k2.symm) g k3 ((d.map aM.key).nodup_iff.2 h)
 generalize qX 0 o.length o=k at *;have f:=cS;have b:∀M,G M 208 [.slice A o.length c,mJ] [own cF A o.length c o] (bL (.tuple #[]) [own cF A o.length c k]):=λM=>by
  refine p_ func208 ntmps208 ?_
  refine aU a ?_;rintro e l ⟨z,j,rfl,rfl⟩;obtain rfl:=one z j;refine a_ ?_
  exact vK
 refine p_ func148 ntmps148 ?_
 refine r_ b ?_
 exact aS
def BK.net(l:List aM)(h:l.length<=1000000):BK (pA l ([],[])):=BK.Ql (iR (NT l ([],[])) (by rw[tH];omega)) (TC l)
end
section
open Oct
def Pv{a b x y:List α}(h:a++x=b++y)(c:a.length=b.length):a=b/\x=y:=Ij h c
def Sa{l:List aI}(a:l.length<=48)(b:∀c∈l,c.may=true):yK l=jN l:=by
 grind [yK]
def ofNat_inj{m n:Nat}(b:m<256)(c:n<256)(h:UInt8.ofNat m=UInt8.ofNat n):m=n:=by
 have a:=j! UInt8.toNat h;simp only[FG] at a;omega
def Sb{l m:List aI}(d:l.length<=48)(f:m.length<=48)(g:∀c∈l,c.may=true)(i:∀c∈m,c.may=true)(k:∀c∈l,c.ok)(n:∀c∈m,c.ok){x y:o!}(h:yK l++x=yK m++y):l=m/\x=y:=by
 rw[Sa d g,Sa f i] at h;have e:l.length=m.length:=by
  unfold jN at h;rw[mX,mX] at h;injection h with b _
  exact ofNat_inj o_ o_ b
 have⟨b,j⟩:=Pv h (by grind [HB]);refine⟨?_,j⟩;have o:=QW d (qR.2 g) λc a=>(k c a).2.2.2.2.2.1;have p:=QW f (qR.2 i) λc a=>(n c a).2.2.2.2.2.1
 grind
def RF:∀ {l m:List aN},l.length=m.length->(∀e∈l,e.may=true/\e.ok)->(∀e∈m,e.may=true/\e.ok)->∀ {x y:o!},l.flatMap Ah++x=m.flatMap Ah++y->l=m/\x=y
 | [],[],_,_,_,_,_,h=>⟨rfl,h⟩
 |e::l,f::m,hn,g,hm,x,y,h=>by
  have a:=g e jW;have b:=hm f jW;rw[zK,zK,bF,bF,HC a.1,HC b.1] at h;have⟨j,k⟩:=Pv h (by rw[e.iP,f.iP]);have⟨n,o⟩:=RF (by simpa using hn) (λz c=>g z (kF _ c)) (λz c=>hm z (kF _ c)) k;have d:=JS a.1 a.2.2.1.2.2.1;have i:=JS b.1 b.2.2.1.2.2.1;rw[j,i] at d;rw[iN d,n];exact⟨rfl,o⟩
def Xv{p q:bC}(b:JO p)(c:JO q){x y:o!}(h:rX p++x=rX q++y):p.made=q.made/\p.l=q.l/\x=y:=by
 have i:=b.1.vR;have j:=b.1.qC;have l:=c.1.vR;have m:=c.1.qC;have k:=b.1.len;have n:=c.1.len;unfold rX at h;simp only[mX,jD] at h;injection h with f h
 injection h with g h
 have o:p.made.toNat=q.made.toNat:=ofNat_inj o_ o_ f;have d:p.l.length=q.l.length:=ofNat_inj o_ o_ g;have⟨r,s⟩:=RF d (λe a=>⟨b.2.may e a,b.1.oJ e a⟩) (λe a=>⟨c.2.may e a,c.1.oJ e a⟩) h
 grind
def QS:∀ {ps c:List bC},ps.length=c.length->JL ps->JL c->ps.flatMap rX=c.flatMap rX->∀(i:Nat) (p q:bC),ps[i]?=some p->c[i]?=some q->p.made=q.made/\p.l=q.l
 | [],_,_,_,_,_,i,p,q,hp,_=>by simp at hp
 |a::ps,b::c,hn,e,hb,h,i,p,q,hp,k=>by
  rw[zK,zK] at h;have⟨g,j,f⟩:=Xv (e a jW) (hb b jW) h;cases i with
  |zero =>
   grind
  |succ i=>exact QS (by grind) (λz d=>e z (kF _ d)) (λz d=>hb z (kF _ d)) f i p q (by grind) (by grind)
theorem u9{s z:Sv}(hs:Gd s)(hz:Gd z)(hr:s.r=z.r)(h:kA s=kA z):s=z:=by
 unfold kA at h;rw[bF,bF] at h;have n1:=hs.v.len;have n2:=hz.v.len;have⟨h1,h⟩:=Sb o_ o_ (λc hc=>hs.v.may (zN _ hc)) (λc hc=>hz.v.may (zN _ hc)) hs.v.qE hz.v.qE h;have⟨h2,h⟩:=Sb o_ o_ (λc hc=>hs.v.may (tJ _ hc)) (λc hc=>hz.v.may (tJ _ hc)) hs.v.vS hz.v.vS h;have f1:=hs.v.lQ;have f2:=hz.v.lQ;rw[h1,h2,f2] at f1;have hv:s.v=z.v:=by
  have e1:=j! Prod.fst (iN f1);have e2:=j! Prod.snd (iN f1);dsimp only at e1 e2;generalize hsv:s.v=sv at *;generalize hzv:z.v=zv at *;cases sv;cases zv;grind
 have hn:s.ps.length=z.ps.length:=by
  have a:=hs.n;have b:=hz.n;grind
 have hp:s.ps=z.ps:=by
  apply uH;intro i;by_cases hi:i<s.ps.length
  ·have e1:s.ps[i]?=some s.ps[i]:=bS hi;have e2:z.ps[i]?=some (z.ps[i]'o_):=bS o_;have⟨g1,g2⟩:=QS hn hs.ch hz.ch h i _ _ e1 e2;have w1:=hs.w i _ e1;have w2:=hz.w i _ e2;rw[hv,hr,w2] at w1;have w3:=iN w1;rw[e1,e2];generalize s.ps[i]=p at *;generalize z.ps[i]'o_=q at *;cases p;cases q;grind
  ·grind
 cases s;cases z;grind
theorem Rc.aLb{x y:Rc}(h:x.r=y.r):x=y:=by
 cases x<;>cases y<;>simp only[Rc.r,R1,R2,R3,R4,fQ.mk.injEq] at h<;>simp_all
def Rc.XD{x y:Rc}(a:x.may=true/\x.ok)(b:y.may=true/\y.ok)(h:x.b=y.b):x=y:=by
 grind [NB,Rc.aLb,Option.some.inj]
def Ls:∀ {l m:List Rc},(∀x∈l,x.may=true/\x.ok)->(∀x∈m,x.may=true/\x.ok)->l.map Rc.b=m.map Rc.b->l=m
 | [],[],_,_,_=>rfl
 | [],_::_,_,_,h=>by simp at h
 |_::_,[],_,_,h=>by simp at h
 |x::l,y::m,b,hm,h=>by
  simp only[jL,GW] at h;rw[Rc.XD (b x jW) (hm y jW) h.1,Ls (λz a=>b z (kF _ a)) (λz a=>hm z (kF _ a)) h.2]
theorem Lc.inj{r:Int}{z y:Lc}(f:z.ok r)(d:y.ok r)(h:z.bs=y.bs):z=y:=by
 have⟨b,l⟩:=z;have⟨c,m⟩:=y;unfold Lc.bs Bd at h;dsimp only at h;have a:∀ {s:Sv} {k l:List Rc},[5::kA s]++k.map Rc.b=[]++l.map Rc.b->False:=by
  intro s k l h;cases l with
  |nil=>simp at h
  |cons x l =>
   simp only[jD,mX,jL,GW] at h;have:=x.Dq.2.2
   grind
 cases b with
 |none =>
  cases c with
  |none =>
   have e:l=m:=Ls f.l d.l (by grind);rw[e]
  |some t=>exact(a h.symm).elim
 |some s =>
  cases c with
  |none=>exact(a h).elim
  |some t =>
   simp only[mX,jD,GW,true_and] at h;have g:=f.base s rfl;have i:=d.base t rfl;have e:l=m:=Ls f.l d.l h.2
   grind [u9]
theorem Jy{r:Int}{z:Lc}{a:List (o!)}(b:z.ok r)(h:z.bs=a):lH r a=z:=by
 have⟨c,d⟩:=Fh ⟨z,b,h⟩
 grind [Lc.inj]
end
section
def Sx{l:List aI}{x:aI}:x∈pD l c↔x∈l\/x=c:=by
 grind [pD,rI,List.take_append_drop]
def Sv.all(s:Sv):List aI:=s.v.l++s.v.t
theorem JN(s:Sv)(l:Gd s)(x:Rc):(s.doc x).1.v=s.v \/
  (∃c,x=.cB c/\(s.doc x).1.v.l=s.v.l/\oL s.v.known s.v.times c=true/\∀d,d∈(s.doc x).1.v.t↔d∈s.v.t\/d=c) \/
  (∃a c p q,x=.cD a/\(s.doc x).2=0/\s.v.t=p++c::q/\c.id=a/\(s.doc x).1.v=⟨s.v.l++[c],p++q,s.v.known,s.v.times⟩):=by
 cases x with
 |cB c =>
  rw[show s.doc (.cB c)=s.dB c from rfl];unfold Sv.dB;by_cases f:c.may=true
  ·rw[c! f];rcases Ff s.v c with⟨b,g⟩|⟨b,g,h,i⟩
   ·rw[b! b];exact .inl g
   ·rw[c! b];have e:(Sv.again ⟨(nD s.v c).1,s.ps,s.r⟩).v=(nD s.v c).1:=rfl;refine .inr (.inl ⟨c,rfl,?_,h,λd=>?_⟩)
    ·rw[e,i]
    ·rw[e,i,IH l.v h];exact Sx
  ·rw[b! f];exact .inl rfl
 |cD a =>
  rw[show s.doc (.cD a)=s.nS a from rfl];unfold Sv.nS;by_cases f:a.may=true
  ·rw[c! f];rcases HQ s.v a with⟨b,g⟩|⟨b,p,c,q,h,i,m,j⟩
   ·rw[b! b];exact .inl g
   ·rw[c! b];exact .inr (.inr ⟨a,c,p,q,rfl,b,h,i,j⟩)
  ·rw[b! f];exact .inl rfl
 |fH k now =>
  rw[show s.doc (.fH k now)=s.oF k now from rfl];unfold Sv.oF;split<;>exact .inl rfl
 |cR k =>
  rw[show s.doc (.cR k)=s.oW k from rfl];unfold Sv.oW;split<;>exact .inl rfl
def Dz{s:Sv}(a:Gd s)(x:Rc):s.v.l <+: (s.doc x).1.v.l/\∀c∈s.all,c∈(s.doc x).1.all:=by
 grind [Sv.all,JN,List.prefix_refl,List.mem_append_left,List.mem_append_right,List.prefix_append]
def F6(s:Sv)(l m:List Rc):fW s (l++m)=fW (fW s l) m:=by grind [fW]
def UL:∀ {l:List Rc} {s:Sv},Gd s->(∀x∈l,x.may=true/\x.ok)->s.v.l <+: (fW s l).v.l/\∀c∈s.all,c∈(fW s l).all
 | [],s,_,_=>⟨E3 _,λc a=>a⟩
 |x::l,s,d,b=>by
  have⟨e,f⟩:=Dz d x;have⟨g,h⟩:=UL (l:=l) (d.doc (b x jW).2) λy i=>b y (kF _ i);exact⟨e.trans g,λc a=>h c (f c a)⟩
def Gd.uniq{s:Sv}(h:Gd s){d:aI}(b:c∈s.all)(e:d∈s.all)(f:c.id=d.id):c=d:=by
 have g:=Mq h.v.lQ;have a:∀ {l:List aI},(l.map aI.id).Nodup->c∈l->d∈l->c=d:=by
  intro l
  induction l with
  |nil=>exact λ_ h=>(cZ h).elim
  |cons x l i =>
   grind
 exact a g b e
def pF:List aM->List aM
 | []=>[]
 |q::l=>if (q.key.cJ||l.any λx=>decide (x.key=q.key.other))=true then pF l else q::pF l
def rC(a:aL)(l:List aM):List aM:=l.filter λq=>decide (q.key.id=a)
def TT(a:aL)(l m:List aM):rC a (l++m)=rC a l++rC a m:=GY ..
def TU(a:aL)(q:aM):rC a [q]=if q.key.id=a then[q] else[]:=by
 grind [rC]
def Ev(S:List aM)(x:aM):Prop:=∃(k:Nat) (q:aM),(rC x.key.id S)[k]?=some q/\x=⟨⟨x.key.id,(k:Int)+1,false⟩,q.bD⟩
structure Ba(S:List aM)(s:List (aL×Int)×List aM):Prop where
 c:∀a,jP s.1 a=(rC a S).length
 m:∀x,x∈s.2↔Ev S x
theorem Ba.step{S:List aM}{s:List (aL×Int)×List aM}(h:Ba S s)(q:aM):Ba (S++[q]) (wV s.1 q.key.id,s.2++[⟨⟨q.key.id,jP (wV s.1 q.key.id) q.key.id,false⟩,q.bD⟩]):=by
 refine⟨λa=>?_,λx=>?_⟩
 ·dsimp only;rw[TT,TU,bR];by_cases e:q.key.id=a
  ·subst e;rw[HN,c! rfl,h.c];rfl
  ·rw[SG (xW e),b! e,h.c];rfl
 ·dsimp only;rw[eL,eM,h.m,HN,h.c];unfold Ev;rw[TT,TU];grind
def Ba.go:∀ {l S:List aM} {s:List (aL×Int)×List aM},Ba S s->∀x,x∈pA l s↔Ev (S++pF l) x
 | [],S,s,h,x=>by
  show x∈s.2↔Ev (S++[]) x;rw[aY];exact h.m x
 |q::l,S,s,h,x=>by
  show x∈pA l (Av l s q)↔_;unfold Av pF;by_cases a:(q.key.cJ||l.any λx=>decide (x.key=q.key.other))=true
  ·rw[c! a,c! a];exact Ba.go h x
  ·rw[b! a,b! a];have b:q.key.cJ=false:=by
    grind
   rw[b,Ba.go (h.step q) x,bF];rfl
def aOj(l:List aM)(x:aM):x∈pA l ([],[])↔Ev (pF l) x:=by
 have a:Ba [] ([],[]):=⟨λ_=>rfl,λx=>⟨λh=>(cZ h).elim,λ⟨k,q,h,_⟩=>by cases h⟩⟩
 have:=Ba.go (l:=l) a x
 grind
theorem J7:∀ {w:List bE} {k:Nat},x∈uN a k w↔∃(i:Nat) (f:bE),w[i]?=some f/\x=⟨⟨a,((k+i:Nat):Int)+1,false⟩,f⟩
 | [],k=>⟨λh=>(cZ h).elim,λ⟨_,_,h,_⟩=>by cases h⟩
 |e::w,k=>by
  show x∈⟨⟨a,(k:Int)+1,false⟩,e⟩::uN a (k+1) w↔_;rw[tK,J7];constructor
  ·rintro(rfl|⟨i,f,b,rfl⟩)
   ·exact⟨0,e,rfl,rfl⟩
   ·exact⟨i+1,f,b,by rw[show k+1+i=k+(i+1) by omega]⟩
  ·grind
theorem NP:∀ {l:List aI} {W:List (List bE)},x∈oX l W↔∃(i:Nat) (c:aI) (w:List bE) (k:Nat) (f:bE),l[i]?=some c/\W[i]?=some w/\w[k]?=some f/\x=⟨⟨c.id,((k:Nat):Int)+1,false⟩,f⟩
 | [],W=>⟨λh=>by unfold oX at h;exact(cZ h).elim,λ⟨_,_,_,_,_,h,_⟩=>by cases h⟩
 |_::_,[]=>⟨λh=>by unfold oX at h;exact(cZ h).elim,λ⟨_,_,_,_,_,_,h,_⟩=>by cases h⟩
 |c::l,w::W=>by
  show x∈uN c.id 0 w++oX l W↔_;rw[eL,J7,NP];constructor
  ·rintro(⟨k,f,a,rfl⟩|⟨i,b,g,k,f,a,d,e⟩)
   ·exact⟨0,c,w,k,f,rfl,rfl,a,by rw[lM]⟩
   ·exact⟨i+1,b,g,k,f,a,d,e⟩
  ·grind
def RK(a:aL):∀(w:List bE) (k:Nat),((uN a k w).map aM.key).Nodup
 | [],_=>List.Pairwise.nil
 |e::w,k=>by
  show(aM.key ⟨⟨a,(k:Int)+1,false⟩,e⟩::(uN a (k+1) w).map aM.key).Nodup;refine Cb.2 ⟨λh=>?_,RK a w (k+1)⟩
  grind [J7]
def Me:∀ {l:List aI} (W:List (List bE)),(l.map aI.id).Nodup->((oX l W).map aM.key).Nodup
 | [],_,_=>by unfold oX;exact List.Pairwise.nil
 |_::_,[],_=>by unfold oX;exact List.Pairwise.nil
 |c::l,w::W,h=>by
  rw[jL,Cb] at h;show((uN c.id 0 w++oX l W).map aM.key).Nodup;rw[gP];refine Ab.2 ⟨RK _ _ _,Me W h.2,λa a b hb e=>?_⟩;obtain⟨x,d,rfl⟩:=jX.1 a;obtain⟨y,f,rfl⟩:=jX.1 hb
  grind [J7,NP,List.mem_map_of_mem,List.mem_of_getElem?]
def RJ{k:Nat}:∀ {l:List aI} {W:List (List bE)},(∀w∈W,w.length<=k)->(oX l W).length<=k*l.length
 | [],W,_=>by unfold oX;exact bY _
 |_::_,[],_=>by unfold oX;exact bY _
 |c::l,w::W,h=>by
  have b:=h w jW;have d:=RJ (k:=k) (l:=l) (W:=W) λx a=>h x (kF _ a)
  grind [uN,oX,Mf,Nat.mul_succ]
def TH{β:Type}{f:α->β}{l:List α}(h:(l.map f).Nodup):l.Nodup:=(List.pairwise_map.1 h).imp λhn e=>hn (j! f e)
def aJz{m:List aM}(a:(l.map aM.key).Nodup)(c:(m.map aM.key).Nodup)(h:∀x,x∈l↔x∈m):qX 0 l.length l=qX 0 m.length m:=by
 have⟨z,k1,k2,k3⟩:=HM [] l [];have⟨y,b,e,f⟩:=HM [] m [];rw[jD,aY,aY,jD,tH,lM] at k1 b;rw[k1,b];have d:l.Perm m:=(List.perm_ext_iff_of_nodup (TH a) (TH c)).2 h;exact TX (k2.trans (d.trans e.symm)) k3 f ((k2.map aM.key).nodup_iff.2 a)
abbrev LA(l:List aI):List (List bE):=(fM fY l).2.map λo=>qM o true
def aKd{A:List aM}{l:List aI}(a:(l.map aI.id).Nodup)(h:∀x,Ev (pF A) x↔∃(i:Nat) (c:aI) (w:List bE) (k:Nat) (f:bE),l[i]?=some c/\(LA l)[i]?=some w/\w[k]?=some f/\x=⟨⟨c.id,((k:Nat):Int)+1,false⟩,f⟩):xA A=wT l:=by
 unfold xA wT;refine aJz (TC A) (Me _ a) λx=>?_;rw[aOj,h];exact NP.symm
structure dT where
 a:List aM
 now:Int
abbrev dT.add(A:dT)(q:aM):dT:=⟨A.a++[q],A.now⟩
structure dT.le(A B:dT):Prop where
 a:∃l,B.a=A.a++l
 now:A.now<=B.now
def dT.one(A:dT)(q:aM):A.le (A.add q):=⟨⟨[q],rfl⟩,dV _⟩
def dT.tick(A:dT){t:Int}(h:A.now<=t):A.le ⟨A.a,t⟩:=⟨⟨[],(aY _).symm⟩,h⟩
def dT.le.mem{A B:dT}(h:A.le B)(a:q∈A.a):q∈B.a:=by
 have⟨l,e⟩:=h.a
 grind
def Dc(A:dT)(a:aL)(o:Int):Prop:=∃q∈A.a,q.key=⟨a,o,false⟩
def Dm(A:dT)(a:aL)(o:Int):Prop:=∃q∈A.a,q.key=⟨a,o,true⟩
def U4{A a b:List aM}(h:A++[q]=a++x::b):(x=q/\a=A)\/∃c,A=a++x::c:=by
 rcases GX b with rfl|⟨c,y,rfl⟩
 all_goals grind [List.append_inj']
structure Cg(A:dT)(a:aL)(s:bC):Prop where
 made:∀q∈A.a,q.key.id=a->1<=q.key.ord/\q.key.ord<=s.made
 out:∀o,1<=o->o<=s.made->(∀e∈s.l,e.ord≠o)->Dc A a o/\Dm A a o
 Bl:∀e∈s.l,e.dN=true->Dc A a e.ord
 gO:∀(i:Nat) (e:aN),s.l[i]?=some e->Dm A a e.ord->e.dN=true/\e.gone=true/\1<=e.back/\i+1=s.l.length
 low:∀(i:Nat) (e:aN),s.l[i]?=some e->i+1<s.l.length->e.dN=true
 new:∀e∈s.l,e.dN=false->e.ord=s.made
 bD:∀e∈s.l,∀q∈A.a,q.key=⟨a,e.ord,false⟩->q.bD=e.bD
 iW:(A.a.filter λq=>decide (q.key.id=a) && !q.key.cJ).Pairwise λp q=>p.key.ord<q.key.ord
 Dp:∀(A1 A2:List aM) (q:aM),A.a=A1++q::A2->q.key.id=a->q.key.cJ=true->∃p∈A1,p.key=⟨a,q.key.ord,false⟩
 tm:∀e∈s.l,e.last<=A.now/\e.iY<=A.now
 wide:s.w.length<=8
 len:s.l.length<=8
structure uE(s:bC)(k:bV)(f:bE):Prop where
 top:∃e,s.l[s.l.length - 1]?=some e/\e.ord=k.ord/\e.bD=f/\((k.cJ=false/\e.dN=false)\/(k.cJ=true/\e.dN=true/\e.gone=true/\1<=e.back))
theorem Cg.same{A:dT}{s s':bC}(h:Cg A a s)(v:s'.made=s.made)(m:s'.l.length=s.l.length)(D:s'.w.length<=8)
  (j:∀(i:Nat) (e':aN),s'.l[i]?=some e'->∃e,s.l[i]?=some e/\e'.ord=e.ord/\e'.bD=e.bD/\(e.dN=true->e'.dN=true)/\(e.gone=true->e'.gone=true)/\e.back<=e'.back/\(e'.dN=true->e.dN=true\/Dc A a e.ord)/\(e.last<=A.now/\e.iY<=A.now->e'.last<=A.now/\e'.iY<=A.now)):Cg A a s':=by
 have k:∀(i:Nat) (e:aN),s.l[i]?=some e->∃e',s'.l[i]?=some e'/\e'.ord=e.ord:=by
  grind
 refine⟨λq t p=>by rw[v];exact h.made q t p,λo f u g=>h.out o f (by grind) λe z B=>?_,λe' b n=>?_,λi e' b w=>?_,λi e' b d=>?_,λe' b n=>?_,λe' b q t p=>?_,h.iW,h.Dp,λe' b=>?_,D,by rw[m];exact h.len⟩
 ·have⟨i,d⟩:=vH z;have⟨e',b,r⟩:=k i e d;exact g e' (dG b) (r.trans B)
 ·have⟨i,d⟩:=vH b;have⟨e,c,f,_,_,_,_,l⟩:=j i e' d;rw[f];rcases l.1 n with l|l
  ·exact h.Bl e (dG c) l
  ·exact l
 ·have⟨e,c,f,_,g,x,F,_⟩:=j i e' b;rw[f] at w;have⟨k1,k2,k3,k4⟩:=h.gO i e c w;exact⟨g k1,x k2,o_,o_⟩
 ·have⟨e,c,_,_,g,_⟩:=j i e' b;exact g (h.low i e c o_)
 ·have⟨i,d⟩:=vH b;have⟨e,c,f,_,g,_⟩:=j i e' d;rw[f,v];refine h.new e (dG c) ?_;cases E:e.dN with
  |false=>rfl
  |true=>rw[g E] at n;cases n
 ·have⟨i,d⟩:=vH b;have⟨e,c,f,u,_⟩:=j i e' d;rw[u];rw[f] at p;exact h.bD e (dG c) q t p
 ·have⟨i,d⟩:=vH b;have⟨e,c,_,_,_,_,_,_,y⟩:=j i e' d;exact y (h.tm e (dG c))
theorem Cg.settle{A:dT}{s:bC}(h:Cg A a s){w:List bE}(j:w.length<=8):Cg A a ⟨s.made,Sep.settle w s.l,w⟩:=h.same rfl (vW w s.l) j λi f b=>by
 have d:=(cH.1 b).1;dsimp only at d b;rw[vW] at d;have⟨e,c⟩:∃e,s.l[i]?=some e:=⟨_,bS d⟩
 obtain rfl:f=e.mark (lost w s.l (i+1)):=iN (b.symm.trans (CM (want:=w) c));exact⟨e,c,rfl,rfl,id,λg=>by show lost _ _ _=true;rw[B6 c,g];simp,dV _,λk=>.inl k,id⟩
def Cg.cR{A:dT}{s:bC}(h:Cg A a s)(hi:s.l[i]?=some e)(f:Dc A a e.ord):Cg A a ⟨s.made,s.l.set i e.cR,s.w⟩:=h.same rfl (iM ..) h.wide λj d b=>by
 dsimp only at b;by_cases c:j=i
 ·subst c;rw[PO (cH.1 hi).1] at b;obtain rfl:=iN b;exact⟨e,hi,rfl,rfl,λ_=>rfl,id,dV _,λ_=>.inr f,id⟩
 ·rw[BY (xW c)] at b;exact⟨d,b,rfl,rfl,id,id,dV _,.inl,id⟩
def Cg.pop{A:dT}{s:bC}(h:Cg A a s)(hi:s.l[i]?=some e)(r:i+1=s.l.length)(l:e.dN=true)(g:Dm A a e.ord):Cg A a ⟨s.made,s.l.take i,s.w⟩:=by
 have at_:∀(j:Nat) (x:aN),(s.l.take i)[j]?=some x->j<i/\s.l[j]?=some x:=by
  grind
 have c:∀x∈s.l.take i,x.dN=true:=by
  intro x b;have⟨j,m⟩:=vH b;have⟨f,d⟩:=at_ j x m;exact h.low j x d o_
 refine⟨h.made,λo f d q=>?_,λx b _=>h.Bl x (mD b) (c x b),λj x b g=>?_,λj x b _=>c x (dG b),λx b k=>?_,λx b=>h.bD x (mD b),h.iW,h.Dp,λx b=>h.tm x (mD b),h.wide,by have:=h.len;dsimp only;rw[dR];omega⟩
 ·by_cases n:e.ord=o
  ·subst n;exact⟨h.Bl e (dG hi) l,g⟩
  ·refine h.out o f d λx b p=>?_
   grind [List.getElem?_of_mem,List.getElem?_eq_some_iff,Option.some.inj,List.mem_of_getElem?]
 ·have⟨f,d⟩:=at_ j x b;have:=(h.gO j x d g).2.2.2;omega
 ·grind
def Cg.push{A:dT}{s:bC}(h:Cg A a s){now:Int}(n:0<=now/\now<=A.now)(w:s.l.length<8)(y:∀e,s.l[s.l.length - 1]?=some e->e.dN=true/\e.gone=false)(f:bE):Cg A a ⟨s.made+1,s.l++[sM ⟨⟨a,s.made+1,false⟩,f⟩ now],s.w⟩:=by
 have r:∀x∈s.l,x.dN=true:=by
  intro x b;have⟨j,i⟩:=vH b;have v:=(cH.1 i).1;by_cases l:j+1<s.l.length
  ·exact h.low j x i l
  ·grind
 refine⟨λq d c=>by have:=h.made q d c;dsimp only;omega,λo t u g=>?_,λx b k=>?_,λj x b p=>?_,λj x b i=>?_,λx b k=>?_,λx b q d c=>?_,h.iW,h.Dp,λx b=>?_,h.wide,by dsimp only;rw[bR,xU];omega⟩
 ·dsimp only at u g;have m:=g _ (tJ _ (.head _));dsimp only at m;exact h.out o t o_ λx b=>g x (zN _ b)
 ·rcases eL.1 b with b|b
  ·exact h.Bl x b k
  ·grind
 ·dsimp only at b;rw[List.getElem?_append] at b;split at b
  ·have⟨_,k2,_,k4⟩:=h.gO j x b p;grind
  ·obtain rfl:=eM.1 (dG b);have⟨q,d,c⟩:=p;have:=(h.made q d (by rw[c])).2;grind
 ·grind
 ·grind
 ·rcases eL.1 b with b|b
  ·exact h.bD x b q d c
  ·obtain rfl:=eM.1 b;have:=(h.made q d (by rw[c])).2;grind
 ·rcases eL.1 b with b|b
  ·exact h.tm x b
  ·grind
theorem Cg.again{A:dT}{s:bC}(h:Cg A a s)(hi:s.l[i]?=some e){now:Int}(d:now<=A.now):Cg A a ⟨s.made,s.l.set i (e.dK now),s.w⟩:=h.same rfl (iM ..) h.wide λj f b=>by
 dsimp only at b;by_cases c:j=i
 ·subst c;rw[PO (cH.1 hi).1] at b;obtain rfl:=iN b;refine⟨e,hi,?_⟩
  grind [aN.dK]
 ·rw[BY (xW c)] at b;exact⟨f,b,rfl,rfl,id,id,dV _,.inl,id⟩
theorem Dc.mono{A B:dT}{o:Int}(h:Dc A a o)(l:A.le B):Dc B a o:=by
 have⟨q,c,b⟩:=h;exact⟨q,l.mem c,b⟩
theorem Dm.mono{A B:dT}{o:Int}(h:Dm A a o)(l:A.le B):Dm B a o:=by
 have⟨q,c,b⟩:=h;exact⟨q,l.mem c,b⟩
def Cg.tick{A:dT}{s:bC}(h:Cg A a s){t:Int}(c:A.now<=t):Cg ⟨A.a,t⟩ a s:=⟨h.made,h.out,h.Bl,h.gO,h.low,h.new,h.bD,h.iW,h.Dp,λe b=>⟨BX (h.tm e b).1 c,BX (h.tm e b).2 c⟩,h.wide,h.len⟩
def Cg.other{A:dT}{s:bC}(h:Cg A a s)(hq:q.key.id≠a):Cg (A.add q) a s:=by
 have old:∀p∈A.a++[q],p.key.id=a->p∈A.a:=by
  grind
 refine⟨λp hp hk=>h.made p (old p hp hk) hk,λo h1 h2 h3=>?_,λe he k=>(h.Bl e he k).mono (A.one q),λi e he hu=>?_,h.low,h.new,λe he p hp hk=>h.bD e he p (old p hp (by rw[hk])) hk,(by dsimp only;rw[GY,List.filter_cons_of_neg (by simp[hq]),List.filter_nil,aY];exact h.iW),λA1 A2 x e hx hu=>by
  rcases U4 e with⟨rfl,_⟩|⟨A3,e⟩
  ·exact i! hx hq
  ·exact h.Dp A1 A3 x e hx hu,h.tm,h.wide,h.len⟩
 ·have⟨k1,k2⟩:=h.out o h1 h2 h3;exact⟨k1.mono (A.one q),k2.mono (A.one q)⟩
 ·have⟨p,hp,hk⟩:=hu;exact h.gO i e he ⟨p,old p hp (by rw[hk]),hk⟩
theorem T9{l:List aN}(h:(l.map aN.ord).Pairwise (· < ·)){x y:aN}(hi:l[i]?=some x)(a:l[j]?=some y)(b:x.ord=y.ord):i=j:=by
 grind [List.getElem?_eq_some_iff,List.pairwise_iff_getElem,Nat.lt_trichotomy]
def Cg.add{A:dT}{s:bC}(h:Cg A a s)(hq:q.key.id=a)(hh:uE s q.key q.bD)(hr:(s.l.map aN.ord).Pairwise (· < ·))(hp:∀e∈s.l,1<=e.ord/\e.ord<=s.made)(hn:¬ ∃p∈A.a,p.key=q.key):Cg (A.add q) a s:=by
 have⟨e0,h0,h1,h2,h3⟩:=hh.top;have hm0:=dG h0;refine⟨λp hp' hk=>?_,λo k1 k2 k3=>?_,λe he k=>(h.Bl e he k).mono (A.one q),λi e he hu=>?_,h.low,h.new,λe he p hp' hk=>?_,?_,λA1 A2 x e hx hu=>?_,h.tm,h.wide,h.len⟩
 ·rcases eL.1 hp' with hp'|hp'
  ·exact h.made p hp' hk
  ·grind
 ·have⟨c1,c2⟩:=h.out o k1 k2 k3;exact⟨c1.mono (A.one q),c2.mono (A.one q)⟩
 ·have⟨p,hp',hk⟩:=hu;rcases eL.1 hp' with hp'|hp'
  ·exact h.gO i e he ⟨p,hp',hk⟩
  ·grind [T9,Option.some.inj,List.getElem?_eq_some_iff]
 ·rcases eL.1 hp' with hp'|hp'
  ·exact h.bD e he p hp' hk
  ·grind [List.getElem?_of_mem,T9,Option.some.inj]
 ·dsimp only;rw[GY,wH];refine⟨h.iW,List.Pairwise.filter _ (Cc _ _),λp hp' x hx=>?_⟩;have⟨x1,x2⟩:=uI.1 hx;obtain rfl:=eM.1 x1;have⟨p1,p2⟩:=uI.1 hp';simp only[fI,h!,Ic] at x2 p2;have hm:=(h.made p p1 p2.1).2;have ho:e0.ord=s.made:=by
   rcases h3 with⟨_,h3⟩|⟨h3,_⟩
   ·exact h.new e0 hm0 h3
   ·grind
  have hne:p.key.ord≠x.key.ord:=λe=>hn ⟨p,p1,by
   have⟨⟨pi,po,pu⟩,pw⟩:=p;have⟨⟨xi,xo,xu⟩,xw⟩:=x;dsimp only at *;rw[p2.1,x2.1,p2.2,x2.2,e]⟩
  omega
 ·rcases U4 e with⟨rfl,rfl⟩|⟨A3,e⟩
  ·rcases h3 with⟨h3,_⟩|⟨_,h3,_⟩
   ·grind
   ·rw[<-h1];exact h.Bl e0 hm0 h3
  ·exact h.Dp A1 A3 x e hx hu
def Cg.WT{A:dT}{s:bC}(h:Cg A a s){k:bV}(o:∃q∈A.a,q.key=k):Cg A a (s.cR a k):=by
 unfold bC.cR;by_cases b:k.id=a
 ·cases j:s.l.findIdx? (λe=>decide (e.ord=k.ord)) with
  |none=>rw[Ci (.inr j)];exact h
  |some i =>
   have⟨e,g,f⟩:=Ja j;have f:e.ord=k.ord:=g! f;rw[Gn b j g];have⟨q,l,d⟩:=o;split
   ·rename_i c;simp only[fI,Ic] at c;refine h.cR g ⟨q,l,?_⟩;rw[d,f,<-b,<-c.1]
   ·split
    ·rename_i c;simp only[fI,h!] at c;have⟨m,p,r,n⟩:=c;refine h.pop g n ?_ ⟨q,l,?_⟩
     ·grind [aN.gO]
     ·rw[d,f,<-b,<-m]
    ·exact h
 ·rw[Ci (.inl b)];exact h
def Cg.aCf{A:dT}{s:bC}(h:Cg A a s){now:Int}(b:0<=now/\now<=A.now):Cg A a (s.dK a now):=by
 unfold bC.dK rL;cases c:next a s.made s.l s.w with
 |none=>exact h
 |some q =>
  dsimp only;cases d:jV s.l with
  |some e=>exact h.again (BN d).1 b.2
  |none =>
   unfold next at c;rw[d] at c;obtain⟨_,f,g,rfl⟩:=C3 c;refine h.push b (by have:=(cH.1 g).1;have:=h.wide;omega) (λe i=>?_) f
   grind [Eb,aN.eO]
theorem uE.put{s:bC}{k:bV}(h:uE s k f)(w:List bE):uE (s.put w) k f:=by
 have⟨e,g,i,j,l⟩:=h.top;refine⟨⟨e.mark (lost w s.l (s.l.length - 1+1)),?_,i,j,?_⟩⟩
 ·show(settle w s.l)[(settle w s.l).length - 1]?=_;grind [vW,CM]
 ·rcases l with⟨a,b⟩|⟨a,b,c,d⟩
  ·exact .inl ⟨a,b⟩
  ·exact .inr ⟨a,b,by show lost _ _ _=true;rw[B6 g,c];simp,d⟩
theorem uE.eO{s:bC}{k:bV}(h:uE s k f):∃e,s.l[s.l.length - 1]?=some e/\e.eO=true/\jV s.l=some e:=by
 have⟨e,a,_,_,b⟩:=h.top
 grind [aN.eO,Eb]
theorem uE.dK{s:bC}{k:bV}(h:uE s k f)(a:aL)(now:Int):uE (s.dK a now) k f:=by
 have⟨e,b,_,d⟩:=h.eO;unfold bC.dK rL;cases j:next a s.made s.l s.w with
 |none=>exact h
 |some q =>
  dsimp only;rw[d];have⟨g,c,k1,k2,k3⟩:=h.top;rw[b] at c;obtain rfl:=iN c;have i:=(cH.1 b).1;refine⟨⟨e.dK now,?_,?_⟩⟩;all_goals grind [aN.dK]
def uE.cR{s:bC}{k k':bV}(h:uE s k f)(a:aL)(v:k.id=a):k'=k\/uE (s.cR a k') k f:=by
 unfold bC.cR;by_cases b:k'.id=a
 ·cases j:s.l.findIdx? (λe=>decide (e.ord=k'.ord)) with
  |none=>rw[Ci (.inr j)];exact .inr h
  |some i =>
   have⟨e,d,m⟩:=Ja j;have m:e.ord=k'.ord:=g! m;rw[Gn b j d];have⟨t,g,k1,k2,k3⟩:=h.top;have w:=(cH.1 d).1;split
   ·rename_i c;simp only[fI,Ic] at c;by_cases l:i=s.l.length - 1
    ·subst l;rw[d] at g;obtain rfl:=iN g;rcases k3 with⟨n,_⟩|⟨_,o,_⟩
     ·refine .inl ?_;cases k;cases k';grind
     ·grind
    ·refine .inr ⟨⟨t,?_,k1,k2,k3⟩⟩;grind
   ·split
    ·rename_i c;simp only[fI,h!] at c;have⟨q,p,r,u⟩:=c;have l:i=s.l.length - 1:=o_;subst l;rw[d] at g;obtain rfl:=iN g;unfold aN.gO at p;rcases k3 with⟨_,o⟩|⟨n,_⟩
     ·grind
     ·refine .inl ?_;cases k;cases k';grind
    ·exact .inr h
 ·rw[Ci (.inl b)];exact .inr h
def oA(A:dT)(x:Rc):Prop:=(∀k,x=.cR k->∃q∈A.a,q.key=k)/\∀k t,x=.fH k t->t<=A.now
theorem oA.mono{A B:dT}{x:Rc}(h:oA A x)(l:A.le B):oA B x:=⟨λk a=>by
 have⟨q,b,c⟩:=h.1 k a;exact⟨q,l.mem b,c⟩,λk t a=>BX (h.2 k t a) l.now⟩
def G6{P:Nat->bC->Prop}{s:Sv}{x:Rc}(f:Gd s)(K:x.ok)(h:∀i,P i (s.ps.getD i s0))(t:∀i p w,w.length<=8->P i p->P i (p.put w))
  (m:∀i p k now,x=.fH k now->0<=now->P i p->P i (p.dK (dC s.r i) now)) (l:∀i p k,x=.cR k->P i p->P i (p.cR (dC s.r i) k)):(s.doc x).1.r=s.r/\∀i,P i ((s.doc x).1.ps.getD i s0):=by
 have again:∀ {v:Lg},Vd v->(s.ps.length:Int)<=v.known.get s.r->∀i,P i ((Sv.again ⟨v,s.ps,s.r⟩).ps.getD i s0):=by
  intro v J F i;have⟨b,g⟩:=Gd.I5 J f.rep f.ch F;by_cases N:i<(v.known.get s.r).toNat
  ·grind [oR,Vj]
  ·have D:(Sv.again ⟨v,s.ps,s.r⟩).ps.length<=i:=by
    have e:((Sv.again ⟨v,s.ps,s.r⟩).ps.length:Int)=v.known.get s.r:=b.n;omega
   grind
 have d:∀ {j:Nat} {p:bC},P j p->∀i,P i ((s.ps.set j p).getD i s0):=by
  intro j p H i;rw[qS,Gb];split
  ·rename_i e;subst e;split
   ·exact H
   ·rename_i D;have:=h j;grind
  ·rw[<-qS];exact h i
 have n:∀ {k:bV},k.id.rep=s.r/\1<=k.id.seq/\k.id.seq<=(s.ps.length:Int)->k.id=dC s.r (k.id.seq - 1).toNat:=by
  intro k o;have⟨⟨Q,ks⟩,O,R⟩:=k;grind [dC]
 cases x with
 |cB c =>
  show(s.dB c).1.r=s.r/\∀i,P i ((s.dB c).1.ps.getD i s0);unfold Sv.dB;split
  ·rcases Ff s.v c with⟨b,g⟩|⟨b,g,q,r⟩
   ·rw[b! b];exact⟨rfl,h⟩
   ·rw[c! b,r];have⟨_,u,M,_⟩:=sN.1 q;refine⟨rfl,again (f.v.add K g q) ?_⟩;rw[V4.uP u f.rep,f.n];split
    ·rename_i e;rw[e];omega
    ·exact dV _
  ·exact⟨rfl,h⟩
 |cD a =>
  show(s.nS a).1.r=s.r/\∀i,P i ((s.nS a).1.ps.getD i s0);unfold Sv.nS;split
  ·rcases HQ s.v a with⟨b,g⟩|⟨b,y,c,z,g,q,r,B⟩
   ·rw[b! b];exact⟨rfl,h⟩
   ·rw[c! b,B];exact⟨rfl,again (f.v.uM g r) (by rw[f.n];exact dV _)⟩
  ·exact⟨rfl,h⟩
 |fH k now =>
  show(s.oF k now).1.r=s.r/\∀i,P i ((s.oF k now).1.ps.getD i s0);unfold Sv.oF;split
  ·rename_i E;have A:0<=now:=(g! ((fI _ _).mp E).2:0<=now/\now<=1073741824).1;refine⟨rfl,?_⟩;show ∀i,P i ((AD s.r s.ps k now).1.getD i s0);unfold AD;split
   ·rename_i o;refine d ?_;split
    ·have:=m (k.id.seq - 1).toNat _ k now rfl A (h (k.id.seq - 1).toNat);rw[<-n o] at this;exact this
    ·exact h _
   ·exact h
  ·exact⟨rfl,h⟩
 |cR k =>
  show(s.oW k).1.r=s.r/\∀i,P i ((s.oW k).1.ps.getD i s0);unfold Sv.oW;split
  ·refine⟨rfl,?_⟩;show ∀i,P i ((Aq s.r s.ps k).1.getD i s0);unfold Aq;split
   ·rename_i o;refine d ?_;have:=l (k.id.seq - 1).toNat _ k rfl (h _);rw[<-n o] at this;exact this
   ·exact h
  ·exact⟨rfl,h⟩
def qO(A:dT)(s:Sv):Prop:=∀i:Nat,Cg A (dC s.r i) (s.ps.getD i s0)
def pS(A:dT)(s:Sv)(q:aM):Prop:=(∃p∈A.a,p.key=q.key)\/∃i:Nat,q.key.id=dC s.r i/\uE (s.ps.getD i s0) q.key q.bD
def qO.doc{A:dT}{s:Sv}{x:Rc}(h:qO A s)(e:Gd s)(g:x.ok)(c:oA A x):qO A (s.doc x).1:=by
 have⟨j,l⟩:=G6 (P:=λi p=>Cg A (dC s.r i) p) e g h (λi p w f a=>a.settle f) (λi p k now b d a=>a.aCf ⟨d,c.2 k now b⟩) λi p k b a=>a.WT (c.1 k b);intro i
 grind
def pS.doc{A:dT}{s:Sv}{x:Rc}(h:pS A s q)(hg:Gd s)(hx:x.ok)(ha:oA A x):pS A (s.doc x).1 q:=by
 rcases h with h|⟨i,hi,h⟩
 ·exact .inl h
 ·have key:=G6 (P:=λj p=>(∃p∈A.a,p.key=q.key)\/(j=i->uE p q.key q.bD)) hg hx (λj=>.inr λe=>by rw[e];exact h)
   (λj p w _ hp=>hp.imp id λhp e=>(hp e).put w) (λj p _ now _ _ hp=>hp.imp id λhp e=>(hp e).dK _ now) λj p k hk hp=>by
    rcases hp with hp|hp
    ·exact .inl hp
    ·by_cases e:j=i
     ·subst e;rcases(hp rfl).cR (k':=k) (dC s.r j) hi with h2|h2
      ·have⟨p',h3,h4⟩:=ha.1 k hk
       grind
      ·grind
     ·grind
  rcases key.2 i with h2|h2
  ·exact .inl h2
  ·exact .inr ⟨i,by rw[key.1];exact hi,h2 rfl⟩
theorem pS.mono{A B:dT}{s:Sv}(h:pS A s q)(l:A.le B):pS B s q:=h.imp (λ⟨p,a,b⟩=>⟨p,l.mem a,b⟩) id
theorem D6{r r':Int}(h:dC r i=dC r' j):r=r'/\i=j:=by
 grind [dC]
def qO.add{A:dT}{s:Sv}(h:qO A s)(g:Gd s)(l:q.key.id.rep=s.r->pS A s q)(k:¬ ∃p∈A.a,p.key=q.key):qO (A.add q) s:=by
 intro i;by_cases a:q.key.id=dC s.r i
 ·rcases l (by rw[a];rfl) with b|⟨j,b,f⟩
  ·grind
  ·obtain⟨_,rfl⟩:=D6 (b.symm.trans a);have c:=(g.ch.getD j).2;exact(h j).add b f c.iW (λe d=>⟨by have:=c.may e d;rw[aN.eY] at this;exact this.1.1,c.pos e d⟩) k
 ·exact(h i).other a
def qO.new(r:Int):qO ⟨[],0⟩ ⟨sI,[],r⟩:=λi=>⟨λq hq=>(cZ hq).elim,λo h1 h2 _=>i! (show o<=0 from h2) o_,λe he=>(cZ he).elim,λj e he=>(by cases he),λj e he=>(by cases he),λe he=>(cZ he).elim,λe he=>(cZ he).elim,List.Pairwise.nil,(λA1 A2 q e=>by cases A1<;>cases e),λe he=>(cZ he).elim,bY _,bY _⟩
end
end Go.Proofs.YtmilalkjbojciaaGreat.Sep
