/- Part AP: what it needs. No condition. -/
import Derived.Test.YtmilalkjbojciaaGreatCAN
import Derived.Test.YtmilalkjbojciaaGreatCAL
set_option linter.all false
set_option maxRecDepth 100000
set_option maxHeartbeats 8000000
open Go.Proofs.Tryz
namespace Go.Proofs.YtmilalkjbojciaaGreat.Sep
variable{E:Env}{P:List Ov}{Q:Ending->List aG->Prop}{R:List aG}{X:Type}{a:List aI}{c:aI}{e:aN}{f:FuncId}{g i:Nat}{k:Int}{k':V4}{l:List aI}{ps:List bC}{q:Int}{t t':V4}{v:Lg}{x:r!}{z:LS}{α:Type}
section
open Go.RowKit Reg
open Mem hiding Rd
def Sv.quiet(s:Sv):Bool:=s.v.t.isEmpty&&yU s.ps
def Sv.make(s:Sv)(c:aI):aI×Int :=
 if 48<=s.v.l.length+s.v.t.length then(kU,3)
 else if aI.may ⟨AR (xK (s.v.l++s.v.t)) s.r,Bx s.v+1,c.kind,c.a,c.b,c.n,c.ref⟩ then(⟨AR (xK (s.v.l++s.v.t)) s.r,Bx s.v+1,c.kind,c.a,c.b,c.n,c.ref⟩,0) else(kU,4)
section
variable (E:Env) (g:Nat) (s:Sv) (os:List Ov)
def aCi(k:s.ps.length<=48):G E 139 [pt g] [cT g s os] λe d=>∃c,e=.returned (pt c)/\d=[cT c s os,cT g s os]:=by
 refine vX λa b=>?_;have m:=λM hb=>BJ M g a b s hb;dsimp only[gC];refine p_ func139 ntmps139 ?_
 refine z_ m ?_
 refine rA (l_ [0,1,2,3,5,6,7,8,10,11,12,13] (g_ 4 (g_ 9 (n_ 14 (g_ 15 (n_ 16 .nil)))))) (a_ ?_)
 refine B_ (λM=>X? M a s.r s.ps o_) ?_;intro f
 refine B_ (λM=>SY M b s.v os) ?_;intro h;intros
 rename_i c;refine aX (H':=[cT c s os,cT g s os]) rfl aJ ?_ ⟨c,rfl,rfl⟩;have i:=cT.mk (E:=E) (R:=gC g a b s os) (g:=c) (a:=f) (b:=h) (s:=s) (os:=os);have j:=cT.mk (E:=E) (R:=[cT c s os]) (g:=g) (a:=a) (b:=b) (s:=s) (os:=os);refine aB.trans (aB.cC (l:=gC c f h s os++gC g a b s os) aH) (aB.trans i ?_);refine aB.trans (aB.cC (l:=gC g a b s os++[cT c s os]) aH) (aB.trans j aC)
theorem aRw(k:s.ps.length<=48)(cf:bW)(now:Int):G E 180 [pt g,.agg cf.cs.toArray,.int .i64 now] [cT g s os] λe h=>∃O c,e=.returned (.slice O (gD (mC s.r cf now) s.ps s.ps.length).length c)/\h=[own cF O (gD (mC s.r cf now) s.ps s.ps.length).length c (gD (mC s.r cf now) s.ps s.ps.length),cT g s os]:=by
 refine vX λa b=>?_;have f:=λM hb=>Kv M g a b s hb;have d:=λM=>aEs M a s.r s.ps o_ cf now;generalize gD (mC s.r cf now) s.ps s.ps.length=l at d⊢;dsimp only[gC,bW.cs] at d⊢;refine t_ func180 ntmps180 ?_;refine a_ ?_;intros
 rename_i i;refine rB (l_ [0,2,3] (g_ 1 (g_ 4 (n_ 5 .nil)))) ([aE i 23 _]) ?_;refine a_ ?_
 refine uO f ?_;refine a_ ?_
 refine eI d ?_;rintro e h ⟨O,c,rfl,rfl⟩;refine a_ ?_
 have j:=cT.mk (E:=E) (R:=[own cF O l.length c l]) (g:=g) (a:=a) (b:=b) (s:=s) (os:=os);exact aX (H':=[own cF O l.length c l,cT g s os]) rfl aJ (aB.trans (aB.cC (l:=gC g a b s os++[own cF O l.length c l]) aH) (aB.trans j aC)) ⟨O,c,rfl,rfl⟩
def aHe:G E 79 [pt g] [cT g s os] (bL (.bool s.quiet) [cT g s os]):=by
 refine vX λa b=>?_;have m:=λM hb=>BJ M g a b s hb;have n:=λM=>J2 M b s.v os;have i:=λM=>aOv M a s.r s.ps;have d:=cS;have mk:=cT.mk (E:=E) (R:=[]) (g:=g) (a:=a) (b:=b) (s:=s) (os:=os);rw[aY] at mk;unfold Sv.quiet;generalize yU s.ps=p at i⊢;dsimp only[gC];refine p_ func79 ntmps79 ?_
 refine z_ m ?_;refine aU n ?_;rintro e j ⟨B,k,o,rfl,rfl⟩;refine gk bU ?_;by_cases f:s.v.t.length=0;have c:s.v.t.isEmpty=true:=by rw[List.isEmpty_iff_length_eq_zero];exact f
 rw[c,uC];refine a_ ?_;refine r_ i ?_;rotate_left;have c:s.v.t.isEmpty=false:=by
  cases h:s.v.t.isEmpty
  ·rfl
  ·exact i! (List.isEmpty_iff_length_eq_zero.1 h) f
 rw[c,xP];refine a_ ?_;all_goals
  exact aX (H':=[cT g s os]) rfl aJ (aB.trans (aB.cC (l:=gC g a b s os) aH) mk) ⟨rfl,rfl⟩
end
def V4.nn(v:V4):Prop:=0<=v.a/\0<=v.b/\0<=v.c/\0<=v.d
def aLx{v:V4}(c:aI)(h:v.nn):(AS v c).nn:=by
 unfold AS V4.nn V4.set V4.get at *;repeat' split
 all_goals (try dsimp only at *);omega
def aQi(l:List aI):(xK l).nn:=by
 unfold xK;have:∀(l:List aI) (v:V4),v.nn->(l.foldl AS v).nn:=by
  intro l
  induction l with
  |nil=>exact λv h=>h
  |cons c l a=>exact λv h=>a _ (aLx c h)
 exact this l _ (by unfold V4.nn kZ;decide)
def aQb(E:Env)(v:V4)(r:Int)(b:v.nn):G E 95 [.agg v.cs.toArray,a! r] [] (bL (.agg (AR v r).cs.toArray) []):=by
 unfold V4.nn at b;unfold AR;refine t_ func95 ntmps95 ?_;by_cases h:0<=r/\r<=3
 ·rw[c! h];rcases four h with rfl|rfl|rfl|rfl
  ·rw[show v.get 0=v.a from rfl];by_cases a:65535<=v.a;rw[c! a];rotate_left;rw[b! a];all_goals
    refine a_ ?_;intros;exact gE
  ·rw[show v.get 1=v.b from rfl];by_cases a:65535<=v.b;rw[c! a];rotate_left;rw[b! a];all_goals
    refine a_ ?_;intros;exact gE
  ·rw[show v.get 2=v.c from rfl];by_cases a:65535<=v.c;rw[c! a];rotate_left;rw[b! a];all_goals
    refine a_ ?_;intros;exact gE
  ·rw[show v.get 3=v.d from rfl];by_cases a:65535<=v.d;rw[c! a];rotate_left;rw[b! a];all_goals
    refine a_ ?_;intros;exact gE
 ·rw[b! h];refine a_ ?_;intros;exact gE
def A?(h:v.times.ok):0<=Bx v/\Bx v<9223372036854775807:=by
 unfold V4.ok at h;unfold Bx;omega
section
variable (E:Env) (g:Nat) (s:Sv) (os:List Ov)
theorem aMk(c:aI):G E 31 [pt g,.agg c.cs.toArray] [cT g s os] (bL (.tuple #[.agg (s.make c).1.cs.toArray,.int .i64 (s.make c).2]) [cT g s os]):=by
 refine vX λa b=>?_;refine aF.fact (p:=∃h:Lh,h.os=os/\Lf h s.v) (λw hw=>Si hw (Has.bJ (Has.bJ Has.aR))) λhex=>?_;obtain⟨h0,_,hf⟩:=hex;have is:=λM hb=>BJ M g a b s hb;have cm:=λM=>NG M b s.v os;have tn:=λM=>J2 M b s.v os;have kn:=λM=>Sc M b s.v os;have ck:=λM=>V? M b s.v os;have nx:=λM=>aQb M (xK (s.v.l++s.v.t)) s.r (aQi _);have hlen:=hf.len;have ht:=A? hf.times;have hmax:=cS;unfold Sv.make;generalize xK (s.v.l++s.v.t)=vv at kn nx⊢;generalize Bx s.v=t at ck ht⊢;generalize AR vv s.r=i at nx⊢;have cc:=λM=>Du M ⟨i,t+1,c.kind,c.a,c.b,c.n,c.ref⟩;dsimp only[gC,aI.cs,V4.cs] at kn nx cc⊢;have mk:=cT.mk (E:=E) (R:=[]) (g:=g) (a:=a) (b:=b) (s:=s) (os:=os);rw[aY] at mk;have hm:decide (48<=((s.v.l.length:Int)+(s.v.t.length:Int)))=decide (48<=s.v.l.length+s.v.t.length):=by
  congr 1;exact propext o_
 by_cases h48:48<=s.v.l.length+s.v.t.length
 ·rw[if_pos h48];refine t_ func31 ntmps31 ?_;refine a_ ?_;intros
  refine cV is ?_;refine a_ ?_
  refine rB (l_ [0,1,2,3,6,7,8,9] (g_ 4 (n_ 5 (g_ 10 (l_ [11,12,13] .nil))))) ([aE g 147 _]) ?_;refine a_ ?_
  refine eI cm ?_;rintro e H' ⟨B,k,hk,rfl,rfl⟩;refine a_ ?_
  refine eI tn ?_;rintro e H' ⟨B2,k2,hk2,rfl,rfl⟩;refine a_ ?_
  exact mL (H':=[cT g s os]) rfl aJ rfl rfl rfl aV rfl aJ (aB.trans (aB.cC (l:=gC g a b s os) aH) mk) ⟨rfl,rfl⟩
 ·rw[if_neg h48];refine t_ func31 ntmps31 ?_;refine a_ ?_;intros
  refine cV is ?_;refine a_ ?_
  rename_i g4 g5;refine rB (l_ [0,1,2,3,6,7,8,9] (g_ 4 (n_ 5 (g_ 10 (l_ [11,12,13] .nil))))) ([aE g 147 _]) ?_;refine a_ ?_
  refine eI cm ?_;rintro e H' ⟨B,k,hk,rfl,rfl⟩;refine a_ ?_
  refine eI tn ?_;rintro e H' ⟨B2,k2,hk2,rfl,rfl⟩;refine a_ ?_
  refine rB (l_ [0,1,2,3,5,6,7,8,10,11,12,13] (g_ 4 (g_ 9 (n_ 16 (g_ 14 (n_ 15 (g_ 17 (n_ 18 (g_ 19 .nil))))))))) ([aE g 147 _,eW b s.v os,eF a s.r s.ps]) ?_;refine a_ ?_
  refine cP kn ?_;refine a_ ?_
  refine cP nx ?_;refine a_ ?_
  refine cP ck ?_;refine a_ ?_
  by_cases hmay:aI.may ⟨i,t+1,c.kind,c.a,c.b,c.n,c.ref⟩=true
  ·rw[if_pos hmay] at cc⊢;refine aP cc ?_;refine a_ ?_
   exact mL (H':=[cT g s os]) rfl aJ rfl rfl rfl aV rfl aJ (aB.trans (aB.cC (l:=gC g a b s os) aH) mk) ⟨rfl,rfl⟩
  ·rw[if_neg hmay] at cc⊢;refine aP cc ?_;refine a_ ?_
   exact mL (H':=[cT g s os]) rfl aJ rfl rfl rfl aV rfl aJ (aB.trans (aB.cC (l:=gC g a b s os) aH) mk) ⟨rfl,rfl⟩
end
def aPs{l:List aN}(h:iW q l=true):q+l.length<=yJ q l:=by
 induction l generalizing q with
 |nil=>show q+((0:Nat):Int)<=q;omega
 |cons x l a =>
  change (x.may&&(decide (q<x.ord)&&iW x.ord l))=true at h;rw[fI,fI,h!] at h;have:=a h.2.2;show q+((l.length+1:Nat):Int)<=yJ x.ord l;omega
def aLs{made:Int}{l:List aN}{w:List bE}(h:BS made l=true)(b:∀e∈l,e.ok)(c:∀f∈w,f.ok)(a:w.length<=8):(⟨made,settle w l,w⟩:bC).ok:=by
 unfold BS at h;rw[fI,h!] at h;have:=aPs h.1;exact⟨Ut b,c,by dsimp only;omega,h.2.2,by dsimp only;rw[vW];omega,a⟩
def DC(r:Int)(ps:List bC)(id:aL)(made:Int)(l:List aN):List bC×Bool :=
 if id.rep=r/\1<=id.seq/\id.seq<=(ps.length:Int) then
  (if BS made l then(ps.set (id.seq - 1).toNat ⟨made,settle (ps.getD (id.seq - 1).toNat s0).w l,(ps.getD (id.seq - 1).toNat s0).w⟩,true) else(ps,false))
 else(ps,false)
structure LP(r:Int)(ps:List bC)(chl:List AX):Prop where
 len:chl.length=ps.length
 ok:∀s∈ps,s.ok
 at_:∀(i:Nat) (s:bC),ps[i]?=some s->∃v:AX,chl[i]?=some v/\v.id=dC r i/\v.made=s.made/\v.l=s.l/\v.n=s.l.length/\v.n<=v.c/\v.c<=maxLen
section
variable (E:Env) (g:Nat) (r:Int) (ps:List bC)
def T?(p:ps.length<=1000):G E 100 [pt g] [eF g r ps] λe h=>∃O f a,LP r ps a/\e=.returned (.slice O ps.length f)/\h=[own rY O ps.length f a,aT qV a,eF g r ps]:=by
 refine Bz λx c=>?_;have j:x.ls.length=ps.length:=by rw[<-c.ps,fB]
 refine aF.post (S? E g x.B x.ls.length x.d r x.ls o_ rfl c.ok) ?_;rintro e h ⟨O,f,a,rfl,k,m,rfl⟩;have n:=eF.mk (E:=E) (R:=[own rY O x.ls.length f a,aT qV a]) (g:=g) c;rw[<-j];refine⟨[own rY O x.ls.length f a,aT qV a,eF g r ps],?_,O,f,a,⟨k.trans j,?_,?_⟩,rfl,rfl⟩
 ·refine aB.trans (aB.cC (l:=jA g x.B x.ls.length x.d r x.ls++[own rY O x.ls.length f a,aT qV a]) aH) (aB.trans n aC)
 ·intro s b;rw[<-c.ps,jX] at b;obtain⟨e,d,rfl⟩:=b;obtain⟨i,o,rfl⟩:=oV d;exact(c.ok i _ (bS o)).s
 ·intro i s b;rw[<-c.ps,mM] at b;cases d:x.ls[i]? with
  |none=>rw[d] at b;cases b
  |some e =>
   rw[d] at b;injection b with b;have⟨v,k1,k2,k3,k4,k5,k6,k7⟩:=m i e d;exact⟨v,k1,k2.trans (c.ok i e d).id,by rw[k3,<-b];rfl,by rw[k4,<-b];rfl,by rw[k5,<-b];exact(c.ok i e d).n,k6,k7⟩
def aFm(K:ps.length<=1000)(id:aL)(made:Int)(A:n!)(m c:Nat)(l:List aN)(o:Rd E gI A m c l)(J:m<=1000000)(u:∀e∈l,e.ok) :
  G E 366 [pt g,.agg #[a! id.rep,a! id.seq,a! made,.slice A m c]] [eF g r ps] (bL (.bool (DC r ps id made l).2) [eF g r (DC r ps id made l).1]):=by
 refine Bz λx d=>?_;have H:x.ls.length=ps.length:=by rw[<-d.ps,fB]
 have q:=eF.mk (E:=E) (R:=[]) (g:=g) d;rw[aY] at q;unfold DC;by_cases h:id.rep=r/\1<=id.seq/\id.seq<=(ps.length:Int)
 ·rw[c! h];have⟨e,n,f,t,i,z⟩:=NK r ps d (k:=⟨id,0,false⟩) h;dsimp only at n f t i z;rw[z];have⟨F,_,_⟩:=h;subst F;by_cases a:BS made l=true
  ·rw[c! a];have j:=(d.ok _ _ n).s;have b:=aBh E g x.B x.ls.length x.d id.rep x.ls (id.seq - 1).toNat o_ f d.ok n made A m c l o J a (aLs a u j.D1 j.wide);rw[<-i] at b;refine aF.post b ?_;rintro D w ⟨v,rfl,k1,k2,k3,rfl⟩;rw[d.ps] at k3;have p:=eF.mk (E:=E) (R:=[]) (g:=g) (x:=⟨x.B,x.d,v⟩) (r:=id.rep) ⟨k1,k3,by dsimp only;rw[k2];exact d.cap⟩;dsimp only at p;rw[k2,aY] at p;exact⟨_,p,rfl,rfl⟩
  ·rw[b! a];have b:=λM o=>aMb M g x.B x.ls.length x.d id.rep x.ls (id.seq - 1).toNat o_ f n made A m c l o (by simpa using a);rw[<-i] at b;refine aF.post (aF.lR (Hp:=[lg g x.B x.ls.length x.d id.rep,own iF x.B x.ls.length x.d x.ls]) (R:=[aT fU x.ls,aT iA x.ls]) λM y=>b M (o.sub y)) ?_;rintro D w ⟨B,⟨rfl,rfl⟩,rfl⟩;exact⟨_,q,rfl,rfl⟩
 ·rw[b! h];refine aF.post (aF.lR (Hp:=[lg g x.B x.ls.length x.d r]) λM y=>aFu M g x.B x.ls.length x.d r ⟨id,made,A,m,c,l⟩ o_ (by rw[H];exact h)) ?_;rintro e w ⟨B,⟨rfl,rfl⟩,rfl⟩;exact⟨_,q,rfl,rfl⟩
end
section
variable (E:Env) (g:Nat) (s:Sv) (os:List Ov)
def U8(k:s.ps.length<=48):G E 32 [pt g] [cT g s os] λe i=>∃O d c,LP s.r s.ps c/\e=.returned (.slice O s.ps.length d)/\i=[own rY O s.ps.length d c,aT qV c,cT g s os]:=by
 refine vX λa b=>?_;have f:=λM hb=>Kv M g a b s hb;have h:=λM=>T? M a s.r s.ps o_;have mk:=λO d c=>cT.mk (E:=E) (R:=[own rY O s.ps.length d c,aT qV c]) (g:=g) (a:=a) (b:=b) (s:=s) (os:=os);dsimp only[gC];refine p_ func32 ntmps32 ?_
 refine z_ f ?_
 refine u_ h ?_;intro O d c j
 exact aX (H':=[own rY O s.ps.length d c,aT qV c,cT g s os]) rfl aJ (aB.trans (aB.cC (l:=gC g a b s os++[own rY O s.ps.length d c,aT qV c]) aH) (aB.trans (mk O d c) aC)) ⟨O,d,c,j,rfl,rfl⟩
def Sv.load(s:Sv)(id:aL)(made:Int)(l:List aN):Sv×Bool:=(⟨s.v,(DC s.r s.ps id made l).1,s.r⟩,(DC s.r s.ps id made l).2)
theorem aQe(n:s.ps.length<=48)(id:aL)(made:Int)(A:Option Addr)(m c:Nat)(l:List aN)(i:Rd E gI A m c l)(k:m<=1000000)(h:∀e∈l,e.ok) :
  G E 329 [pt g,.agg #[.int .i64 id.rep,.int .i64 id.seq,.int .i64 made,.slice A m c]] [cT g s os] (bL (.bool (s.load id made l).2) [cT g (s.load id made l).1 os]):=by
 refine vX λa b=>?_;have d:=λM hb=>Kv M g a b s hb;have f:=λM i=>aFm M a s.r s.ps o_ id made A m c l i k h;unfold Sv.load;generalize DC s.r s.ps id made l=q at f⊢;have mk:=cT.mk (E:=E) (R:=[]) (g:=g) (a:=a) (b:=b) (s:=⟨s.v,q.1,s.r⟩) (os:=os);rw[aY] at mk;dsimp only[gC];refine t_ func329 ntmps329 ?_;refine a_ ?_;intros
 rename_i j;refine rB (l_ [0,2] (g_ 1 (g_ 3 (n_ 4 .nil)))) ([aE j 90 _]) ?_;refine a_ ?_
 refine uO d ?_;refine a_ ?_
 refine uO f ?_;refine a_ ?_
 exact aX (H':=[cT g ⟨s.v,q.1,s.r⟩ os]) rfl aJ (aB.trans (aB.cC (l:=gC g a b ⟨s.v,q.1,s.r⟩ os) aH) mk) ⟨rfl,rfl⟩
end
def yK(l:List aI):o!:=if 48<l.length then[] else if l.all aI.may then jN l else[]
def Ah(e:aN):o!:=if e.may then e.put else[]
def rX(s:bC):o!:=[UInt8.ofNat s.made.toNat,UInt8.ofNat s.l.length]++s.l.flatMap Ah
def kA(s:Sv):o!:=(yK s.v.l++yK s.v.t)++s.ps.flatMap rX
def RW{b:Type}{f:α->List b}{l:List α}{x:α}(a:l[i]?=some x):(l.take (i+1)).flatMap f=(l.take i).flatMap f++f x:=by
 rw[take_succ a,E0];simp
section
variable (E:Env)
def R0(A:n!)(n c:Nat)(b:o!)(r:n<=1000000)(B:n!)(k d:Nat)(l:List aI)(i:Rd E bO B k d l) :
  G E 90 [.slice A n c,.slice B k d] [own bH A n c b] λe o=>∃g f a,(f<=n+1057/\f<=a/\a<=maxLen)/\e=.returned (.slice g f a)/\o=[own bH g f a (b++yK l)]:=by
 have q:=i.len;have m:=cS;unfold yK;by_cases h:48<k
 ·rw[c! o_];refine p_ func90 ntmps90 ?_;refine z_ (λM p=>Xk M _ _ _ l p h) ?_;intros;exact aX rfl aJ aC (⟨_,_,_,⟨o_,o_,o_⟩,rfl,by rw[aY]⟩)
 ·rw[b! o_];have all:=λM i=>QJ M B k d l i o_;unfold GK at all;cases j:l.all aI.may with
  |true =>
   rw[j] at all;rw[c! rfl];refine p_ func90 ntmps90 ?_;refine C_ all ?_;intro g a;intros;exact aX rfl aJ aC (⟨_,_,_,⟨o_,o_,o_⟩,rfl,rfl⟩)
  |false =>
   rw[j] at all;rw[b! sD];refine p_ func90 ntmps90 ?_;refine z_ all ?_;intros;exact aX rfl aJ aC (⟨_,_,_,⟨o_,o_,o_⟩,rfl,by rw[aY]⟩)
end
section
variable {E:Env} {H H' R:List aG} {N:Nat} {F:Nat->p!} {o:Oper} {ρ:r!->p!} {m:Option Nat} {ks:List bV}
def V.aQy{t k e:q!}{v:p!}{u:World}(a:o.op=.makeInterface t x)(d:ρ x=v)(b:prog.underlying t=some (.map k e)):(execOp ρ o).run prog u=.ok (.value (.iface t v)) u:=by
 simp[execOp,a,d,Instr.makeInterface,run_underlying b]
def V.W8{t f k e:q!}{v:p!}{u:World}(a:o.op=.typeAssert x f t false)(d:ρ x=.iface t v)(b:prog.underlying t=some (.map k e)):(execOp ρ o).run prog u=.ok (.value v) u:=by
 simp[execOp,a,d,Instr.typeAssert,run_underlying b,Result.andThen]
def S.YH{j:Func}{t:q!}{s:Array q!}(Q:o.op=.call { callee:=.value (.func f),args:=#[x],argTypes:=s })(U:ev F x=.iface t (.map (some g)))
  (K:prog.funcs[f]?=some j) (i:(j.name == "runtime.NumGoroutine")=false) (hb:j.body.isNone=true) (O:Extern.findNext j=none) (J:Extern.find j=some Extern.MapsClone.clone) (M:Has (pN (some g) ks) H R) :
  dF prog N E F H o λr y=>∃v,r=.iface t (.map (some v))/\y=pN (some v) ks::H:=by
 intro a u D w X Z B;have⟨W,⟨_,z⟩,_⟩:=w.has M;have p:(Extern.MapsClone.clone #[.iface t (.map (some g))]).run prog u=.ok (.iface t (.map (some u.heap.size))) (u.alloc (.map (B8 ks) ks.length)):=by
  have e:Extern.MapsClone.clone #[.iface t (.map (some g))]=(getObj g >>= λo=>match o with
   | .map entries clock=>(newObj (.map entries clock) >>= λn=>pure (.iface t (.map (some n))))
   |_=>stuck "maps.clone: a map expected"):=rfl
  rw[e];simp[Ge z,Result.andThen,go_sem]
 have k:(execOp (ev F) o).run prog u=.ok (.value (.iface t (.map (some u.heap.size)))) (u.alloc (.map (B8 ks) ks.length)):=by
  have d:=run_callFunc_extern (P:=prog) K i hb O J #[.iface t (.map (some g))] u;rw[p] at d;have q:ev F (.func f)=.func (.func f) #[] #[]:=rfl;unfold execOp;simp only[Q,resolve,q,U,Deferred.ofValue,invoke,iE,mY,iO,Dh,jL,tI];simpa using d
 unfold Oper.wp;rw[D.eval,k];refine B _ _ _ ⟨_,rfl,rfl⟩ ?_;exact w.grow (l:=[pN (some u.heap.size) ks]) rfl rfl rfl s_ (λb hb=>CT _ _ _ hb) (F1:=λb=>b=u.heap.size) ⟨_,λ_=>False,λb=>by simp,λb _ h=>h,⟨λb=>oB,heap_alloc_new _ _⟩,λb h=>h⟩ (λb hb=>by omega)
end
section
variable (E:Env) (g:Nat) (m:Option Nat) (A:n!) (n c:Nat) (r:Int) (l:List aM)
def aLf(ks:List bV):aF prog E 150 #[.map m] [pN m ks] λe H'=>∃a,e=.returned (.map a)/\(a=none->m=none)/\H'=[pN a ks,pN m ks]:=by
 refine t_ func150 ntmps150 ?_;cases m with
 |none =>
  refine C.conv (H':=[pN none ks,pN none ks]) (λw b=>?_) ?_
  ·obtain⟨F,⟨rfl,_⟩,_⟩:=b.has (R:=[]) Has.aR;exact aB.S6 w b
  refine j_ ?_;exact dS ⟨none,rfl,λ_=>rfl,rfl⟩
 |some f =>
  refine j_ ?_;refine L.val sD (λ_ _=>V.aQy rfl rfl rfl) ?_;refine L.lI sD (S.YH rfl rfl func212 q_ q_ q_ q_ aV) ?_;rintro _ _ ⟨d,rfl,rfl⟩;refine L.val sD (λ_ _=>V.W8 rfl rfl rfl) (j_ ?_);exact aX rfl aJ aC (⟨some d,rfl,λh=>(by cases h),rfl⟩)
def e9(j:AY m n c r l)(s:n<=1000000000):aF prog E 84 #[.pointer (some ⟨g,0,none⟩)] (sC g m A n c r l) λe H'=>∃k b d a,e=.returned (.pointer (some ⟨k,0,none⟩))/\AY b n a r l/\H'=[gt k b d n a r,pN b (l.map aM.key),own cF d n a l,gt g m A n c r,pN m (l.map aM.key),own cF A n c l]:=by
 unfold sC;refine I_ func84 ntmps84 ?_
 refine rA (l_ [0,1,2,3,5,7,8,9,10] (g_ 4 (g_ 6 (n_ 11 (g_ 12 (n_ 13 .nil)))))) (j_ ?_)
 refine eI (λM=>aLf M m (l.map aM.key)) ?_;rintro e H' ⟨b,rfl,i,rfl⟩;refine j_ ?_
 refine AV (λM q=>Rj M g m A n c r l q s) ?_;rintro e H' ⟨d,a,rfl,f,rfl⟩;refine j_ ?_;intros
 rename_i p;exact dS (⟨p,b,d,a,rfl,⟨j.hn,f,λh=>j.hm (i h),j.hr⟩,rfl⟩)
end
structure Gh where
 m:Option Nat
 A:Option Addr
 c:Nat
def eX(g:Nat)(r:Int)(l:List aM):aG:=pack λ(x:Gh)=>mS (AY x.m l.length x.c r l)::sC g x.m x.A l.length x.c r l
theorem eX.mk{r:Int}{l:List aM}{x:Gh}(f:AY x.m l.length x.c r l):aB E (sC g x.m x.A l.length x.c r l++R) (eX g r l::R):=λw e=>by
 have c:St E (mS (AY x.m l.length x.c r l)::sC g x.m x.A l.length x.c r l++R) w:=aB.qH f w e;exact c.conv λF d=>by
  have⟨a,b,k1,k2,k3,k4⟩:=jU.1 d;exact⟨F,⟨a,b,k1,k2,⟨x,k3⟩,k4⟩,λ_ h=>h⟩
def Ji{args:Array p!}{r:Int}{l:List aM}(h:∀x:Gh,AY x.m l.length x.c r l->aF prog E f args (sC g x.m x.A l.length x.c r l) Q):aF prog E f args [eX g r l] Q:=by
 intro a w j;have⟨x,d⟩:=j.unpack (l:=λ(x:Gh)=>mS (AY x.m l.length x.c r l)::sC g x.m x.A l.length x.c r l) Has.aR;have i:=St.qH (H:=_) (R:=_) d Has.aR;refine h x i a w (d.conv λF c=>?_);have⟨k,e,k1,k2,k3,k4⟩:=c;exact⟨e,by simpa using k4,λb hb=>(k1 b).2 (.inr hb)⟩
def tR(r:Int)(l:List aM)(q:aM):(Int×List aM)×Bool :=
 if q.key∈l.map aM.key then((r,l),true) else if 0<r then((r - 1,l),false) else((r,l++[q]),true)
section
variable (E:Env) (g:Nat) (r:Int) (l:List aM)
def j7(q:aM)(n:l.length<=1000000):G E 29 [pt g,.agg q.cs.toArray] [eX g r l] (bL (.bool (tR r l q).2) [eX g (tR r l q).1.1 (tR r l q).1.2]):=by
 refine Ji λx a=>?_;have b:=eX.mk (E:=E) (R:=[]) (g:=g) a;rw[aY] at b;unfold tR;by_cases c:q.key∈l.map aM.key
 ·rw[c! c];refine aF.post (l6 E g x.m x.A l.length x.c r l q c) ?_;rintro e f ⟨rfl,rfl⟩;exact⟨_,b,rfl,rfl⟩
 ·rw[b! c];have k:=a.hr;by_cases d:0<r
  ·rw[c! d];refine aF.post (j9 E g x.m x.A l.length x.c r l q c ⟨d,k.2⟩) ?_;rintro e f ⟨rfl,rfl⟩;have b:=eX.mk (E:=E) (R:=[]) (g:=g) (x:=x) (r:=r - 1) (l:=l) ⟨a.hn,a.hc,a.hm,o_⟩;rw[aY] at b;exact⟨_,b,rfl,rfl⟩
  ·rw[b! d];refine aF.post (j8 E g x.m x.A l.length x.c r l a q c o_ o_) ?_;rintro e f ⟨m,i,j,rfl,k1,rfl⟩;have h:=eX.mk (E:=E) (R:=[]) (g:=g) (x:=⟨m,i,j⟩) (r:=r) (l:=l++[q]) (by rw[bR];exact k1);rw[aY,bR] at h;exact⟨_,h,rfl,rfl⟩
def o7(n:Int):G E 127 [pt g,a! n] [eX g r l] (bL (.tuple #[]) [eX g (fC n 0 255) l]):=by
 refine Ji λx a=>?_;refine aF.post (aF.lR (Hp:=[gt g x.m x.A l.length x.c r]) λM _=>o6 M g x.m x.A l.length x.c r n) ?_;rintro e c ⟨d,⟨rfl,rfl⟩,rfl⟩;have b:=eX.mk (E:=E) (R:=[]) (g:=g) (x:=x) (r:=fC n 0 255) (l:=l) ⟨a.hn,a.hc,a.hm,by unfold fC;split<;>(try split)<;>omega⟩;rw[aY] at b;exact⟨_,b,rfl,rfl⟩
def Jh(m:l.length<=1000000):G E 22 [pt g] [eX g r l] λe b=>∃A c,(l.length<=c/\c<=maxLen)/\e=.returned (.slice A l.length c)/\b=[own cF A l.length c l,eX g r l]:=by
 refine Ji λx j=>?_;refine aF.post (aF.lR (Hp:=[gt g x.m x.A l.length x.c r]) λM i=>Rj M g x.m x.A l.length x.c r l (Sub.own i (.bJ .aR)) o_) ?_;rintro e b ⟨k,⟨a,d,rfl,f,rfl⟩,rfl⟩;have h:=eX.mk (E:=E) (R:=[own cF a l.length d l]) (g:=g) j;exact⟨_,aB.trans (aB.cC (.cons .aR (.cons (.bJ .aR) (.cons (.bJ .aR) (.cons .aR .nil))))) (aB.trans h (aB.cC (.cons (.bJ .aR) (.cons .aR .nil)))),a,d,f,rfl,rfl⟩
def j6(m:l.length<=1000000):G E 84 [pt g] [eX g r l] λe b=>∃c,e=.returned (pt c)/\b=[eX c r l,eX g r l]:=by
 refine Ji λx d=>?_;refine aF.post (e9 E g x.m x.A l.length x.c r l d o_) ?_;rintro e b ⟨a,k,f,h,rfl,k1,rfl⟩;have i:=eX.mk (E:=E) (R:=sC g x.m x.A l.length x.c r l) (g:=a) (x:=⟨k,f,h⟩) k1;have j:=eX.mk (E:=E) (R:=[eX a r l]) (g:=g) d;refine⟨[eX a r l,eX g r l],aB.trans i (aB.trans (aB.cC (.cons (.bJ .aR) (.cons (.bJ .aR) (.cons (.bJ .aR) (.cons .aR .nil))))) (aB.trans j (aB.cC (.cons (.bJ .aR) (.cons .aR .nil))))),a,rfl,rfl⟩
end
def Y9(E:Env)(e:aN):G E 91 [.agg e.cs.toArray] [] λr c=>∃a h b,h<=27/\r=.returned (.slice a h b)/\c=[own bH a h b (Ah e)]:=by
 unfold Ah;cases i:e.may with
 |true=>exact aF.mono (RH E e i) λr c ⟨a,b,d,f⟩=>⟨a,27,b,bM _,d,f⟩
 |false=>exact aF.post (RG E e i) λr c ⟨d,f⟩=>⟨[own bH none 0 0 []],by rw[f];exact aB.nil bH,none,0,0,o_,d,rfl⟩
def HE{l:List X}{x:X}(h:l[i]?=some x):l=(l.eraseIdx i).take i++x::(l.eraseIdx i).drop i:=by
 rw[<-JV (cH.1 h).1,CL h]
section
variable (E:Env) (g:Nat) (s:Sv) (os:List Ov)
def v9(N:s.ps.length<=48)(c6:0<=s.r):G E 27 [pt g] [cT g s os] λe w=>∃A n c,(n<=1000000/\n<=c/\c<=maxLen)/\e=.returned (.slice A n c)/\w=[own bH A n c (kA s),cT g s os]:=by
 have a8:=cS;have eU:=λM=>VB M g s os;have U:=λM=>VD M g s os;have cL:=λM=>U8 M g s os N;unfold kA;generalize H:yK s.v.l++yK s.v.t=Z;refine p_ func27 ntmps27 ?_
 refine r_ U ?_;refine u_ eU ?_;intro g2;refine u_ (λM=>NG M g2 s.v os) ?_;intro B k hk;refine L.conv (aB.nil bH) ?_;refine cl sD sK aH (λM hE=>R0 M none 0 0 [] o_ B _ k s.v.l bK) ?_;rintro e w ⟨A1,n1,c1,⟨h1,h2,h3⟩,rfl,rfl⟩;refine a_ ?_;refine u_ (λM=>J2 M g2 s.v os) ?_;intro B2 k2 b5;refine cl sD sK aH (λM hE=>R0 M A1 n1 c1 _ o_ B2 _ k2 s.v.t bK) ?_;rintro e w ⟨A2,n2,c2,⟨h4,D,h6⟩,rfl,rfl⟩;rw[jD,H];refine a_ ?_;refine u_ cL ?_;intro O z a hc;have⟨J,K,F⟩:=hc;refine C.scan (Y:=n!×Nat×Nat) J.symm (λi y=>[(4,.slice y.1 y.2.1 y.2.2),(21,.slice O s.ps.length z),(22,a! s.ps.length),(23,a! i)]) (λi y=>[own bH y.1 y.2.1 y.2.2 (Z++(s.ps.take i).flatMap rX),own rY O s.ps.length z a,aT qV a,cT g s os])
  (λi y=>y.2.1<=2114+6887*i/\y.2.1<=y.2.2/\y.2.2<=maxLen) (A2,n2,c2) aK (by dsimp only;rw[qU,GZ,aY];exact aC) ⟨by dsimp only;omega,D,h6⟩ ?_ ?_
 ·rintro i ⟨A,n,c⟩ x G hi Q ⟨k1,k2,k3⟩;dsimp only at k1 k2 k3⊢;have P:s.ps[i]?=some s.ps[i]:=bS hi;have⟨v,h,t,q,q4,u,q5,q6⟩:=F i _ P;rw[Q] at h;injection h with h;subst h;have o:=K _ (dG P);rw[RW P,<-bF];generalize s.ps[i]=p at *;generalize Z++(s.ps.take i).flatMap rX=b;have⟨id,a9,X,m,d,l⟩:=x;dsimp only at t q q4 u q5 q6;subst q q4 u;have b6:=o.len;have b7:=o.vR;have b8:=o.qC;have b9:p.l.length<=maxLen:=o_;rw[show b++rX p=b++[UInt8.ofNat p.made.toNat,UInt8.ofNat p.l.length]++p.l.flatMap Ah from(bF ..).symm];refine a_ ?_;intros;rename_i gx gs A0 c0 h4 D;rw[show(p.made % 256).toNat=p.made.toNat by omega,show(((p.l.length:Nat):Int) % 256).toNat=p.l.length by omega];generalize b2:b++[UInt8.ofNat p.made.toNat,UInt8.ofNat p.l.length]=b1;refine C.conv (aB.out (f:=qV) (l:=a) aV Q) ?_;refine C.scan (Y:=n!×Nat×Nat) (l:=p.l) rfl (λj y=>[(4,.slice y.1 y.2.1 y.2.2),(21,.slice O s.ps.length z),(22,a! s.ps.length),(23,a! i),(38,.slice X p.l.length d),(39,a! p.l.length),(40,a! j)])
   (λj y=>[own bH y.1 y.2.1 y.2.2 (b1++(p.l.take j).flatMap Ah),own gI X p.l.length d p.l,own rY O s.ps.length z a,aT qV (a.eraseIdx i),cT g s os])
   (λj y=>y.2.1<=2114+6887*i+2+27*j/\y.2.1<=y.2.2/\y.2.2<=maxLen) (A0,n+2,c0) aK (by dsimp only;rw[qU,GZ,aY];exact aC) ⟨by dsimp only;omega,h4,D⟩ ?_ ?_
  ·rintro j ⟨W,R,c3⟩ e G hj he ⟨h,t,q⟩;dsimp only at h t q⊢;refine a_ ?_;intros;refine aU (λM=>Y9 M e) ?_;rintro r w ⟨O2,n4,c4,h7,rfl,rfl⟩;refine a_ ?_;intros;rename_i A5 c5 h8 h9;exact⟨(A5,R+n4,c5),aK,(by dsimp only;rw[RW he,<-bF];exact aC),⟨by dsimp only;omega,h8,h9⟩⟩
  ·rintro⟨W,R,c3⟩ G ⟨h,t,q⟩;dsimp only at h t q⊢;rw[gY];refine a_ ?_;refine⟨(W,R,c3),aK,aB.trans (aB.nC (f:=qV) (l:=a.eraseIdx i) (l':=a) aH (HE Q)) aC,⟨by dsimp only;omega,t,q⟩⟩
 ·rintro⟨A,n,c⟩ G ⟨k1,k2,k3⟩;dsimp only at k1 k2 k3⊢;rw[fX o_];refine a_ ?_;exact aX rfl aJ aC (⟨_,_,_,⟨o_,k2,k3⟩,rfl,rfl⟩)
end
def aZ(A B:List aG):Prop:=∀F w,fG A F w->∃a,fG B a w/\∀b,a b->F b
section
variable {A B C' A' B':List aG} {E:Env} {H R:List aG}
theorem aZ.refl:aZ A A:=λF _ h=>⟨F,h,λ_ h=>h⟩
theorem aZ.trans(h:aZ A B)(k:aZ B C'):aZ A C':=λF w c=>by
 have⟨a,b,e⟩:=h F w c;have⟨d,f,g⟩:=k a w b
 grind
theorem aZ.append(h:aZ A B)(k:aZ A' B'):aZ (A++A') (B++B'):=λF w r=>by
 have⟨d,e,s,m,n,o⟩:=jU.1 r;have⟨a,f,g⟩:=h d w n;have⟨c,i,j⟩:=k e w o;refine⟨λb=>a b\/c b,jU.2 ⟨a,c,λ_=>oB,λb hb q=>m b (g b hb) (j b q),f,i⟩,?_⟩
 grind
theorem aZ.cons{x y:aG}(h:aZ [x] [y])(k:aZ A' B'):aZ (x::A') (y::B'):=aZ.append h k
def aZ.cC(h:fJ B A R):aZ A B:=λF w a=>by
 have⟨b,c,d,e,f,g⟩:=jU.1 (h.fG a)
 grind
def aB.imp(h:aZ A B)(a:fJ A H R):aB E H (B++R):=λw c =>
 (c.cC a).conv λF b=>by
  have⟨d,e,f⟩:=(h.append aZ.refl) F w b
  grind
theorem aB.eG(h:aZ H R):aB E H R:=λw b=>b.conv λF a=>h F w a
def aZ.pack{l:X->List aG}(x:X):aZ (l x) [Sep.pack l]:=λF w a =>
 ⟨F,⟨F,λ_=>False,λb=>by simp,λ_ _ h=>h,⟨x,a⟩,λ_ h=>h⟩,λ_ h=>h⟩
def aZ.qH{p:Prop}(a:p):aZ A (mS p::A):=λF w b =>
 ⟨F,⟨λ_=>False,F,λb=>by simp,λ_ h=>h.elim,⟨a,λ_ h=>h⟩,b⟩,λ_ h=>h⟩
def aZ.one{x y:aG}(h:∀F w,x.holds F w->y.holds F w):aZ [x] [y]:=λF _w ⟨a,b,c,d,e,f⟩=>⟨F,⟨a,b,c,d,h _ _ e,f⟩,λ_ h=>h⟩
end
def tQ(p:X->Prop)(l:X->List aG):aG:=pack λx=>mS (p x)::l x
section
variable {X:Type} {p:X->Prop} {l:X->List aG} {E:Env} {H R H':List aG} {P:t!} {N:Nat} {F:Nat->p!} {Q:QF}
def aZ.fp{x:X}(a:p x):aZ (l x) [tQ p l]:=(aZ.qH a).trans (aZ.pack (l:=λx=>mS (p x)::l x) x)
def aB.fp{x:X}(b:p x)(a:fJ (l x) H R):aB E H (tQ p l::R):=aB.imp (aZ.fp b) a
def St.Jf{w:World}(g:St E H w)(e:Has (tQ p l) H R):∃x,p x/\St E (l x++R) w:=by
 have⟨x,c⟩:=g.unpack e;have f:=St.qH (H:=_) (R:=_) c Has.aR;refine⟨x,f,c.conv λF a=>?_⟩;have⟨h,d,k1,k2,k3,k4⟩:=a;exact⟨d,k4,λb hb=>(k1 b).2 (.inr hb)⟩
def aF.fp{args:Array p!}{Qt:Ending->List aG->Prop}(hh:Has (tQ p l) H R)(h:∀x,p x->aF P E f args (l x++R) Qt):aF P E f args H Qt:=λhd w hw=>by
 have⟨x,hx,hs⟩:=hw.Jf hh;exact h x hx hd w hs
def aF.Jg{args:Array p!}{Qt:Ending->List aG->Prop}(hh:Has (tQ p l) H R)(h:(∃x,p x)->aF P E f args H Qt):aF P E f args H Qt:=λhd w hw=>by
 have⟨x,hx,hs⟩:=hw.Jf hh;exact h ⟨x,hx⟩ hd w hw
def aZ.Mr{b:X->Prop}(h:∀x,p x->b x):aZ [tQ p l] [tQ b l]:=aZ.one λF w ⟨x,i⟩=>by
 have⟨c,d,e,f,a,g⟩:=i;exact⟨x,c,d,e,f,⟨h x a.1,a.2⟩,g⟩
end
def aF.beside{P:t!}{args:Array p!}{Hp:List aG}(h:∀M,Sub E R M->aF P M f args Hp Q):aF P E f args (Hp++R) (λe H'=>∃a,Q e a/\H'=a++R):=aF.lR h
def aZ.Ys{f:X->aG}{l m:List X}:aZ [aT f l,aT f m] [aT f (l++m)]:=λF w o=>by
 have⟨c,q,i,j,k,d,r,a,s,e,g⟩:=o;refine⟨F,⟨F,λ_=>False,λb=>by simp,λ_ _ h=>h,?_,λ_ h=>h⟩,λ_ h=>h⟩;show fG ((l++m).map f) F w;rw[gP];refine jU.2 ⟨c,d,λb=>?_,λb hb n=>j b hb ((a b).2 (.inl n)),k,e⟩;rw[i b,a b];have:=g b
 grind
def IN(z:LS)(k:Int)(w:WL):Prop:=w.ok/\w.s=z/\w.wr<=k
def iL(g gd:Nat)(z:LS)(k:Int):aG:=tQ (IN z k) (qN g gd)
structure Ig where
 wr:Int
 A:Option Addr
 c:Nat
 l:List mF
structure Ie(z:LS)(k:Int)(x:Ig):Prop where
 d:flat x.l=z.D
 n:x.l.length=2*z.N+1
 n0:1<=z.N
 n1:z.N<=64
 w0:0<=x.wr
 w1:x.wr<=k
def Dx(gd:Nat)(z:LS)(x:Ig):List aG:=lN gd true z.dead z.aO x.wr x.A (2*z.N+1) x.c x.l
def kI(gd:Nat)(z:LS)(k:Int):aG:=tQ (Ie z k) (Dx gd z)
theorem iL.mk{gd:Nat}{w:WL}(h:IN z k w):aZ (qN g gd w) [iL g gd z k]:=aZ.fp (X:=WL) (p:=IN z k) (l:=qN g gd) (x:=w) h
theorem kI.mk{gd:Nat}{x:Ig}(h:Ie z k x):aZ (Dx gd z x) [kI gd z k]:=aZ.fp (X:=Ig) (p:=Ie z k) (l:=Dx gd z) (x:=x) h
theorem iL.mono{gd:Nat}{k':Int}(h:k<=k'):aZ [iL g gd z k] [iL g gd z k']:=aZ.Mr λ_ a=>⟨a.1,a.2.1,BX a.2.2 h⟩
theorem kI.mono{gd:Nat}{k':Int}(h:k<=k'):aZ [kI gd z k] [kI gd z k']:=aZ.Mr λ_ a=>⟨a.d,a.n,a.n0,a.n1,a.w0,BX a.w1 h⟩
def WL.ok.dk{w:WL}(h:IN z k w):Ie z k ⟨w.wr,w.A,w.c,w.jG⟩:=by
 obtain⟨a,rfl,b⟩:=h;exact⟨rfl,by have:=a.hk;have:=a.len;show w.jG.length=2*w.N+1;omega,a.n0,a.n1,a.w0,b⟩
def aKc{gd:Nat}{w:WL}(h:IN z k w):aZ (qN g gd w) (Dx gd z ⟨w.wr,w.A,w.c,w.jG⟩):=by
 obtain⟨a,rfl,b⟩:=h;have e:w.k=2*w.s.N+1:=a.len;unfold Dx;show aZ (qN g gd w) [oI gd true w.dead w.aO w.wr w.A (2*w.s.N+1) w.c,own qK w.A (2*w.s.N+1) w.c w.jG];rw[<-e];exact aZ.cC (.cons (.bJ (.bJ (.bJ (.bJ .aR)))) (.cons (.bJ (.bJ (.bJ (.bJ .aR)))) .nil))
def iL.down{gd:Nat}{A:List aG}:aZ (iL g gd z k::A) (kI gd z k::A):=aZ.cons (λF w j=>by
 have⟨l,m,h,p,⟨x,i⟩,q⟩:=j;have⟨n,d,e,o,a,f⟩:=i;have⟨c,k1,k2⟩:=(aKc (gd:=gd) (g:=g) a.1).trans (kI.mk (gd:=gd) (WL.ok.dk a.1)) d w f;exact⟨c,k1,λb hb=>(h b).2 (.inl ((e b).2 (.inr (k2 b hb))))⟩) aZ.refl
section
variable (E:Env) (g gd:Nat) (z:LS) (k:Int)
def AT.conv{w:WL}{r:Int×LS}{K:Int}{e:Ending}{H':List aG}(f:w.wr<=k)(h:AT g gd w r K e H'):∃a,aB E H' a/\bL (a! r.1) [iL g gd r.2 (k+K)] e a:=by
 obtain⟨i,rfl,b,c,d,_,rfl⟩:=h;exact⟨_,aB.eG (iL.mk ⟨b,c,o_⟩),rfl,rfl⟩
def WR(j:z.bT.length<=10000)(X:n!)(nx cx:Nat)(b:o!)(e:Rd E bH X nx cx b):G E 229 [pt g,.slice X nx cx] [iL g gd z k] (bL (a! (z.append b).1) [iL g gd (z.append b).2 k]):=by
 refine aF.fp Has.aR λw f=>?_;rw[aY];obtain⟨a,rfl,c⟩:=f;have d:w.m=w.s.bT.length:=by rw[a.hm];show _=(w.bT.map (·.b)).length;rw[fB]
 refine aF.post (aQl E g gd w a o_ X nx cx b e) λe i h=>?_;have:=AT.conv E g gd k c h
 grind
def async(e:k<=10000000000000):G E 112 [pt g] [iL g gd z k] (bL (a! z.sync.1) [iL g gd z.sync.2 (k+2048)]):=by
 refine aF.fp Has.aR λw c=>?_;rw[aY];obtain⟨a,rfl,b⟩:=c;exact aF.post (aOd E g gd w a o_) λe d h=>AT.conv E g gd k b h
def W9(i:k<=10000000000000)(X:n!)(nx cx:Nat)(b:o!)(d:Rd E bH X nx cx b):G E 192 [pt g,.slice X nx cx] [iL g gd z k] (bL (a! (z.swap b).1) [iL g gd (z.swap b).2 (k+4128)]):=by
 refine aF.fp Has.aR λw e=>?_;rw[aY];obtain⟨a,rfl,c⟩:=e;exact aF.post (aIa E g gd w a o_ X nx cx b d) λe f h=>AT.conv E g gd k c h
def Wz:G E 225 [pt g] [iL g gd z k] λe h=>∃O b a,a.map Oc.b=z.bT/\(∀x∈a,x.n=x.b.length/\x.b.length<=4096)/\z.bT.length<=100000/\e=.returned (.slice O z.bT.length b)/\h=[own kC O z.bT.length b a,aT jF a,iL g gd z k]:=by
 refine aF.fp Has.aR λw i=>?_;rw[aY];have f:=i;obtain⟨c,rfl,l⟩:=f;have d:w.m=w.s.bT.length:=by rw[c.hm];show _=(w.bT.map (·.b)).length;rw[fB]
 refine aF.post (aF.lR (Hp:=[xL g gd w,own kC w.R w.m w.rc w.bT,aT jF w.bT]) (R:=[own bH w.P w.p w.pc w.cY,oI gd true w.dead w.aO w.wr w.A w.k w.c,own qK w.A w.k w.c w.jG]) λM _=>aQx M g gd w c) ?_;rintro e h ⟨j,⟨O,b,a,rfl,k1,k2,k3,k4,rfl⟩,rfl⟩;rw[d];refine⟨[own kC O w.s.bT.length b a,aT jF a,iL g gd w.s k],aB.eG ?_,O,b,a,k2,k4,by have:=c.bT;omega,rfl,rfl⟩;grind [aZ.cons,aZ.refl,iL.mk]
def Wo(d:z.dead=false)(c:z.aO = -1)(h:k<=10000000000000):G E 167 [pt gd] [kI gd z k] λe b=>∃g,e=.returned (.tuple #[pt g,.bool true])/\b=[iL g gd (LS.open z.N z.D (-1)) (k+2048)]:=by
 refine aF.fp Has.aR λx a=>?_;rw[aY];unfold Dx;rw[d,c];have f:=a.w1;refine aF.post (aPo E gd z.N (-1) x.wr x.A (2*z.N+1) x.c x.l a.n.symm rfl a.n0 a.n1 o_ o_ a.w0 o_ (aKy _ _)) ?_;rintro e b ⟨g,w,rfl,k1,k2,k3,k4,rfl⟩;rw[a.d] at k2;exact⟨_,aB.eG (iL.mk ⟨k1,k2,o_⟩),g,rfl,rfl⟩
def LS.AN(s:LS):LS:=⟨s.N,s.D,s.bT,s.dP,s.pos,s.cY,false,-1⟩
def L7:G E 141 [pt gd] [kI gd z k] (bL (.tuple #[]) [kI gd z.AN k]):=by
 refine aF.fp Has.aR λx a=>?_;rw[aY];refine aF.post (aF.lR (Hp:=[oI gd true z.dead z.aO x.wr x.A (2*z.N+1) x.c]) (R:=[own qK x.A (2*z.N+1) x.c x.l]) λM _=>aFj M gd z.dead z.aO x.wr x.A (2*z.N+1) x.c) ?_;rintro e b ⟨c,⟨rfl,rfl⟩,rfl⟩;exact⟨_,aB.eG (kI.mk (z:=z.AN) (x:=x) ⟨a.d,a.n,a.n0,a.n1,a.w0,a.w1⟩),rfl,rfl⟩
def WZ:G E 140 [pt gd] [kI gd z k] λe d=>∃b,e=.returned (pt b)/\d=[kI b z k,kI gd z k]:=by
 refine aF.fp Has.aR λx a=>?_;rw[aY];have h:=a.n1;refine aF.post (QU E gd z.dead z.aO x.wr x.A (2*z.N+1) x.c x.l o_) ?_;rintro e d ⟨b,c,f,rfl,rfl⟩;refine⟨[kI b z k,kI gd z k],aB.eG (aZ.append (A:=lN b true z.dead z.aO x.wr c (2*z.N+1) f x.l) (B:=[kI b z k]) (kI.mk (x:=⟨x.wr,c,f,x.l⟩) ⟨a.d,a.n,a.n0,a.n1,a.w0,a.w1⟩) (kI.mk (x:=x) a)),b,rfl,rfl⟩
def Wa:G E 140 [pt gd] [iL g gd z k] λe h=>∃b,e=.returned (pt b)/\h=[kI b z k,iL g gd z k]:=by
 refine aF.fp Has.aR λw c=>?_;rw[aY];have d:=c;obtain⟨j,rfl,o⟩:=d;have p:=j.n1;have m:=j.len;have a:=WL.ok.dk c;refine aF.conv (aB.cC (l:=lN gd true w.dead w.aO w.wr w.A w.k w.c w.jG++[xL g gd w,own kC w.R w.m w.rc w.bT,aT jF w.bT,own bH w.P w.p w.pc w.cY]) (.cons (.bJ (.bJ (.bJ (.bJ .aR)))) (.cons (.bJ (.bJ (.bJ (.bJ .aR)))) (.cons .aR (.cons .aR (.cons .aR (.cons .aR .nil))))))) ?_;refine aF.post (aF.lR λM _=>QU M gd w.dead w.aO w.wr w.A w.k w.c w.jG o_) ?_;rintro e h ⟨n,⟨b,f,i,rfl,rfl⟩,rfl⟩;refine⟨[kI b w.s k,iL g gd w.s k],aB.eG (aZ.append (A:=lN b true w.dead w.aO w.wr f w.k i w.jG) (B:=[kI b w.s k]) ?_ ?_),b,rfl,rfl⟩
 ·have:=kI.mk (gd:=b) (z:=w.s) (k:=k) (x:=⟨w.wr,f,i,w.jG⟩) ⟨a.d,a.n,a.n0,a.n1,a.w0,a.w1⟩;unfold Dx at this;rw[show 2*w.s.N+1=w.k from m.symm] at this;exact this
 ·exact(aZ.cC (B:=qN g gd w) (.cons (.bJ (.bJ .aR)) (.cons (.bJ (.bJ .aR)) (.cons (.bJ (.bJ .aR)) (.cons (.bJ (.bJ .aR)) (.cons .aR (.cons .aR .nil))))))).trans (iL.mk c)
def LS.Px(s:LS)(k:Int):LS:=⟨s.N,s.D,s.bT,s.dP,s.pos,s.cY,s.dead,if s.dead then s.aO else max k (-1)⟩
def WS(q:Int)(m:q<=9223372036854775807):G E 193 [pt gd,a! q] [iL g gd z k] (bL (.tuple #[]) [iL g gd (z.Px q) k]):=by
 refine aF.fp Has.aR λw d=>?_;rw[aY];obtain⟨a,rfl,c⟩:=d;refine aF.conv (aB.cC (l:=[oI gd true w.dead w.aO w.wr w.A w.k w.c]++[xL g gd w,own kC w.R w.m w.rc w.bT,aT jF w.bT,own bH w.P w.p w.pc w.cY,own qK w.A w.k w.c w.jG]) (.cons (.bJ (.bJ (.bJ (.bJ .aR)))) (.cons .aR (.cons .aR (.cons .aR (.cons .aR (.cons .aR .nil))))))) ?_;refine aF.post (aF.lR λM _=>W2 M gd w.dead w.aO w.wr w.A w.k w.c q) ?_;rintro e f ⟨h,⟨rfl,rfl⟩,rfl⟩;have i:=a.a0;have j:=a.a1;have b:WL.ok { w with aO:=if w.dead then w.aO else max q (-1) }:=⟨a.hm,a.hp,a.hk,a.n0,a.n1,a.len,by dsimp only;split<;>omega,by dsimp only;split<;>omega,a.w0,a.fit,a.bT,a.dP,a.wide⟩
 exact⟨_,aB.eG ((aZ.cC (B:=qN g gd { w with aO:=if w.dead then w.aO else max q (-1) }) (.cons (.bJ .aR) (.cons (.bJ .aR) (.cons (.bJ .aR) (.cons (.bJ .aR) (.cons .aR (.cons .aR .nil))))))).trans (iL.mk ⟨b,rfl,c⟩)),rfl,rfl⟩
def Wj(n:Int)(N:Nat)(h:(2*N+1:Int)=n)(c:1<=N)(d:N<=64):G E 106 [a! n] [] λe a=>∃gd,e=.returned (pt gd)/\a=[kI gd (LS.new N) 0]:=by
 refine aF.post (aKt E n (2*N+1) (by grind)) ?_;rintro e a ⟨gd,b,rfl,rfl⟩;have f:=Zh (2*N+1);refine⟨[kI gd (LS.new N) 0],aB.eG (kI.mk (z:=LS.new N) (x:=⟨0,some ⟨b,0,none⟩,2*N+1,List.replicate (2*N+1) Kk⟩) ⟨f,rR,c,d,dV _,dV _⟩),gd,rfl,rfl⟩
end
end
section
theorem V4.uP{v:V4}{i j x:Int}(hi:0<=i/\i<=3)(a:0<=j/\j<=3):(v.set i x).get j=if j=i then x else v.get j:=by
 rcases four hi with rfl|rfl|rfl|rfl<;>rcases four a with rfl|rfl|rfl|rfl<;>rfl
def V4.set_comm{v:V4}{i j x y:Int}(hi:0<=i/\i<=3)(a:0<=j/\j<=3)(h:i≠j):(v.set i x).set j y=(v.set j y).set i x:=by
 rcases four hi with rfl|rfl|rfl|rfl<;>rcases four a with rfl|rfl|rfl|rfl<;>first|exact i! rfl h|rfl
def oL(k t:V4)(c:aI):Bool:=Ea k t c&&c.may
def follow(k t:V4):List aI->Option (V4×V4)
 | []=>some (k,t)
 |c::l=>if oL k t c then follow (k.set c.id.rep c.id.seq) (t.set c.id.rep c.time) l else none
theorem sN{k:V4}:oL k t c=true↔c.may=true/\(0<=c.id.rep/\c.id.rep<=3)/\c.id.seq=k.get c.id.rep+1/\t.get c.id.rep<c.time:=by
 unfold oL Ea AR;rw[fI,fI,fI,fI,h!,h!,h!];constructor
 ·rintro⟨⟨⟨⟨_,b⟩,g⟩,e⟩,d⟩;have a:=(aI.eY c).1 d;refine⟨d,⟨a.1.1,a.1.2.1⟩,?_,e⟩;rw[c! ⟨a.1.1,a.1.2.1⟩] at b;split at b
  ·have:=j! aL.seq b;dsimp only at this;have:=a.1.2.2.1;omega
  ·exact(j! aL.seq b).symm
 ·rintro⟨d,f,b,e⟩;have a:=(aI.eY c).1 d;refine⟨⟨⟨⟨(aL.eY c.id).2 a.1,?_⟩,a.2.1⟩,e⟩,d⟩;rw[c! f,b! o_,<-b]
def Br(k t:V4)(a b:List aI):follow k t (a++b)=(follow k t a).bind λp=>follow p.1 p.2 b:=by
 induction a generalizing k t with
 |nil=>rfl
 |cons c a d =>
  rw[mX,follow,follow];split
  ·exact d _ _
  ·rfl
def Zl{k:V4}{x:aI}(h:x.id.rep≠c.id.rep)(b:0<=x.id.rep/\x.id.rep<=3)(a:0<=c.id.rep/\c.id.rep<=3):follow k t (x::c::l)=follow k t (c::x::l):=by
 have d:∀ {x c:aI},x.id.rep≠c.id.rep->(0<=x.id.rep/\x.id.rep<=3)->(0<=c.id.rep/\c.id.rep<=3)->oL (k.set x.id.rep x.id.seq) (t.set x.id.rep x.time) c=oL k t c:=by
  intro x c h b a;rw[uB,sN,sN,V4.uP b a,V4.uP b a,b! (xW h),b! (xW h)]
 simp only[follow];rw[d h b a,d (xW h) a b,V4.set_comm b a h,V4.set_comm b a h];cases oL k t x<;>cases oL k t c<;>simp
def RX{k:V4}{b:List aI}(h:∀x∈a,x.id.rep≠c.id.rep/\0<=x.id.rep/\x.id.rep<=3)(e:0<=c.id.rep/\c.id.rep<=3):follow k t (a++c::b)=follow k t (c::(a++b)):=by
 induction a generalizing k t with
 |nil=>rfl
 |cons x a g =>
  have d:=h x jW;rw[mX,mX,<-Zl d.1 d.2 e,follow,follow];split
  ·exact g λy f=>h y (kF _ f)
  ·rfl
def Mp{k:V4}(h:follow k t l=some (k',t')){r:Int}(d:0<=r/\r<=3):k.get r<=k'.get r/\t.get r<=t'.get r:=by
 induction l generalizing k t with
 |nil=>injection h with h;injection h with a b;subst a b;exact⟨dV _,dV _⟩
 |cons c l g =>
  rw[follow] at h;split at h
  ·rename_i f;have⟨_,a,b,i⟩:=sN.1 f;have:=g h;rw[V4.uP a d,V4.uP a d] at this;split at this
   ·rename_i e;subst e;omega
   ·exact this
  ·cases h
def yF{k:V4}(h:follow k t l=some (k',t')){x:aI}(b:x∈l):x.may=true/\(0<=x.id.rep/\x.id.rep<=3)/\k.get x.id.rep<x.id.seq/\x.id.seq<=k'.get x.id.rep/\t.get x.id.rep<x.time/\x.time<=t'.get x.id.rep:=by
 induction l generalizing k t with
 |nil=>exact i! b (cZ)
 |cons c l n =>
  rw[follow] at h;split at h
  ·rename_i m;have⟨i,a,r,j⟩:=sN.1 m;rcases tK.1 b with rfl|b
   ·have:=Mp h a;rw[V4.uP a a,V4.uP a a,c! rfl,c! rfl] at this;exact⟨i,a,o_,this.1,j,this.2⟩
   ·have⟨o,g,d,p,f,q⟩:=n h b;rw[V4.uP a g] at d f;refine⟨o,g,?_,p,?_,q⟩
    ·split at d
     ·rename_i e;rw[e];omega
     ·exact d
    ·split at f
     ·rename_i e;rw[e];omega
     ·exact f
  ·cases h
def Cz{k:V4}(h:follow k t l=some (k',t')){r:Int}(m:0<=r/\r<=3)(b:k.get r<q)(u:q<=k'.get r):∃x∈l,x.id=⟨r,q⟩:=by
 induction l generalizing k t with
 |nil=>injection h with h;injection h with g v;subst g;omega
 |cons c l o =>
  rw[follow] at h;split at h
  ·rename_i j;have⟨_,f,p,s⟩:=sN.1 j;by_cases e:r=c.id.rep/\q=c.id.seq
   ·exact⟨c,jW,by cases i:c.id;rw[i] at e;rw[e.1,e.2]⟩
   ·have⟨x,n,a⟩:=o h (by rw[V4.uP f m];split;(rename_i d;rw[d] at b;omega);exact b);exact⟨x,kF _ n,a⟩
  ·cases h
def Mq{k:V4}(h:follow k t l=some (k',t')):(l.map aI.id).Nodup:=by
 induction l generalizing k t with
 |nil=>exact List.nodup_nil
 |cons c l ih =>
  rw[follow] at h;split at h
  ·rename_i hn;have⟨_,g1,g2,g3⟩:=sN.1 hn;rw[jL,Cb];refine⟨λhm=>?_,ih h⟩;have⟨x,hx,e⟩:=jX.1 hm;have:=(yF h hx).2.2.1;rw[e,V4.uP g1 g1,c! rfl] at this;omega
  ·cases h
def Zj{k:V4}{b:List aI}{x:aI}(h:follow k t (a++c::b)=some (k',t'))(i:x∈a)(g:x.id.rep=c.id.rep):x.id.seq<c.id.seq:=by
 rw[Br] at h;cases d:follow k t a with
 |none=>rw[d] at h;cases h
 |some p =>
  rw[d] at h;have e:follow p.1 p.2 (c::b)=some (k',t'):=h;have f:=yF (l:=a) (k':=p.1) (t':=p.2) d i;have j:=(yF e (x:=c) jW).2.2.1;rw[g] at f;omega
def aNj{k:V4}(h:follow k t l=some (k',t'))(b:∀r,0<=r/\r<=3->0<=k.get r):l.foldl AS k=k':=by
 induction l generalizing k t with
 |nil=>injection h with h;injection h
 |cons c l g =>
  rw[follow] at h;split at h
  ·rename_i f;have⟨_,a,i,j⟩:=sN.1 f;have e:AS k c=k.set c.id.rep c.id.seq:=by
    unfold AS;rw[c! a,Int.max_eq_right o_]
   rw[CX,e];refine g h λr d=>?_;rw[V4.uP a d];have:=b c.id.rep a;split
   ·omega
   ·exact b r d
  ·cases h
theorem FL(a b:Int):(a<b/\nR a b = -1)\/(a=b/\nR a b=0)\/(b<a/\nR a b=1):=by
 unfold nR;rcases Int.lt_trichotomy a b with h|h|h
 ·exact .inl ⟨h,by rw[c! h]⟩
 ·exact .inr (.inl ⟨h,by rw[b! o_,b! o_]⟩)
 ·exact .inr (.inr ⟨h,by rw[b! o_,c! h]⟩)
def Ku(a b:aI):nJ a b<0↔a.time<b.time\/a.time=b.time/\(a.id.rep<b.id.rep\/a.id.rep=b.id.rep/\a.id.seq<b.id.seq):=by
 unfold nJ;rcases FL a.time b.time with⟨h,e⟩|⟨h,e⟩|⟨h,e⟩<;>rcases FL a.id.rep b.id.rep with⟨f,c⟩|⟨f,c⟩|⟨f,c⟩<;>rcases FL a.id.seq b.id.seq with⟨g,d⟩|⟨g,d⟩|⟨g,d⟩<;>rw[e,c,d]<;>simp[oM]<;>omega
def sW(l:List aI):Prop:=l.Pairwise λx y=>nJ x y<0
def P5{p:α->Bool}{l:List α}{x:α}(b:x∈l.drop (behind p l)):p x=false:=by
 induction l with
 |nil=>simp at b
 |cons a l c =>
  rw[behind] at b;split at b
  ·exact c b
  ·rename_i d;have d:behind p l=0:=o_;rw[d,uG] at c;split at b
   ·exact c b
   ·rename_i e;rcases tK.1 b with rfl|b
    ·simpa using e
    ·exact c b
def XP{p:α->Bool}{l:List α}{n:Nat}(h:behind p l=n+1):∃x,l[n]?=some x/\p x=true:=by
 induction l generalizing n with
 |nil=>cases h
 |cons a l f =>
  rw[behind] at h;split at h
  ·rename_i g;have⟨m,e⟩:∃m,behind p l=m+1:=⟨behind p l - 1,o_⟩;have⟨x,b,c⟩:=f e;obtain rfl:n=m+1:=o_;exact⟨x,by simpa using b,c⟩
  ·split at h
   ·rename_i d;obtain rfl:n=0:=o_;exact⟨a,rfl,d⟩
   ·cases h
theorem sW.put(h:sW l)(r:∀x∈l,x.id≠c.id):sW (pD l c):=by
 unfold sW pD at *;have t:=MD (λx=>decide (¬nJ c x<0)) l;have e:∀y∈l.drop (rI l c),nJ c y<0:=λy d=>by
  have:=P5 d;simpa using this
 have f:∀y∈l.take (rI l c),nJ y c<0:=by
  intro y d;cases j:rI l c with
  |zero=>rw[j] at d;simp at d
  |succ n =>
   have⟨z,p,m⟩:=XP j;have m:¬nJ c z<0:=by simpa using m
   have g:nJ z c<0:=by
    rw[Ku] at m⊢;have:=r z (dG p);have:¬(z.id.rep=c.id.rep/\z.id.seq=c.id.seq):=λh=>this (aL.eq_iff.2 h);omega
   rw[j,take_succ p] at d;rcases eL.1 d with d|d
   ·obtain⟨i,s,rfl⟩:=oV d;have o:nJ (l.take n)[i] z<0:=by
     obtain⟨k,rfl⟩:=cH.1 p;rw[dR] at s;rw[List.getElem_take];exact List.pairwise_iff_getElem.1 h i n o_ k o_
    rw[Ku] at o g⊢;omega
   ·rw[eM] at d;subst d;exact g
 rw[bF,wH];refine⟨h.sublist (Iq _ _),?_,?_⟩
 ·rw[PU,Io];exact⟨e,h.sublist (List.drop_sublist _ _)⟩
 ·intro a q b hb;rcases eL.1 hb with hb|hb
  ·rw[eM] at hb;subst hb;exact f a q
  ·rw[<-mE (rI l c) l,wH] at h;exact h.2.2 a q b hb
def U5(h:sW (l++[c])):pD l c=l++[c]:=by
 unfold sW at h;rw[wH] at h;have e:rI l c=l.length:=by
  unfold rI;rcases GX l with rfl|⟨m,z,rfl⟩
  ·rfl
  ·have b:nJ z c<0:=h.2.2 z s_ c s_;rw[PI,P6 (i:=m.length) (x:=z) s_ (by rw[h!];rw[Ku] at b⊢;omega) (λj y d a=>by
    have:=(cH.1 a).1;simp at this;omega)]
   simp
 unfold pD;rw[e,gY,uF,aY]
def Zk{k:V4}(h:follow k t (a++l)=some (k',t'))(m:oL k' t' c=true):follow k t (a++pD l c)=some (k'.set c.id.rep c.id.seq,t'.set c.id.rep c.time):=by
 have⟨_,o,s,u⟩:=sN.1 m;have f:∀y∈l.drop (rI l c),y.id.rep≠c.id.rep/\0<=y.id.rep/\y.id.rep<=3:=λy n=>by
  have q:nJ c y<0:=by simpa using P5 n
  have g:=yF h (tJ _ (CZ n));refine⟨λe=>?_,g.2.1⟩;have r:=g.2.2.2.2.2;rw[Ku] at q;rw[e] at r;omega
 unfold pD;rw[bF,PU,<-bF,Br];have d:follow k t ((a++l.take (rI l c))++l.drop (rI l c))=some (k',t'):=by rw[bF,mE];exact h
 rw[Br] at d;cases i:follow k t (a++l.take (rI l c)) with
 |none=>rw[i] at d;cases d
 |some p =>
  rw[i] at d;have d:follow p.1 p.2 (l.drop (rI l c))=some (k',t'):=d;show follow p.1 p.2 (c::l.drop (rI l c))=_;have j:=RX (k:=p.1) (t:=p.2) (b:=[]) (c:=c) f o;rw[aY] at j;rw[<-j,Br,d];show(if oL k' t' c then _ else none)=_;rw[c! m];rfl
def Zm{k:V4}{x y:List aI}(h:follow k t (a++(x++c::y))=some (k',t'))(g:∀z∈x,¬(z.id.rep=c.id.rep/\z.id.seq<c.id.seq)):follow k t (a++[c]++(x++y))=some (k',t'):=by
 have i:∀z∈x,z.id.rep≠c.id.rep/\0<=z.id.rep/\z.id.rep<=3:=λz b=>by
  have d:=yF h (tJ _ (zN _ b));refine⟨λe=>g z b ⟨e,?_⟩,d.2.1⟩;rw[<-bF] at h;exact Zj h (tJ _ b) e
 have f:=(yF h (x:=c) s_).2.1;rw[<-h,bF,Br,Br,PU];congr 1;funext p;exact(RX i f).symm
def gw(e:aN):Bool×bE:=(e.gone,e.bD)
def aJv{w:List bE}{l l':List aN}(h:l'.map gw=l.map gw)(j:Nat):lost w l' j=lost w l j:=by
 induction j with
 |zero=>rfl
 |succ j f =>
  have a:(l'.map gw)[j]?=(l.map gw)[j]?:=by rw[h]
  rw[mM,mM] at a;simp only[lost,f];cases b:l'[j]? with
  |none =>
   cases hb:l[j]? with
   |none=>rfl
   |some y=>rw[b,hb] at a;cases a
  |some x =>
   cases hb:l[j]? with
   |none=>rw[b,hb] at a;cases a
   |some y =>
    rw[b,hb] at a;have c:gw x=gw y:=iN a;have d:x.gone=y.gone:=j! Prod.fst c;have e:x.bD=y.bD:=j! Prod.snd c;dsimp only;rw[d,e]
def Sk{w:List bE}{l m:List aN}{k:Nat}(h:∀j,j<k->m[j]?=l[j]?)(j:Nat)(b:j<=k):lost w m j=lost w l j:=by
 induction j with
 |zero=>rfl
 |succ j a=>simp only[lost,a o_,h j o_]
def BF{w:List bE}{l:List aN}:settle w l=l↔∀(i:Nat) (e:aN),l[i]?=some e->e.gone=lost w l (i+1):=by
 constructor
 ·intro h i e a;have b:=CM (want:=w) a;rw[h,a] at b;have c:=iN b;exact j! aN.gone c
 ·intro h;apply uH;intro i;cases a:l[i]? with
  |none =>
   rw[CY] at a⊢;rw[vW];exact a
  |some e =>
   rw[CM a,<-h i e a];rfl
def aPz(want:List bE)(l:List aN):settle want (settle want l)=settle want l:=by
 rw[BF];have d:∀j,j<=l.length->lost want (settle want l) j=lost want l j:=by
  intro j
  induction j with
  |zero=>intro _;rfl
  |succ j f =>
   intro g;have b:l[j]?=some l[j]:=bS o_;rw[B6 (CM b),B6 b,f o_];show(lost want l j||((lost want l j||(l[j].gone||decide (want[j]?≠some l[j].bD)))||decide (want[j]?≠some l[j].bD)))=_;cases lost want l j<;>cases l[j].gone<;>cases decide (want[j]?≠some l[j].bD)<;>rfl
 intro i e a;have c:=(cH.1 a).1;rw[vW] at c;have b:l[i]?=some l[i]:=bS c;rw[CM b] at a;have a:=iN a;subst a;rw[d (i+1) c];rfl
structure lK(s:bC):Prop where
 may:∀e∈s.l,e.may=true
 iW:(s.l.map aN.ord).Pairwise (· < ·)
 pos:∀e∈s.l,e.ord<=s.made
 gone:settle s.w s.l=s.l
 nT:∀f∈s.w,f.check=0
def lK.zero:lK s0:=⟨λ_ a=>(cZ a).elim,List.Pairwise.nil,λ_ a=>(cZ a).elim,rfl,λ_ b=>(cZ b).elim⟩
def aHl{g:Bool}(h:e.may=true)(m:e.gone=true->g=true):(e.mark g).may=true:=by
 rw[aN.eY] at h⊢;have⟨c,d,f,⟨i,a⟩,j,k,l⟩:=h;refine⟨c,d,f,⟨i,?_⟩,j,k,l⟩;rcases a with a|a
 ·left;unfold aN.gO aN.mark at *;dsimp only;cases b:e.dN
  ·rw[b] at a;simp at a
  ·rw[b] at a;rw[m (by simpa using a)];rfl
 ·exact .inr a
def WV(h:e.may=true)(k:e.dN=false):e.cR.may=true:=by
 rw[aN.eY] at h⊢;have⟨b,c,d,⟨f,a⟩,g,i,j⟩:=h;refine⟨b,c,d,⟨f,?_⟩,g,i,j⟩;rcases a with a|a
 ·unfold aN.gO at a;rw[k] at a;simp at a
 ·exact .inr a
def aKm{now:Int}(h:e.may=true)(a:0<=now/\now<=1073741824):(e.dK now).may=true:=by
 unfold aN.dK;split
 ·rename_i n;have⟨_,o⟩:=n;have c:e.nt=if e.gO then e.back else e.bI:=rfl;rw[aN.eY] at h;have⟨f,g,i,⟨j,b⟩,k,l,m⟩:=h;split
  ·rename_i d;rw[c! d] at c;rw[aN.eY];exact⟨f,g,i,⟨by dsimp only;omega,.inl d⟩,k,a,.inl d_⟩
  ·rename_i d;rw[b! d] at c;rw[aN.eY];refine⟨f,g,by dsimp only;omega,⟨j,?_⟩,a,l,m⟩;rcases b with b|b
   ·exact i! b d
   ·exact .inr b
 ·exact h
def On(e:aN)(now:Int):(e.dK now).ord=e.ord/\gw (e.dK now)=gw e:=by
 unfold aN.dK;split
 ·split<;>exact⟨rfl,rfl⟩
 ·exact⟨rfl,rfl⟩
def Ss{f:aN->α}{l:List aN}{k:Nat}{e':aN}(a:l[k]?=some e)(h:f e'=f e):(l.set k e').map f=l.map f:=by
 rw[List.map_set,h];exact CL (by rw[mM,a];rfl)
def aFa(w:List bE)(l:List aN):(settle w l).map aN.ord=l.map aN.ord:=by
 apply uH;intro i;rw[mM,mM];cases a:l[i]? with
 |none =>
  have:(settle w l)[i]?=none:=by rw[CY] at a⊢;rw[vW];exact a
  rw[this]
 |some e=>rw[CM a];rfl
theorem lK.put{s:bC}{w:List bE}(h:lK s)(hw:∀f∈w,f.check=0):lK (s.put w):=by
 have hat:∀e∈settle w s.l,∃(i:Nat) (x:aN),s.l[i]?=some x/\e=x.mark (lost w s.l (i+1)):=by
  intro e he;obtain⟨i,hi,rfl⟩:=oV he;rw[vW] at hi;have hx:s.l[i]?=some s.l[i]:=bS hi;have hs:=CM (want:=w) hx;rw[bS (by rw[vW];exact hi)] at hs;exact⟨i,_,hx,iN hs⟩
 refine⟨λe he=>?_,by show((settle w s.l).map aN.ord).Pairwise (· < ·);rw[aFa];exact h.iW,λe he=>?_,aPz w s.l,hw⟩
 ·obtain⟨i,x,hx,rfl⟩:=hat e he;refine aHl (h.may x (dG hx)) λhg=>?_;rw[B6 hx,hg];simp
 ·obtain⟨i,x,hx,rfl⟩:=hat e he;exact h.pos x (dG hx)
def lK.set{s:bC}(h:lK s){k:Nat}{e':aN}(c:s.l[k]?=some e)(j:e'.ord=e.ord)(g:gw e'=gw e)(m:e'.may=true):lK ⟨s.made,s.l.set k e',s.w⟩:=by
 refine⟨λx a=>?_,?_,λx a=>?_,?_,h.nT⟩
 ·rcases Ca a with d|rfl
  ·exact h.may x d
  ·exact m
 ·show((s.l.set k e').map aN.ord).Pairwise (· < ·);rw[Ss c j];exact h.iW
 ·rcases Ca a with d|rfl
  ·exact h.pos x d
  ·show x.ord<=s.made;rw[j];exact h.pos e (dG c)
 ·show settle s.w (s.l.set k e')=s.l.set k e';rw[BF];intro i x a;have l:=aJv (w:=s.w) (Ss c g) (i+1);rw[l];have b:=BF.1 h.gone;rw[Gb] at a;split at a
  ·rename_i f;subst f;split at a
   ·have a:=iN a;subst a;rw[<-b k e c];exact j! Prod.fst g
   ·cases a
  ·exact b i x a
theorem lK.take{s:bC}(h:lK s)(k:Nat):lK ⟨s.made,s.l.take k,s.w⟩:=by
 refine⟨λx a=>h.may x (mD a),?_,λx a=>h.pos x (mD a),?_,h.nT⟩
 ·show((s.l.take k).map aN.ord).Pairwise (· < ·);exact h.iW.sublist ((Iq k s.l).map aN.ord)
 ·show settle s.w (s.l.take k)=s.l.take k;rw[BF];intro i x a;have b:=(cH.1 a).1;rw[dR] at b;rw[Sk (l:=s.l) (k:=k) (λj c=>by rw[Il,c! c]) (i+1) o_];rw[Il,c! o_] at a;exact BF.1 h.gone i x a
def lK.push{s:bC}(h:lK s)(w:s.ok){id:aL}{f:bE}{now:Int}(m:jV s.l=none)(A:s.made<255)(q:s.w[s.l.length]?=some f)(l:0<=now/\now<=1073741824) :
  lK ⟨s.made+1,s.l++[sM ⟨⟨id,s.made+1,false⟩,f⟩ now],s.w⟩:=by
 have z:=w.vR;have g:=BF.1 h.gone;have y:lost s.w s.l s.l.length=false:=by
  cases v:s.l.length with
  |zero=>rfl
  |succ k =>
   have a:s.l[k]?=some s.l[k]:=bS o_;rw[<-g k _ a];unfold jV at m;rw[v,show k+1 - 1=k from rfl,a] at m;dsimp only at m;split at m
   ·cases m
   ·rename_i p;unfold aN.eO at p;cases t:s.l[k].gone
    ·rfl
    ·rw[t] at p;simp at p
 refine⟨λx a=>?_,?_,λx a=>?_,?_,h.nT⟩
 ·rcases eL.1 a with c|c
  ·exact h.may x c
  ·rw[eM] at c;subst c;rw[aN.eY];exact⟨by dsimp only;omega,h.nT f (dG q),by dsimp only;omega,⟨by dsimp only;omega,.inr rfl⟩,l,by dsimp only;omega,.inr rfl⟩
 ·show((s.l++[sM ⟨⟨id,s.made+1,false⟩,f⟩ now]).map aN.ord).Pairwise (· < ·);rw[gP,wH];refine⟨h.iW,Cc _ _,λa r b hb=>?_⟩;obtain⟨x,a,rfl⟩:=jX.1 r;have hb:b=s.made+1:=by simpa using hb
  have:=h.pos x a;omega
 ·show x.ord<=s.made+1;rcases eL.1 a with c|c
  ·have:=h.pos x c;omega
  ·rw[eM] at c;subst c;exact dV _
 ·show settle s.w (s.l++[sM ⟨⟨id,s.made+1,false⟩,f⟩ now])=s.l++[sM ⟨⟨id,s.made+1,false⟩,f⟩ now];rw[BF];have e:∀j,j<=s.l.length->lost s.w (s.l++[sM ⟨⟨id,s.made+1,false⟩,f⟩ now]) j=lost s.w s.l j :=
   λj u=>Sk (k:=s.l.length) (λi n=>Aa n) j u
  intro i x a;by_cases n:i<s.l.length
  ·rw[e (i+1) o_];rw[Aa n] at a;exact g i x a
  ·have o:=(cH.1 a).1;rw[bR,xU] at o;obtain rfl:i=s.l.length:=o_;have d:=a;rw[wG (bM _),BZ] at d;have d:=iN d;rw[B6 a,e _ (bM _),y,<-d];show false=(false||(false||decide (s.w[s.l.length]?≠some f)));rw[q];simp
theorem lK.dK{s:bC}(h:lK s)(j:s.ok){id:aL}{now:Int}(a:0<=now/\now<=1073741824):lK (s.dK id now):=by
 rcases Ot (s:=s) (id:=id) (now:=now) with b|⟨e,c,_,b⟩|⟨f,c,i,g,b⟩
 ·rw[b];exact h
 ·rw[b];have⟨d,_⟩:=BN c;exact h.set d (On e now).1 (On e now).2 (aKm (h.may e (dG d)) a)
 ·rw[b];exact h.push j c i g a
def lK.cR{s:bC}(h:lK s){id:aL}{k:bV}:lK (s.cR id k):=by
 rcases Po (s:=s) (id:=id) (k:=k) with a|⟨i,e,b,_,c,a⟩|⟨i,e,b,_,_,d,a⟩
 ·rw[a];exact h
 ·rw[a];exact h.set b rfl rfl (WV (h.may e (dG b)) c)
 ·rw[a];exact h.take i
def JO(s:bC):Prop:=s.ok/\lK s
def JL(ps:List bC):Prop:=∀s∈ps,JO s
def JO.zero:JO s0:=⟨bC.TW,lK.zero⟩
def JL.getD(h:JL ps)(i:Nat):JO (ps.getD i s0):=by
 rw[qS];cases a:ps[i]? with
 |none=>exact JO.zero
 |some s=>exact h s (dG a)
def JL.set(h:JL ps){s:bC}(b:JO s):JL (ps.set i s):=by
 intro x c;rcases Ca c with a|rfl
 ·exact h x a
 ·exact b
def aRj{l:List aN}(c:∀e∈l,e.may=true)(d:∀e∈l,q<e.ord)(a:(l.map aN.ord).Pairwise (· < ·)):iW q l=true:=by
 induction l generalizing q with
 |nil=>rfl
 |cons x l f =>
  rw[jL,Io] at a;show(x.may&&(decide (q<x.ord)&&iW x.ord l))=true;rw[c x jW,d! (d x jW),f (λe b=>c e (kF _ b)) (λe b=>a.1 _ (xV b)) a.2];rfl
def J?{l:List aN}{m:Int}(h:∀e∈l,e.ord<=m)(b:q<=m):yJ q l<=m:=by
 induction l generalizing q with
 |nil=>exact b
 |cons x l c=>exact c (λe a=>h e (kF _ a)) (h x jW)
def JO.whole{s:bC}(h:JO s):BS s.made s.l=true:=by
 have⟨b,a⟩:=h;unfold BS;rw[aRj a.may (λe c=>by have:=((aN.eY e).1 (a.may e c)).1;omega) a.iW,d! ⟨J? a.pos b.vR,b.qC⟩];rfl
structure Vd(v:Lg):Prop where
 lQ:follow kZ kZ (v.l++v.t)=some (v.known,v.times)
 qE:∀c∈v.l,c.ok
 vS:∀c∈v.t,c.ok
 len:v.l.length+v.t.length<=48
 sW:sW v.t
structure Gd(s:Sv):Prop where
 v:Vd s.v
 rep:0<=s.r/\s.r<=3
 n:(s.ps.length:Int)=s.v.known.get s.r
 w:∀(q:Nat) (p:bC),s.ps[q]?=some p->oR s.v s.r q=some p.w
 ch:JL s.ps
theorem vC{r:Int}:kZ.get r=0:=by grind [V4.get]
theorem Vd.may(h:Vd v)(a:c∈v.l++v.t):c.may=true:=(yF h.lQ a).1
theorem OY{a:aL}:0<=eH l a↔∃c∈l,c.id=a:=by
 grind [Hn,place,eH,List.any_eq_true]
def C?{a:aL}:(iZ v a).2.2=true↔∃c∈v.l++v.t,c.id=a:=by
 grind [SW,iZ,OY]
theorem aJc(h:Vd v){r:Int}(d:0<=r/\r<=3)(q:Nat):(oR v r q).isSome=true↔(q:Int)<v.known.get r:=by
 have e:(oR v r q).isSome=(iZ v ⟨r,((q+1:Nat):Int)⟩).2.2:=by
  grind [oR]
 rw[e,C?];constructor
 ·rintro⟨c,a,b⟩;have:=yF h.lQ a;grind
 ·intro f;exact Cz h.lQ d (by grind [vC]) o_
theorem Vj(h:Vd v){r:Int}{q:Nat}{w:List bE}(a:oR v r q=some w):(∀f∈w,f.ok)/\w.length<=8/\∀f∈w,f.check=0:=by
 unfold oR at a;split at a
 ·injection a with a;subst a;have c:=O4 (SV h.qE h.vS ⟨r,((q+1:Nat):Int)⟩) (iZ v ⟨r,((q+1:Nat):Int)⟩).2.1;exact⟨c.1,c.2,aCt (B? h.qE h.vS (λc b=>h.may (zN _ b)) (λc b=>h.may (tJ _ b)) _) _⟩
 ·cases a
def Vd.count(h:Vd v){r:Int}(b:0<=r/\r<=3):0<=v.known.get r/\v.known.get r<=48:=by
 have a:=Mp h.lQ b;rw[vC] at a;refine⟨a.1,?_⟩;have c:=Np (l:=v.l++v.t) (r:=r) (n:=(v.known.get r).toNat) λq d=>Cz h.lQ b (by grind [vC]) o_;rw[bR] at c;have:=h.len;omega
def aJg{p:bC}(h:JO p){w:List bE}(a:(∀f∈w,f.ok)/\w.length<=8/\∀f∈w,f.check=0):JO (p.put w):=⟨bC.Tt h.1 a.1 a.2.1,h.2.put a.2.2⟩
theorem aQz{q:Nat}{w:List bE}(a:q<=ps.length)(i:Nat):(sQ ps q w)[i]?=if i=q then some ((ps.getD q s0).put w) else ps[i]?:=by
 grind [sQ]
def Pp{r:Int}{K:Nat}(a:∀q:Nat,(oR v r q).isSome=true↔q<K):∀(n q:Nat) (ps:List bC),q<=K->K<q+n->q<=ps.length->ps.length<=K ->
  (wK v r n q ps).length=K/\∀i,i<K->(wK v r n q ps)[i]?=if i<q then ps[i]? else some ((ps.getD i s0).put ((oR v r i).getD []))
 |0,q,ps,c,d,_,_=>by omega
 |n+1,q,ps,c,d,j,k=>by
  rw[wK];have b:=a q;cases f:oR v r q with
  |none =>
   grind
  |some w =>
   rw[f] at b;have m:q<K:=b.1 rfl;have e:By ps ((q+1:Nat):Int) w=sQ ps q w:=by
    grind [By]
   dsimp only;rw[e];have l:(sQ ps q w).length=max ps.length (q+1):=by
    grind [sQ]
   have⟨g,h⟩:=Pp a n (q+1) (sQ ps q w) o_ o_ o_ o_
   grind [aQz]
def Gd.I5{r:Int}(j:Vd v)(l:0<=r/\r<=3)(n:JL ps)(s:(ps.length:Int)<=v.known.get r):Gd (Sv.again ⟨v,ps,r⟩)/\∀i,i<(v.known.get r).toNat->(Sv.again ⟨v,ps,r⟩).ps[i]?=some ((ps.getD i s0).put ((oR v r i).getD [])):=by
 have k:=j.count l;have m:∀q:Nat,(oR v r q).isSome=true↔q<(v.known.get r).toNat:=λq=>by grind [aJc]
 have⟨g,o⟩:=Pp m 49 0 ps (bY _) o_ (bY _) o_;have h:∀i,i<(v.known.get r).toNat->(wK v r 49 0 ps)[i]?=some ((ps.getD i s0).put ((oR v r i).getD [])):=λi c=>by grind
 have b:∀i,i<(v.known.get r).toNat->∃w,oR v r i=some w:=λi c=>by
  grind [oR]
 refine⟨⟨j,l,?_,?_,?_⟩,h⟩
 ·show((wK v r 49 0 ps).length:Int)=_;rw[g];show((v.known.get r).toNat:Int)=v.known.get r;omega
 ·intro q p d;have a:=(cH.1 d).1;have a:q<(v.known.get r).toNat:=by rw[<-g];exact a
  have e:some ((ps.getD q s0).put ((oR v r q).getD []))=some p:=(h q a).symm.trans d;injection e with e;have⟨w,f⟩:=b q a;show oR v r q=some p.w;rw[<-e,f];rfl
 ·intro p d;obtain⟨i,c,rfl⟩:=oV d;have a:i<(v.known.get r).toNat:=by rw[<-g];exact c
  have e:some ((ps.getD i s0).put ((oR v r i).getD []))=some (Sv.again ⟨v,ps,r⟩).ps[i]:=(h i a).symm.trans (bS c);injection e with e;have⟨w,f⟩:=b i a;rw[<-e,f];exact aJg (n.getD i) (Vj j f)
def Ff(v:Lg)(c:aI):((nD v c).2≠0/\(nD v c).1=v)\/((nD v c).2=0/\v.l.length+v.t.length<48/\oL v.known v.times c=true/\(nD v c).1=⟨v.l,yZ v.t c,v.known.set c.id.rep c.id.seq,v.times.set c.id.rep c.time⟩):=by
 grind [nD,oL]
theorem Vd.fresh(h:Vd v)(d:oL v.known v.times c=true):∀x∈v.l++v.t,x.id≠c.id:=λx a e=>by
 have b:=yF h.lQ a
 grind [sN]
def IH(h:Vd v)(hn:oL v.known v.times c=true):yZ v.t c=pD v.t c:=by
 unfold yZ;rw[c!];have:¬0<=eH v.t c.id:=λh0=>by
  have⟨x,hx,e⟩:=OY.1 h0;exact h.fresh hn x (tJ _ hx) e
 omega
def Vd.add(h:Vd v)(d:c.ok)(e:v.l.length+v.t.length<48)(b:oL v.known v.times c=true):Vd ⟨v.l,yZ v.t c,v.known.set c.id.rep c.id.seq,v.times.set c.id.rep c.time⟩:=by
 rw[IH h b];refine⟨Zk h.lQ b,h.qE,λx a=>?_,?_,h.sW.put λx a=>h.fresh b x (tJ _ a)⟩
 ·rcases P7 a with rfl|a
  ·exact d
  ·exact h.vS x a
 ·grind [pD,IC]
theorem Gd.dB{s:Sv}(h:Gd s)(g:c.ok):Gd (s.dB c).1:=by
 unfold Sv.dB;split
 ·rcases Ff s.v c with⟨a,b⟩|⟨a,b,d,f⟩
  ·rw[b! a,b];exact h
  ·rw[c! a,f];have⟨_,e,i,_⟩:=sN.1 d;refine(Gd.I5 (h.v.add g b d) h.rep h.ch ?_).1;dsimp only;rw[V4.uP e h.rep,h.n];grind
 ·exact h
def HQ(v:Lg)(a:aL):((pM v a).2≠0/\(pM v a).1=v)\/((pM v a).2=0/\∃x c y,v.t=x++c::y/\c.id=a/\(∀z∈x,¬(z.id.rep=c.id.rep/\z.id.seq<c.id.seq))/\(pM v a).1=⟨v.l++[c],x++y,v.known,v.times⟩):=by
 grind [pM,qL,CD,eH,List.getElem?_eq_some_iff,List.drop_eq_getElem_cons,List.take_append_drop,List.any_eq_false,List.mem_of_mem_take,xJ,BT]
theorem Vd.uM(h:Vd v){x y:List aI}(i:v.t=x++c::y)(g:∀z∈x,¬(z.id.rep=c.id.rep/\z.id.seq<c.id.seq)):Vd ⟨v.l++[c],x++y,v.known,v.times⟩:=by
 have a:=h.lQ;have e:=h.vS;have d:=h.len;have b:=h.sW;rw[i] at a e d b;refine⟨Zm a g,λz f=>?_,λz f=>?_,?_,?_⟩
 ·rcases eL.1 f with f|f
  ·exact h.qE z f
  ·grind
 ·grind
 ·grind
 ·exact b.sublist (List.Sublist.append_left (List.sublist_cons_self c y) x)
theorem Gd.nS{s:Sv}(h:Gd s)(a:aL):Gd (s.nS a).1:=by
 unfold Sv.nS;split
 ·rcases HQ s.v a with⟨b,d⟩|⟨b,x,c,y,d,g,e,f⟩
  ·rw[b! b,d];exact h
  ·rw[c! b,f];exact(Gd.I5 (h.v.uM d e) h.rep h.ch (by dsimp only;rw[h.n];exact dV _)).1
 ·exact h
def Gd.set{s:Sv}(h:Gd s){p:bC}(c:JO p)(d:p.w=(s.ps.getD i s0).w):Gd ⟨s.v,s.ps.set i p,s.r⟩:=by
 refine⟨h.v,h.rep,by dsimp only;rw[iM];exact h.n,λq x a=>?_,h.ch.set c⟩;dsimp only at a⊢;rw[Gb] at a;split at a
 ·rename_i e;subst e;split at a
  ·rename_i b;injection a with a;subst a;rw[d,qS,bS b];exact h.w i _ (bS b)
  ·cases a
 ·exact h.w q x a
def Gd.oF{s:Sv}(h:Gd s)(k:bV)(now:Int):Gd (s.oF k now).1:=by
 unfold Sv.oF;split
 ·rename_i c;rw[fI] at c;have a:0<=now/\now<=1073741824:=g! c.2;have d:bQ now:=by unfold bQ;omega
  unfold AD;dsimp only;split
  ·have b:=h.ch.getD (k.id.seq - 1).toNat;refine h.set ?_ ?_
   ·split
    ·exact⟨bC.K6 b.1 d,b.2.dK b.1 a⟩
    ·exact b
   ·split<;>rfl
  ·exact h
 ·exact h
def Gd.oW{s:Sv}(h:Gd s)(k:bV):Gd (s.oW k).1:=by
 unfold Sv.oW;split
 ·unfold Aq;dsimp only;split
  ·have a:=h.ch.getD (k.id.seq - 1).toNat;exact h.set ⟨bC.I3 a.1,a.2.cR⟩ rfl
  ·exact h
 ·exact h
def Gd.new{r:Int}(a:0<=r/\r<=3):Gd ⟨sI,[],r⟩ :=
 ⟨⟨rfl,(λ_ h=>(cZ h).elim),(λ_ h=>(cZ h).elim),(show(0:Nat)+0<=48 by decide),List.Pairwise.nil⟩,a,by show(0:Int)=kZ.get r;rw[vC],(λq p h=>by cases h),λ_ h=>(cZ h).elim⟩
def Gd.np{s:Sv}(h:Gd s):s.ps.length<=48:=by
 have:=h.v.count h.rep;have:=h.n;omega
end
section
open Go.RowKit Reg Oct
open Mem hiding Rd
instance:iB 414 [.pointer none] [(0,1)]:=⟨⟨q_,q_⟩⟩
structure Ix where
 B:Option Addr
 m:Nat
 d:Nat
 b:List UInt8
 A:Option Addr
 n:Nat
 c:Nat
def kY(g:Nat)(l:o!):aG:=pack λ(x:Ix)=>[mS (mW x.B x.m x.d x.b x.A x.n x.c l),gA g true false x.A x.n x.c,own bH x.B x.m x.d x.b]
theorem kY.mk{l:o!}{x:Ix}(f:mW x.B x.m x.d x.b x.A x.n x.c l):aB E ([gA g true false x.A x.n x.c,own bH x.B x.m x.d x.b]++R) (kY g l::R):=λw e=>by
 have c:St E (mS (mW x.B x.m x.d x.b x.A x.n x.c l)::[gA g true false x.A x.n x.c,own bH x.B x.m x.d x.b]++R) w:=aB.qH f w e;exact c.conv λF d=>by
  have⟨a,b,k1,k2,k3,k4⟩:=jU.1 d;exact⟨F,⟨a,b,k1,k2,⟨x,k3⟩,k4⟩,λ_ h=>h⟩
def OX{args:Array p!}{l:o!}(h:∀x:Ix,mW x.B x.m x.d x.b x.A x.n x.c l->aF prog E f args [gA g true false x.A x.n x.c,own bH x.B x.m x.d x.b] Q):aF prog E f args [kY g l] Q:=by
 intro a w j;have⟨x,d⟩:=j.unpack (l:=λ(x:Ix)=>[mS (mW x.B x.m x.d x.b x.A x.n x.c l),gA g true false x.A x.n x.c,own bH x.B x.m x.d x.b]) Has.aR;have i:=St.qH (H:=_) (R:=_) d Has.aR;refine h x i a w (d.conv λF c=>?_);have⟨k,e,k1,k2,k3,k4⟩:=c;exact⟨e,by simpa using k4,λb hb=>(k1 b).2 (.inr hb)⟩
section
variable (E:Env) (g:Nat)
def Fq:G E 328 [.bool true] [] (bL (.tuple #[]) []):=by
 refine p_ func328 ntmps328 ?_
 exact vK
def aSc(x:UInt8)(l:o!):G E 242 [pt g,a! 1] [kY g (x::l)] (bL (.tuple #[.int .u64 x.toNat,.bool true]) [kY g l]):=by
 refine OX λy c=>?_;refine aF.post (aF.lR (Hp:=[gA g true false y.A y.n y.c]) λM i=>zB M g false y.A y.n y.c (x::l) 1 (c M (Sub.own i Has.aR))) ?_;rintro e k ⟨m,⟨d,j,f,rfl,a,rfl⟩,rfl⟩;have h:nx false (x::l) (wid 1)=(some [x],false,l):=by
  unfold nx wid;simp;omega
 rw[h] at a⊢;have b:=kY.mk (E:=E) (R:=[]) (g:=g) (x:=⟨y.B,y.m,y.d,y.b,d,j,f⟩) (c.trans a);rw[aY] at b;refine⟨_,b,?_,rfl⟩;show Ending.returned (.tuple #[.int .u64 (get [x]:Nat),.bool true])=_;rw[show get [x]=x.toNat from lM _]
def aRv(k:Nat)(l:o!)(s:k<=l.length)(o:l.length<=140737488355328):G E 244 [pt g,a! k] [kY g l] λe b=>∃B d,e=.returned (.tuple #[.slice B k d,.bool true])/\b=[own bH B k d (l.take k),kY g (l.drop k)]:=by
 refine OX λy h=>?_;refine aF.post (aF.lR (Hp:=[gA g true false y.A y.n y.c]) λM n=>Cm M g false y.A y.n y.c l k (h M (Sub.own n Has.aR)) o) ?_;rintro e b ⟨q,⟨i,p,j,B,d,rfl,a,r,f,rfl⟩,rfl⟩;have m:nx false l (k:Int)=(some (l.take k),false,l.drop k):=by
  unfold nx;rw[b! sD,b! o_,jK]
 rw[m] at a⊢;have c:(l.take k).length=k:=by rw[dR];omega
 have f:=kY.mk (E:=E) (R:=[own bH B k d (l.take k)]) (g:=g) (x:=⟨y.B,y.m,y.d,y.b,i,p,j⟩) (h.trans a);refine⟨[own bH B k d (l.take k),kY g (l.drop k)],?_,B,d,?_,rfl⟩
 ·simp only[oD,c];exact aB.trans (aB.cC (.cons (.bJ .aR) (.cons (.bJ .aR) (.cons .aR .nil)))) (aB.trans f (aB.cC (.cons (.bJ .aR) (.cons .aR .nil))))
 ·simp only[oD,c,FB]
def aDv(l:o!):G E 298 [pt g] [kY g l] (bL (.bool l.isEmpty) [kY g l]):=by
 refine OX λy b=>?_;refine aF.post (aF.lR (Hp:=[gA g true false y.A y.n y.c]) λM c=>JQ M g false y.A y.n y.c l (b M (Sub.own c Has.aR))) ?_;rintro e d ⟨f,⟨rfl,rfl⟩,rfl⟩;have a:=kY.mk (E:=E) (R:=[]) (g:=g) (x:=y) b;rw[aY] at a;exact⟨_,a,rfl,rfl⟩
def OM(x:UInt8)(l:o!):G E 364 [.agg #[pt g]] [kY g (x::l)] (bL (a! x.toNat) [kY g l]):=by
 have a:=x.toNat_lt;refine p_ func364 ntmps364 ?_;intros
 refine r_ (λM=>aSc M g x l) ?_
 refine r_ Fq ?_
 exact aS
def OV(k:Nat)(l:o!)(b:k<=l.length)(c:l.length<=140737488355328):G E 365 [.agg #[pt g],a! k] [kY g l] λe a=>∃B d,e=.returned (.slice B k d)/\a=[own bH B k d (l.take k),kY g (l.drop k)]:=by
 refine p_ func365 ntmps365 ?_;intros
 refine u_ (λM=>aRv M g k l b c) ?_;intro B d
 refine r_ Fq ?_
 exact dS ⟨_,_,rfl,rfl⟩
def Ui(l:List aI)(t:o!)(K:l.length<=48)(H:∀c∈l,c.may=true/\c.ok)(N:t.length<=1000000):G E 327 [.agg #[pt g]] [kY g (jN l++t)] λe m=>∃A c,(l.length<=c/\c<=maxLen)/\e=.returned (.slice A l.length c)/\m=[own bO A l.length c l,kY g t]:=by
 have q:=cS;have z:(UInt8.ofNat l.length).toNat=l.length:=by rw[FG];omega
 have tO:=λM=>OM M g (UInt8.ofNat l.length) (nY l++t);rw[z] at tO;rw[show jN l++t=UInt8.ofNat l.length::(nY l++t) from rfl];refine p_ func327 ntmps327 ?_;intros
 rename_i n;refine r_ tO ?_;refine C.loop (X:=Nat×n!×Nat) (λx=>[(1,.pointer (some ⟨n,0,none⟩)),(3,.slice x.2.1 x.1 x.2.2),(7,a! l.length),(8,a! x.1)]) (λx=>[aE n 414 [pt g],own bO x.2.1 x.1 x.2.2 (l.take x.1),kY g (nY (l.drop x.1)++t)])
  (λx=>x.1<=l.length/\x.1<=x.2.2/\x.2.2<=maxLen) (λx=>l.length - x.1) (0,none,0) aK (by dsimp only;rw[qU,uG];exact aB.trans (aB.nil bO) aC) ⟨bY _,bM _,bY _⟩ ?_
 rintro⟨i,B,d⟩ F ⟨f,o,p⟩;dsimp only at f o p⊢;by_cases a:i<l.length
 ·have⟨x,h⟩:∃x,l[i]?=some x:=⟨_,bS a⟩;have⟨j,k⟩:=H x (dG h);have v:nY (l.drop i)++t=x.put++(nY (l.drop (i+1))++t):=by
   obtain⟨_,rfl⟩:=cH.1 h;rw[lL a,Ny,bF]
  have r:=Fy (l.drop (i+1));rw[lB] at r;have b:=λM=>OV M g 22 (x.put++(nY (l.drop (i+1))++t)) (by rw[bR,x.iP];omega) (by rw[bR,bR,x.iP,r];omega);rw[qT x.iP,rQ x.iP] at b;have D:rW x.put=some x:=MM j k.2.2.2.2.2.1;rw[v];refine a_ ?_
  refine u_ b ?_;intro O J;refine cU (λM f=>JH M O 22 J x.put (some x) D f (by decide)) ?_;rintro e m ⟨rfl,rfl⟩;rw[oD];refine a_ ?_;intros;refine r_ Fq ?_;intros;rename_i s u w y;exact⟨(i+1,s,u),aK,(by dsimp only;rw[take_succ h];exact aC),⟨by dsimp only;omega,w,y⟩,d_⟩
 ·obtain rfl:i=l.length:=o_;rw[gY,uF,show nY []++t=t from rfl];refine a_ ?_;exact dS ⟨_,_,⟨o,p⟩,rfl,rfl⟩
end
inductive Rc
 |cB (c:aI)
 |cD (a:aL)
 |fH (k:bV) (now:Int)
 |cR (k:bV)
def Rc.r:Rc->fQ
 | .cB c=>R1 c
 | .cD a=>R2 a
 | .fH k now=>R3 k now
 | .cR k=>R4 k
def Rc.may:Rc->Bool
 | .cB c=>c.may
 | .cD a=>a.may
 | .fH k now=>k.may&&yN now
 | .cR k=>k.may
def Rc.ok:Rc->Prop
 | .cB c=>c.ok
 | .fH _ now=>bQ now
 |_=>True
def Rc.b(x:Rc):o!:=sR x.r
def Sv.doc(s:Sv):Rc->Sv×Int
 | .cB c=>s.dB c
 | .cD a=>s.nS a
 | .fH k now=>s.oF k now
 | .cR k=>s.oW k
def Gd.doc{s:Sv}(h:Gd s){x:Rc}(b:x.ok):Gd (s.doc x).1:=by
 cases x with
 |cB c=>exact h.dB b
 |cD a=>exact h.nS a
 |fH k now=>exact h.oF k now
 |cR k=>exact h.oW k
def G7(s:Sv)(x:Rc):(s.doc x).1.r=s.r:=by
 cases x with
 |cB c=>show(s.dB c).1.r=_;unfold Sv.dB;split;(split<;>rfl);rfl
 |cD a=>show(s.nS a).1.r=_;unfold Sv.nS;split;(split<;>rfl);rfl
 |fH k now=>show(s.oF k now).1.r=_;unfold Sv.oF;split<;>rfl
 |cR k=>show(s.oW k).1.r=_;unfold Sv.oW;split<;>rfl
def Qp{s:Sv}{x:Rc}(h:(s.doc x).2=0):x.may=true:=by
 cases x with
 |cB c=>change (s.dB c).2=0 at h;unfold Sv.dB at h;split at h;assumption;cases h
 |cD a=>change (s.nS a).2=0 at h;unfold Sv.nS at h;split at h;assumption;cases h
 |fH k now=>change (s.oF k now).2=0 at h;unfold Sv.oF at h;split at h;assumption;cases h
 |cR k=>change (s.oW k).2=0 at h;unfold Sv.oW at h;split at h;assumption;cases h
def Rc.Dq(x:Rc):1<=x.b.length/\x.b.length<=23/\x.b[0]?≠some 5:=by
 cases x with
 |cB c=>show 1<=([1]++c.put).length/\([1]++c.put).length<=23/\([1]++c.put)[0]?≠some 5;simp[c.iP]
 |cD a=>show 1<=([2]++lG a).length/\([2]++lG a).length<=23/\([2]++lG a)[0]?≠some 5;simp[D7]
 |fH k now=>show 1<=([3]++fS k++be now.toNat 4).length/\([3]++fS k++be now.toNat 4).length<=23/\([3]++fS k++be now.toNat 4)[0]?≠some 5;simp[Bu,eJ]
 |cR k=>show 1<=([4]++fS k).length/\([4]++fS k).length<=23/\([4]++fS k)[0]?≠some 5;simp[Bu]
section
variable (E:Env) (g:Nat) (s:Sv) (os:List Ov)
def aGl(d:nN E os)(b:s.ps.length<=48)(x:Rc)(h:x.ok):G E 191 [pt g,.agg x.r.cs.toArray] [cT g s os] λe f=>∃new,e=.returned (a! (s.doc x).2)/\f=[cT g (s.doc x).1 (os++new),aT dZ new]:=by
 cases x with
 |cB c =>
  refine aF.post (aRc E g s os d b c h) ?_;rintro e f ⟨rfl,rfl⟩;exact⟨[cT g (s.dB c).1 (os++[]),aT dZ []],by rw[aY];exact aB.trans (aB.pK dZ) (aB.cC (.cons (.bJ .aR) (.cons .aR .nil))),[],rfl,rfl⟩
 |cD a=>exact aJf E g s os d b a
 |fH k now =>
  refine aF.post (aHy E g s os b k now h) ?_;rintro e f ⟨rfl,rfl⟩;exact⟨[cT g (s.oF k now).1 (os++[]),aT dZ []],by rw[aY];exact aB.trans (aB.pK dZ) (aB.cC (.cons (.bJ .aR) (.cons .aR .nil))),[],rfl,rfl⟩
 |cR k =>
  refine aF.post (aEj E g s os b k) ?_;rintro e f ⟨rfl,rfl⟩;exact⟨[cT g (s.oW k).1 (os++[]),aT dZ []],by rw[aY];exact aB.trans (aB.pK dZ) (aB.cC (.cons (.bJ .aR) (.cons .aR .nil))),[],rfl,rfl⟩
def aOt(x:Rc)(b:x.may=true):G E 228 [.agg x.r.cs.toArray] [] λe f=>∃A c,e=.returned (.tuple #[.slice A x.b.length c,a! 0])/\f=[own bH A x.b.length c x.b]:=by
 cases x with
 |cB c =>
  have d:(Rc.cB c).b.length=23:=by show([1]++c.put).length=23;simp[c.iP]
  rw[d];exact UD E c b
 |cD a =>
  have d:(Rc.cD a).b.length=4:=by show([2]++lG a).length=4;simp[D7]
  rw[d];exact UE E a b
 |fH k now =>
  have d:(Rc.fH k now).b.length=10:=by show([3]++fS k++be now.toNat 4).length=10;simp[Bu,eJ]
  have b:(k.may&&yN now)=true:=b;rw[fI] at b;rw[d];exact UF E k now b.1 b.2
 |cR k =>
  have d:(Rc.cR k).b.length=6:=by show([4]++fS k).length=6;simp[Bu]
  rw[d];exact UG E k b
end
def Rt{a:aL}(e:a.may=true)(x:UInt8)(t:o!):uQ (x::(lG a++t))=a:=by
 have⟨f,h,s0,i⟩:=(aL.eY a).1 e;have b:aW ([x]++(be a.rep.toNat 1++(be a.seq.toNat 2++t))) 1 1=a.rep.toNat:=kK rfl o_;have c:aW (([x]++be a.rep.toNat 1)++(be a.seq.toNat 2++t)) 2 2=a.seq.toNat:=kK (by simp[eJ]) o_;have d:x::(lG a++t)=[x]++(be a.rep.toNat 1++(be a.seq.toNat 2++t)):=by grind [lG]
 unfold uQ;rw[d,b];rw[<-bF,c];rw[aL.eq_iff]
 grind
def SN{k:bV}(j:k.may=true)(x:UInt8)(t:o!):keyOf (x::(fS k++t))=k/\aW (x::(fS k++t)) 5 1<=1:=by
 have⟨e,f,h⟩:=(bV.eY k).1 j;have i:=Rt (a:=k.id) ((aL.eY _).2 e) x ([UInt8.ofNat k.ord.toNat,UInt8.ofNat (mU k.cJ).toNat]++t);rw[<-bF] at i;have l:(x::lG k.id).length=4:=by simp[D7]
 have n:aW ((x::lG k.id)++(be k.ord.toNat 1++([UInt8.ofNat (mU k.cJ).toNat]++t))) 4 1=k.ord.toNat:=kK l o_;have m:(mU k.cJ).toNat<256 ^ 1:=by cases k.cJ<;>decide
 have p:aW (((x::lG k.id)++be k.ord.toNat 1)++(be (mU k.cJ).toNat 1++t)) 5 1=(mU k.cJ).toNat:=kK (by simp[D7,eJ]) m;have q:x::(fS k++t)=(x::lG k.id)++(be k.ord.toNat 1++([UInt8.ofNat (mU k.cJ).toNat]++t)):=by grind [fS,zS]
 have r:x::(fS k++t)=((x::lG k.id)++be k.ord.toNat 1)++(be (mU k.cJ).toNat 1++t):=by grind [fS,zS]
 have c:aW (x::(fS k++t)) 4 1=k.ord.toNat:=by grind
 have b:aW (x::(fS k++t)) 5 1=(mU k.cJ).toNat:=by grind
 have d:uQ (x::(fS k++t))=k.id:=by
  grind [fS]
 refine⟨?_,by rw[b];cases k.cJ<;>decide⟩;unfold keyOf;rw[d,c,b];have⟨v,o,u⟩:=k;dsimp only at f h⊢;rw[show((o.toNat:Nat):Int)=o by omega];cases u<;>rfl
theorem NB{x:Rc}(b:x.may=true)(j:x.ok):tT x.b=some x.r:=by
 cases x with
 |cB c =>
  have b:c.may=true:=b;show tT ([1]++c.put)=_;rw[s? (by rw[FV s_];rfl) (by simp[c.iP])];show(rW c.put).map R1=_;rw[MM b j.2.2.2.2.2.1];rfl
 |cD a =>
  have b:a.may=true:=b;show tT ([2]++lG a)=_;have e:=Rt b 2 [];rw[aY] at e;rw[t? (by rw[FV s_];rfl) (by simp[D7])];show(if (uQ (2::lG a)).may=true then some (R2 (uQ (2::lG a))) else none)=_;rw[e,c! b];rfl
 |fH k now =>
  have b:(k.may&&yN now)=true:=b;rw[fI] at b;have i:0<=now/\now<=1073741824:=g! b.2;show tT ([3]++fS k++be now.toNat 4)=_;have⟨d,f⟩:=SN b.1 3 (be now.toNat 4);have h:aW (([3]++fS k)++(be now.toNat 4++[])) 6 4=now.toNat:=kK (by simp[Bu]) o_;rw[aY] at h;rw[u? (by rw[FV s_];rfl) (by simp[Bu,eJ]),h];rw[show([3]++fS k++be now.toNat 4:o!)=3::(fS k++be now.toNat 4) by simp,d];rw[show((now.toNat:Nat):Int)=now by omega,c! ⟨f,by rw[b.1,b.2];rfl⟩];rfl
 |cR k =>
  have b:k.may=true:=b;show tT ([4]++fS k)=_;have⟨d,f⟩:=SN b 4 [];rw[aY] at d f;rw[v? (by rw[FV s_];rfl) (by simp[Bu])];show(if aW (4::fS k) 5 1<=1/\(keyOf (4::fS k)).may=true then some (R4 (keyOf (4::fS k))) else none)=_;rw[d,c! ⟨f,b⟩];rfl
def HC(h:e.may=true):Ah e=e.put:=c! h
def qW(l:List aN):o!:=l.flatMap Ah
def Mb{l:List aN}(h:∀e∈l,e.may=true):(qW l).length=27*l.length:=by
 induction l with
 |nil=>rfl
 |cons e l c =>
  have a:=c λx b=>h x (kF _ b);show(Ah e++qW l).length=_;rw[bR,a,HC (h e jW),e.iP,gL];omega
section
variable (E:Env) (g:Nat)
theorem aFf(a:aL)(p:bC)(w:JO p)(t:o!)(ht:t.length<=1000000):G E 330 [.agg #[pt g],.agg a.cs.toArray] [kY g (rX p++t)] λe H=>∃A c,(p.l.length<=c/\c<=maxLen)/\e=.returned (.agg #[a! a.rep,a! a.seq,a! p.made,.slice A p.l.length c])/\H=[own gI A p.l.length c p.l,kY g t]:=by
 have Z:=cS;have a8:=w.1.len;have a9:=w.1.vR;have b0:=w.1.qC;have h8:(UInt8.ofNat p.l.length).toNat=p.l.length:=by rw[FG];omega
 have h9:(((UInt8.ofNat p.made.toNat).toNat:Nat):Int)=p.made:=by rw[FG];omega
 have e0:rX p++t=UInt8.ofNat p.made.toNat::UInt8.ofNat p.l.length::(qW p.l++t):=by unfold rX qW;simp
 have J:=λM=>OM M g (UInt8.ofNat p.made.toNat) (UInt8.ofNat p.l.length::(qW p.l++t));have K:=λM=>OM M g (UInt8.ofNat p.l.length) (qW p.l++t);have b:=w.2.may;have v:=w.1.oJ;rw[h9] at J;rw[h8] at K;rw[e0];generalize p.l=l at *;generalize p.made=md at *;dsimp only[aL.cs];refine p_ func330 ntmps330 ?_;intros
 rename_i q g3 z;refine rB (l_ [0,1] (.two 2 (n_ 3 (g_ 4 (g_ 5 .nil))) 4 (g_ 2 (n_ 3 (g_ 5 .nil))))) ([aE q 414 [pt g],aE g3 32 [a! a.rep,a! a.seq]]) (a_ ?_)
 refine Dr.two ?_ ?_
 ·refine lC rfl sD bB sK aH (λM hE=>J M) (b_ ?_);intros
  rename_i r;refine r_ K ?_
  refine C.loop (X:=Nat×n!×Nat) (λx=>[(2,.pointer (some ⟨q,0,none⟩)),(4,.pointer (some ⟨z,0,none⟩)),(5,.pointer (some ⟨r,0,none⟩)),(13,a! l.length),(14,a! x.1)])
   (λx=>[aE q 414 [pt g],aE z 90 [a! 0,a! 0,a! 0,.slice none 0 0],aE r 90 [a! a.rep,a! a.seq,a! md,.slice x.2.1 x.1 x.2.2],own gI x.2.1 x.1 x.2.2 (l.take x.1),kY g (qW (l.drop x.1)++t)])
   (λx=>x.1<=l.length/\x.1<=x.2.2/\x.2.2<=maxLen) (λx=>l.length - x.1) (0,none,0) aK (by dsimp only;rw[qU,uG];exact aB.trans (aB.nil gI) aC) ⟨bY _,bM _,bY _⟩ ?_
  rintro⟨i,B,d⟩ F ⟨n,s,u⟩;dsimp only at n s u⊢;by_cases h:i<l.length
  ·have⟨x,m⟩:∃x,l[i]?=some x:=⟨_,bS h⟩
   have j:=b x (dG m);have o:=v x (dG m);have P:qW (l.drop i)++t=x.put++(qW (l.drop (i+1))++t):=by
    obtain⟨_,rfl⟩:=cH.1 m;rw[lL h,<-bF,<-HC j];rfl
   have y:=Mb (l:=l.drop (i+1)) λe U=>b e (CZ U);rw[lB] at y;have k:=λM=>OV M g 27 (x.put++(qW (l.drop (i+1))++t)) (by rw[bR,x.iP];omega) (by rw[bR,bR,x.iP,y];omega);rw[qT x.iP,rQ x.iP] at k;have f:Bn x.put=some x:=JS j o.2.1.2.2.1;rw[P];refine a_ ?_
   refine u_ k ?_;intro O W
   refine cU (λM n=>RA M O 27 W x.put n rfl) ?_;rw[f];rintro e H ⟨rfl,rfl⟩;rw[oD,FB];refine a_ ?_;intros
   refine r_ Fq ?_;intros
   rename_i D N Q R;exact⟨(i+1,D,N),aK,(by dsimp only;rw[take_succ m];exact aC),⟨by dsimp only;omega,Q,R⟩,d_⟩
  ·obtain rfl:i=l.length:=o_;rw[gY,uF,show qW []++t=t from rfl];refine a_ ?_
   exact eP rfl aJ rfl rfl rfl aV rfl aC (⟨_,_,⟨s,u⟩,rfl,rfl⟩)
 ·refine a_ ?_;intros
  refine y_ J ?_
  rename_i r;refine r_ K ?_
  refine C.loop (X:=Nat×n!×Nat) (λx=>[(2,.pointer (some ⟨q,0,none⟩)),(4,.pointer (some ⟨z,0,none⟩)),(5,.pointer (some ⟨r,0,none⟩)),(13,a! l.length),(14,a! x.1)])
   (λx=>[aE q 414 [pt g],aE z 90 [a! 0,a! 0,a! 0,.slice none 0 0],aE r 90 [a! a.rep,a! a.seq,a! md,.slice x.2.1 x.1 x.2.2],own gI x.2.1 x.1 x.2.2 (l.take x.1),kY g (qW (l.drop x.1)++t)])
   (λx=>x.1<=l.length/\x.1<=x.2.2/\x.2.2<=maxLen) (λx=>l.length - x.1) (0,none,0) aK (by dsimp only;rw[qU,uG];exact aB.trans (aB.nil gI) aC) ⟨bY _,bM _,bY _⟩ ?_
  rintro⟨i,B,d⟩ F ⟨n,s,u⟩;dsimp only at n s u⊢;by_cases h:i<l.length
  ·have⟨x,m⟩:∃x,l[i]?=some x:=⟨_,bS h⟩
   have j:=b x (dG m);have o:=v x (dG m);have P:qW (l.drop i)++t=x.put++(qW (l.drop (i+1))++t):=by
    obtain⟨_,rfl⟩:=cH.1 m;rw[lL h,<-bF,<-HC j];rfl
   have y:=Mb (l:=l.drop (i+1)) λe U=>b e (CZ U);rw[lB] at y;have k:=λM=>OV M g 27 (x.put++(qW (l.drop (i+1))++t)) (by rw[bR,x.iP];omega) (by rw[bR,bR,x.iP,y];omega);rw[qT x.iP,rQ x.iP] at k;have f:Bn x.put=some x:=JS j o.2.1.2.2.1;rw[P];refine a_ ?_
   refine u_ k ?_;intro O W
   refine cU (λM n=>RA M O 27 W x.put n rfl) ?_;rw[f];rintro e H ⟨rfl,rfl⟩;rw[oD,FB];refine a_ ?_;intros
   refine r_ Fq ?_;intros
   rename_i D N Q R;exact⟨(i+1,D,N),aK,(by dsimp only;rw[take_succ m];exact aC),⟨by dsimp only;omega,Q,R⟩,d_⟩
  ·obtain rfl:i=l.length:=o_;rw[gY,uF,show qW []++t=t from rfl];refine a_ ?_
   exact eP rfl aJ rfl rfl rfl aV rfl aC (⟨_,_,⟨s,u⟩,rfl,rfl⟩)
end
end
section
open Go.RowKit Reg
open Mem hiding Rd
abbrev aQ(P:List Ov):aG:=aT dZ P
def cA(P:List Ov)(g:Nat)(s:Sv):aG:=tQ (λos:List Ov=>(∀o∈os,o∈P)/\Gd s) λos=>[cT g s os]
def kX(P:List Ov)(g:Nat)(v:Lg):aG:=tQ (λos:List Ov=>(∀o∈os,o∈P)/\Vd v) λos=>[eW g v os]
theorem cA.mk{s:Sv}{os:List Ov}(h:(∀o∈os,o∈P)/\Gd s):aZ [cT g s os] [cA P g s]:=aZ.fp (X:=List Ov) (p:=λos:List Ov=>(∀o∈os,o∈P)/\Gd s) (l:=λos=>[cT g s os]) (x:=os) h
theorem kX.mk{os:List Ov}(h:(∀o∈os,o∈P)/\Vd v):aZ [eW g v os] [kX P g v]:=aZ.fp (X:=List Ov) (p:=λos:List Ov=>(∀o∈os,o∈P)/\Vd v) (l:=λos=>[eW g v os]) (x:=os) h
theorem cA.mono{Q:List Ov}{s:Sv}:aZ [cA P g s] [cA (P++Q) g s]:=aZ.Mr λ_ h=>⟨λo ho=>zN _ (h.1 o ho),h.2⟩
def nN.To{M:Env}{a:List aG}{os:List Ov}(b:Sub E R M)(h:Has (aQ P) R a)(d:∀o∈os,o∈P):nN M os:=λo c=>nN.aT b h o (d o c)
section
variable (E:Env) (P:List Ov) (g:Nat) (s:Sv)
def Tn(r:Int):G E 224 [a! r] [] λe a=>∃g,e=.returned (pt g)/\a=[cA P g ⟨sI,[],fC r 0 3⟩]:=by
 refine aF.post (aMs E r) ?_;rintro e a ⟨g,rfl,rfl⟩;refine⟨[cA P g ⟨sI,[],fC r 0 3⟩],aB.eG (cA.mk (os:=[]) ⟨(λ_ h=>(cZ h).elim),Gd.new ?_⟩),g,rfl,rfl⟩
 grind [fC]
def Fx:G E 89 [pt g] [cA P g s] (bL (a! s.r) [cA P g s]):=by
 refine aF.fp Has.aR λos hos=>aF.post (VD E g s os) ?_
 grind [aB.eG,cA.mk]
def uW:G E 14 [pt g] [cA P g s] λe H'=>∃g2,e=.returned (pt g2)/\H'=[kX P g2 s.v,cA P g s]:=by
 refine aF.fp Has.aR λos hos=>aF.post (VB E g s os) ?_;rintro e H' ⟨g2,rfl,rfl⟩;exact⟨[kX P g2 s.v,cA P g s],aB.eG (aZ.cons (kX.mk (os:=os) ⟨hos.1,hos.2.v⟩) (cA.mk hos)),g2,rfl,rfl⟩
def Nm:G E 139 [pt g] [cA P g s] λe H'=>∃g2,e=.returned (pt g2)/\H'=[cA P g2 s,cA P g s]:=by
 refine aF.fp Has.aR λos hos=>aF.post (aCi E g s os hos.2.np) ?_
 grind [cA,aB.eG,aZ.cons,cA.mk]
def aOl:G E 79 [pt g] [cA P g s] (bL (.bool s.quiet) [cA P g s]):=by
 refine aF.fp Has.aR λos hos=>aF.post (aHe E g s os) ?_
 grind [aB.eG,cA.mk]
def aDd(c:aI):G E 31 [pt g,.agg c.cs.toArray] [cA P g s] (bL (.tuple #[.agg (s.make c).1.cs.toArray,a! (s.make c).2]) [cA P g s]):=by
 refine aF.fp Has.aR λos hos=>aF.post (aMk E g s os c) ?_
 grind [aB.eG,cA.mk]
def Sv.ready(s:Sv)(cf:bW)(now:Int):List aM:=gD (mC s.r cf now) s.ps s.ps.length
def aGd(cf:bW)(now:Int):G E 180 [pt g,.agg cf.cs.toArray,a! now] [cA P g s] λe H'=>∃O oc,e=.returned (.slice O (s.ready cf now).length oc)/\H'=[own cF O (s.ready cf now).length oc (s.ready cf now),cA P g s]:=by
 refine aF.fp Has.aR λos hos=>aF.post (aRw E g s os hos.2.np cf now) ?_;rintro e H' ⟨O,oc,rfl,rfl⟩;exact⟨[own cF O (s.ready cf now).length oc (s.ready cf now),cA P g s],aB.eG (aZ.cons aZ.refl (cA.mk hos)),O,oc,rfl,rfl⟩
def aLh:G E 32 [pt g] [cA P g s] λe H'=>∃O oc chl,LP s.r s.ps chl/\e=.returned (.slice O s.ps.length oc)/\H'=[own rY O s.ps.length oc chl,aT qV chl,cA P g s]:=by
 refine aF.fp Has.aR λos hos=>aF.post (U8 E g s os hos.2.np) ?_;rintro e H' ⟨O,oc,chl,h1,rfl,rfl⟩;exact⟨[own rY O s.ps.length oc chl,aT qV chl,cA P g s],aB.eG (aZ.cons aZ.refl (aZ.cons aZ.refl (cA.mk hos))),O,oc,chl,h1,rfl,rfl⟩
def Tp:G E 27 [pt g] [cA P g s] λe H'=>∃A n c,(n<=1000000/\n<=c/\c<=maxLen)/\e=.returned (.slice A n c)/\H'=[own bH A n c (kA s),cA P g s]:=by
 refine aF.fp Has.aR λos hos=>aF.post (v9 E g s os hos.2.np hos.2.rep.1) ?_;rintro e H' ⟨A,n,c,h,rfl,rfl⟩;exact⟨[own bH A n c (kA s),cA P g s],aB.eG (aZ.cons aZ.refl (cA.mk hos)),A,n,c,h,rfl,rfl⟩
def CC(x:Rc)(hx:x.ok):G E 191 [pt g,.agg x.r.cs.toArray] [cA P g s,aQ P] λe H'=>∃Q,e=.returned (a! (s.doc x).2)/\H'=[cA (P++Q) g (s.doc x).1,aQ (P++Q)]:=by
 refine aF.fp Has.aR λos hos=>?_;refine aF.post (aF.lR (Hp:=[cT g s os]) (R:=[aQ P]) λM hE=>aGl M g s os (nN.To hE Has.aR hos.1) hos.2.np x hx) ?_;rintro e H' ⟨H1,⟨new,rfl,rfl⟩,rfl⟩;refine⟨[cA (P++new) g (s.doc x).1,aQ (P++new)],aB.eG (aZ.append (A:=[cT g (s.doc x).1 (os++new)]) (B:=[cA (P++new) g (s.doc x).1]) (cA.mk (os:=os++new) ⟨λo ho=>?_,hos.2.doc hx⟩) ?_),new,rfl,rfl⟩
 ·grind
 ·exact(aZ.cC (.cons (.bJ .aR) (.cons .aR .nil))).trans aZ.Ys
def aQv(i:Nat)(made:Int)(A:n!)(m c:Nat)(l:List aN)(hr:Rd E gI A m c l)(hm:m<=1000000)(hlo:∀e∈l,e.ok)(hg:Gd (s.load ⟨s.r,((i+1:Nat):Int)⟩ made l).1) :
  G E 329 [pt g,.agg #[a! s.r,a! ((i+1:Nat):Int),a! made,.slice A m c]] [cA P g s] (bL (.bool (s.load ⟨s.r,((i+1:Nat):Int)⟩ made l).2) [cA P g (s.load ⟨s.r,((i+1:Nat):Int)⟩ made l).1]):=by
 refine aF.fp Has.aR λos hos=>aF.post (aQe E g s os hos.2.np ⟨s.r,((i+1:Nat):Int)⟩ made A m c l hr hm hlo) ?_;rintro e H' ⟨rfl,rfl⟩;exact⟨_,aB.eG (cA.mk (os:=os) ⟨hos.1,hg⟩),rfl,rfl⟩
end
section
variable (E:Env) (P:List Ov) (g:Nat) (v:Lg)
def BB:G E 16 [pt g] [kX P g v] λe H'=>∃B k,(v.l.length<=k/\k<=maxLen)/\e=.returned (.slice B v.l.length k)/\H'=[own bO B v.l.length k v.l,kX P g v]:=by
 refine aF.fp Has.aR λos hos=>aF.post (NG E g v os) ?_;rintro e H' ⟨B,k,h,rfl,rfl⟩;exact⟨[own bO B v.l.length k v.l,kX P g v],aB.eG (aZ.cons aZ.refl (kX.mk hos)),B,k,h,rfl,rfl⟩
def Tz:G E 40 [pt g] [kX P g v] λe H'=>∃B k,(v.t.length<=k/\k<=maxLen)/\e=.returned (.slice B v.t.length k)/\H'=[own bO B v.t.length k v.t,kX P g v]:=by
 refine aF.fp Has.aR λos hos=>aF.post (J2 E g v os) ?_;rintro e H' ⟨B,k,h,rfl,rfl⟩;exact⟨[own bO B v.t.length k v.t,kX P g v],aB.eG (aZ.cons aZ.refl (kX.mk hos)),B,k,h,rfl,rfl⟩
def aNd:G E 18 [pt g] [kX P g v] λe H'=>∃y:Bh,y.b=(fM fY (v.l++v.t)).1/\e=.returned (.agg y.cs.toArray)/\H'=[gQ y,kX P g v]:=by
 refine aF.fp Has.aR λos hos=>aF.post (aHh E g v os) ?_;rintro e H' ⟨y,h,rfl,rfl⟩;exact⟨[gQ y,kX P g v],aB.eG (aZ.cons aZ.refl (kX.mk hos)),y,h,rfl,rfl⟩
def aLl:G E 96 [pt g] [kX P g v] (bL (.agg (xK (v.l++v.t)).cs.toArray) [kX P g v]):=by
 refine aF.fp Has.aR λos hos=>aF.post (Sc E g v os) ?_
 grind [aB.eG,kX.mk]
def aEp:G E 115 [pt g] [kX P g v] (bL (.tuple #[.agg ((v.t[0]?).getD kU).id.cs.toArray,.bool (!v.t.isEmpty)]) [kX P g v]):=by
 refine aF.fp Has.aR λos hos=>aF.post (aRy E g v os) ?_
 grind [aB.eG,kX.mk]
def KX(a:aL):G E 110 [pt g,.agg a.cs.toArray] [kX P g v,aQ P] λe H'=>∃o:Ov,o.d=(iZ v a).1/\e=.returned (.tuple #[.agg o.cs.toArray,.bool (iZ v a).2.1,.bool (iZ v a).2.2])/\H'=[dZ o,kX P g v,aQ P]:=by
 refine aF.fp Has.aR λos hos=>?_;refine aF.post (aF.lR (Hp:=[eW g v os]) (R:=[aQ P]) λM hE=>Sm M g v os (nN.To hE Has.aR hos.1) a) ?_;rintro e H' ⟨H1,⟨o,h,rfl,rfl⟩,rfl⟩;exact⟨[dZ o,kX P g v,aQ P],aB.eG (aZ.cons aZ.refl (aZ.append (A:=[eW g v os]) (B:=[kX P g v]) (kX.mk hos) aZ.refl)),o,h,rfl,rfl⟩
end
end
section
def kB(r:Int)(l:List aI):Sv:=l.foldl (λs c=>((s.doc (.cB c)).1.doc (.cD c.id)).1) ⟨sI,[],r⟩
def BC(s:Sv)(t:List aI):Sv:=t.foldl (λs c=>(s.doc (.cB c)).1) s
def T5{r:Int}(h:l[i]?=some c):kB r (l.take (i+1))=(((kB r (l.take i)).doc (.cB c)).1.doc (.cD c.id)).1:=Cy h
def T7{s:Sv}(h:l[i]?=some c):BC s (l.take (i+1))=((BC s (l.take i)).doc (.cB c)).1:=Cy h
def Em(ps:List bC):Prop:=∀p∈ps,p.made=0/\p.l=[]
theorem Em.again{r:Int}(m:Vd v)(l:0<=r/\r<=3)(f:JL ps)(j:(ps.length:Int)<=v.known.get r)(g:Em ps):Em (Sv.again ⟨v,ps,r⟩).ps:=by
 have⟨d,e⟩:=Gd.I5 m l f j;intro p k;obtain⟨i,h,rfl⟩:=oV k;have b:i<(v.known.get r).toNat:=by
  have:=d.n
  grind [Sv.again]
 have a:=e i b;rw[bS h] at a;injection a with a
 have c:(ps.getD i s0).made=0/\(ps.getD i s0).l=[]:=by
  rw[qS];cases n:ps[i]? with
  |none=>exact⟨rfl,rfl⟩
  |some x=>exact g x (dG n)
 rw[a];refine⟨c.1,?_⟩;show settle _ (ps.getD i s0).l=[];rw[c.2];rfl
def I4{s:Sv}(h:Gd s)(k:Em s.ps)(j:c.ok)(b:s.v.l.length+s.v.t.length<48)(a:oL s.v.known s.v.times c=true)(d:sW (s.v.t++[c])) :
  (s.doc (.cB c)).2=0/\(s.doc (.cB c)).1.v=⟨s.v.l,s.v.t++[c],s.v.known.set c.id.rep c.id.seq,s.v.times.set c.id.rep c.time⟩/\Em (s.doc (.cB c)).1.ps:=by
 have⟨o,i,m,n⟩:=sN.1 a;have l:nD s.v c=(⟨s.v.l,s.v.t++[c],s.v.known.set c.id.rep c.id.seq,s.v.times.set c.id.rep c.time⟩,0):=by
  unfold oL at a;rw[fI] at a;unfold nD;rw[b! o_,b! (by grind),b! (by grind),IH h.v (by grind [oL]),U5 d]
 have g:s.doc (.cB c)=(Sv.again ⟨⟨s.v.l,s.v.t++[c],s.v.known.set c.id.rep c.id.seq,s.v.times.set c.id.rep c.time⟩,s.ps,s.r⟩,0):=by
  show s.dB c=_;grind [Sv.dB]
 rw[g];refine⟨rfl,rfl,?_⟩;have f:=h.v.add j b a;rw[IH h.v a,U5 d] at f;refine Em.again f h.rep h.ch ?_ k;show(s.ps.length:Int)<=(s.v.known.set c.id.rep c.id.seq).get s.r;rw[V4.uP i h.rep,h.n];split
 ·rename_i e;rw[e];omega
 ·exact dV _
theorem QY{s:Sv}(h:Gd s)(d:Em s.ps)(j:s.v.t=[c]):(s.doc (.cD c.id)).2=0/\(s.doc (.cD c.id)).1.v=⟨s.v.l++[c],[],s.v.known,s.v.times⟩/\Em (s.doc (.cD c.id)).1.ps:=by
 have a:=(aI.eY c).1 (h.v.may (c:=c) (by grind));have e:c.id.may=true:=(aL.eY _).2 a.1;have i:eH [c] c.id=0:=by show place (λx:aI=>decide (x.id=c.id)) [c]=0;unfold place;rw[c! (d! rfl)]
 have fr:qL [c] c.id=true:=by
  grind [qL]
 have g:pM s.v c.id=(⟨s.v.l++[c],[],s.v.known,s.v.times⟩,0):=by
  grind [pM,xJ,BT]
 have b:s.doc (.cD c.id)=(Sv.again ⟨⟨s.v.l++[c],[],s.v.known,s.v.times⟩,s.ps,s.r⟩,0):=by
  show s.nS c.id=_
  grind [Sv.nS]
 rw[b];refine⟨rfl,rfl,?_⟩;have f:=h.v.uM (x:=[]) (y:=[]) (c:=c) (by grind) (λ_ h=>(cZ h).elim);exact Em.again f h.rep h.ch (by dsimp only;rw[h.n];exact dV _) d
def Je{k:V4}(h:follow k t l=some (k',t'))(g:l[i]?=some c):∃p,follow k t (l.take i)=some p/\oL p.1 p.2 c=true/\follow k t (l.take (i+1))=some (p.1.set c.id.rep c.id.seq,p.2.set c.id.rep c.time):=by
 obtain⟨d,rfl⟩:=cH.1 g;have e:l=l.take i++(l[i]::l.drop (i+1)):=by rw[<-lL d,mE]
 rw[e,Br] at h;cases a:follow k t (l.take i) with
 |none=>rw[a] at h;cases h
 |some p =>
  rw[a] at h;have b:follow p.1 p.2 (l[i]::l.drop (i+1))=some (k',t'):=h;rw[follow] at b;split at b
  ·rename_i f;refine⟨p,rfl,f,?_⟩;rw[rS d,Br,a];show(if oL p.1 p.2 l[i] then _ else none)=_;rw[c! f];rfl
  ·cases b
structure Pa(r:Int)(R:Sv)(l t:List aI)(p:V4×V4):Prop where
 g:Gd R
 e:Em R.ps
 v:R.v=⟨l,t,p.1,p.2⟩
 r:R.r=r
def OA(e:Vd v){r:Int}(m:0<=r/\r<=3):∀i,i<=v.l.length->∃p,follow kZ kZ (v.l.take i)=some p/\Pa r (kB r (v.l.take i)) (v.l.take i) [] p
 |0,_=>⟨(kZ,kZ),rfl,Gd.new m,(λ_ h=>(cZ h).elim),rfl,rfl⟩
 |i+1,B=>by
  have⟨p,u,a⟩:=OA e m i o_;have f:v.l[i]?=some v.l[i]:=bS o_;have g:(v.l++v.t)[i]?=some v.l[i]:=by grind
  have⟨q,d,y,n⟩:=Je e.lQ g;rw[E6 o_] at d;rw[E6 o_] at n;rw[u] at d;injection d with d
  subst d;have l:=e.len;have b:=e.qE _ (dG f);generalize v.l[i]=c at *;have w:(v.l.take i).length=i:=by grind
  have⟨z,j,o⟩:=I4 a.g a.e (c:=c) b (by rw[a.v];dsimp only;rw[w];show i+0<48;omega) (by rw[a.v];exact y) (by rw[a.v];exact Cc _ _);have k:=a.g.doc (x:=.cB c) b;rw[a.v] at j;have⟨A,s,b3⟩:=QY k o (c:=c) (by grind);have t:=k.doc (x:=.cD c.id) trivial;refine⟨_,n,?_⟩;rw[T5 f,take_succ f];refine⟨t,b3,by rw[s,j],?_⟩;rw[G7,G7];exact a.r
def Kb(b:Vd v){r:Int}(l:0<=r/\r<=3):∀i,i<=v.t.length->∃p,follow kZ kZ (v.l++v.t.take i)=some p/\Pa r (BC (kB r v.l) (v.t.take i)) v.l (v.t.take i) p
 |0,_=>by
  have⟨p,f,a⟩:=OA b l v.l.length (bM _);rw[gY] at f a;exact⟨p,by rw[qU,aY];exact f,a⟩
 |i+1,y=>by
  have⟨p,f,a⟩:=Kb b l i o_;have g:v.t[i]?=some v.t[i]:=bS o_;have h:(v.l++v.t)[v.l.length+i]?=some v.t[i]:=by grind
  have⟨q,e,u,n⟩:=Je b.lQ h;rw[PW] at e;rw[Ac,PW] at n;rw[f] at e;injection e with e
  subst e;have k:=b.len;have d:=b.vS _ (dG g);have m:sW (v.t.take (i+1)):=b.sW.sublist (Iq _ _);rw[take_succ g] at m;generalize v.t[i]=c at *;have t:(v.t.take i).length=i:=by rw[dR];omega
  have⟨w,j,o⟩:=I4 a.g a.e (c:=c) d (by rw[a.v];dsimp only;rw[t];omega) (by rw[a.v];exact u) (by rw[a.v];exact m);have s:=a.g.doc (x:=.cB c) d;rw[a.v] at j;refine⟨_,n,?_⟩;rw[T7 g,take_succ g];exact⟨s,o,j,by rw[G7];exact a.r⟩
def aQs{s:Sv}(h:Gd s)(g:s.v.l[i]?=some c):((kB s.r (s.v.l.take i)).doc (.cB c)).2=0/\(((kB s.r (s.v.l.take i)).doc (.cB c)).1.doc (.cD c.id)).2=0:=by
 have t:=(cH.1 g).1;have⟨p,k,a⟩:=OA h.v h.rep i o_;have e:(s.v.l++s.v.t)[i]?=some c:=by grind
 have⟨q,d,m,u⟩:=Je h.v.lQ e;rw[E6 o_,k] at d;injection d with d
 subst d;have f:=h.v.len;have b:=h.v.qE _ (dG g);have l:(s.v.l.take i).length=i:=by grind
 have⟨n,j,o⟩:=I4 a.g a.e (c:=c) b (by rw[a.v];dsimp only;rw[l];show i+0<48;omega) (by rw[a.v];exact m) (by rw[a.v];exact Cc _ _);have r:=a.g.doc (x:=.cB c) b;rw[a.v] at j
 grind [QY]
def aDk{s:Sv}(h:Gd s)(b:s.v.t[i]?=some c):((BC (kB s.r s.v.l) (s.v.t.take i)).doc (.cB c)).2=0:=by
 have n:=(cH.1 b).1;have⟨p,k,a⟩:=Kb h.v h.rep i o_;have f:(s.v.l++s.v.t)[s.v.l.length+i]?=some c:=by rw[wG o_,Lr];exact b
 have⟨q,d,m,o⟩:=Je h.v.lQ f;rw[PW,k] at d;injection d with d
 subst d;have g:=h.v.len;have e:=h.v.vS _ (dG b);have j:sW (s.v.t.take (i+1)):=h.v.sW.sublist (Iq _ _);rw[take_succ b] at j;have l:(s.v.t.take i).length=i:=by rw[dR];omega
 exact(I4 a.g a.e (c:=c) e (by rw[a.v];dsimp only;rw[l];omega) (by rw[a.v];exact m) (by rw[a.v];exact j)).1
def part(s:Sv)(i:Nat):Sv:=⟨s.v,s.ps.take i++(s.ps.drop i).map (λp=>⟨0,[],p.w⟩),s.r⟩
def T6{s:Sv}(h:Gd s):BC (kB s.r s.v.l) s.v.t=part s 0:=by
 have⟨p,b,a⟩:=Kb h.v h.rep s.v.t.length (bM _);rw[gY] at b a;rw[h.v.lQ] at b;injection b with b;subst b;have n:(BC (kB s.r s.v.l) s.v.t).v=s.v:=a.v;have k:=a.r;have u:=a.g.n;have o:=a.g.w;have g:=a.e;generalize BC (kB s.r s.v.l) s.v.t=R at *;have⟨v,d,r⟩:=R;dsimp only at n k u o g;subst n k;have j:d.length=s.ps.length:=by have:=h.n;omega
 unfold part;congr 1;rw[qU,uG,jD];apply uH;intro i;rw[mM];by_cases f:i<d.length
 ·have t:=o i _ (bS f);have c:=h.w i _ (bS o_);rw[t] at c;injection c with c;have e:=g _ (zL f);rw[bS f,bS o_];show some d[i]=some _;congr 1;generalize d[i]=q at *;have⟨m,l,w⟩:=q;dsimp only at c e;rw[e.1,e.2,c]
 ·rw[CY.2 o_,CY.2 o_];rfl
def aOg(s:Sv):part s s.ps.length=s:=by
 unfold part;rw[gY,uF,tI,aY]
def Nl(s:Sv)(i:Nat):(part s i).ps.length=s.ps.length:=by
 grind [part]
theorem Nk{s:Sv}(hi:i<s.ps.length):(part s i).ps[i]?=some ⟨0,[],s.ps[i].w⟩:=by
 grind [part]
def Tg{s:Sv}(h:Gd s)(hi:i<s.ps.length):(part s i).load ⟨s.r,((i+1:Nat):Int)⟩ s.ps[i].made s.ps[i].l=(part s (i+1),true):=by
 have a:=h.ch _ (zL hi);have b:=Nl s i;have d:((part s i).ps.getD i s0).w=s.ps[i].w:=by grind [Nk]
 have e:(part s i).ps.set i s.ps[i]=(part s (i+1)).ps:=by
  unfold part;dsimp only;rw[Ip _ _ (by grind),dR,nM o_,BZ,lL hi,jL,List.set_cons_zero,rS hi,bF];rfl
 unfold Sv.load DC;have c:(part s i).r=s.r:=rfl;rw[c,c! ⟨rfl,by dsimp only;omega,d_⟩,a.whole,c! rfl];dsimp only;rw[show(((i+1:Nat):Int) - 1).toNat=i by omega,d,a.2.gone];rw[show(⟨s.ps[i].made,s.ps[i].l,s.ps[i].w⟩:bC)=s.ps[i] from rfl,e];rfl
theorem Gd.part{s:Sv}(h:Gd s):∀i,i<=s.ps.length->Gd (part s i)
 |0,_=>by
  have⟨p,l,a⟩:=Kb h.v h.rep s.v.t.length (bM _);rw[gY,T6 h] at a;exact a.g
 |i+1,m=>by
  have g:=Gd.part h i o_;have b:=h.ch _ (zL (show i<s.ps.length by omega));have e:=Tg h (show i<s.ps.length by omega);have a:=g.set (i:=i) b (by grind [Nk]);have j:(Sep.part s (i+1)).ps=(Sep.part s i).ps.set i s.ps[i]:=by
   unfold Sv.load DC at e;have d:=Nl s i;have f:(Sep.part s i).r=s.r:=rfl;rw[f,c! ⟨rfl,by dsimp only;omega,d_⟩,b.whole,c! rfl] at e;have c:=j! (λz=>z.1.ps) e;dsimp only at c;rw[<-c,show(((i+1:Nat):Int) - 1).toNat=i by omega,qS,Nk o_];dsimp only[Option.getD];rw[b.2.gone]
  have k:Sep.part s (i+1)=⟨(Sep.part s i).v,(Sep.part s i).ps.set i s.ps[i],(Sep.part s i).r⟩:=by rw[<-j];rfl
  grind
structure Lc where
 base:Option Sv
 l:List Rc
def xI(r:Int):Sv:=⟨sI,[],r⟩
def Bd:Option Sv->List (o!)
 |some s=>[5::kA s]
 |none=>[]
def Lc.bs(z:Lc):List (o!):=Bd z.base++z.l.map Rc.b
def fW(s:Sv)(l:List Rc):Sv:=l.foldl (λs x=>(s.doc x).1) s
def Lc.sv(r:Int)(z:Lc):Sv:=fW (z.base.getD (xI r)) z.l
structure Lc.ok(r:Int)(z:Lc):Prop where
 rep:0<=r/\r<=3
 base:∀s,z.base=some s->Gd s/\s.r=r
 l:∀x∈z.l,x.may=true/\x.ok
def UK{l:List Rc}(b:∀x∈l,x.may=true/\x.ok):∀ {s:Sv},Gd s->Gd (fW s l)/\(fW s l).r=s.r:=by
 induction l with
 |nil=>exact λh=>⟨h,rfl⟩
 |cons x l d =>
  intro s h;have a:=d (λy c=>b y (kF _ c)) (h.doc (b x jW).2);exact⟨a.1,a.2.trans (G7 s x)⟩
def Lc.ok.start{r:Int}{z:Lc}(h:z.ok r):Gd (z.base.getD (xI r))/\(z.base.getD (xI r)).r=r:=by
 cases hb:z.base with
 |none=>exact⟨Gd.new h.rep,rfl⟩
 |some s=>exact h.base s hb
def Lc.ok.gd{r:Int}{z:Lc}(h:z.ok r):Gd (z.sv r)/\(z.sv r).r=r:=by
 have⟨a,b⟩:=h.start;have⟨c,d⟩:=UK h.l a;exact⟨c,d.trans b⟩
theorem Lc.ok.take{r:Int}{z:Lc}(h:z.ok r)(k:Nat):∃d:Lc,d.ok r/\d.bs=z.bs.take k:=by
 have⟨a,l⟩:=z;cases a with
 |none=>exact⟨⟨none,l.take k⟩,⟨h.rep,(λs c=>by cases c),λx b=>h.l x (mD b)⟩,by unfold Lc.bs Bd;simp[List.map_take]⟩
 |some s =>
  cases k with
  |zero=>exact⟨⟨none,[]⟩,⟨h.rep,(λs c=>by cases c),λx b=>(cZ b).elim⟩,rfl⟩
  |succ k=>exact⟨⟨some s,l.take k⟩,⟨h.rep,h.base,λx b=>h.l x (mD b)⟩,by unfold Lc.bs Bd;simp[List.map_take]⟩
def Lc.ok.push{r:Int}{z:Lc}(h:z.ok r){x:Rc}(b:x.may=true)(c:x.ok):Lc.ok r ⟨z.base,z.l++[x]⟩:=⟨h.rep,h.base,λy a=>by
 rcases eL.1 a with a|a
 ·exact h.l y a
 ·rw[eM] at a;subst a;exact⟨b,c⟩⟩
def Lc.Xb(z:Lc)(x:Rc):Lc.bs ⟨z.base,z.l++[x]⟩=z.bs++[x.b]:=by grind [Lc.bs]
def Lc.aEm(r:Int)(z:Lc)(x:Rc):Lc.sv r ⟨z.base,z.l++[x]⟩=((z.sv r).doc x).1:=by grind [Lc.sv,fW]
noncomputable def lH(r:Int)(a:List (o!)):Lc:=open Classical in if h:∃z:Lc,z.ok r/\z.bs=a then h.choose else⟨none,[]⟩
theorem Fh{r:Int}{a:List (o!)}(h:∃z:Lc,z.ok r/\z.bs=a):(lH r a).ok r/\(lH r a).bs=a:=by
 grind [lH]
structure Nd where
 r:Int
 ls:LS
 up:Bool
 lc:Lc
 s:Sv
def Nd.iS(n:Nd):List (o!):=(LS.open n.ls.N n.ls.D (-1)).bT
structure Nd.ok(n:Nd):Prop where
 rep:0<=n.r/\n.r<=3
 n0:1<=n.ls.N
 n1:n.ls.N<=64
 len:n.ls.D.length=32*(2*n.ls.N+1)
 a0 : -1<=n.ls.aO
 a1:n.ls.aO<=9223372036854775807
 iS:∃z:Lc,z.ok n.r/\z.bs=n.iS
 inv:n.up=true->Inv n.ls/\n.ls.dead=false
 lc:n.up=true->n.lc.ok n.r/\n.lc.bs=n.ls.bT/\n.s=n.lc.sv n.r
def Nd.ok.gd{n:Nd}(h:n.ok)(c:n.up=true):Gd n.s/\n.s.r=n.r:=by
 have⟨a,_,b⟩:=h.lc c;rw[b];exact a.gd
noncomputable def Nd.stored(n:Nd):Sv:=(lH n.r n.iS).sv n.r
theorem Nd.ok.stored{n:Nd}(h:n.ok):Gd n.stored/\n.stored.r=n.r:=(Fh h.iS).1.gd
noncomputable def Nd.state(n:Nd):Sv:=if n.up then n.s else n.stored
def Nd.write(n:Nd)(x:Rc):Nd×Int :=
 if (n.s.doc x).2=0 then
  (if (n.ls.append x.b).1=0 then(⟨n.r,(n.ls.append x.b).2,n.up,⟨n.lc.base,n.lc.l++[x]⟩,(n.s.doc x).1⟩,0) else(n,(n.ls.append x.b).1))
 else(n,(n.s.doc x).2)
def Nd.sync(n:Nd):Nd×Int:=if n.up then(if n.ls.sync.1=0 then(⟨n.r,n.ls.sync.2,true,n.lc,n.s⟩,0) else(⟨n.r,n.ls.sync.2,false,n.lc,n.s⟩,19)) else(n,19)
def Nd.wO(n:Nd):Nd:=⟨n.r,n.ls,false,n.lc,n.s⟩
noncomputable def Nd.opened(n:Nd):Nd:=⟨n.r,LS.open n.ls.N n.ls.D (-1),true,lH n.r n.iS,n.stored⟩
noncomputable def Nd.qJ(n:Nd):Nd×Int:=if n.up then(n,9) else(n.opened,0)
def LS.arm(s:LS)(k:Int):LS:=⟨s.N,s.D,s.bT,s.dP,s.pos,s.cY,s.dead,if s.dead then s.aO else max k (-1)⟩
def Nd.arm(n:Nd)(k:Int):Nd:=if n.up then⟨n.r,n.ls.arm k,true,n.lc,n.s⟩ else n
def Nd.fD(n:Nd):o!:=5::kA n.s
def Nd.pack(n:Nd):Nd×Int :=
 if n.up then
  (if (n.ls.swap n.fD).1=0 then(⟨n.r,(n.ls.swap n.fD).2,true,⟨some n.s,[]⟩,n.s⟩,0)
  else if (n.ls.swap n.fD).1=19 then(⟨n.r,(n.ls.swap n.fD).2,false,n.lc,n.s⟩,19) else(n,(n.ls.swap n.fD).1))
 else(n,19)
def Nd.new(r:Int)(N:Nat):Nd:=⟨r,LS.new N,true,⟨none,[]⟩,xI r⟩
def Lc.KE{r:Int}(a:0<=r/\r<=3):Lc.ok r ⟨none,[]⟩:=⟨a,(λs b=>by cases b),λx c=>(cZ c).elim⟩
def yC{s:LS}(h:Inv s):(LS.open s.N s.D (-1)).bT=s.bT.take s.dP:=by grind [TY]
def Nd.ok.new{r:Int}{N:Nat}(b:0<=r/\r<=3)(c:1<=N)(d:N<=64):(Nd.new r N).ok:=by
 have a:=Inv.new c d;exact⟨b,c,d,a.len,by show(-1:Int) <= -1;decide,by show(-1:Int)<=_;decide,⟨⟨none,[]⟩,Lc.KE b,(yC a).symm⟩,λ_=>⟨a,rfl⟩,λ_=>⟨Lc.KE b,rfl,rfl⟩⟩
theorem Nd.ok.write{n:Nd}(h:n.ok){x:Rc}(i:x.ok)(d:n.up=true):(n.write x).1.ok:=by
 unfold Nd.write;split
 ·rename_i g;split
  ·rename_i c;have⟨j,k⟩:=h.inv d;have⟨l,m,o⟩:=h.lc d;have a:=j.append x.b;rcases I8 (s:=n.ls) (b:=x.b) with e|⟨_,p,q,r,e⟩
   ·exfalso;unfold LS.append at c e;have hb:=x.Dq;rw[b! o_,b! o_] at c e;split at c
    ·cases c
    ·rename_i f;rw[b! f] at e;have:=j! (λs:LS=>s.bT.length) e;dsimp only at this;rw[bR] at this;simp at this
   ·rw[e] at a⊢;refine⟨h.rep,h.n0,h.n1,h.len,h.a0,h.a1,h.iS,λ_=>⟨a,k⟩,λ_=>⟨l.push (Qp g) i,?_,?_⟩⟩
    ·rw[Lc.Xb,m]
    ·rw[Lc.aEm,<-o]
  ·exact h
 ·exact h
def Nd.ok.wO{n:Nd}(h:n.ok):n.wO.ok:=⟨h.rep,h.n0,h.n1,h.len,h.a0,h.a1,h.iS,(λhu=>by cases hu),λhu=>by cases hu⟩
def aGg{s:LS}(a:s.dead=false):s.sync.1=0\/s.sync.1=19:=by
 grind [VH]
def VI{s:LS}(h:Inv s)(d:s.dead=false)(_hc:s.sync.1≠0):∃k,(LS.open s.sync.2.N s.sync.2.D (-1)).bT=s.bT.take k/\s.sync.2.N=s.N/\s.sync.2.D.length=s.D.length/\s.dP<=k:=by
 have⟨z,q,f,o,n,e,F,c,a,j,l,m⟩:=VH d;rw[c];have⟨g,b,i⟩:=laid h q a;have⟨k,k1,k2,k3,k4⟩:=found h q a;refine⟨k,?_,rfl,b.trans h.len.symm,k1⟩;show Frm.iH (cN (sp s.D (dQ s.N (hb s.D)+s.pos) (s.cY.take q)) s.N (hb (sp s.D (dQ s.N (hb s.D)+s.pos) (s.cY.take q))))=_
 grind
def aKg{s:LS}(a : -1<=s.aO)(b:s.aO<=9223372036854775807) : -1<=s.sync.2.aO/\s.sync.2.aO<=9223372036854775807:=by
 unfold LS.sync;split
 ·grind
 split<;>exact⟨EC a _ _,HR b _ _⟩
theorem Nd.ok.sync{n:Nd}(h:n.ok):n.sync.1.ok:=by
 unfold Nd.sync;by_cases hu:n.up=true
 ·rw[c! hu];have⟨i1,i2⟩:=h.inv hu;have⟨l1,l2,l3⟩:=h.lc hu;have ha:=aKg h.a0 h.a1;by_cases hc:n.ls.sync.1=0
  ·rw[c! hc];cases hq:jR n.ls.aO n.ls.pos n.ls.cY.length
   ·rw[Kz i2 hq] at ha⊢;have hinv:=i1.synced (fO n.ls.aO n.ls.pos n.ls.cY.length);refine⟨h.rep,h.n0,h.n1,hinv.len,ha.1,ha.2,⟨n.lc,l1,?_⟩,λ_=>⟨hinv,rfl⟩,λ_=>⟨l1,l2,l3⟩⟩;rw[l2];exact((yC hinv).trans (fX (bM _))).symm
   ·grind [Of]
  ·rw[b! hc];have⟨k,k1,k2,k3,_⟩:=VI i1 i2 hc;have⟨z,z1,z2⟩:=l1.take k;refine⟨h.rep,by dsimp only;rw[k2];exact h.n0,by dsimp only;rw[k2];exact h.n1,by dsimp only;rw[k2,k3];exact h.len,ha.1,ha.2,⟨z,z1,?_⟩,(λhu=>by cases hu),λhu=>by cases hu⟩;rw[z2,l2];exact k1.symm
 ·grind
def Nd.ok.opened{n:Nd}(h:n.ok):n.opened.ok:=by
 have a:Inv (LS.open n.ls.N n.ls.D (-1)):=Inv.open h.len h.n0 h.n1;have⟨c,d⟩:=Fh h.iS;have b:(LS.open n.ls.N n.ls.D (-1)).aO = -1:=by grind [LS.open,fO]
 refine⟨h.rep,h.n0,h.n1,a.len,?_,?_,⟨lH n.r n.iS,c,?_⟩,λ_=>⟨a,rfl⟩,λ_=>⟨c,d,rfl⟩⟩
 ·show -1<=(LS.open n.ls.N n.ls.D (-1)).aO;rw[b];decide
 ·show(LS.open n.ls.N n.ls.D (-1)).aO<=_;rw[b];decide
 ·rw[d];exact((yC a).trans (fX (bM _))).symm
def Nd.ok.qJ{n:Nd}(h:n.ok):n.qJ.1.ok:=by
 unfold Nd.qJ;split
 ·exact h
 ·exact h.opened
theorem Nd.ok.arm{n:Nd}(h:n.ok)(f:k<=9223372036854775807):(n.arm k).ok:=by
 unfold Nd.arm;split
 ·rename_i b;have⟨a,c⟩:=h.inv b;have d:=h.a0;have e:=h.a1;refine⟨h.rep,h.n0,h.n1,h.len,?_,?_,h.iS,λ_=>⟨⟨a.len,a.n0,a.n1,a.xC,a.dP,a.pos,a.cY,a.half,a.fit⟩,c⟩,λ_=>h.lc b⟩
  ·show -1<=(if n.ls.dead then n.ls.aO else max k (-1));split<;>omega
  ·show(if n.ls.dead then n.ls.aO else max k (-1))<=_;split<;>omega
 ·exact h
def aBc{s:LS}(f : -1<=s.aO)(g:s.aO<=9223372036854775807)(b:o!) : -1<=(s.swap b).2.aO/\(s.swap b).2.aO<=9223372036854775807:=by
 have a:=EC f 0 (32*s.N);have c:=HR g 0 (32*s.N);have d:=EC a 0 (b.length+7);have e:=HR c 0 (b.length+7);have h:=Vl d e
 grind [LS.swap]
def VG{s:LS}{b:o!}:(s.swap b).1=0->(s.swap b).2.bT=[b]/\(s.swap b).2.dP=1/\(s.swap b).2.dead=false:=by
 grind [LS.swap]
def Nd.ok.pack{n:Nd}(h:n.ok):n.pack.1.ok:=by
 unfold Nd.pack;by_cases hu:n.up=true
 ·rw[c! hu];have⟨i1,i2⟩:=h.inv hu;have⟨l1,l2,l3⟩:=h.lc hu;have hg:=h.gd hu;have ha:=aBc h.a0 h.a1 n.fD;have hnew:Lc.ok n.r ⟨some n.s,[]⟩:=⟨h.rep,(λs hs=>by injection hs with hs;subst hs;exact hg),λx hx=>(cZ hx).elim⟩;have⟨f1,f2,f3⟩:=VF i1 i2 n.fD;by_cases hc:(n.ls.swap n.fD).1=0
  ·rw[c! hc];have hinv:=i1.swap i2 n.fD hc;have hrecs:=VG hc;refine⟨h.rep,by dsimp only;rw[f1];exact h.n0,by dsimp only;rw[f1];exact h.n1,hinv.len,ha.1,ha.2,⟨⟨some n.s,[]⟩,hnew,?_⟩,λ_=>⟨hinv,hrecs.2.2⟩,λ_=>⟨hnew,hrecs.1.symm,rfl⟩⟩;show[5::kA n.s]++[]=(LS.open (n.ls.swap n.fD).2.N (n.ls.swap n.fD).2.D (-1)).bT;rw[yC hinv,hrecs.1,hrecs.2.1];rfl
  ·rw[b! hc];split
   ·refine⟨h.rep,by dsimp only;rw[f1];exact h.n0,by dsimp only;rw[f1];exact h.n1,by dsimp only;rw[f1,f2];exact h.len,ha.1,ha.2,?_,(λhu=>by cases hu),λhu=>by cases hu⟩;rcases f3 with⟨f3,_⟩|⟨f3,_⟩
    ·have⟨z,z1,z2⟩:=l1.take n.ls.dP;refine⟨z,z1,?_⟩;rw[z2,l2,<-f3];show _=Frm.iH (cN (n.ls.swap n.fD).2.D (n.ls.swap n.fD).2.N _);rw[f1]
    ·refine⟨⟨some n.s,[]⟩,hnew,?_⟩;show[5::kA n.s]++[]=Frm.iH (cN (n.ls.swap n.fD).2.D (n.ls.swap n.fD).2.N _);rw[f1,f3];rfl
   ·exact h
 ·grind
end
end Go.Proofs.YtmilalkjbojciaaGreat.Sep
