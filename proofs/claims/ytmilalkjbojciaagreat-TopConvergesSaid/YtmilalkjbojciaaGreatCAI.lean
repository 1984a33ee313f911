/- Part AI: what it needs. No condition. -/
import Derived.Test.YtmilalkjbojciaaGreatCAC
set_option linter.all false
set_option maxRecDepth 100000
set_option maxHeartbeats 8000000
open Go.Proofs.Tryz
namespace Go.Proofs.YtmilalkjbojciaaGreat.Sep
variable{E:Env}{H:List aG}{P:t!}{i:r!}{k:aL}{o:Oper}{q:Prop}{t:q!}{x:r!}
section
open Go.RowKit Reg Oct
open Mem hiding Rd
def V8(g:Nat)(A:n!)(n c:Nat)(l:o!)(r:Option (o!)×Bool×o!)(e:Ending)(H':List aG):Prop :=
 ∃a f b B d,H'=[own bH B (r.1.getD []).length d (r.1.getD []),gA g true r.2.1 a f b]/\mW A n c l a f b r.2.2/\(r.1.getD []).length<=d/\d<=maxLen/\e=.returned (.tuple #[.slice B (r.1.getD []).length d,.bool r.1.isSome])
def Cm(E:Env)(g:Nat)(a:Bool)(A:n!)(n c:Nat)(l:o!)(k:Int)(o:Rd E bH A n c l)(v:l.length<=140737488355328) :
  aF prog E 244 #[nQ g,a! k] [gA g true a A n c] (V8 g A n c l (nx a l k)):=by
 refine x_ func244 ntmps244 ?_;refine cU (λM=>TD M g a A n c l k) ?_;rintro e t ⟨s,y,u,rfl,i,f⟩;obtain⟨B,m,d,x,ok,rfl,h,q,r,j⟩:∃B m d x ok,e=.returned (.tuple #[.slice B m d,.bool ok])/\Rd E bH B m d x/\(nx a l k).1.getD []=x/\x.length<=l.length/\(nx a l k).1.isSome=ok:=by
  cases b:(nx a l k).1 with
  |none=>rw[b] at f;exact⟨none,0,0,[],false,f,Rd.nil _ _,rfl,s_,rfl⟩
  |some x =>
   rw[b] at f;have⟨B,m,d,f,h⟩:=f;refine⟨B,m,d,x,true,f,h _ o,rfl,?_,rfl⟩;unfold nx at b;split at b
   ·cases b
   ·split at b
    ·cases b
    ·injection b with b;rw[<-b];simp;omega
 have p:=h.len;have w:=o.len;subst p j q;refine c_ ?_;intros;exact uX rfl aJ aJ aC (⟨_,_,_,_,_,rfl,i,by assumption,by assumption,rfl⟩)
def aRr(n i:Nat)(h:i<8):((n:Int)) / 2 ^ min ((8*(i:Int)).toNat) IntKind.u64.bits=((n / 2 ^ (8*i):Nat):Int):=by
 have e:min ((8*(i:Int)).toNat) IntKind.u64.bits=8*i:=by
  have a:(8*(i:Int)).toNat=8*i:=o_;have b:IntKind.u64.bits=64:=rfl;rw[a,b];omega
 rw[e,Yh]
def FC(r:o!)(e:Ending)(H':List aG):Prop:=∃b a,e=.returned (.slice b r.length a)/\r.length<=a/\a<=maxLen/\H'=[own bH b r.length a r]
def Nx(E:Env)(A:n!)(b cap:Nat)(l:o!)(n:Nat)(w:Int)(q:Rd E bH A b cap l)(_hn:n<18446744073709551616)(v:b<=140737488355300) :
  aF prog E 154 #[.slice A b cap,.int .u64 n,a! w] [] (FC (Oct.put l n w)):=by
 have d:=q.len;refine t_ func154 ntmps154 ?_;by_cases h:w<1\/8<w
 ·have g:Oct.put l n w=l:=by simp[Oct.put,h]
  rw[g];subst d;by_cases u:w<1;all_goals
   refine c_ ?_;intros;exact aX rfl aJ aC (⟨_,_,rfl,by assumption,by assumption,rfl⟩)
 ·have g:Oct.put l n w=l++be n w.toNat:=by simp[Oct.put,h]
  rw[g];obtain⟨w,rfl⟩:=zI (show 0<=w by omega);rw[jK];refine c_ ?_;intros;refine C.loop (X:=Nat×n!×Nat) (λx=>[(1,.int .u64 n),(7,.slice x.2.1 (b+x.1) x.2.2),(8,a! ((w:Int) - 1 - x.1))]) (λx=>[own bH x.2.1 (b+x.1) x.2.2 (l++(be n w).take x.1)]) (λx=>x.1<=w/\b+x.1<=x.2.2/\x.2.2<=maxLen) (λx=>w - x.1) (0,_,_) aK (by simp only[qU,aY];exact aB.refl) ⟨bY _,by assumption,by assumption⟩ ?_;rintro⟨k,r,s⟩ G ⟨p,a,c⟩;dsimp only at p a c⊢;by_cases f:k<w
  ·obtain⟨i,o⟩:∃i:Nat,(w:Int) - 1 - k=i:=⟨w - 1 - k,o_⟩;have t:=aRr n i o_;have j:l++(be n w).take k++[UInt8.ofNat (((n / 2 ^ (8*i):Nat):Int) % 256).toNat]=l++(be n w).take (k+1):=by
    rw[XO n w k f,Xh,bF,show w - 1 - k=i by omega]
   rw[o];refine c_ ?_;intros;refine⟨(k+1,_,_),aK,?_,by dsimp only;omega,d_⟩;dsimp only;rw[j];exact aB.refl
  ·refine c_ ?_;obtain rfl:k=w:=o_;have e:(be n k).take k=be n k:=fX (by rw[eJ];omega);have m:b+k=(l++be n k).length:=by rw[bR,eJ,d]
   rw[e];rw[m] at a⊢;exact dS ⟨_,_,rfl,a,c,rfl⟩
def L8(E:Env)(g:Nat)(made bad:Bool)(A:n!)(n c:Nat) :
  aF prog E 296 #[nQ g] [gA g made bad A n c] λe H'=>e=.returned (.bool (!(made && !bad)))/\H'=[gA g made bad A n c]:=by
 refine x_ func296 ntmps296 ?_
 refine A_ (λM=>Cx M g made bad A n c) ?_
 exact aS
def HT(E:Env)(g:Nat)(a:Bool)(A:n!)(n c:Nat)(l:o!)(f:Rd E bH A n c l) :
  aF prog E 247 #[nQ g] [gA g true a A n c] λe b=>e=.returned (a! (if a then 0 else l.length:Nat))/\b=[gA g true a A n c]:=by
 have d:=f.len;unfold nQ;refine x_ func247 ntmps247 ?_
 refine aP (λM=>Cx M g true a A n c) ?_;cases a;all_goals
  refine c_ ?_
  exact aX rfl aJ aC (⟨by simp[d],rfl⟩)
def JQ(E:Env)(g:Nat)(bad:Bool)(A:n!)(n c:Nat)(l:o!)(hr:Rd E bH A n c l) :
  aF prog E 298 #[nQ g] [gA g true bad A n c] λe H'=>e=.returned (.bool (!bad&&l.isEmpty))/\H'=[gA g true bad A n c]:=by
 have hn:=hr.len;unfold nQ;refine x_ func298 ntmps298 ?_;refine aP (λM=>Cx M g true bad A n c) ?_;cases bad
 ·refine c_ ?_;refine cV (λM=>HT M g false A n c l) ?_;refine c_ ?_;exact aX rfl aJ aC (⟨by cases l<;>simp;omega,rfl⟩)
 ·refine c_ ?_;exact aS
def aDe:((prog.info? 70).bind (·.zero)).map (·.cells.toList)=some [.slice none 0 0]:=q_
instance aSi:zH 70 [.slice none 0 0]:=⟨aDe⟩
def aNp:((prog.info? 276).bind (·.zero)).map (·.cells.toList)=some [.pointer none]:=q_
instance aSx:zH 276 [.pointer none]:=⟨aNp⟩
def Lx(n':Nat)(l:o!)(e:Ending)(H':List aG):Prop:=∃b a,e=.returned (.slice b n' a)/\(n'<=a/\a<=maxLen)/\H'=[own bH b n' a l]
def FC.w{a w n' k:Nat}{W:Int}{l:o!}{e:Ending}{H':List aG}(j:W=w)(p:a+w=n')(q:1<=w/\w<=8)(n:a=l.length)(h:FC (Oct.put l k W) e H'):Lx n' (l++be k w) e H':=by
 have o:Oct.put l k W=l++be k w:=by
  unfold Oct.put;rw[b! o_,j,jK]
 have m:(l++be k w).length=n':=by rw[bR,eJ];omega
 rw[o] at h;unfold FC at h;rw[m] at h;have⟨b,c,d,f,g,i⟩:=h;exact⟨b,c,d,⟨f,g⟩,i⟩
def CE(E:Env)(A:n!)(a cap n' w:Nat)(l:o!)(k:Nat)(W:Int)(c:W=w)(f:a+w=n')(g:1<=w/\w<=8)(b:Rd E bH A a cap l)(d:k<18446744073709551616)(e:a<=140737488355300) :
  aF prog E 154 #[.slice A a cap,.int .u64 k,a! W] [] (Lx n' (l++be k w)) :=
 (Nx E A a cap l k W b d e).mono λ_ _ h=>h.w c f g b.len
def W4:FD prog 98 [a! 0,a! 0,a! 0,a! 0] [(0,1),(1,1),(2,1),(3,1)] 1:=⟨q_,q_,rfl⟩
instance aTh:GR 98 [a! 0,a! 0,a! 0,a! 0] [(0,1),(1,1),(2,1),(3,1)] 1:=⟨W4⟩
abbrev cells(L:List Int):List p!:=L.map (Value.int .i64)
theorem Du(E:Env)(c:aI):aF prog E 98 #[.agg c.cs.toArray] [] λe r=>e=.returned (a! (if c.may then 0 else 4))/\r=[]:=by
 refine t_ func98 ntmps98 ?_;have b:([c.kind,c.a,c.b,c.ref.rep].all small)=(small c.kind&&small c.a&&small c.b&&small c.ref.rep):=by simp[LL]
 have j:[c.kind,c.a,c.b,c.ref.rep].length=4:=rfl;refine a_ ?_;intros
 rename_i g;generalize p:[c.kind,c.a,c.b,c.ref.rep]=d at b j;refine C.loop (X:=Nat) (λi=>[(1,.pointer (some ⟨g,0,none⟩)),(3,.bool ((d.take i).all small)),(15,.agg (cells d).toArray),(16,a! i)]) (λi=>[aE g 34 c.cs]) (λi=>i<=4) (λi=>4 - i) 0 (by subst p;exact aK) aB.refl o_ ?_;rintro i G u;by_cases s:i<4
 ·have h:i<d.length:=o_;have t:(cells d)[i]?=some (a! d[i]):=by simp[cells,h]
  have a:(d.take (i+1)).all small=((d.take i).all small&&small d[i]):=by
   rw[rS h,List.all_append];simp
  generalize d[i]=n at t a;by_cases hb:(d.take i).all small=true
  ·rw[hb] at a⊢;rw[uC] at a;refine a_ ?_
   refine⟨i+1,?_,aB.refl,o_,o_⟩;rw[a];unfold small;exact aK
  ·have hb:(d.take i).all small=false:=by simpa using hb
   rw[hb] at a⊢;refine a_ ?_
   refine⟨i+1,?_,aB.refl,o_,o_⟩;rw[a];exact aK
 ·obtain rfl:i=4:=o_;rw[fX o_,b];clear p b j;cases q:(small c.kind&&small c.a&&small c.b&&small c.ref.rep)
  ·have l:c.may=false:=by
    unfold aI.may;revert q;cases small c.kind<;>cases small c.a<;>cases small c.b<;>cases small c.ref.rep<;>simp
   rw[l];refine a_ ?_
   exact aS
  ·have l:c.may=(c.id.may&&decide (1<=c.time/\c.time<=1073741824)&&decide (0<=c.ref.seq/\c.ref.seq<=65535)):=by
    unfold aI.may;revert q;cases small c.kind<;>cases small c.a<;>cases small c.b<;>cases small c.ref.rep<;>simp
   rw[l];rcases tF c.id.may with f|f
   ·have k:(!c.id.may)=false:=by rw[f];rfl
    by_cases m:1<=c.time/\c.time<=1073741824
    ·by_cases o:0<=c.ref.seq/\c.ref.seq<=65535
     ·rw[show(c.id.may&&decide (1<=c.time/\c.time<=1073741824)&&decide (0<=c.ref.seq/\c.ref.seq<=65535))=true by simp[f,m,o]];refine a_ ?_
      exact aS
     ·rw[show(c.id.may&&decide (1<=c.time/\c.time<=1073741824)&&decide (0<=c.ref.seq/\c.ref.seq<=65535))=false by simp[o]];refine a_ ?_
      exact aS
    ·rw[show(c.id.may&&decide (1<=c.time/\c.time<=1073741824)&&decide (0<=c.ref.seq/\c.ref.seq<=65535))=false by simp[m]];refine a_ ?_
     exact aS
   ·have k:(!c.id.may)=true:=by rw[f];rfl
    rw[show(c.id.may&&decide (1<=c.time/\c.time<=1073741824)&&decide (0<=c.ref.seq/\c.ref.seq<=65535))=false by simp[f]];refine a_ ?_
    exact aS
def BA(E:Env)(g:Nat)(A:n!)(a cap n' w:Nat)(l:o!)(n:Int)(k:Nat)(W:Int)(i:W=w)(m:a+w=n')(q:IntKind.u64.wrap n=k)(d:k<18446744073709551616)(o:1<=w/\w<=8)(r:Rd E bH A a cap l)(j:a<=140737488355300) :
  aF prog E 273 #[a! n,a! W,.pointer (some ⟨g,0,none⟩)] [aE g 70 [.slice A a cap]] λe f=>∃b c,e=.returned (.tuple #[])/\f=[aE g 70 [.slice b n' c],own bH b n' c (l++be k w)]:=by
 refine x_ func273 ntmps273 ?_
 refine cU (λM h=>CE M A a cap n' w l k W i m o h d j) ?_;rintro e f ⟨b,c,rfl,p,rfl⟩;refine c_ ?_
 exact gG rfl aC (⟨_,_,rfl,rfl⟩)
def YW(E:Env)(c:aI)(b:c.may=false):aF prog E 213 #[.agg c.cs.toArray] [] λe a=>e=.returned (.tuple #[.slice none 0 0,a! 4])/\a=[]:=by
 refine x_ func213 ntmps213 ?_;intros
 refine aU (λM=>Du M c) ?_;rw[b,b! lA];refine e_ ?_
 exact mZ
def Qf(E:Env)(c:aI)(l:c.may=true):aF prog E 213 #[.agg c.cs.toArray] [] λe x=>∃i j,e=.returned (.tuple #[.slice i 22 j,a! 0])/\x=[own bH i 22 j c.put]:=by
 have⟨⟨i0,i1,i2,i3⟩,⟨t0,t1⟩,⟨k0,k1⟩,⟨y,a1⟩,⟨z,b1⟩,⟨r0,r1⟩,s0,s1⟩:=(aI.eY c).1 l;have hu:=K8 c.n;have w0:=vE i0 o_;have w1:=vE (n:=c.id.seq) o_ o_;have w2:=vE (n:=c.time) o_ o_;have w3:=vE k0 o_;have w4:=vE y o_;have w5:=vE z o_;have w6:=V1 c.n;have w7:=vE r0 o_;have w8:=vE s0 o_;have w9:IntKind.u64.wrap 67=(67:Nat):=by rw[La];rfl
 have P:c.id.rep.toNat<18446744073709551616:=o_;have Q:c.id.seq.toNat<18446744073709551616:=o_;have R:c.time.toNat<18446744073709551616:=o_;have U:c.kind.toNat<18446744073709551616:=o_;have W:c.a.toNat<18446744073709551616:=o_;have X:c.b.toNat<18446744073709551616:=o_;have Z:c.ref.rep.toNat<18446744073709551616:=o_;have g8:c.ref.seq.toNat<18446744073709551616:=o_;have f:([]++be c.id.rep.toNat 1++be c.id.seq.toNat 2++be c.time.toNat 4++be c.kind.toNat 1++be c.a.toNat 1++be c.b.toNat 1++be (tA c.n) 8++be c.ref.rep.toNat 1++be c.ref.seq.toNat 2++be 67 1)=c.put:=by
  rw[zS 67];simp[aI.put]
 have d:1<=1/\1<=8:=o_;have m:1<=2/\2<=8:=o_;have o4:1<=4/\4<=8:=o_;have o8:1<=8/\8<=8:=o_;have a:∀k,k<=22->k<=140737488355300:=λk h=>by omega
 refine x_ func213 ntmps213 ?_;intros
 refine aU (λM=>Du M c) ?_;rw[l,c! rfl];refine e_ ?_;intros
 rename_i gc g;refine L.step sD (S.fN rfl cQ rfl rfl func273 q_ rfl aH (λM b=>BA M g none 0 0 1 1 ([]:o!) c.id.rep c.id.rep.toNat 1 rfl rfl w0 P d bK (a 0 sD)) (e_ ?_));intro o A
 refine L.step sD (S.fN rfl cQ rfl rfl func273 q_ rfl aH (λM b=>BA M g o 1 A 3 2 _ c.id.seq c.id.seq.toNat 2 rfl rfl w1 Q m bK (a 1 sD)) (e_ ?_));intro p B
 refine L.step sD (S.fN rfl cQ rfl rfl func273 q_ rfl aH (λM b=>BA M g p 3 B 7 4 _ c.time c.time.toNat 4 rfl rfl w2 R o4 bK (a 3 sD)) (e_ ?_));intro q D
 refine L.step sD (S.fN rfl cQ rfl rfl func273 q_ rfl aH (λM b=>BA M g q 7 D 8 1 _ c.kind c.kind.toNat 1 rfl rfl w3 U d bK (a 7 sD)) (e_ ?_));intro r F
 refine L.step sD (S.fN rfl cQ rfl rfl func273 q_ rfl aH (λM b=>BA M g r 8 F 9 1 _ c.a c.a.toNat 1 rfl rfl w4 W d bK (a 8 sD)) (e_ ?_));intro s H
 refine L.step sD (S.fN rfl cQ rfl rfl func273 q_ rfl aH (λM b=>BA M g s 9 H 10 1 _ c.b c.b.toNat 1 rfl rfl w5 X d bK (a 9 sD)) (e_ ?_));intro t J
 refine L.step sD (S.fN rfl cQ rfl rfl func273 q_ rfl aH (λM b=>BA M g t 10 J 18 8 _ c.n (tA c.n) 8 rfl rfl w6 hu o8 bK (a 10 sD)) (e_ ?_));intro u K
 refine L.step sD (S.fN rfl cQ rfl rfl func273 q_ rfl aH (λM b=>BA M g u 18 K 19 1 _ c.ref.rep c.ref.rep.toNat 1 rfl rfl w7 Z d bK (a 18 sD)) (e_ ?_));intro v N
 refine L.step sD (S.fN rfl cQ rfl rfl func273 q_ rfl aH (λM b=>BA M g v 19 N 21 2 _ c.ref.seq c.ref.seq.toNat 2 rfl rfl w8 g8 m bK (a 19 sD)) (e_ ?_));intro w O
 refine L.step sD (S.fN rfl cQ rfl rfl func273 q_ rfl aH (λM b=>BA M g w 21 O 22 1 _ 67 67 1 rfl rfl w9 sD d bK (a 21 sD)) (e_ ?_));intro A0 c0
 rw[f];exact oN ⟨_,_,rfl,rfl⟩
def Iz(f g:Nat)(A:n!)(n c:Nat)(l:o!)(s:Bool×o!)(v:p!)(e:Ending)(H':List aG):Prop :=
 ∃a d b,e=.returned v/\mW A n c l a d b s.2/\H'=[aE f 276 [.pointer (some ⟨g,0,none⟩)],gA g true s.1 a d b]
def II(s:Bool×o!)(w:Nat):tk (nx s.1 s.2 w).1=.tuple #[.int .u64 (vl s w:Nat),.bool (xC s w)]:=by
 unfold vl xC;cases(nx s.1 s.2 w).1<;>rfl
def BL(E:Env)(h g:Nat)(s s':Bool×o!)(w:Nat)(v:Int)(l:dW s w=s')(m:iG (vl s w)=v)(A:n!)(n c:Nat)(W:Int)(k:W=w)(p:1<=w/\w<=8)(x:Rd E bH A n c s.2) :
  aF prog E 331 #[a! W,.pointer (some ⟨h,0,none⟩)] [aE h 276 [.pointer (some ⟨g,0,none⟩)],gA g true s.1 A n c] (Iz h g A n c s.2 s' (a! v)):=by
 subst l m;have f:wid W=(w:Int):=by unfold wid;rw[b! o_];exact k
 have i:=oQ s w;have d:vl s w<18446744073709551616:=Cd i (iR (Gj o_ p.2) sD);have u:=GJ d;refine x_ func331 ntmps331 ?_
 refine cU (λM=>zB M g s.1 A n c s.2 W) ?_;have⟨o,j⟩:∃o,nx s.1 s.2 (w:Int)=(o,dW s w):=⟨_,rfl⟩
 have a:=II s w;rw[j] at a;rw[f,j];rintro e r ⟨q,y,t,rfl,b,rfl⟩;dsimp only at a b⊢;rw[a];refine c_ ?_
 exact dS ⟨_,_,_,rfl,b,rfl⟩
def JH(E:Env)(A:n!)(n c:Nat)(l:o!)(r:Option aI)(z:rW l=r)(hr:Rd E bH A n c l)(hl:n<=140737488355300) :
  aF prog E 283 #[.slice A n c] [] λe m=>e=.returned (.tuple #[.agg (r.getD kU).cs.toArray,a! (if r.isSome then 0 else 16)])/\m=[]:=by
 have w:1<=1/\1<=8:=o_;have K:1<=2/\2<=8:=o_;have o4:1<=4/\4<=8:=o_;have o8:1<=8/\8<=8:=o_;have q0:iG (vl (false,l) 1)=(va eR l 0:Nat):=oO (pI (oQ _ 1) sD);have q1:iG (vl (st eR l 1) 2)=(va eR l 1:Nat):=oO (pI (oQ _ 2) sD);have q2:iG (vl (st eR l 2) 4)=(va eR l 2:Nat):=oO (pI (oQ _ 4) sD);have q3:iG (vl (st eR l 3) 1)=(va eR l 3:Nat):=oO (pI (oQ _ 1) sD);have q4:iG (vl (st eR l 4) 1)=(va eR l 4:Nat):=oO (pI (oQ _ 1) sD);have q5:iG (vl (st eR l 5) 1)=(va eR l 5:Nat):=oO (pI (oQ _ 1) sD);have q7:iG (vl (st eR l 7) 1)=(va eR l 7:Nat):=oO (pI (oQ _ 1) sD);have q8:iG (vl (st eR l 8) 2)=(va eR l 8:Nat):=oO (pI (oQ _ 2) sD);have q9:iG (vl (st eR l 9) 1)=(va eR l 9:Nat):=oO (pI (oQ _ 1) sD);have b6:=oQ (st eR l 6) 8;have i6:bQ (iG (va eR l 6)):=OO b6;unfold bQ at i6;have s:=Xu l;refine x_ func283 ntmps283 ?_;intros;refine cU (λM h1=>AJ M A n c l h1 o_) ?_;rintro e m ⟨g,N,c0,rfl,h5,h6,rfl⟩;refine gk bU ?_;unfold nQ;refine c_ ?_;intros;rename_i D p gc;refine L.step sD (S.fN rfl cQ rfl rfl func331 q_ rfl aH (λM q=>BL M p g (false,l) (st eR l 1) 1 _ rfl q0 N n c0 1 rfl w bK) ?_);rintro e m ⟨O,n1,c1,rfl,a,rfl⟩;refine c_ ?_;refine L.step sD (S.fN rfl cQ rfl rfl func331 q_ rfl aH (λM q=>BL M p g (st eR l 1) (st eR l 2) 2 _ rfl q1 O n1 c1 2 rfl K (a _ bK)) ?_);rintro e m ⟨P,n2,c2,rfl,b,rfl⟩;refine c_ ?_;refine L.step sD (S.fN rfl cQ rfl rfl func331 q_ rfl aH (λM q=>BL M p g (st eR l 2) (st eR l 3) 4 _ rfl q2 P n2 c2 4 rfl o4 (b _ (a _ bK))) ?_);rintro e m ⟨Q,n3,c3,rfl,d,rfl⟩;refine c_ ?_;refine L.step sD (S.fN rfl cQ rfl rfl func331 q_ rfl aH (λM q=>BL M p g (st eR l 3) (st eR l 4) 1 _ rfl q3 Q n3 c3 1 rfl w (d _ (b _ (a _ bK)))) ?_);rintro e m ⟨R,n4,c4,rfl,f,rfl⟩;refine c_ ?_;refine L.step sD (S.fN rfl cQ rfl rfl func331 q_ rfl aH (λM q=>BL M p g (st eR l 4) (st eR l 5) 1 _ rfl q4 R n4 c4 1 rfl w (f _ (d _ (b _ (a _ bK))))) ?_);rintro e m ⟨U,n5,c5,rfl,i,rfl⟩;refine c_ ?_;refine L.step sD (S.fN rfl cQ rfl rfl func331 q_ rfl aH (λM q=>BL M p g (st eR l 5) (st eR l 6) 1 _ rfl q5 U n5 c5 1 rfl w (i _ (f _ (d _ (b _ (a _ bK)))))) ?_);rintro e m ⟨W,n6,c6,rfl,j,rfl⟩;refine c_ ?_;refine L.step sD (S.fN rfl cQ rfl rfl func331 q_ rfl aH (λM q=>BL M p g (st eR l 6) (st eR l 7) 8 _ rfl rfl W n6 c6 8 rfl o8 (j _ (i _ (f _ (d _ (b _ (a _ bK))))))) ?_);rintro e m ⟨X,n7,c7,rfl,k,rfl⟩;refine c_ ?_;refine L.step sD (S.fN rfl cQ rfl rfl func331 q_ rfl aH (λM q=>BL M p g (st eR l 7) (st eR l 8) 1 _ rfl q7 X n7 c7 1 rfl w (k _ (j _ (i _ (f _ (d _ (b _ (a _ bK)))))))) ?_);rintro e m ⟨Z,n8,c8,rfl,o,rfl⟩;refine c_ ?_;refine L.step sD (S.fN rfl cQ rfl rfl func331 q_ rfl aH (λM q=>BL M p g (st eR l 8) (st eR l 9) 2 _ rfl q8 Z n8 c8 2 rfl K (o _ (k _ (j _ (i _ (f _ (d _ (b _ (a _ bK))))))))) ?_);rintro e m ⟨A9,n9,c9,rfl,t,rfl⟩;refine c_ ?_;refine L.step sD (S.fN rfl cQ rfl rfl func331 q_ rfl aH (λM q=>BL M p g (st eR l 9) (st eR l 10) 1 _ rfl q9 A9 n9 c9 1 rfl w (t _ (o _ (k _ (j _ (i _ (f _ (d _ (b _ (a _ bK)))))))))) ?_);rintro e m ⟨Ax,B,cx,rfl,y,rfl⟩;refine gk bU ?_;have v:r=none->r.getD kU=kU/\r.isSome=false:=λh=>by rw[h];exact⟨rfl,rfl⟩
 by_cases F:va eR l 9=67
 ·refine c_ ?_;refine cl sD sK aH (λM q=>JQ M g (st eR l 10).1 Ax B cx (st eR l 10).2 (y _ (t _ (o _ (k _ (j _ (i _ (f _ (d _ (b _ (a _ bK))))))))))) ?_;rintro e m ⟨rfl,rfl⟩;refine gk bU ?_;cases H:(!(st eR l 10).1&&(st eR l 10).2.isEmpty)
  ·have⟨u,x⟩:=v (by rw[<-z,s,b! (by rw[H];simp)]);rw[u,x];refine c_ ?_;exact lD
  ·refine c_ ?_;refine aP (λM=>Du M (Dw l)) ?_;cases J:(Dw l).may
   ·have⟨u,x⟩:=v (by rw[<-z,s,b! (by rw[J];simp)]);rw[u,x,b! lA];refine c_ ?_;exact lD
   ·have u:r=some (Dw l):=by rw[<-z,s,c! ⟨F,H,J⟩]
    rw[u,c! rfl];refine c_ ?_;exact lD
 ·have⟨u,x⟩:=v (by rw[<-z,s,b! (λh=>F h.1)]);rw[u,x];refine c_ ?_;exact lD
abbrev mG:aI:=⟨⟨0,0⟩,0,0,0,0,0,⟨0,0⟩⟩
abbrev wW:bV:=⟨⟨0,0⟩,0,false⟩
section
variable (E:Env)
def Fm(c:aI):aF prog E 171 #[.agg c.cs.toArray] [] λe a=>e=.returned (.agg (⟨1,c,⟨0,0⟩,wW,0⟩:fQ).cs.toArray)/\a=[]:=by
 refine x_ func171 ntmps171 ?_;intros
 exact wR
def EJ(a:aL):aF prog E 117 #[.agg a.cs.toArray] [] λe b=>e=.returned (.agg (⟨2,mG,a,wW,0⟩:fQ).cs.toArray)/\b=[]:=by
 refine x_ func117 ntmps117 ?_;intros
 exact wR
def S0(k:bV)(now:Int):aF prog E 181 #[.agg k.cs.toArray,a! now] [] λe a=>e=.returned (.agg (⟨3,mG,⟨0,0⟩,k,now⟩:fQ).cs.toArray)/\a=[]:=by
 refine x_ func181 ntmps181 ?_;intros
 exact wR
def NR(k:bV):aF prog E 190 #[.agg k.cs.toArray] [] λe a=>e=.returned (.agg (⟨4,mG,⟨0,0⟩,k,0⟩:fQ).cs.toArray)/\a=[]:=by
 refine x_ func190 ntmps190 ?_;intros
 exact wR
def XF(a:aL)(d:a.may=true):aF prog E 300 #[.agg (⟨2,mG,a,wW,0⟩:fQ).cs.toArray] [] λe c=>e=.returned (.tuple #[.agg (⟨2,mG,a,wW,0⟩:fQ).cs.toArray,.bool true])/\c=[]:=by
 refine x_ func300 ntmps300 ?_;intros
 rename_i g b;refine rB (l_ [0,1,3,4] (g_ 2 (g_ 5 (g_ 6 (n_ 7 .nil))))) ([aE g 202 (⟨2,mG,a,wW,0⟩:fQ).cs]) (c_ ?_)
 refine G_ (λM=>EJ M a) ?_
 refine eI (λM=>Jp M a) ?_;rw[d];refine e_ ?_
 exact lD
def Xx(a:aL)(d:a.may=true):aF prog E 255 #[.agg (⟨2,mG,a,wW,0⟩:fQ).cs.toArray] [] λe c=>e=.returned (a! 0)/\c=[]:=by
 have b:decide ((1:Int)<=2/\(2:Int)<=4)=true:=sD;have f:(!decide ((⟨2,⟨⟨0,0⟩,0,0,0,0,0,⟨0,0⟩⟩,⟨a.rep,a.seq⟩,⟨⟨0,0⟩,0,false⟩,0⟩:fQ)=⟨2,⟨⟨0,0⟩,0,0,0,0,0,⟨0,0⟩⟩,⟨a.rep,a.seq⟩,⟨⟨0,0⟩,0,false⟩,0⟩))=false:=s_
 refine x_ func255 ntmps255 ?_;intros
 refine aU (λM=>lS M 2 1 4) ?_;rw[b];refine e_ ?_
 refine A_ (λM=>XF M a d) ?_;intros
 exact aS
def Hz(A:n!)(b cap n':Nat)(l:o!)(a:aL)(p:a.may=true)(z:Rd E bH A b cap l)(x:b<=100)(y:b+3=n'):aF prog E 284 #[.slice A b cap,.agg a.cs.toArray] [] (Lx n' (l++be a.rep.toNat 1++be a.seq.toNat 2)):=by
 have⟨r,B,D,F⟩:=(aL.eY a).1 p;have H:=vE r o_;have J:=vE (n:=a.seq) o_ o_;have k:a.rep.toNat<18446744073709551616:=o_;have m:a.seq.toNat<18446744073709551616:=o_;have s:1<=1/\1<=8:=o_;have t:1<=2/\2<=8:=o_;have g:b<=140737488355300:=o_;have h:b+1<=140737488355300:=o_;have j:b+1+2=n':=o_;refine x_ func284 ntmps284 ?_;intros
 refine rA (l_ [0,1,2,3,5,6,7] (g_ 4 (g_ 8 (n_ 9 .nil)))) (c_ ?_)
 refine AV (λM o=>CE M A b cap (b+1) 1 l a.rep.toNat 1 rfl rfl s o k g) ?_;rintro e f ⟨d,i,rfl,q,rfl⟩;refine c_ ?_
 refine cg rfl sD bB sK aH (λM w=>CE M d (b+1) i n' 2 _ a.seq.toNat 2 rfl j t bK m h) ?_;rintro e f ⟨u,v,rfl,c,rfl⟩;refine c_ ?_
 exact dS ⟨_,_,rfl,c,rfl⟩
def aPp(a:aL)(f:a.may=true):aF prog E 228 #[.agg (⟨2,mG,a,wW,0⟩:fQ).cs.toArray] [] λe c=>∃b d,e=.returned (.tuple #[.slice b 4 d,a! 0])/\c=[own bH b 4 d ([2]++be a.rep.toNat 1++be a.seq.toNat 2)]:=by
 have i:UInt8.ofNat (((⟨2,mG,a,wW,0⟩:fQ).kind % 256).toNat)=2:=rfl;refine x_ func228 ntmps228 ?_;intros
 refine A_ (λM=>Xx M a f) ?_;intros
 rename_i g;rw[i];refine cU (λM h=>Hz M (some ⟨g,0,none⟩) 1 1 4 [2] a f h (by decide) rfl) ?_;rintro e c ⟨k,l,rfl,j,rfl⟩;refine c_ ?_
 exact oN ⟨_,_,rfl,rfl⟩
end
def zA(E:Env)(h g:Nat)(s s':Bool×o!)(w:Nat)(v:Int)(l:dW s w=s')(m:iG (vl s w)=v)(A:n!)(n c:Nat)(W:Int)(k:W=w)(p:1<=w/\w<=8)(x:Rd E bH A n c s.2) :
  aF prog E 282 #[a! W,.pointer (some ⟨h,0,none⟩)] [aE h 276 [.pointer (some ⟨g,0,none⟩)],gA g true s.1 A n c] (Iz h g A n c s.2 s' (a! v)):=by
 subst l m;have f:wid W=(w:Int):=by unfold wid;rw[b! o_];exact k
 have i:=oQ s w;have d:vl s w<18446744073709551616:=Cd i (iR (Gj o_ p.2) sD);have u:=GJ d;refine x_ func282 ntmps282 ?_
 refine cU (λM=>zB M g s.1 A n c s.2 W) ?_;have⟨o,j⟩:∃o,nx s.1 s.2 (w:Int)=(o,dW s w):=⟨_,rfl⟩
 have a:=II s w;rw[j] at a;rw[f,j];rintro e r ⟨q,y,t,rfl,b,rfl⟩;dsimp only at a b⊢;rw[a];refine c_ ?_
 exact dS ⟨_,_,_,rfl,b,rfl⟩
def bV.may(k:bV):Bool:=k.id.may&&decide (1<=k.ord/\k.ord<=255)
theorem bV.eY(k:bV):k.may=true↔(0<=k.id.rep/\k.id.rep<=3/\1<=k.id.seq/\k.id.seq<=65535)/\1<=k.ord/\k.ord<=255:=by simp[bV.may,aL.may]
abbrev R1(c:aI):fQ:=⟨1,c,⟨0,0⟩,wW,0⟩
abbrev R2(a:aL):fQ:=⟨2,mG,a,wW,0⟩
abbrev R3(k:bV)(now:Int):fQ:=⟨3,mG,⟨0,0⟩,k,now⟩
abbrev R4(k:bV):fQ:=⟨4,mG,⟨0,0⟩,k,0⟩
def yN(now:Int):Bool:=decide (0<=now/\now<=1073741824)
section
variable (E:Env)
def Jq(k:bV):aF prog E 339 #[.agg k.cs.toArray] [] λe a=>e=.returned (.bool k.may)/\a=[]:=by
 refine t_ func339 ntmps339 ?_;unfold bV.may;refine c_ ?_;intros;refine aP (λM=>Jp M k.id) ?_;cases b:k.id.may
 ·refine c_ ?_;exact aS
 ·refine c_ ?_;refine A_ (λM=>lS M k.ord 1 255) ?_;exact aS
abbrev Er(x:fQ)(f:Bool)(e:Ending)(H':List aG):Prop:=e=.returned (.tuple #[.agg x.cs.toArray,.bool f])/\H'=[]
def L9(c:aI):aF prog E 300 #[.agg (R1 c).cs.toArray] [] (Er (R1 c) c.may):=by
 refine x_ func300 ntmps300 ?_;intros;rename_i g a;refine rB (l_ [0,1,3,4] (g_ 2 (g_ 5 (n_ 6 (g_ 7 (n_ 8 .nil)))))) ([aE g 202 (R1 c).cs]) (c_ ?_);refine G_ (λM=>Fm M c) ?_;refine cP (λM=>Du M c) ?_;cases b:c.may
 ·rw[b! lA];refine c_ ?_;exact lD
 ·rw[c! rfl];refine c_ ?_;exact lD
def P3(a:aL):aF prog E 300 #[.agg (R2 a).cs.toArray] [] (Er (R2 a) a.may):=by
 refine x_ func300 ntmps300 ?_;intros
 rename_i g b;refine rB (l_ [0,1,3,4] (g_ 2 (g_ 5 (g_ 6 (n_ 7 .nil))))) ([aE g 202 (R2 a).cs]) (c_ ?_)
 refine G_ (λM=>EJ M a) ?_
 refine G_ (λM=>Jp M a) ?_
 exact lD
def MA(k:bV)(now:Int):aF prog E 300 #[.agg (R3 k now).cs.toArray] [] (Er (R3 k now) (k.may&&yN now)):=by
 refine x_ func300 ntmps300 ?_;intros;rename_i g a;refine rB (l_ [0,1,2,3,5,6] (g_ 4 (g_ 7 (l_ [8,9,10] (g_ 11 (n_ 12 (g_ 13 (n_ 14 .nil)))))))) ([aE g 202 (R3 k now).cs]) (c_ ?_);refine G_ (λM=>S0 M k now) ?_;refine cP (λM=>Jq M k) ?_;cases b:k.may
 ·refine c_ ?_;exact lD
 ·refine c_ ?_;refine G_ (λM=>lS M now 0 1073741824) ?_;exact lD
def MC(k:bV):aF prog E 300 #[.agg (R4 k).cs.toArray] [] (Er (R4 k) k.may):=by
 refine x_ func300 ntmps300 ?_;intros
 rename_i g a;refine rB (l_ [0,1,3,4] (g_ 2 (g_ 5 (g_ 6 (n_ 7 .nil))))) ([aE g 202 (R4 k).cs]) (c_ ?_)
 refine G_ (λM=>NR M k) ?_
 refine G_ (λM=>Jq M k) ?_
 exact lD
end
def DK(x:fQ)(f:Bool)(a:1<=x.kind/\x.kind<=4)(hb:∀E,aF prog E 300 #[.agg x.cs.toArray] [] (Er x f))(E:Env):aF prog E 255 #[.agg x.cs.toArray] [] λe b=>e=.returned (a! (if f then 0 else 4))/\b=[]:=by
 have c:(!decide ((⟨x.kind,⟨⟨x.c.id.rep,x.c.id.seq⟩,x.c.time,x.c.kind,x.c.a,x.c.b,x.c.n,⟨x.c.ref.rep,x.c.ref.seq⟩⟩,⟨x.id.rep,x.id.seq⟩,⟨⟨x.key.id.rep,x.key.id.seq⟩,x.key.ord,x.key.cJ⟩,x.now⟩:fQ)=⟨x.kind,⟨⟨x.c.id.rep,x.c.id.seq⟩,x.c.time,x.c.kind,x.c.a,x.c.b,x.c.n,⟨x.c.ref.rep,x.c.ref.seq⟩⟩,⟨x.id.rep,x.id.seq⟩,⟨⟨x.key.id.rep,x.key.id.seq⟩,x.key.ord,x.key.cJ⟩,x.now⟩))=false:=s_
 refine x_ func255 ntmps255 ?_;intros;refine aU (λM=>lS M x.kind 1 4) ?_;rw[d! a];refine e_ ?_;refine aP hb ?_;cases f;rw[b! lA];rotate_left;rw[c! rfl];all_goals
  refine c_ ?_;intros;exact aS
def aDr(x:fQ)(a:¬(1<=x.kind/\x.kind<=4))(E:Env):aF prog E 255 #[.agg x.cs.toArray] [] λe b=>e=.returned (a! 12)/\b=[]:=by
 refine x_ func255 ntmps255 ?_;intros
 refine aU (λM=>lS M x.kind 1 4) ?_;rw[e! a];refine e_ ?_
 exact aS
def UH(x:fQ)(k:Int)(b:k≠0)(a:∀E,aF prog E 255 #[.agg x.cs.toArray] [] λe H'=>e=.returned (a! k)/\H'=[])(E:Env):aF prog E 228 #[.agg x.cs.toArray] [] λe H'=>e=.returned (.tuple #[.slice none 0 0,a! k])/\H'=[]:=by
 refine x_ func228 ntmps228 ?_;intros
 refine A_ a ?_
 exact mZ
def mU(b:Bool):Int:=if b then 1 else 0
def lG(a:aL):o!:=be a.rep.toNat 1++be a.seq.toNat 2
def fS(k:bV):o!:=lG k.id++[UInt8.ofNat k.ord.toNat,UInt8.ofNat (mU k.cJ).toNat]
def D7(a:aL):(lG a).length=3:=by simp[lG,eJ]
def Bu(k:bV):(fS k).length=5:=by simp[fS,D7]
section
variable (E:Env)
def UD(c:aI)(f:c.may=true):aF prog E 228 #[.agg (R1 c).cs.toArray] [] λe g=>∃a b,e=.returned (.tuple #[.slice a 23 b,a! 0])/\g=[own bH a 23 b ([1]++c.put)]:=by
 have d:=DK (R1 c) true ⟨show(1:Int)<=1 by decide,show(1:Int)<=4 by decide⟩ (λE=>by have:=L9 E c;rwa [f] at this);simp only[if_true] at d;have h:UInt8.ofNat (((R1 c).kind % 256).toNat)=1:=rfl;refine x_ func228 ntmps228 ?_;intros
 refine A_ d ?_;intros
 rw[h];refine aU (λM=>Qf M c f) ?_;refine e_ ?_;intro i j;intros
 rw[show 1+22=23 from rfl];exact oN ⟨_,_,rfl,rfl⟩
def UE(a:aL)(f:a.may=true):aF prog E 228 #[.agg (R2 a).cs.toArray] [] λe d=>∃b c,e=.returned (.tuple #[.slice b 4 c,a! 0])/\d=[own bH b 4 c ([2]++lG a)]:=by
 have h:=aPp E a f;rw[show[2]++be a.rep.toNat 1++be a.seq.toNat 2=[2]++lG a by simp[lG]] at h;exact h
def UG(k:bV)(hm:k.may=true):aF prog E 228 #[.agg (R4 k).cs.toArray] [] λe H'=>∃A' c',e=.returned (.tuple #[.slice A' 6 c',a! 0])/\H'=[own bH A' 6 c' ([4]++fS k)]:=by
 have hc:=DK (R4 k) true ⟨show(1:Int)<=4 by decide,show(4:Int)<=4 by decide⟩ (λE=>by have:=MC E k;rwa [hm] at this);simp only[if_true] at hc;have⟨⟨i0,i1,i2,i3⟩,q0,q1⟩:=(bV.eY k).1 hm;have hid:k.id.may=true:=(aL.eY _).2 ⟨i0,i1,i2,i3⟩;have h2:UInt8.ofNat (((R4 k).kind % 256).toNat)=4:=rfl;have hfin:[4]++be k.id.rep.toNat 1++be k.id.seq.toNat 2++[UInt8.ofNat k.ord.toNat,UInt8.ofNat (mU k.cJ).toNat]=[4]++fS k:=by simp[fS,lG]
 have hw8:IntKind.u8.wrap (R4 k).key.ord=k.ord:=by
  show IntKind.u8.wrap k.ord=k.ord;exact IntWalk.u8_in _ o_
 have hu0:0<=mU k.cJ:=by unfold mU;split<;>omega
 have hu1:mU k.cJ<256:=by unfold mU;split<;>omega
 refine x_ func228 ntmps228 ?_;intros;refine aP hc ?_;repeat ((fail_if_success (refine C.seq (x:=Code.region 11 _ _) ?_));first|refine mV ?_|refine tU ?_|intro _|refine Dr.two ?_ ?_)
 rename_i gb g;rw[h2];refine C.cut (X:=Unit) (λ_=>[(1,.pointer (some ⟨gb,0,none⟩)),(5,.slice (some ⟨g,0,none⟩) 1 1),(8,.int .u8 0)]) (λ_=>[aE gb 202 (R4 k).cs,own bH (some ⟨g,0,none⟩) 1 1 [4]]) (λ_=>True) ?_ ?_
 ·refine c_ ?_;exact⟨(),aK,aC,trivial⟩
 rintro - G -;refine C.cut (X:=Unit) (λ_=>[(1,.pointer (some ⟨gb,0,none⟩)),(5,.slice (some ⟨g,0,none⟩) 1 1),(8,.int .u8 (mU k.cJ))]) (λ_=>[aE gb 202 (R4 k).cs,own bH (some ⟨g,0,none⟩) 1 1 [4]]) (λ_=>True) ?_ ?_
 ·cases hu:k.cJ;all_goals
   refine c_ ?_;exact⟨(),aK,aC,trivial⟩
 rintro - G -;generalize mU k.cJ=u at *;refine c_ ?_;refine C.cW (X:=n!×Nat) (λq=>[(1,.pointer (some ⟨gb,0,none⟩)),(5,.slice q.1 6 q.2)]) (λq=>[aE gb 202 (R4 k).cs,own bH q.1 6 q.2 ([4]++fS k)]) (λ_=>True) ?_ ?_
 ·refine rB (l_ [0,1,2,3,5,6,7,8,9] (.two 4 (g_ 10 (g_ 11 (n_ 12 .nil))) 10 (g_ 4 (g_ 11 (n_ 12 .nil))))) ([aE gb 202 (R4 k).cs]) ?_;repeat first|refine aA ?_|refine Dr.two ?_ ?_|intro
  refine lC rfl sD bB sK aH (λM hE=>Hz M (some ⟨g,0,none⟩) 1 1 4 [4] k.id hid bK sD rfl) ?_;rotate_left;refine c_ ?_;intros;refine AV (λM h1=>Hz M (some ⟨g,0,none⟩) 1 1 4 [4] k.id hid h1 (by decide) rfl) ?_;all_goals
   rintro e H' ⟨A1,c1,rfl,hc1,rfl⟩;refine c_ ?_;intros;rw[hfin,show 4+2=6 from rfl];exact⟨(_,_),aK,aC,trivial⟩
 rintro⟨A2,c2⟩ G -;dsimp only;refine c_ ?_;exact oN ⟨_,_,rfl,rfl⟩
def UF(k:bV)(now:Int)(hm:k.may=true)(hn:yN now=true):aF prog E 228 #[.agg (R3 k now).cs.toArray] [] λe H'=>∃A' c',e=.returned (.tuple #[.slice A' 10 c',a! 0])/\H'=[own bH A' 10 c' ([3]++fS k++be now.toNat 4)]:=by
 have hc:=DK (R3 k now) true ⟨show(1:Int)<=3 by decide,show(3:Int)<=4 by decide⟩ (λE=>by have:=MA E k now;rwa [hm,hn] at this);simp only[if_true] at hc;have hnn:0<=now/\now<=1073741824:=g! hn;have wn:IntKind.u64.wrap (R3 k now).now=(now.toNat:Nat):=by
  show IntKind.u64.wrap now=(now.toNat:Nat);exact vE hnn.1 o_
 have gn:now.toNat<18446744073709551616:=o_;have o4:1<=4/\4<=8:=o_;have⟨⟨i0,i1,i2,i3⟩,q0,q1⟩:=(bV.eY k).1 hm;have hid:k.id.may=true:=(aL.eY _).2 ⟨i0,i1,i2,i3⟩;have h2:UInt8.ofNat (((R3 k now).kind % 256).toNat)=3:=rfl;have hfin:[3]++be k.id.rep.toNat 1++be k.id.seq.toNat 2++[UInt8.ofNat k.ord.toNat,UInt8.ofNat (mU k.cJ).toNat]=[3]++fS k:=by simp[fS,lG]
 have hw8:IntKind.u8.wrap (R3 k now).key.ord=k.ord:=by
  show IntKind.u8.wrap k.ord=k.ord;exact IntWalk.u8_in _ o_
 have hu0:0<=mU k.cJ:=by unfold mU;split<;>omega
 have hu1:mU k.cJ<256:=by unfold mU;split<;>omega
 refine x_ func228 ntmps228 ?_;intros;refine aP hc ?_;repeat ((fail_if_success (refine C.seq (x:=Code.region 11 _ _) ?_));first|refine mV ?_|refine tU ?_|intro _|refine Dr.two ?_ ?_)
 rename_i gb g;rw[h2];refine C.cut (X:=Unit) (λ_=>[(1,.pointer (some ⟨gb,0,none⟩)),(5,.slice (some ⟨g,0,none⟩) 1 1),(8,.int .u8 0)]) (λ_=>[aE gb 202 (R3 k now).cs,own bH (some ⟨g,0,none⟩) 1 1 [3]]) (λ_=>True) ?_ ?_
 ·refine c_ ?_;exact⟨(),aK,aC,trivial⟩
 rintro - G -;refine C.cut (X:=Unit) (λ_=>[(1,.pointer (some ⟨gb,0,none⟩)),(5,.slice (some ⟨g,0,none⟩) 1 1),(8,.int .u8 (mU k.cJ))]) (λ_=>[aE gb 202 (R3 k now).cs,own bH (some ⟨g,0,none⟩) 1 1 [3]]) (λ_=>True) ?_ ?_
 ·cases hu:k.cJ;all_goals
   refine c_ ?_;exact⟨(),aK,aC,trivial⟩
 rintro - G -;generalize mU k.cJ=u at *;refine c_ ?_;refine C.cW (X:=n!×Nat) (λq=>[(1,.pointer (some ⟨gb,0,none⟩)),(5,.slice q.1 6 q.2)]) (λq=>[aE gb 202 (R3 k now).cs,own bH q.1 6 q.2 ([3]++fS k)]) (λ_=>True) ?_ ?_
 ·refine rB (l_ [0,1,2,3,5,6,7,8,9] (.two 4 (g_ 10 (g_ 11 (n_ 12 .nil))) 10 (g_ 4 (g_ 11 (n_ 12 .nil))))) ([aE gb 202 (R3 k now).cs]) ?_;repeat first|refine aA ?_|refine Dr.two ?_ ?_|intro
  refine lC rfl sD bB sK aH (λM hE=>Hz M (some ⟨g,0,none⟩) 1 1 4 [3] k.id hid bK sD rfl) ?_;rotate_left;refine c_ ?_;intros;refine AV (λM h1=>Hz M (some ⟨g,0,none⟩) 1 1 4 [3] k.id hid h1 (by decide) rfl) ?_;all_goals
   rintro e H' ⟨A1,c1,rfl,hc1,rfl⟩;refine c_ ?_;intros;rw[hfin,show 4+2=6 from rfl];exact⟨(_,_),aK,aC,trivial⟩
 rintro⟨A2,c2⟩ G -;dsimp only;refine c_ ?_;refine cl sD sK aH (λM hE=>CE M A2 6 c2 10 4 _ now.toNat 4 rfl rfl o4 bK gn sD) ?_;rintro e H' ⟨A3,c3,rfl,hc3,rfl⟩;refine c_ ?_;exact oN ⟨_,_,rfl,rfl⟩
end
end
section
open Go.RowKit Reg
open Mem hiding Rd
section
variable {α:Type} {T:Ty α} {N:Nat} {E:Env} {F:Nat->p!} {H H':List aG} {o:Oper} {A:n!} {n m c:Nat} {l:List α}
def Te{F1:Nat->Prop}{u:World}{k:Nat}(h:(own T A n c l).holds F1 u)(q:k<=n):(own T A k c (l.take k)).holds F1 u:=by
 obtain⟨r,⟨rfl,b,d⟩|⟨g,a,b,d,f,s,i,j,p⟩⟩:=h
 ·exact⟨by rw[dR];omega,.inl ⟨o_,b,d⟩⟩
 ·refine⟨by rw[dR];omega,.inr ⟨g,a,b,d,f,o_,i,j,?_⟩⟩;have e:k*T.size<=n*T.size:=oC _ q;rw[<-T.FP,<-p,E8,nM e]
def S.Wx{s:r!}{X:n!}{nx cx n':Nat}{l2 l':List α}(ho:o.op=.call { callee:=.builtin .append,args:=#[s,x],argTypes:=#[t,t] })
  (hs:ev F s=.slice A n c) (hx:ev F x=.slice X nx cx) (b5:n+nx=n') (K:n<=m) (hr:eQ (own T A m c l) [own T A n' c l'] H H') (b7:eE E H T X nx cx l2) (b1:l.take n++l2=l') (W:prog.underlying t=some (.slice T.tid)) {by_:Nat} (k:T.bytes=by_) (b0:n'*by_<=140737488355328) (h0:0<c) (y:n'<=c) (c0:n'<=140737488355328) :
  dF prog N E F H o λr H1=>r=.slice A n' c/\H1=H':=by
 subst b5 b1 k;intro a u ha hu Kw Q' hK;have⟨R,J⟩:=hr.has;have⟨F0,z,_⟩:=hu.has J;have z:=Te z K;have hn:=z.1;have⟨ti,hi,hz,P,a9⟩:=T.sG;have⟨k0,k1,k2,k3⟩:=b7 u hu;have d:∀ad,X=some ad->nx≠0->∀j v,(T.cE l2)[j]?=some v->u.cell? (ad.add j)=some v:=by
  rintro ad rfl f;rcases k3 with k3|⟨c1,e,U⟩
  ·exact i! k3 f
  ·injection e with e;subst e;exact U
 have g:Reads u u.heap.size T.size X nx (T.cE l2):=⟨by rw[T.mH,<-k0],λfZ=>by
  rcases k3 with k3|⟨ad,e,U⟩
  ·omega
  ·refine⟨ad,e,?_,U⟩;have hl:0<(T.cE l2).length:=by rw[T.mH,<-k0];exact Is fZ T.fZ
   have:=I1 _ _ (U 0 _ (bS hl));rwa [Bg] at this⟩
 have O:Src prog ti.size t (.slice X nx cx) nx (T.cE l2) u:=by
  have p:(T.cE l2).length=nx*ti.size:=by rw[T.mH,<-k0,P]
  cases X with
  |none =>
   have a8:nx=0:=by rcases k3 with k3|⟨_,e,_⟩;exact k3;cases e
   subst a8;have e:T.cE l2=[]:=wF (by rw[p,Iu]);rw[e];exact Src.ofNil u W cx
  |some ad =>
   refine Src.ofSlice u W ad nx cx _ p ?_ (T.Cw _);by_cases f:nx=0
   ·intro j v Z;rw[Ik (by rw[p,f,Iu];exact bY _)] at Z;cases Z
   ·exact d ad rfl f
 have⟨M,_⟩:=KM o_ z;have b9:∃Q B,(Builtin.append_ #[t,t] o.type #[.slice A n c,.slice X nx cx]).run prog u=.ok Q B/\B.ownsRow 0 T.tid T.size Q (n+nx) (T.cE (l.take n)++T.cE l2)/\u.grownBy B (Value.ownBlock (.slice A n c)) /\
   (Q.ownBlock=Value.ownBlock (.slice A n c)\/Q.ownBlock=some u.heap.size):=by
  exact OE u 0 t o.type T.tid ti T.zero T.size T.bytes W hi hz P a9 T.hzero T.fZ _ n _ M u.heap.size X nx cx (T.cE l2) g (T.Cw _) (by unfold maxLen;omega) b0 (bY _)
 have⟨Q,B,i,q,D,hb⟩:=b9;have Z:=run_append_cap_room u t t o.type T.tid ti W hi A n c (.slice X nx cx) nx (T.cE l2) O y i;subst Z;have w:B.ownsRow 0 T.tid T.size (.slice A (n+nx) c) (n+nx) (T.cE (l.take n++l2)):=by rw[T.D2];exact q
 have hO:=Ni (T:=T) (l:=l.take n++l2) (by rw[bR,<-hn,k0]) w;unfold Oper.wp;rw[ha.eval];have b8:(execOp (ev F) o).run prog u=.ok (.value (.slice A (n+nx) c)) B:=by
  unfold execOp;simp only[ho,resolve,invoke,builtin,iE,mY,iO,Dh,jL,tI,hs,hx,i]
 rw[b8];refine hK _ _ _ ⟨rfl,rfl⟩ ?_;refine hu.kB hr D.os D.tape D.output D.size (G:=λb=>Value.ownBlock (.slice A n c)=some b) (λb b2 b6=>D.block b b2 (λe=>b6 e.symm)) λF1 z=>?_;have⟨_,hF⟩:=KM o_ (Te z K);refine⟨λb=>Value.ownBlock (.slice A (n+nx) c)=some b,⟨λb=>Value.ownBlock (.slice A (n+nx) c)=some b,λ_=>False,λb=>by simp,λ_ _ h=>h,hO,λ_ h=>h⟩,λb k=>?_,λb _ hG=>(hF b).2 hG⟩;have e:Value.ownBlock (.slice A (n+nx) c)=Value.ownBlock (.slice A n c):=by cases A<;>rfl
 exact .inl ((hF b).2 (e▸k))
def S.YC{z:α}{j k:Nat}(ho:o.op=.call { callee:=.builtin .clear,args:=#[x],argTypes:=#[t] })(s:ev F x=.slice (if c=j then A else A.map (·.add (j*T.size))) k (c - j))
  (ht:prog.underlying t=some (.slice T.tid)) (hz:T.val z=T.zero) (hj:n<=j) (p:j+k<=c) (hk:0<k) (M:eQ (own T A n c l) [own T A n c l] H H'):dF prog N E F H o λr Q=>r=.tuple #[]/\Q=H':=by
 intro a u Z O Kw Q' X;have⟨R,e⟩:=M.has;have⟨F0,W,_⟩:=O.has e;have⟨ti,hi,B,b0,a8⟩:=T.sG;obtain⟨h0,⟨_,h2,_⟩|⟨g,b,rfl,h3,i,h5,h6,J,h8⟩⟩:=W
 ·omega
 rw[b! o_] at s;have U:(some (⟨g,0,none⟩:Addr)).map (·.add (j*T.size))=some ⟨g,j*T.size,none⟩:=by show some ((⟨g,0,none⟩:Addr).add _)=_;rw[uJ,lM]
 rw[U] at s;have w:Builtin.zeroCells T.zero.cells k=madeCells T.zero.cells (k*T.size):=by
  have:=T.hzero;simp[Builtin.zeroCells,madeCells,this]
 have y:(Builtin.zeroCells T.zero.cells k).toList=T.cE (List.replicate k z):=by rw[w,J6 T z hz]
 have K:j*T.size+k*T.size<=c*T.size:=by rw[<-tL];exact oC _ p
 have f:=run_storeCells_at prog g (j*T.size) T.tid (T.cE (List.replicate k z)) 0 b u i (by rw[T.mH,rR,J];omega) (T.Cw _);unfold Oper.wp;rw[Z.eval];have a9:k≠0:=o_;have v:(execOp (ev F) o).run prog u=.ok (.value (.tuple #[])) (u.setRow g (b.toList.take (j*T.size+0)++T.cE (List.replicate k z)++b.toList.drop (j*T.size+0+(T.cE (List.replicate k z)).length)).toArray):=by
  obtain⟨k,rfl⟩:∃k',k=k'+1:=⟨k - 1,o_⟩;unfold execOp;simp only[ho,resolve,invoke,builtin,iE,mY,iO,Dh,jL,tI,s];simp[Builtin.clear_,run_underlying ht,zeroValue,typeInfo,hi,B,y] at f⊢;simp[f]
 rw[v];refine X _ _ _ ⟨rfl,rfl⟩ (St.setRow O M g _ λF1 k1=>?_);obtain⟨m0,⟨_,m2,_⟩|⟨g',D,h,P,d,m5,m6,m7,m8⟩⟩:=k1
 ·omega
 injection h with h;injection h with h;subst h;rw[i] at d;injection d with d;injection d with d _ _;subst d;have q:n*T.size<=j*T.size:=oC _ hj;refine⟨(P g).2 rfl,m0,.inr ⟨g,_,rfl,P,setRow_heap u g _ _ _ _ i,m5,m6,?_,?_⟩⟩
 ·simp[T.mH];omega
 ·rw[<-m8];simp only[Gg,bF];rw[E6 (by rw[dR,Db,J];omega),E8,nM q]
end
def Y.slice3{a:r!->p!}{A:n!}{n c:Nat}{e:q!}{lo hi v:r!}{k k2 k3:IntKind}{i r s:Int}{w:TypeInfo}{j m q:Nat}(D:o.op=.slice t x (some lo) (some hi) (some v))(M:a x=.slice A n c)(f:a lo=.int k i)(b:a hi=.int k2 r)(h:a v=.int k3 s)(K:P.underlying t=some (.slice e))(y:P.info? e=some w)(z:i=j)(B:r=m)(J:s=q)(d:j<=m)(g:m<=q)(p:q<=c) :
  gM P E H a o (.slice (if q=j then A else A.map (·.add (j*w.size))) (m - j) (q - j)):=by
 intro u O;subst z B J;simp[execOp,D,M,Instr.sliceAt,Instr.slice,Instr.sliceBounds,Instr.sliceBound,asIntOf,run_underlying K,sizeOf,typeInfo,y,f,b,h,d,g,p]
def B9:Nat->List bV->List MapEntry
 |_,[]=>[]
 |i,k::ks=>{ key:=.agg k.cs.toArray,val:=.bool true,born:=i }::B9 (i+1) ks
abbrev B8(ks:List bV):Array MapEntry:=(B9 0 ks).toArray
def aQh(i:Nat)(ks:List bV)(k:bV):B9 i ks++[{ key:=.agg k.cs.toArray,val:=.bool true,born:=i+ks.length }]=B9 i (ks++[k]):=by
 induction ks generalizing i with
 |nil=>rfl
 |cons x ks a =>
  have:=a (i+1);rw[mX,B9,B9,mX,<-this,gL,show i+1+ks.length=i+(ks.length+1) by omega]
def pN(m:Option Nat)(ks:List bV):aG where
 holds F w:=match m with
  |none=>ks=[]/\∀b,¬F b
  |some g=>(∀b,F b↔b=g)/\w.heap[g]?=some (.map (B8 ks) ks.length)
 loc:=by
  intro F w c h a;cases m with
  |none=>exact h
  |some g=>exact⟨h.1,(a _ ((h.1 _).2 rfl)).trans h.2⟩
 lt:=by
  intro F w b h hb;cases m with
  |none=>exact i! hb (h.2 b)
  |some g=>rw[(h.1 _).1 hb];exact(xO.1 h.2).1
section
variable {E:Env} {H H' R:List aG} {N:Nat} {F:Nat->p!} {o:Oper} {ρ:r!->p!} {m:Option Nat} {ks:List bV}
def aB.S6:aB E H (pN none []::H):=λw a =>
 a.conv λF h=>⟨F,⟨λ_=>False,F,λb=>by simp,λb h=>h.elim,⟨rfl,λ_ h=>h⟩,h⟩,λ_ h=>h⟩
def OF(k:bV)(c:Bool)(w:World):(Instr.checkKey c 10000 75 (.agg k.cs.toArray)).run prog w=.ok () w:=by
 have l:=underlying75;have g:=underlying32;have d:=underlying3;have hb:=underlying4;rw[show(10000:Nat)=9999+1 from rfl,Instr.checkKey];simp only[iE,run_underlying l,iO];rw[<-Array.forIn_toList];have⟨i,e,_,f,_⟩:=gJ.sG;have p:(part 32 k.cs.toArray 0).run prog w=.ok (.agg #[a! k.id.rep,a! k.id.seq]) w:=by
  have a:prog.info? 32=some i:=e;have b:i.size=2:=f;simp[part,isAgg,sizeOf,typeInfo,run_underlying g,a,b,bV.cs]
 have q:(part 3 k.cs.toArray 2).run prog w=.ok (a! k.ord) w:=by simp[part,isAgg,run_underlying d,bV.cs]
 have r:(part 4 k.cs.toArray 3).run prog w=.ok (.bool k.cJ) w:=by simp[part,isAgg,run_underlying hb,bV.cs]
 have h:∀(x:Int) n,(Instr.checkKey c (n+1) 3 (a! x)).run prog w=.ok () w:=λx n=>by simp[Instr.checkKey,run_underlying d]
 have s:∀(x:Bool) n,(Instr.checkKey c (n+1) 4 (.bool x)).run prog w=.ok () w:=λx n=>by simp[Instr.checkKey,run_underlying hb]
 have v:(part 3 #[a! k.id.rep,a! k.id.seq] 0).run prog w=.ok (a! k.id.rep) w:=by simp[part,isAgg,run_underlying d]
 have y:(part 3 #[a! k.id.rep,a! k.id.seq] 1).run prog w=.ok (a! k.id.seq) w:=by simp[part,isAgg,run_underlying d]
 have j:(Instr.checkKey c 9999 32 (.agg #[a! k.id.rep,a! k.id.seq])).run prog w=.ok () w:=by
  rw[show(9999:Nat)=9998+1 from rfl,Instr.checkKey];simp only[iE,run_underlying g,iO];rw[<-Array.forIn_toList];simp only[List.forIn_cons,List.forIn_nil,iE,ne_eq,String.reduceEq,not_false_eq_true,if_true,iO,v,y,mY,show(9998:Nat)=9997+1 from rfl,h]
 have t:=h k.ord 9998;have u:=s k.cJ 9998;simp only[List.forIn_cons,List.forIn_nil,iE,ne_eq,String.reduceEq,not_false_eq_true,if_true,iO,p,q,r,j,mY,t,u]
def NA:(match prog.underlying 75 with|some (.array _ _)|some (.struct _)=>true|_=>false)=true:=q_
def OG(k:bV)(w:World):∀(ks:List bV) (i:Nat) (j:Nat),∃r,(Instr.findAsking 75 (.agg k.cs.toArray) (B9 j ks) i).run prog w=.ok r w/\(k∈ks->∃q,r=some (q,.bool true))/\(k∉ks->r=none)
 | [],i,j=>⟨none,rfl,λh=>(cZ h).elim,λ_=>rfl⟩
 |x::ks,i,j=>by
  have h1:(Op.equalIn 10000 75 (.agg k.cs.toArray) (.agg x.cs.toArray)).run prog w=.ok (decide (k=x)) w:=(Kg (t:=75) (xs:=#[a! k.id.rep,a! k.id.seq,a! k.ord,.bool k.cJ]) (ys:=#[a! x.id.rep,a! x.id.seq,a! x.ord,.bool x.cJ]) (r:=decide ((⟨⟨k.id.rep,k.id.seq⟩,k.ord,k.cJ⟩:bV)=⟨⟨x.id.rep,x.id.seq⟩,x.ord,x.cJ⟩))).run w;have h2:(Op.equal 75 (.agg k.cs.toArray) (.agg x.cs.toArray)).run prog w=.ok (decide (k=x)) w:=h1;have⟨r,h3,h4,h5⟩:=OG k w ks (i+1) (j+1);by_cases hkx:k=x
  ·refine⟨some (i,.bool true),?_,λ_=>⟨_,rfl⟩,λh=>i! (by rw[hkx];exact jW ..) h⟩;rw[B9,Instr.findAsking];simp only[iE,h2,iO,d! hkx,if_true,mY]
  ·refine⟨r,?_,λh=>h4 (by rcases tK.1 h with h|h;exact i! h hkx;exact h),λh=>h5 λh'=>h (kF _ h')⟩;rw[B9,Instr.findAsking];simp only[iE,h2,iO,e! hkx,tG,if_false,h3]
def Y.aNu{k:bV}(l:o.op=.lookup t x i false)(v:ρ x=.map m)(hi:ρ i=.agg k.cs.toArray)(p:prog.underlying t=some (.map 75 4))(j:Has (pN m ks) H R):gM prog E H ρ o (.bool (decide (k∈ks))):=by
 intro u s;have⟨F,f,_⟩:=s.has j;have h:∀w,(zeroValue 4).run prog w=.ok (.bool false) w:=λw=>q_;unfold execOp;simp only[l,v,hi,Instr.lookup,iE,run_underlying p,iO];cases m with
 |none =>
  obtain⟨rfl,_⟩:=f;have c:=OF k (#[]:Array MapEntry).isEmpty u;have d:(Instr.findKey 75 (.agg k.cs.toArray) (#[]:Array MapEntry).toList).run prog u=.ok none u:=by rw[run_findKey_eq u NA];rfl
  simp only[mY,iO,iE,c,d,h];simp
 |some g =>
  have⟨_,hb⟩:=f;have c:=OF k (B8 ks).isEmpty u;have⟨r,n,a,e⟩:=OG k u ks 0 0;have d:(Instr.findKey 75 (.agg k.cs.toArray) (B8 ks).toList).run prog u=.ok r u:=by rw[run_findKey_eq u NA];exact n
  simp only[Ge hb,mY,iO,iE,c,d];by_cases b:k∈ks
  ·obtain⟨q,rfl⟩:=a b;simp[b]
  ·rw[e b];simp[b,h]
def S.aRa{v:r!}{g:Nat}{k:bV}(ho:o.op=.mapUpdate t x i v)(hx:ev F x=.map (some g))(hi:ev F i=.agg k.cs.toArray)(hv:ev F v=.bool true)(ht:prog.underlying t=some (.map 75 4))(hk:k∉ks){ks':List bV}(hl:ks++[k]=ks')(hr:eQ (pN (some g) ks) [pN (some g) ks'] H H') :
  dF prog N E F H o λr H1=>r=undef/\H1=H':=by
 subst hl;intro a u ha hu Kw Q' hK;have⟨R,hhas,F0,h0⟩:=hu.CF hr;have⟨h1,hb⟩:=h0;have hc:=OF k false u;have⟨r,hr2,hyes,hno⟩:=OG k u ks 0 0;have hf:(Instr.findKey 75 (.agg k.cs.toArray) (B8 ks).toList).run prog u=.ok none u:=by rw[run_findKey_eq u NA,<-hno hk];exact hr2
 have hpush:(B8 ks).push { key:=.agg k.cs.toArray,val:=.bool true,born:=ks.length }=B8 (ks++[k]):=by
  apply Array.ext';have:=aQh 0 ks k;rw[lM] at this;simpa using this
 have hrun:(execOp (ev F) o).run prog u=.ok .skip { u with heap:=u.heap.setIfInBounds g (.map (B8 (ks++[k])) (ks++[k]).length) }:=by
  unfold execOp;simp only[ho,hx,hi,hv,Instr.mapUpdate,iE,run_underlying ht,iO,Ge hb,hc,hf,hpush,Lq _ hb];simp
 unfold Oper.wp;rw[ha.eval,hrun];refine hK undef _ _ ⟨rfl,rfl⟩ ?_;have hlt:g<u.heap.size:=(xO.1 hb).1;refine hu.kB hr rfl rfl rfl s_ (G:=λb=>b=g) (λb _ hb=>?_) λF1 k1=>?_
 ·show(u.heap.setIfInBounds g _)[b]?=_;rw[PD (xW hb)]
 ·refine⟨F1,⟨F1,λ_=>False,λb=>by simp,λ_ _ h=>h,⟨k1.1,?_⟩,λ_ h=>h⟩,λb hb=>.inl hb,λb _ hb=>(k1.1 b).2 hb⟩;show(u.heap.setIfInBounds g _)[g]?=_;simp[hlt]
def S.aFw(i:o.op=.makeMap t none):dF prog N E F H o λr d=>∃g,r=.map (some g)/\d=pN (some g) []::H:=by
 intro a u f j k n e;have c:(execOp (ev F) o).run prog u=.ok (.value (.map (some u.heap.size))) (u.alloc (.map #[] 0)):=by
  unfold execOp;simp only[i,Option.map_none,run_makeMap,iE,iO,mY]
 unfold Oper.wp;rw[f.eval,c];refine e _ _ _ ⟨_,rfl,rfl⟩ ?_;refine j.grow (l:=[pN (some u.heap.size) []]) rfl rfl rfl s_ (λb hb=>CT _ _ _ hb) (F1:=λb=>b=u.heap.size) ⟨_,λ_=>False,λb=>by simp,λb _ h=>h,⟨λb=>oB,heap_alloc_new _ _⟩,λb h=>h⟩ (λb hb=>by omega)
def V.ZE{y:r!}{t' k e:q!}{p:Option Nat}{u:World}(b:o.op=.binOp .eql t x y t')(c:prog.underlying t=some (.map k e))(f:ρ x=.map p)(g:ρ y=.map none):(execOp ρ o).run prog u=.ok (.value (.bool p.isNone)) u:=by
 have h:∀d,(Op.equalIn (d+1) t (.map p) (.map none)).run prog u=.ok p.isNone u:=λd=>by cases p<;>simp[Op.equalIn,run_underlying c]
 have a:(binOp .eql t (.map p) (.map none)).run prog u=.ok (.bool p.isNone) u:=by
  simp only[binOp];simp[show Op.equal t (.map p) (.map none)=Op.equalIn (9999+1) t (.map p) (.map none) from rfl,h]
 simp[execOp,b,f,g,eqGuard,a]
end
def OK{ρ:r!->p!}{v:p!}(h:gM P E H ρ o v:=by first|(intro _ _;apply V.funcF;exact rfl;exact cQ)|(intro _ _;apply V.ZE;exact rfl;exact rfl;exact rfl;exact rfl)|(apply Y.aNu;exact rfl;exact rfl;exact rfl;exact rfl;exact aV)):gM P E H ρ o v:=h
def F8{N:Nat}{F:Nat->p!}{K:p!->List aG->Prop}(h:dF P N E F H o K:=by first|exact CJ|(apply S.aFw;exact rfl)|(apply S.aRa;exact rfl;exact cQ;exact cQ;exact cQ;exact rfl;exact mT;exact OI;exact gR)):dF P N E F H o K:=h
def y?{p:Prop}(hq:q)(h:kD q->p:=by intro h;first|(apply L.lI;decide;exact F8;(first|exact x0 h.out|exact x1 h.out|exact x2 h.out))|(apply L.DR;exact F8;(first|exact x0 h.out|exact x1 h.out|exact x2 h.out))|(apply Dr.FX;exact rfl;(· rintro k ⟨⟩<;>decide);exact bB;exact F8;(first|exact x0 h.out|exact x1 h.out|exact x2 h.out))|(apply Dr.D5;exact rfl;(· rintro k ⟨⟩<;>decide);exact bB;exact F8;(first|exact x0 h.out|exact x1 h.out|exact x2 h.out))|(apply lJ.mK;exact rfl;(· rintro k ⟨⟩<;>decide);exact bB;exact F8;(first|(refine y0 ?_ ?_;exact aC;exact h.out)|(refine y1 ?_ ?_;(· intro _;exact aC);exact h.out)|(refine y2 ?_ ?_;(· intro _ _;exact aC);exact h.out)))|(apply Dr.mK;exact rfl;(· rintro k ⟨⟩<;>decide);exact bB;exact F8;(first|(refine y0 ?_ ?_;exact aC;exact h.out)|(refine y1 ?_ ?_;(· intro _;exact aC);exact h.out)|(refine y2 ?_ ?_;(· intro _ _;exact aC);exact h.out)))):p:=h ⟨hq⟩
def gU{p:Prop}(hq:q)(h:kD q->p:=by intro h;first|exact w_ h.out|(apply L.val;decide;exact OK;exact h.out)|(apply qP.take;exact rfl;decide;exact bB;exact OK;exact h.out)|(apply Dr.take;exact rfl;decide;exact bB;exact OK;exact h.out)|exact y? h.out|(apply gd;exact bU;exact aC;exact h.out)|(apply gk;exact bU;exact h.out)):p:=h ⟨hq⟩
theorem m_{p:Prop}(hq:q)(h:kD q->p:=by intro h;intro e H';(repeat first|rintro ⟨rfl,rfl⟩|with_reducible refine xE_ λzz0=>?_|with_reducible refine xA_ λzz0=>?_);(repeat first|refine gU ?_|intro zz0);(repeat revert zz0);exact h.out):p:=h ⟨hq⟩
theorem j_{p:Prop}(hq:q)(h:kD q->p:=by intro h;(repeat first|refine gU ?_|intro zz0);(repeat revert zz0);exact h.out):p:=h ⟨hq⟩
theorem I_{K L p:Prop}(hf:K)(hn:L)(hq:q)(h:K->L->kD q->p:=by intro f n h;refine t_ f n ?_;exact j_ h.out):p:=h hf hn ⟨hq⟩
def e8:Rec prog 116 [.map none,.slice none 0 0,a! 0] [(0,1),(1,1),(2,1)]:=⟨q_,q_⟩
instance aSm:iB 116 [.map none,.slice none 0 0,a! 0] [(0,1),(1,1),(2,1)]:=⟨e8⟩
abbrev gt(g:Nat)(m:Option Nat)(A:n!)(n c:Nat)(r:Int):aG:=aE g 116 [.map m,.slice A n c,a! r]
def bV.other(k:bV):bV:=⟨k.id,k.ord,!k.cJ⟩
section
variable (E:Env)
def aKe(k:bV):aF prog E 147 #[.agg k.cs.toArray] [] λr a=>r=.returned (.agg k.other.cs.toArray)/\a=[]:=by
 refine I_ func147 ntmps147 ?_;intros
 exact wR
def X8(n lo hi:Int)(f:FuncId)(h:f=65):aF prog E f #[a! n,a! lo,a! hi] [] λe d=>e=.returned (a! (if n<lo then lo else if hi<n then hi else n))/\d=[]:=by
 subst h;refine t_ func65 ntmps65 ?_;by_cases a:n<lo
 ·rw[c! a];refine j_ ?_;exact aS
 rw[b! a];by_cases b:hi<n
 ·rw[c! b];refine j_ ?_;exact aS
 rw[b! b];refine j_ ?_;exact aS
variable (g:Nat) (m:Option Nat) (A:n!) (n c:Nat) (r:Int) (ks:List bV)
def Jm(k:bV):aF prog E 93 #[.pointer (some ⟨g,0,none⟩),.agg k.cs.toArray] [gt g m A n c r,pN m ks] λe a=>e=.returned (.bool (decide (k∈ks)))/\a=[gt g m A n c r,pN m ks]:=by
 refine I_ func93 ntmps93 ?_;intros
 refine rA (l_ [0,1,2,3,4,5,6,7,8,9,10] .nil) (j_ ?_)
 exact aS
end
section
variable (E:Env)
def aBo(A:n!)(n c:Nat)(l:List aM)(f:Rd E cF A n c l)(h:n<=1000000000):aF prog E 85 #[.slice A n c] [] λr e=>∃d b,r=.returned (.slice d n b)/\(n<=b/\b<=maxLen)/\e=[own cF d n b l]:=by
 refine t_ func85 ntmps85 ?_;cases A with
 |none =>
  obtain⟨rfl,rfl⟩:=f.none;refine j_ ?_
  exact aX rfl aJ (aB.nil cF) ⟨_,_,rfl,⟨bM _,bY _⟩,rfl⟩
 |some a =>
  refine j_ ?_;intros
  exact aX rfl aJ aC (⟨_,_,rfl,⟨by assumption,by assumption⟩,rfl⟩)
variable (g:Nat) (m:Option Nat) (A:n!) (n c:Nat) (r:Int) (l:List aM)
abbrev sC(g:Nat)(m:Option Nat)(A:n!)(n c:Nat)(r:Int)(l:List aM):List aG:=[gt g m A n c r,pN m (l.map aM.key),own cF A n c l]
structure AY(m:Option Nat)(n c:Nat)(r:Int)(l:List aM):Prop where
 hn:n=l.length
 hc:n<=c/\c<=maxLen
 hm:m=none->l=[]
 hr:0<=r/\r<=255
def o6(x:Int):aF prog E 127 #[.pointer (some ⟨g,0,none⟩),a! x] [gt g m A n c r] λe a=>e=.returned (.tuple #[])/\a=[gt g m A n c (if x<0 then 0 else if 255<x then 255 else x)]:=by
 refine I_ func127 ntmps127 ?_
 refine cl sD sK aH (λM b=>X8 M x 0 255 _ rfl) (m_ ?_)
 exact vK
def Rj(j:Rd E cF A n c l)(i:n<=1000000000):aF prog E 22 #[.pointer (some ⟨g,0,none⟩)] [gt g m A n c r] λe d=>∃b a,e=.returned (.slice b n a)/\(n<=a/\a<=maxLen)/\d=[gt g m A n c r,own cF b n a l]:=by
 refine I_ func22 ntmps22 ?_
 refine cl sD sK aH (λM h=>aBo M A n c l (j.sub h) i) ?_;rintro e d ⟨b,a,rfl,f,rfl⟩;refine j_ ?_
 exact dS ⟨_,_,rfl,f,rfl⟩
def l6(q:aM)(b:q.key∈l.map aM.key):aF prog E 29 #[.pointer (some ⟨g,0,none⟩),.agg q.cs.toArray] (sC g m A n c r l) λe a=>e=.returned (.bool true)/\a=sC g m A n c r l:=by
 have d:decide (q.key∈l.map aM.key)=true:=d! b;unfold sC;refine I_ func29 ntmps29 ?_;intros
 refine aP (λM=>Jm M g m A n c r (l.map aM.key) q.key) ?_;refine j_ ?_
 exact aS
def j9(q:aM)(b:q.key∉l.map aM.key)(d:0<r/\r<=255):aF prog E 29 #[.pointer (some ⟨g,0,none⟩),.agg q.cs.toArray] (sC g m A n c r l) λe a=>e=.returned (.bool false)/\a=sC g m A n c (r - 1) l:=by
 have i:decide (q.key∈l.map aM.key)=false:=e! b;have⟨f,h⟩:=d;unfold sC;refine I_ func29 ntmps29 ?_;intros
 refine aP (λM=>Jm M g m A n c r (l.map aM.key) q.key) ?_;refine j_ ?_
 exact aS
def j8(s:AY m n c r l)(q:aM)(v:q.key∉l.map aM.key)(y:r<=0)(x:n<=1000000000):aF prog E 29 #[.pointer (some ⟨g,0,none⟩),.agg q.cs.toArray] (sC g m A n c r l) λe t=>∃o f a,e=.returned (.bool true)/\AY o (n+1) a r (l++[q])/\t=sC g o f (n+1) a r (l++[q]):=by
 have u:decide (q.key∈l.map aM.key)=false:=e! v;have k:(l++[q]).map aM.key=l.map aM.key++[q.key]:=by rw[gP];rfl
 have b:∀o a,o≠none->(n+1<=a/\a<=maxLen)->AY o (n+1) a r (l++[q]):=λm' a i j=>⟨by rw[bR,<-s.hn];rfl,j,λh=>i! h i,s.hr⟩
 unfold sC;rw[k];refine t_ func29 ntmps29 ?_;cases m with
 |none =>
  obtain rfl:=s.hm rfl;have w:q.key∉([]:List bV):=λh=>(cZ h).elim;simp only[tI,jD] at b u⊢;refine j_ ?_;intros
  refine aP (λM=>Jm M g none A n c r [] q.key) ?_;refine j_ ?_;intros
  rename_i p d;refine C.fL 6 (l_ [0,1,2,3,4,5] (g_ 6 .nil)) _ q_ q_ aB.refl (j_ ?_)
  refine C.fL 10 (l_ [0,1,2,3,4,5] (g_ 6 (g_ 7 (l_ [8,9] (g_ 10 .nil))))) ([gt g (some d) A n c r,aE p 79 q.cs]) q_ q_ aC (j_ ?_);intros
  rename_i f a i j;exact aX rfl aJ aC (⟨some d,f,a,rfl,b _ _ (λh=>by cases h) ⟨i,j⟩,rfl⟩)
 |some d =>
  refine j_ ?_;intros
  refine aP (λM=>Jm M g (some d) A n c r (l.map aM.key) q.key) ?_;refine j_ ?_
  rename_i p;refine C.fL 6 (l_ [0,1,2,3,4,5] (g_ 6 .nil)) _ q_ q_ aB.refl (j_ ?_)
  refine C.fL 10 (l_ [0,1,2,3,4,5] (g_ 6 (g_ 7 (l_ [8,9] (g_ 10 .nil))))) ([gt g (some d) A n c r,aE p 79 q.cs]) q_ q_ aC (j_ ?_);intros
  rename_i f a i j;exact aX rfl aJ aC (⟨some d,f,a,rfl,b _ _ (λh=>by cases h) ⟨i,j⟩,rfl⟩)
end
structure iC where
 to:Int
 A:Option Addr
 n:Nat
 c:Nat
 b:List UInt8
 broken:Bool
abbrev iC.cs(x:iC):List p!:=[a! x.to,.slice x.A x.n x.c,.bool x.broken]
def iJ:Ty iC where
 val x:=.agg x.cs.toArray
 size:=3
 bytes:=40
 tid:=168
 zero:=.agg #[a! 0,.slice none 0 0,.bool false]
 hlen _:=rfl
 kL a u h:=by simp[Value.cells] at h;rcases h with rfl|rfl|rfl<;>rfl
 fZ:=sD
 hzero:=rfl
 lF:=q_
 mQ:=.inl ⟨q_,λ_=>⟨_,rfl⟩⟩
instance aTb:pR iJ 40:=⟨rfl⟩
def aIy:iC:=⟨0,none,0,0,[],false⟩
def aIu:Rec prog 168 [a! 0,.slice none 0 0,.bool false] [(0,1),(1,1),(2,1)]:=⟨q_,q_⟩
instance aTi:iB 168 [a! 0,.slice none 0 0,.bool false] [(0,1),(1,1),(2,1)]:=⟨aIu⟩
def aRd:Rec prog 113 [.slice none 0 0] [(0,1)]:=⟨q_,q_⟩
instance aSt:iB 113 [.slice none 0 0] [(0,1)]:=⟨aRd⟩
structure bX where
 to:Int
 b:List UInt8
 broken:Bool
abbrev oY(x:iC):aG:=own bH x.A x.n x.c x.b
abbrev wr(g:Nat)(A:n!)(n c:Nat):aG:=aE g 113 [.slice A n c]
abbrev iC.mark(x:iC)(b:o!):iC:=⟨x.to,x.A,x.n,x.c,b,true⟩
def YJ(E:Env)(A:n!)(n c:Nat)(l:o!)(h:Rd E bH A n c l)(i:n<=140737488355300):aF prog E 156 #[.slice A n c] [] λe f=>∃d b,e=.returned (.slice d n b)/\(n<=b/\b<=maxLen)/\f=[own bH d n b l]:=by
 refine t_ func156 ntmps156 ?_;cases A with
 |none =>
  obtain⟨rfl,rfl⟩:=h.none;refine c_ ?_
  exact aX rfl aJ (aB.nil bH) ⟨_,_,rfl,⟨bM _,bY _⟩,rfl⟩
 |some a =>
  refine c_ ?_;intros
  exact aX rfl aJ aC (⟨_,_,rfl,⟨by assumption,by assumption⟩,rfl⟩)
def Ns{fn:Func}{R:Ending->List aG->Prop}{F:Nat->p!}{H1:List aG}{e:Ex}(hc:aB E H H1)(h:mB P E fn R e F H1)(hp:∀c,e≠.panic c:=by intro c h;cases h):mB P E fn R e F H:=by
 cases e with
 |panic c=>exact i! rfl (hp c)
 |normal=>have⟨v,H',h1,h2,h3⟩:=h;exact⟨v,H',λw hw=>h1 w (hc w hw),hc.trans h2,h3⟩
 |ret=>have⟨v,H',h1,h2,h3⟩:=h;exact⟨v,H',λw hw=>h1 w (hc w hw),hc.trans h2,h3⟩
 |exit id=>exact h
section
variable (E:Env) (g:Nat) (A:n!) (n c:Nat) (ls:List iC)
def IP(i:Int)(e:n<=128)(h:i<0\/n<=i):aF prog E 182 #[.pointer (some ⟨g,0,none⟩),a! i] [wr g A n c] λr b=>r=.returned (.pointer none)/\b=[wr g A n c]:=by
 have a:=cS;refine t_ func182 ntmps182 ?_;by_cases d:i<0;all_goals
  refine c_ ?_;exact aS
def Ee(i:Nat)(h:n<=128)(hi:i<n){e:iC}(d:ls[i]?=some e)(f:n=ls.length):aF prog E 182 #[.pointer (some ⟨g,0,none⟩),a! i] [wr g A n c,own iJ A n c ls] λr b=>r=.returned (.pointer (some ((ad A).add (i*iJ.size))))/\b=[wr g A n c,own iJ A n c ls]:=by
 have a:=cS;refine x_ func182 ntmps182 ?_
 exact aS
def Cf(E:Env)(ls:List iC)(X:n!)(nx cx:Nat)(b:o!):Prop:=∀M R,Sub E R M->(∃a,Has (aT oY ls) R a)->Rd M bH X nx cx b
def Cf.rd{E:Env}{ls:List iC}{X:n!}{nx cx:Nat}{b:o!}(h:Rd E bH X nx cx b):Cf E ls X nx cx b:=λ_ _ a _=>h.sub a
def Cf.at_{E:Env}{ls:List iC}{i:Nat}{e:iC}(b:ls[i]?=some e):Cf E ls e.A e.n e.c e.b:=λ_ _ a ⟨_,d⟩=>Sub.aT a d b rfl
def Dl(g:Nat)(n:Nat)(ls:List iC)(to:Int)(nx:Nat)(b:o!)(e:Bool):Ending->List aG->Prop:=λr h =>
 ∃d a O f,r=.returned (.bool true)/\(n+1<=a/\a<=maxLen)/\h=[wr g d (n+1) a,own iJ d (n+1) a (ls++[⟨to,O,nx,f,b,e⟩]),aT oY (ls++[⟨to,O,nx,f,b,e⟩])]
def V0(X:n!)(nx cx:Nat)(to:Int)(b:Bool)(e:128<=n)(d:n<=maxLen):aF prog E 94 #[.pointer (some ⟨g,0,none⟩),.agg #[a! to,.slice X nx cx,.bool b]] [wr g A n c] λr a=>r=.returned (.bool false)/\a=[wr g A n c]:=by
 refine x_ func94 ntmps94 ?_;intros
 exact aS
def O7(X:n!)(nx cx:Nat)(to:Int)(a:Bool)(b:o!)(z:n<128)(y:n=ls.length)(d:Cf E ls X nx cx b)(i:nx<=140737488355300) :
  aF prog E 94 #[.pointer (some ⟨g,0,none⟩),.agg #[a! to,.slice X nx cx,.bool a]] [wr g A n c,own iJ A n c ls,aT oY ls] (Dl g n ls to nx b a):=by
 have j:=cS;unfold Dl;refine x_ func94 ntmps94 ?_;intros
 rename_i m;refine cl sD sK aH (λM q=>YJ M X nx cx b (d M _ q ⟨_,aV⟩) i) ?_;rintro r v ⟨O,h,rfl,⟨s,t⟩,rfl⟩;refine c_ ?_
 refine C.fL 10 (l_ [0,1,2,3,4,5] (g_ 6 (g_ 7 (l_ [8,9] (g_ 10 .nil))))) ([wr g A n c,aE m 168 [a! to,.slice O nx h,.bool a]]) q_ q_ aC (c_ ?_)
 refine Dr.mK rfl (by rintro k ⟨⟩<;>decide) bB (S.pY (T:=iJ) (e:=⟨to,O,nx,h,b,a⟩) rfl rfl rfl rfl sD) ?_;rintro _ _ ⟨_,rfl,rfl⟩;refine⟨aC,?_⟩;refine c_ ?_;intros
 rename_i u w o p;refine Ns (aB.push (f:=oY) (l:=ls) (x:=⟨to,O,nx,h,b,a⟩) aH) ?_;exact dS ⟨_,_,_,_,rfl,⟨o,p⟩,rfl⟩
def aDo(to:Int)(X:n!)(nx cx:Nat)(d:128<=n)(b:n<=maxLen):aF prog E 30 #[.pointer (some ⟨g,0,none⟩),a! to,.slice X nx cx] [wr g A n c] λr a=>r=.returned (.bool false)/\a=[wr g A n c]:=by
 refine x_ func30 ntmps30 ?_
 refine A_ (λM=>V0 M g A n c X nx cx to false d b) ?_
 exact aS
def aOb(to:Int)(X:n!)(nx cx:Nat)(b:o!)(i:n<128)(h:n=ls.length)(a:Rd E bH X nx cx b)(d:nx<=140737488355300) :
  aF prog E 30 #[.pointer (some ⟨g,0,none⟩),a! to,.slice X nx cx] [wr g A n c,own iJ A n c ls,aT oY ls] (Dl g n ls to nx b false):=by
 refine x_ func30 ntmps30 ?_
 refine cl sD sK aH (λM f=>O7 M g A n c ls X nx cx to false b i h (Cf.rd (a.sub f)) d) ?_;unfold Dl;rintro r k ⟨j,l,O,m,rfl,e,rfl⟩;refine c_ ?_
 exact dS ⟨_,_,_,_,rfl,e,rfl⟩
def aLj(d:n<=128):aF prog E 35 #[.pointer (some ⟨g,0,none⟩)] [wr g A n c] λr b=>r=.returned (a! n)/\b=[wr g A n c]:=by
 have a:=cS;refine x_ func35 ntmps35 ?_
 exact aS
def aAr(i:Int)(b:n<=128)(h:i<0\/n<=i):aF prog E 119 #[.pointer (some ⟨g,0,none⟩),a! i] [wr g A n c] λr a=>r=.returned (a! (-1))/\a=[wr g A n c]:=by
 refine x_ func119 ntmps119 ?_
 refine A_ (λM=>IP M g A n c i b h) ?_
 exact aS
def aEt(i:Nat)(f:n<=128)(hi:i<n){e:iC}(b:ls[i]?=some e)(d:n=ls.length):aF prog E 119 #[.pointer (some ⟨g,0,none⟩),a! i] [wr g A n c,own iJ A n c ls] λr a=>r=.returned (a! e.to)/\a=[wr g A n c,own iJ A n c ls]:=by
 refine x_ func119 ntmps119 ?_
 refine A_ (λM=>Ee M g A n c ls i f hi b d) ?_
 exact aS
def aNf(i:Int)(b:n<=128)(h:i<0\/n<=i):aF prog E 125 #[.pointer (some ⟨g,0,none⟩),a! i] [wr g A n c] λr a=>r=.returned (.bool false)/\a=[wr g A n c]:=by
 refine x_ func125 ntmps125 ?_
 refine A_ (λM=>IP M g A n c i b h) ?_
 exact aS
def aNk(i:Nat)(f:n<=128)(hi:i<n){e:iC}(b:ls[i]?=some e)(d:n=ls.length):aF prog E 125 #[.pointer (some ⟨g,0,none⟩),a! i] [wr g A n c,own iJ A n c ls] λr a=>r=.returned (.bool e.broken)/\a=[wr g A n c,own iJ A n c ls]:=by
 refine x_ func125 ntmps125 ?_
 refine A_ (λM=>Ee M g A n c ls i f hi b d) ?_
 exact aS
def aPf(i:Int)(b:n<=128)(h:i<0\/n<=i):aF prog E 124 #[.pointer (some ⟨g,0,none⟩),a! i] [wr g A n c] λr a=>r=.returned (.bool false)/\a=[wr g A n c]:=by
 refine x_ func124 ntmps124 ?_
 refine A_ (λM=>IP M g A n c i b h) ?_
 exact aS
def aSd(i:Nat)(l:n=128)(hi:i<n){e:iC}(j:ls[i]?=some e)(k:n=ls.length):aF prog E 124 #[.pointer (some ⟨g,0,none⟩),a! i] [wr g A n c,own iJ A n c ls] λr h=>r=.returned (.bool false)/\h=[wr g A n c,own iJ A n c ls]:=by
 have f:=cS;have a:n<=128:=o_;have b:128<=n:=o_;have d:n<=maxLen:=o_;refine x_ func124 ntmps124 ?_
 refine A_ (λM=>Ee M g A n c ls i a hi j k) ?_
 refine A_ (λM=>V0 M g A n c e.A e.n e.c e.to e.broken b d) ?_
 exact aS
def aDg(i:Nat)(j:n<128)(hi:i<n){e:iC}(d:ls[i]?=some e)(f:n=ls.length)(b:e.n<=140737488355300) :
  aF prog E 124 #[.pointer (some ⟨g,0,none⟩),a! i] [wr g A n c,own iJ A n c ls,aT oY ls] (Dl g n ls e.to e.n e.b e.broken):=by
 have a:n<=128:=o_;refine x_ func124 ntmps124 ?_
 refine A_ (λM=>Ee M g A n c ls i a hi d f) ?_
 refine aU (λM=>O7 M g A n c ls e.A e.n e.c e.to e.broken e.b j f (Cf.at_ d) b) ?_;unfold Dl;rintro r l ⟨k,m,O,o,rfl,h,rfl⟩;refine c_ ?_
 exact dS ⟨_,_,_,_,rfl,h,rfl⟩
end
def sL:Nat->List (aL×Int)->List MapEntry
 |_,[]=>[]
 |i,k::ks=>{ key:=.agg k.1.cs.toArray,val:=a! k.2,born:=i }::sL (i+1) ks
abbrev nU(ks:List (aL×Int)):Array MapEntry:=(sL 0 ks).toArray
def aIn(i:Nat)(ks:List (aL×Int))(k:aL×Int):sL i ks++[{ key:=.agg k.1.cs.toArray,val:=a! k.2,born:=i+ks.length }]=sL i (ks++[k]):=by
 induction ks generalizing i with
 |nil=>rfl
 |cons x ks a =>
  have:=a (i+1);rw[mX,sL,sL,mX,<-this,gL,show i+1+ks.length=i+(ks.length+1) by omega]
def J9(j:Nat)(ks:List (aL×Int))(q:Nat):(sL j ks)[q]?=(ks[q]?).map λk=>{ key:=.agg k.1.cs.toArray,val:=a! k.2,born:=j+q }:=by
 induction ks generalizing j q with
 |nil=>rfl
 |cons x ks a =>
  cases q with
  |zero=>rfl
  |succ q=>rw[sL,PM,PM,a,show j+1+q=j+(q+1) by omega]
def aEn(j:Nat)(ks:List (aL×Int)):(sL j ks).length=ks.length:=by
 induction ks generalizing j with
 |nil=>rfl
 |cons x ks a=>rw[sL,gL,gL,a]
def hZ:List (aL×Int)->aL->Option (Nat×Int)
 | [],_=>none
 |x::ks,k=>if k=x.1 then some (0,x.2) else(hZ ks k).map λq=>(q.1+1,q.2)
def M7{ks:List (aL×Int)}{q:Nat}{v:Int}(h:hZ ks k=some (q,v)):ks[q]?=some (k,v):=by
 induction ks generalizing q with
 |nil=>cases h
 |cons x ks e =>
  unfold hZ at h;split at h
  ·rename_i d;injection h with h;injection h with a b;subst a b d;rfl
  ·cases c:hZ ks k with
   |none=>rw[c] at h;cases h
   |some z =>
    rw[c] at h;injection h with h;injection h with a b;subst a b;rw[PM];exact e c
def At(g:Nat)(ks:List (aL×Int)):aG where
 holds F w:=(∀b,F b↔b=g)/\w.heap[g]?=some (.map (nU ks) ks.length)
 loc:=λh a=>⟨h.1,(a _ ((h.1 _).2 rfl)).trans h.2⟩
 lt:=λh hb=>by rw[(h.1 _).1 hb];exact(xO.1 h.2).1
def UP(k:aL)(b:Bool)(w:World):(Instr.checkKey b 10000 32 (.agg k.cs.toArray)).run prog w=.ok () w:=by
 have c:=underlying32;have a:=underlying3;have d:∀(x:Int) n,(Instr.checkKey b (n+1) 3 (a! x)).run prog w=.ok () w:=λx n=>by simp[Instr.checkKey,run_underlying a]
 have f:(part 3 #[a! k.rep,a! k.seq] 0).run prog w=.ok (a! k.rep) w:=by simp[part,isAgg,run_underlying a]
 have h:(part 3 #[a! k.rep,a! k.seq] 1).run prog w=.ok (a! k.seq) w:=by simp[part,isAgg,run_underlying a]
 rw[show(10000:Nat)=9999+1 from rfl,Instr.checkKey];simp only[iE,run_underlying c,iO];rw[<-Array.forIn_toList];have e:k.cs.toArray=#[a! k.rep,a! k.seq]:=rfl;rw[e];simp only[List.forIn_cons,List.forIn_nil,iE,ne_eq,String.reduceEq,not_false_eq_true,if_true,iO,f,h,mY,show(9999:Nat)=9998+1 from rfl,d]
def r7:(match prog.underlying 32 with|some (.array _ _)|some (.struct _)=>true|_=>false)=true:=q_
def UR(k:aL)(w:World):∀(ks:List (aL×Int)) (i j:Nat),(Instr.findAsking 32 (.agg k.cs.toArray) (sL j ks) i).run prog w=.ok ((hZ ks k).map λq=>(i+q.1,a! q.2)) w
 | [],i,j=>rfl
 |x::ks,i,j=>by
  have c:(Op.equalIn 10000 32 (.agg k.cs.toArray) (.agg x.1.cs.toArray)).run prog w=.ok (decide (k=x.1)) w:=(Kg (t:=32) (xs:=#[a! k.rep,a! k.seq]) (ys:=#[a! x.1.rep,a! x.1.seq]) (r:=decide ((⟨k.rep,k.seq⟩:aL)=⟨x.1.rep,x.1.seq⟩))).run w;have b:(Op.equal 32 (.agg k.cs.toArray) (.agg x.1.cs.toArray)).run prog w=.ok (decide (k=x.1)) w:=c;have d:=UR k w ks (i+1) (j+1);rw[sL,Instr.findAsking];by_cases a:k=x.1
  ·rw[show hZ (x::ks) k=some (0,x.2) from c! a];simp only[iE,b,iO,d! a,if_true,mY];rfl
  ·rw[show hZ (x::ks) k=(hZ ks k).map λq=>(q.1+1,q.2) from b! a];simp only[iE,b,iO,e! a,tG,if_false,d];cases hZ ks k with
   |none=>rfl
   |some q=>simp only[Dk];rw[show i+1+q.1=i+(q.1+1) by omega]
def US(k:aL)(w:World)(ks:List (aL×Int)):(Instr.findKey 32 (.agg k.cs.toArray) (nU ks).toList).run prog w=.ok ((hZ ks k).map λq=>(q.1,a! q.2)) w:=by
 rw[run_findKey_eq w r7];have:=UR k w ks 0 0;simp only[lM] at this;exact this
def jP(ks:List (aL×Int))(k:aL):Int:=((hZ ks k).map Prod.snd).getD 0
def uS(ks:List (aL×Int))(k:aL):List (aL×Int):=match hZ ks k with
 |some _=>ks
 |none=>ks++[(k,0)]
def Ap(ks:List (aL×Int))(k:aL):Nat:=match hZ ks k with
 |some q=>q.1
 |none=>ks.length
def wV(ks:List (aL×Int))(k:aL):List (aL×Int):=(uS ks k).set (Ap ks k) (k,jP ks k+1)
def SI(ks:List (aL×Int))(k:aL):(uS ks k)[Ap ks k]?=some (k,jP ks k):=by
 unfold uS Ap jP;cases h:hZ ks k with
 |none=>simp
 |some q=>have⟨q,v⟩:=q;exact M7 h
section
variable {E:Env} {H H' R:List aG} {N:Nat} {F:Nat->p!} {o:Oper} {ρ:r!->p!} {g:Nat} {ks:List (aL×Int)}
def Y.NM(e:o.op=.lookup t x i false)(l:ρ x=.map (some g))(hi:ρ i=.agg k.cs.toArray)(f:prog.underlying t=some (.map 32 3))(d:Has (At g ks) H R):gM prog E H ρ o (a! (jP ks k)):=by
 intro u j;have⟨F,a,_⟩:=j.has d;have m:∀w,(zeroValue 3).run prog w=.ok (a! 0) w:=λw=>q_;unfold execOp;simp only[e,l,hi,Instr.lookup,iE,run_underlying f,iO];have⟨_,hb⟩:=a;have b:=UP k (nU ks).isEmpty u;have c:=US k u ks;simp only[Ge hb,mY,iO,iE,b,c];unfold jP;cases h:hZ ks k with
 |none=>simp[m]
 |some q=>simp
def aOh(a b:Int):Instr.sameBits 10000 (.agg #[a! a,a! b]) (.agg #[a! a,a! b])=true:=by simp[Instr.sameBits]
def S.Sq(ho:o.op=.mapEntry t x i)(hx:ev F x=.map (some g))(hi:ev F i=.agg k.cs.toArray)(ht:prog.underlying t=some (.map 32 3))(hr:eQ (At g ks) [At g (uS ks k)] H H') :
  dF prog N E F H o λr H1=>r=.tuple #[a! (jP ks k),a! (Ap ks k:Nat)]/\H1=H':=by
 intro a u ha hu Kw Q' hK;have⟨R,hhas,F0,h0⟩:=hu.CF hr;have⟨h1,hb⟩:=h0;have hc:=UP k false u;have hf:=US k u ks;have hz:∀w,(zeroValue 3).run prog w=.ok (a! 0) w:=λw=>q_;have hrun:(execOp (ev F) o).run prog u=.ok (.value (.tuple #[a! (jP ks k),a! (Ap ks k:Nat)])) { u with heap:=u.heap.setIfInBounds g (.map (nU (uS ks k)) (uS ks k).length) }:=by
  unfold execOp;simp only[ho,hx,hi,Instr.mapEntry,iE,run_underlying ht,iO,Ge hb,hc,hf];cases h:hZ ks k with
  |none =>
   have hpush:(nU ks).push { key:=.agg k.cs.toArray,val:=a! 0,born:=ks.length }=nU (ks++[(k,0)]):=by
    apply Array.ext';have:=aIn 0 ks (k,0);rw[lM] at this;simpa using this
   simp only[Option.map_none,iE,hz,iO,hpush,Lq _ hb,mY];unfold uS jP Ap;rw[h];simp[goInt]
  |some q =>
   have⟨q,v⟩:=q;have hq:=M7 h;have hes:(nU ks)[q]?=some { key:=.agg k.cs.toArray,val:=a! v,born:=q }:=by
    show(sL 0 ks).toArray[q]?=_;rw[PR,J9,hq];simp
   have hsame:(Instr.keyThatStays (.agg k.cs.toArray) (.agg k.cs.toArray)).run prog u=.ok (.agg k.cs.toArray) u:=by
    unfold Instr.keyThatStays;rw[c! (aOh k.rep k.seq)];rfl
   have hmod:((nU ks).modify q λe=>{ e with key:=.agg k.cs.toArray })=nU ks:=by
    apply Array.ext
    ·simp
    ·intro i hi1 hi2;rw[Array.getElem_modify];split
     ·rename_i hqi;subst hqi;have:=(xO.1 hes).2;rw[this]
     ·rfl
   simp only[Dk,iE,hes,oD,hsame,iO,hmod,Lq _ hb,mY];unfold uS jP Ap;rw[h];simp[goInt]
 unfold Oper.wp;rw[ha.eval,hrun];refine hK _ _ _ ⟨rfl,rfl⟩ ?_;have hlt:g<u.heap.size:=(xO.1 hb).1;refine hu.kB hr rfl rfl rfl s_ (G:=λb=>b=g) (λb _ hb=>?_) λF1 k1=>?_
 ·show(u.heap.setIfInBounds g _)[b]?=_;rw[PD (xW hb)]
 ·refine⟨F1,⟨F1,λ_=>False,λb=>by simp,λ_ _ h=>h,⟨k1.1,?_⟩,λ_ h=>h⟩,λb hb=>.inl hb,λb _ hb=>(k1.1 b).2 hb⟩;show(u.heap.setIfInBounds g _)[g]?=_;simp[hlt]
def S.RE{v:r!}{q:Nat}{n:Int}{k:aL×Int}(ho:o.op=.entryStore t x i v)(hx:ev F x=.map (some g))(hi:ev F i=a! (q:Nat))(hv:ev F v=a! n)(hq:ks[q]?=some k)(hr:eQ (At g ks) [At g (ks.set q (k.1,n))] H H') :
  dF prog N E F H o λr H1=>r=undef/\H1=H':=by
 intro a u ha hu Kw Q' hK;have⟨R,hhas,F0,h0⟩:=hu.CF hr;have⟨h1,hb⟩:=h0;have hql:=(cH.1 hq).1;have hlen:=aEn 0 ks;have hborn:∀j (hj:j<(nU ks).size),((nU ks)[j]'hj).born=j:=λj hj=>by
  have h2:j<(sL 0 ks).length:=by simpa using hj
  have h3:=J9 0 ks j;rw[bS h2] at h3;have h4:(nU ks)[j]'hj=(sL 0 ks)[j]'h2:=by simp[nU]
  rw[h4];cases hk:ks[j]? with
  |none=>rw[hk] at h3;cases h3
  |some z=>rw[hk] at h3;injection h3 with h3;rw[h3];simp
 have hidx:(nU ks).findIdx? (λe=>(e.born:Int) == (q:Int))=some q:=by
  rw[Array.findIdx?_eq_some_iff_getElem];refine⟨by simp[nU];omega,?_,λj hj=>?_⟩
  ·rw[hborn];simp
  ·rw[hborn];simp;omega
 have hmod:((nU ks).modify q λe=>{ e with val:=a! n })=nU (ks.set q (k.1,n)):=by
  apply Array.ext';refine uH λj=>?_;have e1:((nU ks).modify q λe=>{ e with val:=a! n }).toList[j]?=if q=j then((nU ks)[j]?).map (λe=>{ e with val:=a! n }) else(nU ks)[j]?:=by
   rw[<-GM,Array.toList_modify,List.getElem?_modify];split
   ·rename_i h;subst h;simp
   ·simp
  rw[e1];show _=(sL 0 (ks.set q (k.1,n)))[j]?;have e2:(nU ks)[j]?=(sL 0 ks)[j]?:=by simp[nU]
  rw[e2,J9,J9,Gb];by_cases hqj:q=j
  ·subst hqj;rw[c! rfl,c! rfl,c! hql,hq];rfl
  ·rw[b! hqj,b! hqj]
 have hrun:(execOp (ev F) o).run prog u=.ok .skip { u with heap:=u.heap.setIfInBounds g (.map (nU (ks.set q (k.1,n))) (ks.set q (k.1,n)).length) }:=by
  unfold execOp;simp only[ho,hx,hi,hv,Instr.entryStore,iE,mY,iO,Ge hb,asInt,asIntOf,hidx,hmod,Lq _ hb,iM]
 unfold Oper.wp;rw[ha.eval,hrun];refine hK undef _ _ ⟨rfl,rfl⟩ ?_;have hlt:g<u.heap.size:=(xO.1 hb).1;refine hu.kB hr rfl rfl rfl s_ (G:=λb=>b=g) (λb _ hb=>?_) λF1 k1=>?_
 ·show(u.heap.setIfInBounds g _)[b]?=_;rw[PD (xW hb)]
 ·refine⟨F1,⟨F1,λ_=>False,λb=>by simp,λ_ _ h=>h,⟨k1.1,?_⟩,λ_ h=>h⟩,λb hb=>.inl hb,λb _ hb=>(k1.1 b).2 hb⟩;show(u.heap.setIfInBounds g _)[g]?=_;simp[hlt]
def S.aRb(i:o.op=.makeMap t none):dF prog N E F H o λr d=>∃g,r=.map (some g)/\d=At g []::H:=by
 intro a u f j k m e;have c:(execOp (ev F) o).run prog u=.ok (.value (.map (some u.heap.size))) (u.alloc (.map #[] 0)):=by
  unfold execOp;simp only[i,Option.map_none,run_makeMap,iE,iO,mY]
 unfold Oper.wp;rw[f.eval,c];refine e _ _ _ ⟨_,rfl,rfl⟩ ?_;refine j.grow (l:=[At u.heap.size []]) rfl rfl rfl s_ (λb hb=>CT _ _ _ hb) (F1:=λb=>b=u.heap.size) ⟨_,λ_=>False,λb=>by simp,λb _ h=>h,⟨λb=>oB,heap_alloc_new _ _⟩,λb h=>h⟩ (λb hb=>by omega)
end
end
end Go.Proofs.YtmilalkjbojciaaGreat.Sep
namespace Go.Proofs.YtmilalkjbojciaaGreat.Dly
open Go.Proofs.YtmilalkjbojciaaGreat.Sep (fC)
def Cs(m:Int):Nat->Int->Int
 |0,w=>w
 |k+1,w=>min (2*Cs m k w) m
def wait(base a n:Int):Int :=
 if n<1 then 0 else Cs (fC a 1 64) ((min n 64 - 1).toNat) (min (fC base 1 64) (fC a 1 64))
def due(base b n a:Int):Int:=fC a 0 1073741824+wait base b n
def FK(n lo hi:Int)(h:lo<=hi):lo<=fC n lo hi:=by grind [fC]
def JI(n lo hi:Int)(h:lo<=hi):fC n lo hi<=hi:=by grind [fC]
def JK(m w:Int)(a:1<=w)(b:w<=m):∀k,1<=Cs m k w/\Cs m k w<=m
 |0=>⟨a,b⟩
 |k+1=>by have:=JK m w a b k;unfold Cs;omega
def aBl(base a n:Int):0<=wait base a n/\wait base a n<=64:=by
 unfold wait;split
 ·omega
 ·have c:=FK a 1 64 o_;have d:=JI a 1 64 o_;have b:=FK base 1 64 o_;have:=JK (fC a 1 64) (min (fC base 1 64) (fC a 1 64)) o_ o_ ((min n 64 - 1).toNat);omega
end Go.Proofs.YtmilalkjbojciaaGreat.Dly
namespace Go.Proofs.YtmilalkjbojciaaGreat.Sep
variable{e:aN}{i:Nat}{l:List aN}
section
open Go.RowKit Reg Dly
open Mem hiding Rd
section
variable (E:Env)
theorem MN(n lo hi:Int):aF prog E 65 #[a! n,a! lo,a! hi] [] λe c=>e=.returned (a! (fC n lo hi))/\c=[]:=by
 refine t_ func65 ntmps65 ?_;unfold fC;by_cases a:n<lo
 ·rw[c! a];refine c_ ?_
  exact aS
 ·rw[b! a];by_cases b:hi<n
  ·rw[c! b];refine c_ ?_
   exact aS
  ·rw[b! b];refine c_ ?_
   exact aS
def aHc(base a n:Int):aF prog E 363 #[a! base,a! a,a! n] [] λe g=>e=.returned (a! (wait base a n))/\g=[]:=by
 have p:=FK a 1 64 o_;have q:=JI a 1 64 o_;have l:=FK base 1 64 o_;have m:=JI base 1 64 o_;have d:=JK (fC a 1 64) (min (fC base 1 64) (fC a 1 64)) o_ o_;refine x_ func363 ntmps363 ?_;refine A_ (λM=>MN M a 1 64) ?_;refine aP (λM=>MN M base 1 64) ?_;unfold wait;by_cases h:n<1
 ·rw[c! h];refine c_ ?_;exact aS
 rw[b! h];have⟨K,i⟩:∃K:Nat,K=(min n 64 - 1).toNat:=⟨_,rfl⟩;have c:min n 64 - 1=(K:Int):=o_;have j:K<=63:=o_;have f:IntKind.i64.wrap (min n 64 - 1)=(K:Int):=by rw[dY _ o_];exact c
 rw[<-i];generalize fC a 1 64=b at *;generalize s:min (fC base 1 64) b=w at *;refine c_ ?_;try rw[s]
 refine C.loop (X:=Nat) (λk=>[(1,a! b),(7,a! (Cs b k w)),(18,a! K),(19,a! k)]) (λ_=>[]) (λk=>k<=K) (λk=>K - k) 0 aK aB.refl (bY _) ?_;rintro k G t;have hb:=d k;by_cases o:k<K
 ·have r:min (2*Cs b k w) b=Cs b (k+1) w:=rfl;refine c_ ?_;rw[r];exact⟨k+1,aK,aB.refl,o_,o_⟩
 ·obtain rfl:k=K:=o_;refine c_ ?_;exact aS
def Qs(base b n a:Int):aF prog E 326 #[a! base,a! b,a! n,a! a] [] λe c=>e=.returned (a! (Dly.due base b n a))/\c=[]:=by
 have d:=aBl base b n;have f:=FK a 0 1073741824 o_;have g:=JI a 0 1073741824 o_;refine t_ func326 ntmps326 ?_;unfold Dly.due;refine c_ ?_
 refine A_ (λM=>MN M a 0 1073741824) ?_
 refine A_ (λM=>aHc M base b n) ?_
 exact aS
def N7(base b n a now:Int):Bool:=decide (n<1)||decide (Dly.due base b n a<=now)
def aDj(base b n a now:Int):aF prog E 370 #[a! base,a! b,a! n,a! a,a! now] [] λe c=>e=.returned (.bool (N7 base b n a now))/\c=[]:=by
 refine t_ func370 ntmps370 ?_;unfold N7;by_cases h:n<1
 ·rw[d! h];refine c_ ?_;exact aS
 ·rw[e! h];refine c_ ?_;refine A_ (λM=>Qs M base b n a) ?_;exact aS
end
end
section
open Go.RowKit Reg
open Mem hiding Rd
def aN.gO(e:aN):Bool:=e.dN&&e.gone
def aN.eO(e:aN):Bool := !e.dN||e.gone
def aN.nt(e:aN):Int:=if e.gO then e.back else e.bI
def aN.lt(e:aN):Int:=if e.gO then e.iY else e.last
def aN.due(e:aN)(c:bW):Int:=Dly.due c.base c.cap e.nt e.lt
def aN.ready(e:aN)(c:bW)(now:Int):Bool:=e.eO&&(decide (e.nt<c.cO)&&(decide (e.nt<1)||decide (e.due c<=now)))
def aN.dead(e:aN)(c:bW)(now:Int):Bool:=e.eO&&(decide (c.cO<=e.nt)&&decide (e.due c<=now))
section
variable (E:Env) (e:aN) (c:bW) (now:Int)
def Bo:aF prog E 214 #[.agg e.cs.toArray] [] λr a=>r=.returned (.bool e.gO)/\a=[]:=by
 refine t_ func214 ntmps214 ?_;unfold aN.gO;cases h:e.dN;all_goals
  refine c_ ?_;intros;exact aS
def D3:aF prog E 267 #[.agg e.cs.toArray] [] λr a=>r=.returned (.bool e.eO)/\a=[]:=by
 refine t_ func267 ntmps267 ?_;unfold aN.eO;cases h:e.dN;have b:(!e.dN)=true:=by rw[h];rfl
 rotate_left;have b:(!e.dN)=false:=by rw[h];rfl
 all_goals
  refine c_ ?_;intros;exact aX rfl aJ aC (⟨s_,rfl⟩)
def Md:aF prog E 325 #[.agg e.cs.toArray] [] λr a=>r=.returned (.tuple #[a! e.nt,a! e.lt])/\a=[]:=by
 refine t_ func325 ntmps325 ?_;unfold aN.nt aN.lt;refine c_ ?_;intros;refine aP (λM=>Bo M e) ?_;cases h:e.gO;rw[b! lA,b! lA];rotate_left;rw[c! rfl,c! rfl];all_goals
  refine c_ ?_;refine rA (l_ [0,1,2,3,4,5] .nil) (c_ ?_);exact mZ
def ZL:aF prog E 341 #[.agg e.cs.toArray,.agg c.cs.toArray,a! now] [] λr d=>r=.returned (.bool (e.ready c now))/\d=[]:=by
 refine t_ func341 ntmps341 ?_;have a:N7 c.base c.cap e.nt e.lt now=(decide (e.nt<1)||decide (e.due c<=now)):=rfl;unfold aN.ready;rw[<-a];refine c_ ?_;intros;refine A_ (λM=>Md M e) ?_;refine aP (λM=>D3 M e) ?_;generalize e.nt=n at *;generalize e.lt=l at *;cases h:e.eO
 ·refine c_ ?_;exact aS
 by_cases b:n<c.cO
 ·rw[d! b];refine c_ ?_;refine A_ (λM=>aDj M c.base c.cap n l now) ?_;exact aS
 ·rw[e! b];refine c_ ?_;exact aS
def Yu:aF prog E 278 #[.agg e.cs.toArray,.agg c.cs.toArray,a! now] [] λr d=>r=.returned (.bool (e.dead c now))/\d=[]:=by
 refine t_ func278 ntmps278 ?_;have a:e.due c=Dly.due c.base c.cap e.nt e.lt:=rfl;unfold aN.dead;rw[a];refine c_ ?_;intros;refine A_ (λM=>Md M e) ?_;refine aP (λM=>D3 M e) ?_;clear a;generalize e.nt=n at *;generalize e.lt=l at *;cases h:e.eO
 ·refine c_ ?_;exact aS
 by_cases b:c.cO<=n
 ·rw[d! b];refine c_ ?_;refine A_ (λM=>Qs M c.base c.cap n l) ?_;exact aS
 ·rw[e! b];refine c_ ?_;exact aS
end
def bE.check(f:bE):Int :=
 if 1<=f.kind/\f.kind<=11 then
  if (0<=f.a/\f.a<=255)/\(0<=f.ref.rep/\f.ref.rep<=255)/\0<=f.ref.seq/\f.ref.seq<=65535 then 0 else 4
 else 12
section
variable (E:Env) (f:bE)
def JW:aF prog E 215 #[.agg f.cs.toArray] [] λr a=>r=.returned (a! f.check)/\a=[]:=by
 refine t_ func215 ntmps215 ?_;unfold bE.check;refine c_ ?_;intros
 refine aU (λM=>lS M f.kind 1 11) ?_;by_cases b:1<=f.kind/\f.kind<=11
 case neg =>
  rw[e! b,b! b];rintro r a ⟨rfl,rfl⟩;refine c_ ?_
  exact aS
 rw[d! b,c! b];rintro r a ⟨rfl,rfl⟩;refine c_ ?_
 refine aU (λM=>lS M f.a 0 255) ?_;by_cases c:0<=f.a/\f.a<=255
 case neg =>
  rw[e! c,b! (λh=>c h.1)];rintro r a ⟨rfl,rfl⟩;refine c_ ?_
  exact aS
 rw[d! c];rintro r a ⟨rfl,rfl⟩;refine c_ ?_
 refine aU (λM=>lS M f.ref.rep 0 255) ?_;by_cases d:0<=f.ref.rep/\f.ref.rep<=255
 case neg =>
  rw[e! d,b! (λh=>d h.2.1)];rintro r a ⟨rfl,rfl⟩;refine c_ ?_
  exact aS
 rw[d! d];rintro r a ⟨rfl,rfl⟩;refine c_ ?_
 refine aU (λM=>lS M f.ref.seq 0 65535) ?_;by_cases g:0<=f.ref.seq/\f.ref.seq<=65535
 case neg =>
  rw[e! g,b! (λh=>g h.2.2)];rintro r a ⟨rfl,rfl⟩;refine c_ ?_
  exact aS
 rw[d! g,c! ⟨c,d,g⟩];rintro r a ⟨rfl,rfl⟩;refine c_ ?_
 exact aS
end
def aN.dK(e:aN)(now:Int):aN :=
 if e.eO=true/\e.nt<8 then(if e.gO then { e with back:=e.back+1,iY:=now } else { e with bI:=e.bI+1,last:=now }) else e
section
variable (E:Env) (e:aN) (now:Int)
def RI(c:e.ok):aF prog E 342 #[.agg e.cs.toArray,a! now] [] λr j=>r=.returned (.agg (e.dK now).cs.toArray)/\j=[]:=by
 have hb:=c.2.2.2.2.1;have k:=c.2.2.1;unfold bQ at hb k;refine x_ func342 ntmps342 ?_;intros;refine A_ (λM=>Md M e) ?_;refine aP (λM=>D3 M e) ?_;have a:e.dK now=if e.eO=true/\e.nt<8 then(if e.gO then { e with back:=e.back+1,iY:=now } else { e with bI:=e.bI+1,last:=now }) else e:=rfl;cases g:e.eO
 ·rw[g,b! (λh=>by cases h.1)] at a;rw[a];refine c_ ?_;exact wR
 rw[g] at a;have b:e.nt=if e.gO then e.back else e.bI:=rfl;refine c_ ?_;by_cases d:e.nt<8;case neg =>
  rw[b! (λh=>d h.2)] at a;rw[a];refine c_ ?_;exact wR
 rw[c! ⟨rfl,d⟩] at a;refine c_ ?_;refine aP (λM=>Bo M e) ?_;cases i:e.gO;rw[i,b! lA] at a b;rotate_left;rw[i,c! rfl] at a b;all_goals
  rw[a];refine c_ ?_;exact wR
end
def aN.b3(e:aN):Bool:=decide (0<=e.back/\e.back<=8)&&(e.gO||decide (e.back=0))
def aN.b4(e:aN):Bool:=decide (0<=e.last/\e.last<=1073741824)&&(decide (0<=e.iY/\e.iY<=1073741824)&&(decide (0<e.back)||decide (e.iY=0)))
def aN.may(e:aN):Bool:=decide (1<=e.ord/\e.ord<=255)&&(decide (e.bD.check=0)&&(decide (1<=e.bI/\e.bI<=8)&&(e.b3&&e.b4)))
section
variable (E:Env) (e:aN)
def MY:aF prog E 152 #[.agg e.cs.toArray] [] λr H'=>r=.returned (.bool e.may)/\H'=[]:=by
 refine t_ func152 ntmps152 ?_;unfold aN.may;repeat ((fail_if_success (refine C.seq (x:=Code.region 1 _ _) ?_));first|refine mV ?_|refine tU ?_|intro _|refine Dr.two ?_ ?_)
 rename_i g;refine C.cut (X:=Unit) (λ_=>[(1,.pointer (some ⟨g,0,none⟩)),(3,.bool e.b3)]) (λ_=>[aE g 92 e.cs]) (λ_=>True) ?_ ?_
 ·unfold aN.b3;refine c_ ?_;refine aP (λM=>lS M e.back 0 8) ?_;cases h1:decide (0<=e.back/\e.back<=8)
  ·refine c_ ?_;exact⟨(),aK,aC,trivial⟩
  ·refine c_ ?_;refine aP (λM=>Bo M e) ?_;cases h2:e.gO;all_goals
    refine c_ ?_;exact⟨(),aK,aC,trivial⟩
 rintro - G -;refine C.cut (X:=Unit) (λ_=>[(1,.pointer (some ⟨g,0,none⟩)),(3,.bool e.b3),(4,.bool e.b4)]) (λ_=>[aE g 92 e.cs]) (λ_=>True) ?_ ?_
 ·unfold aN.b4;refine c_ ?_;refine aP (λM=>lS M e.last 0 1073741824) ?_;cases h1:decide (0<=e.last/\e.last<=1073741824)
  ·refine c_ ?_;exact⟨(),aK,aC,trivial⟩
  ·refine c_ ?_;refine aP (λM=>lS M e.iY 0 1073741824) ?_;cases h2:decide (0<=e.iY/\e.iY<=1073741824)
   ·refine c_ ?_;exact⟨(),aK,aC,trivial⟩
   ·by_cases h3:0<e.back;rw[d! h3];rotate_left;rw[e! h3];all_goals
     refine c_ ?_;exact⟨(),aK,aC,trivial⟩
 rintro - G -;refine c_ ?_;refine aP (λM=>lS M e.ord 1 255) ?_;cases h1:decide (1<=e.ord/\e.ord<=255)
 ·refine c_ ?_;exact aS
 refine c_ ?_;refine aP (λM=>JW M e.bD) ?_;generalize e.bD.check=k;by_cases h2:k=0;case neg =>
  rw[e! h2];refine c_ ?_;exact aS
 rw[d! h2];refine c_ ?_;refine aP (λM=>lS M e.bI 1 8) ?_;cases h3:decide (1<=e.bI/\e.bI<=8)
 ·refine c_ ?_;exact aS
 cases h4:e.b3;all_goals
  refine c_ ?_;exact aS
theorem aN.eY:e.may=true↔(1<=e.ord/\e.ord<=255)/\e.bD.check=0/\(1<=e.bI/\e.bI<=8)/\((0<=e.back/\e.back<=8)/\(e.gO=true\/e.back=0))/\(0<=e.last/\e.last<=1073741824)/\(0<=e.iY/\e.iY<=1073741824)/\(0<e.back\/e.iY=0):=by
 simp[aN.may,aN.b3,aN.b4,and_assoc]
end
end
section
def lost(want:List bE)(l:List aN):Nat->Bool
 |0=>false
 |i+1=>lost want l i||(match l[i]? with|some e=>e.gone||decide (want[i]?≠some e.bD)|none=>false)
def aN.mark(e:aN)(g:Bool):aN:=⟨e.ord,e.bD,e.bI,e.last,e.dN,g,e.back,e.iY⟩
def aN.cR(e:aN):aN:=⟨e.ord,e.bD,e.bI,e.last,true,e.gone,e.back,e.iY⟩
def settle(want:List bE)(l:List aN):List aN:=l.mapIdx λi e=>e.mark (lost want l (i+1))
theorem vW(want:List bE)(l:List aN):(settle want l).length=l.length:=by simp[settle]
theorem CM{want:List bE}(h:l[i]?=some e):(settle want l)[i]?=some (e.mark (lost want l (i+1))):=by
 simp[settle,PN,h]
theorem B6{want:List bE}(h:l[i]?=some e):lost want l (i+1)=(lost want l i||(e.gone||decide (want[i]?≠some e.bD))):=by
 grind [lost]
def xH(want:List bE)(l:List aN)(i:Nat):List aN:=l.mapIdx λj e=>if j<i then e.mark (lost want l (j+1)) else e
def aCk(want:List bE)(l:List aN):xH want l 0=l:=by
 refine uH λj=>?_;simp only[xH,PN,It,if_false]
 grind
def aId{want:List bE}{n:Nat}(h:n=l.length):xH want l n=settle want l:=by
 refine uH λj=>?_
 grind [xH,settle,List.getElem?_eq_some_iff]
def aRh{want:List bE}(h:l[i]?=some e):(xH want l i)[i]?=some e:=by
 simp only[xH,PN,h,Dk,Nat.lt_irrefl,if_false]
theorem aCg(want:List bE)(l:List aN)(i:Nat):(xH want l i).length=l.length:=by simp[xH]
def aEz{want:List bE}(h:l[i]?=some e):(xH want l i).set i (e.mark (lost want l (i+1)))=xH want l (i+1):=by
 have a:=(cH.1 h).1;refine uH λj=>?_
 grind [aCg,xH]
theorem J0{want:List bE}(h:l[i]?=some e)(a:lost want l i=true\/e.gone=true\/want.length<=i):lost want l (i+1)=true:=by
 grind [B6,List.getElem?_eq_none]
def aSb{want:List bE}{w:bE}(h:l[i]?=some e)(a:lost want l i=false)(b:e.gone=false)(c:want[i]?=some w):lost want l (i+1) = !decide (e.bD=w):=by
 grind [B6]
def aPd{want:List bE}(h:lost want l i=true):lost want l (i+1)=true:=by
 grind [lost]
def fresh(id:aL)(made:Int)(n:Nat)(want:List bE):Option aM:=match want[n]? with|some f=>if made<255 then some ⟨⟨id,made+1,false⟩,f⟩ else none|none=>none
def Re{id:aL}{made:Int}{n:Nat}{want:List bE}(h:want.length<=n\/255<=made):fresh id made n want=none:=by
 grind [fresh]
theorem Rf{id:aL}{made:Int}{n:Nat}{want:List bE}{f:bE}(h:want[n]?=some f)(a:made<255):fresh id made n want=some ⟨⟨id,made+1,false⟩,f⟩:=by
 grind [fresh]
def C3{id:aL}{made:Int}{n:Nat}{want:List bE}{q:aM}(h:fresh id made n want=some q):made<255/\∃f,want[n]?=some f/\q=⟨⟨id,made+1,false⟩,f⟩:=by
 grind [fresh]
def jV(l:List aN):Option aN:=match l[l.length - 1]? with|some e=>if e.eO then some e else none|none=>none
theorem Eb(h:l[l.length - 1]?=some e)(a:e.eO=true):jV l=some e:=by
 grind [jV]
def Og(h:l[l.length - 1]?=some e)(a:e.eO=false):jV l=none:=by
 grind [jV]
def BN(h:jV l=some e):l[l.length - 1]?=some e/\e.eO=true:=by
 grind [jV]
def next(id:aL)(made:Int)(l:List aN)(want:List bE):Option aM:=match jV l with
 |some e=>if e.nt<8 then some ⟨⟨id,e.ord,e.gO⟩,e.bD⟩ else none
 |none=>fresh id made l.length want
abbrev sM(q:aM)(now:Int):aN:=⟨q.key.ord,q.bD,1,now,false,false,0,0⟩
def rL(id:aL)(made:Int)(l:List aN)(want:List bE)(now:Int):Option (Int×List aN):=match next id made l want with
 |none=>none
 |some q=>match jV l with
  |some e=>some (made,l.set (l.length - 1) (e.dK now))
  |none=>some (made+1,l++[sM q now])
def idx(p:aN->Bool)(l:List aN):Int:=match l.findIdx? p with|some i=>i|none => -1
def s9{p:aN->Bool}(h:∀x∈l,p x=false):idx p l = -1:=by
 grind [idx]
def u0{p:aN->Bool}{x:aN}(e:l[i]?=some x)(d:p x=true)(h:∀j y,j<i->l[j]?=some y->p y=false):idx p l=i:=by
 unfold idx;have⟨b,a⟩:=cH.1 e;rw[Lj.2 ⟨b,by rw[a];exact d,λj c=>by rw[h j l[j] c (bS o_)];exact lA⟩]
def dN(id:aL)(l:List aN)(k:bV):Option (List aN) :=
 if k.id≠id then none else match l.findIdx? λe=>decide (e.ord=k.ord) with
 |none=>none
 |some i=>match l[i]? with
  |none=>none
  |some e=>if (!k.cJ && !e.dN)=true then some (l.set i e.cR) else if (k.cJ&&(e.gO&&(decide (1<=e.back)&&decide (i+1=l.length))))=true then some (l.take i) else none
def quiet(l:List aN)(want:List bE):Bool:=decide (l.length=want.length)&&l.all λe => !e.eO
def sT(id:aL)(made:Int)(l:List aN)(want:List bE)(g:bW)(now:Int):Bool:=(next id made l want).isSome&&(match jV l with|some e=>e.ready g now|none=>decide (1<=g.cO))
def zU(l:List aN)(g:bW)(now:Int):Bool:=match l[l.length - 1]? with|some e=>e.dead g now|none=>false
def Ci{id:aL}{k:bV}(h:k.id≠id\/l.findIdx? (λe=>decide (e.ord=k.ord))=none):dN id l k=none:=by
 grind [dN]
def Gn{id:aL}{k:bV}(a:k.id=id)(b:l.findIdx? (λe=>decide (e.ord=k.ord))=some i)(c:l[i]?=some e) :
  dN id l k=if (!k.cJ && !e.dN)=true then some (l.set i e.cR) else if (k.cJ&&(e.gO&&(decide (1<=e.back)&&decide (i+1=l.length))))=true then some (l.take i) else none:=by
 unfold dN;rw[b! (λh=>h a),b];dsimp only;rw[c]
def Ja{p:aN->Bool}(h:l.findIdx? p=some i):∃e,l[i]?=some e/\p e=true:=by
 grind [List.findIdx?_eq_some_iff_getElem,List.getElem?_eq_getElem]
def aJq{now:Int}(a:e.eO=true):decide (e.dK now=e)=decide (8<=e.nt):=by
 grind [aN.dK]
end
section
open Go.RowKit Reg
open Mem hiding Rd
abbrev uL(id:aL)(made:Int)(A:n!)(n c:Nat):p!:=.agg #[a! id.rep,a! id.seq,a! made,.slice A n c]
section
variable (E:Env) (id:aL) (made:Int) (A:n!) (n c:Nat) (l:List aN)
def aIv(h:Rd E gI A n c l)(i:n<=1000000):aF prog E 217 #[.slice A n c] [] λr e=>∃d b,r=.returned (.slice d n b)/\(n<=b/\b<=maxLen)/\e=[own gI d n b l]:=by
 refine t_ func217 ntmps217 ?_;cases A with
 |none =>
  obtain⟨rfl,rfl⟩:=h.none;refine c_ ?_
  exact aX rfl aJ (aB.mR gI none) ⟨none,0,rfl,⟨bM _,bY _⟩,rfl⟩
 |some a =>
  refine c_ ?_;intros
  rename_i d b f g;exact dS ⟨_,_,rfl,⟨f,g⟩,rfl⟩
def Gv(h:Rd E gI A n c l)(g:n<=1000000):aF prog E 162 #[uL id made A n c] [] λr d=>∃b a,r=.returned (uL id made b n a)/\(n<=a/\a<=maxLen)/\d=[own gI b n a l]:=by
 refine x_ func162 ntmps162 ?_;intros;refine cU (λM e=>aIv M A n c l e g) ?_;rintro r d ⟨b,a,rfl,f,rfl⟩;refine c_ ?_;apply eP;(· exact rfl);(· exact aJ);(· exact rfl);(· exact rfl);(· exact rfl);(· exact aV);(· exact rfl);rotate_left;(· exact(⟨_,_,rfl,f,rfl⟩));(· exact aC)
theorem U0(v:Rd E gI A n c l)(f:FuncId)(k:Func)(m:prog.funcs[f]?=some k)(e:(k.name == "runtime.NumGoroutine")=false)(b:k.body.isNone=false)(cs:List p!)(p:aN->Bool)
  (d:∀M R,Sub E R M->∀x:aN,aF prog M f (.agg x.cs.toArray::cs).toArray [] λr H'=>r=.returned (.bool (p x))/\H'=[]) :
  aF prog E 309 #[.slice A n c,.func (.func f) #[] cs.toArray] [] λr H'=>r=.returned (a! (idx p l))/\H'=[]:=by
 have D:=v.len;have s:=v.cap;refine x_ func309 ntmps309 ?_
 refine C.loop (X:=Nat) (λi=>[(0,.slice A n c),(1,.func (.func f) #[] cs.toArray),(7,a! n),(8,a! i)]) (λ_=>[]) (λi=>i<=n/\∀j y,j<i->l[j]?=some y->p y=false) (λi=>n - i) 0 aK aB.refl ⟨bY _,λj y o=>by omega⟩ ?_;rintro i G ⟨B,a⟩;by_cases z:i<n
 ·have g:l[i]?=some l[i]:=bS o_;generalize l[i]=x at g;have t:=cS;refine c_ ?_
  refine L.step sD (S.Ds rfl rfl rfl rfl m e b aH (λM w=>d M _ w x) ?_);rintro r H' ⟨rfl,rfl⟩;refine gk bU ?_;cases u:p x
  ·refine c_ ?_
   refine⟨i+1,aK,aB.refl,⟨o_,λj y o h=>?_⟩,o_⟩;by_cases q:j=i
   ·subst q;rw[g] at h;injection h with h;subst h;exact u
   ·exact a j y o_ h
  ·rw[u0 g u a];refine c_ ?_
   exact aS
 ·obtain rfl:i=n:=o_;rw[s9 (λx g=>by obtain⟨j,o,rfl⟩:=oV g;exact a j _ o_ (bS o))];refine c_ ?_
  exact aS
def aRo(hr:Rd E gI A n c l):aF prog E 266 #[.slice A n c,.func (.func 267) #[] #[]] [] λr H'=>r=.returned (.bool (l.any (·.eO)))/\H'=[]:=by
 refine t_ func266 ntmps266 ?_;have hany:decide (0<=idx (·.eO) l)=l.any (·.eO):=by
  unfold idx;cases h:l.findIdx? (·.eO) with
  |none =>
   rw[PL] at h;rw[uB];simp;exact h
  |some i =>
   rw[Lj] at h;obtain⟨hi,h1,_⟩:=h;rw[GV.2 ⟨_,zL hi,h1⟩];exact d! (LZ i)
 refine c_ ?_;refine cl sD sK aH (λM hE=>U0 M A n c l bK _ _ func267 q_ rfl [] (·.eO) (λE2 _ _ x=>D3 E2 x)) ?_;rintro r H' ⟨rfl,rfl⟩;refine c_ ?_;exact aX rfl aJ aC (⟨by rw[hany],rfl⟩)
def JJ(d:Rd E gI A n c l):aF prog E 277 #[uL id made A n c] [] λr g=>r=.returned (.tuple #[.agg ((l[l.length - 1]?).getD JU).cs.toArray,.bool (l[l.length - 1]?).isSome])/\g=[]:=by
 have h:=d.len;have a:=d.cap;have b:=cS;refine t_ func277 ntmps277 ?_;by_cases i:n=0;rw[Ik o_];dsimp only[Option.getD,Option.isSome];rotate_left;have j:IntKind.i64.wrap ((n:Int) - 1)=((n - 1:Nat):Int):=by rw[dY _ o_];omega
 have f:l[n - 1]?=some l[n - 1]:=bS o_;rw[<-h,f];dsimp only[Option.getD,Option.isSome];generalize l[n - 1]=e at f;all_goals
  refine c_ ?_;intros;exact lD
def X7(e:aN):aF prog E 343 #[uL id made A n c,.agg e.cs.toArray] [] λr a=>r=.returned (.agg (⟨id,e.ord,e.gO⟩:bV).cs.toArray)/\a=[]:=by
 refine x_ func343 ntmps343 ?_;intros
 refine C.fL 7 (l_ [0,1,2,3,4] (g_ 5 (n_ 6 (g_ 7 .nil)))) _ q_ q_ aB.refl (c_ ?_)
 refine G_ (λM=>Bo M e) ?_
 exact wR
abbrev Bb(q:Option aM)(r:Ending):Prop:=r=.returned (.tuple #[.agg (q.getD Hx).cs.toArray,.bool q.isSome])
def Y6(x y:aN):decide ((⟨x.ord,⟨x.bD.kind,x.bD.a,x.bD.n,⟨x.bD.ref.rep,x.bD.ref.seq⟩⟩,x.bI,x.last,x.dN,x.gone,x.back,x.iY⟩:aN)=⟨y.ord,⟨y.bD.kind,y.bD.a,y.bD.n,⟨y.bD.ref.rep,y.bD.ref.seq⟩⟩,y.bI,y.last,y.dN,y.gone,y.back,y.iY⟩)=decide (x=y):=rfl
def Bi(want:List bE)(X:n!)(nx cx:Nat)(hr:Rd E gI A n c l)(hw:Rd E eT X nx cx want)(hok:∀e∈l,e.ok)(hm:bQ made) :
  aF prog E 292 #[uL id made A n c,.slice X nx cx] [] λr H'=>Bb (next id made l want) r/\H'=[]:=by
 have hn:=hr.len;have hcap:=hr.cap;have hnw:=hw.len;have hcw:=hw.cap;have hmax:=cS;unfold bQ at hm;unfold Bb;refine x_ func292 ntmps292 ?_;intros;refine cV (λM=>JJ M id made A n c l) ?_;repeat ((fail_if_success (refine C.seq (x:=Code.region 2 _ _) ?_));first|refine mV ?_|refine tU ?_|intro _|refine Dr.two ?_ ?_)
 rename_i g2 g4 g6;have hq:∃q,l[l.length - 1]?=q:=⟨_,rfl⟩;have⟨q,hq⟩:=hq;rw[hq];refine C.cut (X:=Unit) (λ_=>[(1,.slice X nx cx),(2,.pointer (some ⟨g2,0,none⟩)),(4,.pointer (some ⟨g4,0,none⟩)),(6,.pointer (some ⟨g6,0,none⟩)),(13,.bool (jV l).isSome)]) (λ_=>[aE g6 92 (q.getD JU).cs,aE g4 79 Hx.cs,aE g2 90 [a! id.rep,a! id.seq,a! made,.slice A n c]]) (λ_=>True) ?_ ?_
 ·cases q with
  |none =>
   have ht:jV l=none:=by unfold jV;rw[hq]
   rw[ht];dsimp only[Option.getD,Option.isSome];refine c_ ?_;exact⟨(),aK,aC,trivial⟩
  |some e =>
   dsimp only[Option.getD,Option.isSome];refine c_ ?_;refine aP (λM=>D3 M e) ?_;cases ho:e.eO;rw[Og hq ho];rotate_left;rw[Eb hq ho];all_goals
    dsimp only[Option.isSome];refine c_ ?_;exact⟨(),aK,aC,trivial⟩
 rintro - G -;unfold next;cases htip:jV l with
 |some e =>
  have⟨he,ho⟩:=BN htip;rw[hq] at he;subst he;have heok:e.ok:=hok e (dG hq);dsimp only[Option.getD,Option.isSome];have⟨w,hw1⟩:∃w,IntKind.i64.wrap (e.last+1)=w:=⟨_,rfl⟩;have hd:=(Y6 (e.dK w) e).trans (aJq ho);refine c_ ?_;refine rA (l_ [0,1,2,3,5] (g_ 4 (n_ 6 .nil))) (c_ ?_);refine eI (λM=>RI M e w heok) ?_;generalize e.dK w=x at *;rintro r H' ⟨rfl,rfl⟩;refine gd bU aC ?_;by_cases h8:e.nt<8
  ·rw[c! h8];rw[e! (show ¬8<=e.nt by omega)] at hd;dsimp only[Option.getD,Option.isSome];refine c_ ?_;refine rB (l_ [0,1,3,4] (g_ 2 (n_ 5 (g_ 6 (n_ 7 .nil))))) ([aE g6 92 e.cs,aE g2 90 [a! id.rep,a! id.seq,a! made,.slice A n c]]) (c_ ?_);refine G_ (λM=>X7 M id made A n c e) ?_;exact lD
  ·rw[b! h8];rw[d! (show 8<=e.nt by omega)] at hd;dsimp only[Option.getD,Option.isSome];refine c_ ?_;exact lD
 |none =>
  dsimp only[Option.getD,Option.isSome];by_cases h1:nx<=n
  ·rw[Re (.inl o_)];dsimp only[Option.getD,Option.isSome];refine c_ ?_;exact lD
  by_cases h2:255<=made
  ·rw[Re (.inr h2)];dsimp only[Option.getD,Option.isSome];refine c_ ?_;exact lD
  have hx:want[n]?=some want[n]:=bS o_;rw[<-hn,Rf hx o_];dsimp only[Option.getD,Option.isSome];generalize want[n]=f at hx;refine c_ ?_;refine rB (l_ [0,1,2,3,4,5,6,7,8,9,10,11,12] (g_ 13 (n_ 14 .nil))) ([aE g2 90 [a! id.rep,a! id.seq,a! made,.slice A n c]]) (c_ ?_);exact lD
end
def Yx(x y:bE):decide ((⟨x.kind,x.a,x.n,⟨x.ref.rep,x.ref.seq⟩⟩:bE)=⟨y.kind,y.a,y.n,⟨y.ref.rep,y.ref.seq⟩⟩)=decide (x=y):=rfl
def aEg(e:aN)(b:Bool):BV gI e 9 (.bool b) (e.mark b):=BV.NQ rfl sD rfl
section
variable (E:Env) (id:aL) (made:Int) (A:n!) (n c:Nat) (l:List aN) (want:List bE) (X:n!) (nx cx:Nat)
def Qg(hr:Rd E gI A n c l)(hw:Rd E eT X nx cx want)(hl:n<=1000000) :
  aF prog E 349 #[uL id made A n c,.slice X nx cx] [] λr H'=>∃A' c',r=.returned (uL id made A' n c')/\(n<=c'/\c'<=maxLen)/\H'=[own gI A' n c' (settle want l)]:=by
 have hn:=hr.len;have hnw:=hw.len;have hcw:=hw.cap;have hmax:=cS;refine x_ func349 ntmps349 ?_;intros;refine cU (λM h1=>Gv M id made A n c l h1 hl) ?_;rintro r H' ⟨A',c',rfl,⟨hc1,hc2⟩,rfl⟩;refine c_ ?_;rename_i g2 g4;refine C.loop (X:=Nat) (λi=>[(1,.slice X nx cx),(2,.pointer (some ⟨g2,0,none⟩)),(4,.pointer (some ⟨g4,0,none⟩)),(5,.bool (lost want l i)),(11,.slice A' n c'),(12,a! n),(13,a! i)])
  (λi=>[aE g2 90 [a! id.rep,a! id.seq,a! made,.slice A' n c'],aE g4 90 [a! 0,a! 0,a! 0,.slice none 0 0],own gI A' n c' (xH want l i)]) (λi=>i<=n) (λi=>n - i) 0 aK (by rw[aCk];exact aC) (bY _) ?_
 rintro i G hi;by_cases hlt:i<n
 ·have hx:l[i]?=some l[i]:=bS o_;generalize l[i]=e at hx;have hst:=aRh (want:=want) hx;have hf:=aEg e (lost want l (i+1));repeat ((fail_if_success (refine C.seq (x:=Code.region 6 _ _) ?_));first|refine mV ?_|refine tU ?_|intro _|refine Dr.two ?_ ?_)
  rename_i g7;refine C.cut (X:=Unit) (λ_=>[(1,.slice X nx cx),(2,.pointer (some ⟨g2,0,none⟩)),(4,.pointer (some ⟨g4,0,none⟩)),(5,.bool (lost want l (i+1))),(6,a! i),(11,.slice A' n c'),(12,a! n),(13,a! i)])
   (λ_=>[aE g2 90 [a! id.rep,a! id.seq,a! made,.slice A' n c'],aE g4 90 [a! 0,a! 0,a! 0,.slice none 0 0],own gI A' n c' (xH want l i)]) (λ_=>True) ?_ ?_
  ·clear hf;cases h1:lost want l i;case true =>
    rw[J0 hx (.inl h1)];refine c_ ?_;refine rA (l_ [0,1,2,3,4,5,6,7,8,9,10,11,12,13,14,15,16,17,18,19,20] .nil) (c_ ?_);exact⟨(),aK,aC,trivial⟩
   cases h2:e.gone;case true =>
    rw[J0 hx (.inr (.inl h2))];refine c_ ?_;refine rA (l_ [0,1,2,3,4,5,6,7,8,9,10,11,12,13,14,15,16,17,18,19,20] .nil) (c_ ?_);exact⟨(),aK,aC,trivial⟩
   by_cases h3:nx<=i
   ·rw[J0 hx (.inr (.inr o_))];refine c_ ?_;refine rA (l_ [0,1,2,3,4,5,6,7,8,9,10,11,12,13,14,15,16,17,18,19,20] .nil) (c_ ?_);exact⟨(),aK,aC,trivial⟩
   have hwx:want[i]?=some want[i]:=bS o_;rw[aSb hx h1 h2 hwx];generalize want[i]=w at hwx;rw[<-Yx];refine c_ ?_;refine rA (l_ [0,1,2,3,4,5,6,7,8,9,10,11,12,13,14,15,16,17,18,19,20] .nil) (c_ ?_);exact⟨(),aK,aC,trivial⟩
  rintro - G -;have hss:=aEz (want:=want) hx;generalize hb:lost want l (i+1)=b at *;refine c_ ?_;exact⟨i+1,by rw[hb];exact aK,by rw[<-hss];exact aC,o_,o_⟩
 ·obtain rfl:i=n:=o_;rw[aId hn];refine c_ ?_;apply eP;(· exact rfl);(· exact aJ);(· exact rfl);(· exact rfl);(· exact rfl);(· exact aV);(· exact rfl);rotate_left;(· exact(⟨_,_,rfl,⟨hc1,hc2⟩,rfl⟩));(· exact aC)
end
end
section
open Go.RowKit Reg Oct Frm
open Mem hiding Rd
def IB(E:Env)(n:Int):aF prog E 243 #[a! n] [] λe a=>e=.returned (a! (if 1<=n/\n<=4096 then n+7 else 0))/\a=[]:=by
 refine t_ func243 ntmps243 ?_;by_cases g:n<1
 ·rw[b! o_];refine c_ ?_;exact aS
 ·by_cases h:4096<n;rw[b! o_];rotate_left;rw[c! o_];have b:IntKind.i64.wrap (2+n)=n+2:=by rw[dY _ o_];omega
  have d:IntKind.i64.wrap (n+2+4)=n+6:=by rw[dY _ o_];omega
  have f:IntKind.i64.wrap (n+6+1)=n+7:=by rw[dY _ o_];omega
  all_goals
   refine c_ ?_;exact aS
section
variable (E:Env) (A:n!) (n c:Nat) (l:o!)
def Tv:aF prog E 239 #[.slice A 0 c] [] λe a=>e=.returned (.tuple #[.slice none 0 0,a! 4])/\a=[]:=by
 have b:0<=maxLen:=bY _;refine x_ func239 ntmps239 ?_
 exact mZ
def Tw(d:Rd E bH A n c l)(f:4096<n):aF prog E 239 #[.slice A n c] [] λe b=>e=.returned (.tuple #[.slice none 0 0,a! 5])/\b=[]:=by
 have a:=d.cap;refine x_ func239 ntmps239 ?_
 refine aU (λM=>IB M n) ?_;rw[b! o_];refine e_ ?_
 exact mZ
def aKl(l:o!)(k:Nat):Oct.put l k 2=l++be k 2:=b! o_
def aJy(l:o!)(k:Nat):Oct.put l k 4=l++be k 4:=b! o_
def Fz(p:Rd E bH A n c l)(a:1<=n)(D:n<=4096):aF prog E 239 #[.slice A n c] [] λe b=>∃k m,e=.returned (.tuple #[.slice k (n+7) m,a! 0])/\b=[own bH k (n+7) m (fr l)]:=by
 have o:=p.cap;have h:=p.len;have s:=Crc.GC l;have i:Oct.put [] n 2=be n 2:=by rw[aKl];rfl
 have d:=eJ n 2;have j:Oct.put (be n 2++l) (Crc.sum l) 4=be n 2++l++be (Crc.sum l) 4:=aJy _ _;have f:(be n 2++l++be (Crc.sum l) 4).length=n+6:=by simp[eJ];omega
 have g:be n 2++l++be (Crc.sum l) 4++[UInt8.ofNat (Int.toNat 90)]=fr l:=by unfold fr;rw[<-h];rfl
 refine x_ func239 ntmps239 ?_
 refine aU (λM=>IB M n) ?_;rw[c! o_];refine e_ ?_
 refine cU (λM a=>Nx M none 0 0 [] n 2 a o_ o_) ?_;rw[i];unfold FC;rw[d];rintro e b ⟨t,v,rfl,x,y,rfl⟩;refine c_ ?_;intros
 rename_i q r _ _;refine L.lI sD (S.pY (T:=kC) (e:=(⟨A,n,c,l⟩:Oc)) rfl rfl rfl rfl sD) ?_;rintro _ _ ⟨_,rfl,rfl⟩;refine c_ ?_
 refine oE (λM a=>MQ M 0 A n c l a _) ?_;refine c_ ?_
 refine cU (λM a=>Nx M q (2+n) r (be n 2++l) (Crc.sum l) 4 a o_ o_) ?_;rw[j];unfold FC;rw[f];rintro e b ⟨u,w,rfl,z,B,rfl⟩;refine c_ ?_;intros
 rw[g];exact oN ⟨_,_,rfl,rfl⟩
def Fu{l:o!}{k:Nat}(h:k<=l.length):nx false l k=(some (l.take k),false,l.drop k):=by
 unfold nx;rw[b! s_,b! o_,jK]
def aPl{l:o!}{k:Nat}(h:l.length<k):nx false l k=(none,true,l):=by
 unfold nx;rw[b! s_,c! o_]
def Rl(y:Rd E bH A n c l)(hl:n<=140737488355200)(x:o!)(k:Nat)(a:kJ l=some (x,k)) :
  aF prog E 184 #[.slice A n c] [] λe f=>∃B d,e=.returned (.tuple #[.slice B x.length d,a! k,.bool true])/\f=[own bH B x.length d x]:=by
 have hn:=y.len;have w:=y.cap;unfold kJ at a;split at a
 case isFalse=>cases a
 rename_i u;injection a with a;injection a with a R
 subst R;have⟨N,r,h3,h4,O,q⟩:=u;have X:x.length=size l:=by rw[<-a];simp;omega
 have m:nx false l (wid 2)=(some (l.take 2),false,l.drop 2):=Fu N;have o:nx false (l.drop 2) (size l:Nat)=(some ((l.drop 2).take (size l)),false,(l.drop 2).drop (size l)):=Fu (by simp;omega);have p:nx false ((l.drop 2).drop (size l)) (wid 4)=(some (((l.drop 2).drop (size l)).take 4),false,((l.drop 2).drop (size l)).drop 4):=Fu (by simp;omega);have i:Oct.get (l.take 2)=size l:=rfl;have t:Oct.get (((l.drop 2).drop (size l)).take 4)=Crc.sum x:=by rw[pU,Di 2 (size l),q,a]
 have W:=Crc.GC x;generalize size l=s at *;have U:IntKind.i64.wrap ((s:Int)+7 - 1)=((s+6:Nat):Int):=by rw[dY _ o_];omega
 refine x_ func184 ntmps184 ?_
 refine cU (λM r=>AJ M A n c l r o_) ?_;rintro e f ⟨g,z,H,rfl,h5,h6,rfl⟩;refine gk bU ?_;unfold nQ;refine c_ ?_
 refine cU (λM=>zB M g false z n H l 2) ?_;rw[m];rintro e f ⟨D,Z,J,rfl,b,rfl⟩;refine gk bU ?_;simp only[tk,i];refine c_ ?_
 refine aU (λM=>IB M s) ?_;rw[c! o_];refine e_ ?_
 refine cl sD sK aH (λM P=>Cm M g false D Z J (l.drop 2) s (b _ bK) (by simp;omega)) ?_;rw[o];rintro e f ⟨F,n3,K,B,d,rfl,h,j,Q,rfl⟩;dsimp only[Option.getD,Option.isSome] at j⊢;rw[a] at j⊢;refine c_ ?_
 refine cl sD sK aH (λM P=>zB M g false F n3 K ((l.drop 2).drop s) 4 (h _ (b _ bK))) ?_;rw[p];rintro e f ⟨A4,n4,c4,rfl,v,rfl⟩;refine gk bU ?_;simp only[tk,t];refine c_ ?_
 refine L.lI sD (S.pY (T:=kC) (e:=(⟨B,x.length,d,x⟩:Oc)) rfl rfl rfl rfl sD) ?_;rintro _ _ ⟨_,rfl,rfl⟩;refine c_ ?_
 refine oE (λM r=>MQ M 0 B x.length d x r _) ?_;refine c_ ?_
 exact F4 rfl aJ aJ aJ aC (⟨_,_,rfl,rfl⟩)
theorem Rk(O:Rd E bH A n c l)(hl:n<=140737488355200)(v:kJ l=none) :
  aF prog E 184 #[.slice A n c] [] λe j=>e=.returned (.tuple #[.slice none 0 0,a! 0,.bool false])/\j=[]:=by
 have hn:=O.len;have N:=O.cap;have q:¬ok l:=by
  intro h;unfold kJ at v;rw[c! h] at v;cases v
 refine x_ func184 ntmps184 ?_
 refine cU (λM m=>AJ M A n c l m o_) ?_;rintro e j ⟨g,R,W,rfl,h5,h6,rfl⟩;refine gk bU ?_;unfold nQ;refine c_ ?_
 refine cU (λM=>zB M g false R n W l 2) ?_;by_cases w:2<=l.length
 ·have b:nx false l (wid 2)=(some (l.take 2),false,l.drop 2):=Fu w;have f:Oct.get (l.take 2)=size l:=rfl;have P:size l<65536:=by
   have:=HJ (l.take 2);rw[dR,nM w] at this;exact this
  rw[b];rintro e j ⟨F,Q,H,rfl,a,rfl⟩;refine gk bU ?_;simp only[tk,f];refine c_ ?_
  refine aU (λM=>IB M (size l)) ?_;by_cases m:1<=size l/\size l<=4096
  ·rw[c! o_];rintro e j ⟨rfl,rfl⟩;refine gk bU ?_;by_cases Z:size l+7<=l.length
   ·have u:l[size l+6]?=some l[size l+6]:=bS o_;have b0:IntKind.i64.wrap ((size l:Int)+7 - 1)=((size l+6:Nat):Int):=by rw[dY _ o_];omega
    by_cases o:l[size l+6]=90
    ·rw[o] at u;have i:Oct.get ((l.drop (size l+2)).take 4)≠Crc.sum ((l.drop 2).take (size l)):=λh=>q ⟨w,m.1,m.2,Z,u,h⟩;have b2:((l.drop 2).take (size l)).length=size l:=by simp;omega
     have r:nx false (l.drop 2) (size l:Nat)=(some ((l.drop 2).take (size l)),false,(l.drop 2).drop (size l)):=Fu (by simp;omega);have t:nx false ((l.drop 2).drop (size l)) (wid 4)=(some (((l.drop 2).drop (size l)).take 4),false,((l.drop 2).drop (size l)).drop 4):=Fu (by simp;omega);have a9:Oct.get (((l.drop 2).drop (size l)).take 4)≠Crc.sum ((l.drop 2).take (size l)):=by rw[pU,Di 2 (size l)];exact i
     have b1:=Crc.GC ((l.drop 2).take (size l));have z:=HJ (((l.drop 2).drop (size l)).take 4);rw[show(((l.drop 2).drop (size l)).take 4).length=4 by simp;omega] at z;clear f q v i;generalize (l.drop 2).take (size l)=x at *;generalize hy:Oct.get (((l.drop 2).drop (size l)).take 4)=y at *;generalize size l=s at *;refine c_ ?_
     refine cl sD sK aH (λM hE=>Cm M g false F Q H (l.drop 2) s (a _ bK) (by simp;omega)) ?_;rw[r];rintro e j ⟨U,n3,X,B,d,rfl,p,D,a8,rfl⟩;dsimp only[Option.getD,Option.isSome] at D⊢;refine c_ ?_
     refine cl sD sK aH (λM hE=>zB M g false U n3 X ((l.drop 2).drop s) 4 (p _ (a _ bK))) ?_;rw[t];rintro e j ⟨A4,n4,c4,rfl,K,rfl⟩;refine gk bU ?_;simp only[tk,hy];refine c_ ?_
     refine L.lI sD (S.pY (T:=kC) (e:=(⟨B,x.length,d,x⟩:Oc)) rfl rfl rfl rfl sD) ?_;rintro _ _ ⟨_,rfl,rfl⟩;refine c_ ?_
     refine oE (λM m=>MQ M 0 B x.length d x m _) ?_;refine c_ ?_
     exact F4 rfl aJ aJ aJ aC (⟨rfl,rfl⟩)
    ·have J:l[size l+6].toNat≠90:=λh=>o (Ch.1 h);refine c_ ?_
     exact F4 rfl aJ aJ aJ aC (⟨rfl,rfl⟩)
   ·refine c_ ?_
    exact F4 rfl aJ aJ aJ aC (⟨rfl,rfl⟩)
  ·rw[b! o_];refine e_ ?_
   exact F4 rfl aJ aJ aJ aC (⟨rfl,rfl⟩)
 ·have b:nx false l (wid 2)=(none,true,l):=aPl (k:=2) o_;rw[b];rintro e j ⟨F,Q,H,rfl,a,rfl⟩;refine gk bU ?_;simp only[tk];refine c_ ?_
  refine aU (λM=>IB M 0) ?_;rw[b! o_];refine e_ ?_
  exact F4 rfl aJ aJ aJ aC (⟨rfl,rfl⟩)
end
end
section
open Go.RowKit Reg Oct
open Mem hiding Rd
def bE.put(f:bE):o!:=be f.kind.toNat 1++(be f.a.toNat 1++(be (tA f.n) 8++(be f.ref.rep.toNat 1++be f.ref.seq.toNat 2)))
theorem bE.iP(f:bE):f.put.length=13:=by simp[bE.put,eJ]
def bE.jZ{f:bE}(h:f.check=0):(1<=f.kind/\f.kind<=11)/\(0<=f.a/\f.a<=255)/\(0<=f.ref.rep/\f.ref.rep<=255)/\0<=f.ref.seq/\f.ref.seq<=65535:=by
 unfold bE.check at h;split at h
 ·rename_i a;split at h
  ·rename_i b;exact⟨a,b⟩
  ·cases h
 ·cases h
def Yy(f:bE):(([UInt8.ofNat f.kind.toNat,UInt8.ofNat f.a.toNat]++be (tA f.n) 8)++[UInt8.ofNat f.ref.rep.toNat])++be f.ref.seq.toNat 2=f.put:=by
 simp[bE.put,zS]
section
variable (E:Env) (f:bE)
def RZ(h:f.check=0):aF prog E 153 #[.agg f.cs.toArray] [] λr b=>∃c d,r=.returned (.tuple #[.slice c 13 d,a! 0])/\b=[own bH c 13 d f.put]:=by
 have⟨⟨z,k1⟩,⟨v,w⟩,⟨A,B⟩,s0,D⟩:=bE.jZ h;have p:=K8 f.n;have F:=V1 f.n;have H:=vE s0 o_;have k:f.ref.seq.toNat<18446744073709551616:=o_;have q:1<=2/\2<=8:=o_;have s:1<=8/\8<=8:=o_;have a:=Yy f;refine x_ func153 ntmps153 ?_;intros
 refine aU (λM=>JW M f) ?_;rw[h];rintro r b ⟨rfl,rfl⟩;refine c_ ?_;intros
 rename_i l g;refine cU (λM m=>CE M (some ⟨g,0,none⟩) 2 2 10 8 [UInt8.ofNat f.kind.toNat,UInt8.ofNat f.a.toNat] (tA f.n) 8 rfl rfl s m p (by decide)) ?_;rintro r b ⟨t,i,rfl,n,rfl⟩;refine c_ ?_
 refine rB (l_ [0,1,2,3,4,7,8,9,10] (g_ 5 (g_ 6 (g_ 11 (l_ [12,13] .nil))))) ([aE l 77 f.cs]) (c_ ?_);intros
 rename_i e j _ _;refine cg rfl sD bB sK aH (λM y=>CE M e (10+1) j 13 2 _ f.ref.seq.toNat 2 rfl rfl q bK k sD) ?_;rintro r b ⟨u,x,rfl,o,rfl⟩;refine c_ ?_
 rw[a];exact oN ⟨_,_,rfl,rfl⟩
end
def aN.sB(e:aN):Int:=(if e.dN then 1 else 0)+(if e.gone then 2 else 0)
def Yz(E:Env)(e:aN):aF prog E 155 #[.agg e.cs.toArray] [] λr a=>r=.returned (a! e.sB)/\a=[]:=by
 refine t_ func155 ntmps155 ?_;unfold aN.sB;have b:Go.bits .or .i64 0 1=1:=sD;have c:Go.bits .or .i64 0 2=2:=sD;have b3:Go.bits .or .i64 1 2=3:=sD;cases d:e.dN;all_goals
  cases g:e.gone;all_goals
   refine c_ ?_;intros
   exact aS
def aN.put(e:aN):o!:=be e.ord.toNat 1++(e.bD.put++(be e.bI.toNat 1++(be e.last.toNat 4++(be e.back.toNat 1++(be e.iY.toNat 4++[UInt8.ofNat e.sB.toNat,69,69])))))
theorem aN.iP(e:aN):e.put.length=27:=by simp[aN.put,eJ,bE.iP]
def Y7(e:aN):(((((([UInt8.ofNat e.ord.toNat]++e.bD.put)++[UInt8.ofNat e.bI.toNat])++be e.last.toNat 4)++[UInt8.ofNat e.back.toNat])++be e.iY.toNat 4)++[UInt8.ofNat e.sB.toNat,UInt8.ofNat (Int.toNat 69),UInt8.ofNat (Int.toNat 69)])=e.put:=by
 rw[show UInt8.ofNat (Int.toNat 69)=69 from rfl];simp[aN.put,zS]
section
variable (E:Env) (e:aN)
def RG(b:e.may=false):aF prog E 91 #[.agg e.cs.toArray] [] λr a=>r=.returned (.slice none 0 0)/\a=[]:=by
 refine x_ func91 ntmps91 ?_;intros
 refine aU (λM=>MY M e) ?_;rw[b];rintro r a ⟨rfl,rfl⟩;refine c_ ?_
 exact aS
def RH(g:e.may=true):aF prog E 91 #[.agg e.cs.toArray] [] λr a=>∃c d,r=.returned (.slice c 27 d)/\a=[own bH c 27 d e.put]:=by
 have⟨⟨O,P⟩,s,⟨s0,Q⟩,⟨⟨z,A⟩,_⟩,⟨u,N⟩,⟨t,k1⟩,_⟩:=(aN.eY e).1 g;have R:=vE u o_;have U:=vE t o_;have m:e.last.toNat<18446744073709551616:=o_;have n:e.iY.toNat<18446744073709551616:=o_;have h:1<=4/\4<=8:=o_;have b:=Y7 e;have J:0<=e.sB:=by unfold aN.sB;split<;>split<;>omega
 have K:e.sB<256:=by unfold aN.sB;split<;>split<;>omega
 refine x_ func91 ntmps91 ?_;intros
 refine aU (λM=>MY M e) ?_;rw[g];rintro r a ⟨rfl,rfl⟩;refine c_ ?_
 refine aU (λM=>RZ M e.bD s) ?_;rintro r a ⟨v,B,rfl,rfl⟩;refine c_ ?_;intros
 rename_i f _ w D _ _;refine rB (l_ [0,1,2,3,6,7,8] (g_ 4 (g_ 5 (g_ 9 (n_ 10 .nil))))) ([aE f 92 e.cs]) (c_ ?_);intros
 rename_i i k _ _;refine cg rfl sD bB sK aH (λM o=>CE M i (1+13+1) k 19 4 _ e.last.toNat 4 rfl rfl h bK m sD) ?_;rintro r a ⟨x,F,rfl,p,rfl⟩;refine c_ ?_
 refine rB (l_ [0,1,2,3,6,7,8] (g_ 4 (g_ 5 (g_ 9 (n_ 10 .nil))))) ([aE f 92 e.cs]) (c_ ?_);intros
 rename_i j l _ _;refine cg rfl sD bB sK aH (λM o=>CE M j (19+1) l 24 4 _ e.iY.toNat 4 rfl rfl h bK n sD) ?_;rintro r a ⟨y,H,rfl,q,rfl⟩;refine c_ ?_
 refine A_ (λM=>Yz M e) ?_;intros
 rw[b,show 24+3=27 from rfl];exact dS ⟨_,_,rfl,rfl⟩
end
abbrev gF:List Nat:=[1,1,8,1,2]
def yE(l:o!):bE:=⟨aW l 0 1,aW l 1 1,iG (aW l 2 8),⟨aW l 10 1,aW l 11 2⟩⟩
def MZ(l:o!):bE:=⟨va gF l 0,va gF l 1,iG (va gF l 2),⟨va gF l 3,va gF l 4⟩⟩
def Yw{l:o!}(h:13<=l.length):MZ l=yE l:=by
 unfold MZ yE;rw[pP (k:=0) (w:=1) rfl rfl sD o_,pP (k:=1) (w:=1) rfl rfl sD o_,pP (k:=2) (w:=8) rfl rfl sD o_,pP (k:=10) (w:=1) rfl rfl sD o_,pP (k:=11) (w:=2) rfl rfl sD o_]
def oK(l:o!):Option bE:=if (yE l).check=0 then some (yE l) else none
def BM(E:Env)(h g:Nat)(s s':Bool×o!)(w:Nat)(v:Nat)(l:dW s w=s')(m:vl s w=v)(A:n!)(n c:Nat)(W:Int)(k:W=w)(p:1<=w/\w<=8)(x:Rd E bH A n c s.2) :
  aF prog E 297 #[a! W,.pointer (some ⟨h,0,none⟩)] [aE h 276 [.pointer (some ⟨g,0,none⟩)],gA g true s.1 A n c] (Iz h g A n c s.2 s' (.int .u64 v)):=by
 subst l m;have f:wid W=(w:Int):=by unfold wid;rw[b! o_];exact k
 have i:=oQ s w;have d:vl s w<18446744073709551616:=Cd i (iR (Gj o_ p.2) sD);have u:=GJ d;refine x_ func297 ntmps297 ?_
 refine cU (λM=>zB M g s.1 A n c s.2 W) ?_;have⟨o,j⟩:∃o,nx s.1 s.2 (w:Int)=(o,dW s w):=⟨_,rfl⟩
 have a:=II s w;rw[j] at a;rw[f,j];rintro e r ⟨q,y,t,rfl,b,rfl⟩;dsimp only at a b⊢;rw[a];refine c_ ?_
 exact dS ⟨_,_,_,rfl,b,rfl⟩
def RO(E:Env)(A:n!)(n c:Nat)(l:o!)(r:Option bE)(s:oK l=r)(y:Rd E bH A n c l)(hl:n=13) :
  aF prog E 250 #[.slice A n c] [] λe h=>e=.returned (.tuple #[.agg (r.getD FM).cs.toArray,a! (if r.isSome then 0 else 16)])/\h=[]:=by
 have hn:=y.len;have x:=y.cap;have v:1<=1/\1<=8:=o_;have o2:1<=2/\2<=8:=o_;have o8:1<=8/\8<=8:=o_;have v0:=GG gF l 0;have v1:=GG gF l 1;have v2:=GG gF l 2;have v3:=GG gF l 3;have v4:=GG gF l 4;have y0:va gF l 0<256:=v0;have y1:va gF l 1<256:=v1;have y3:va gF l 3<256:=v3;have y4:va gF l 4<65536:=v4;have W:=GJ (k:=va gF l 2) v2;have m:=Yw (l:=l) o_;have q:st gF l 5=(false,l.drop 13):=ID (i:=5) sD (by simp;omega);have u:l.drop 13=[]:=Dg o_;rw[u] at q;refine x_ func250 ntmps250 ?_;intros;refine cU (λM U=>AJ M A n c l U o_) ?_;rintro e h ⟨g,z,K,rfl,h5,h6,rfl⟩;refine gk bU ?_;unfold nQ;refine c_ ?_;intros;rename_i w o;refine L.step sD (S.fN rfl cQ rfl rfl func297 q_ rfl aH (λM p=>BM M o g (false,l) (st gF l 1) 1 (va gF l 0) rfl rfl z n K 1 rfl v bK) ?_);rintro e h ⟨B,X,N,rfl,a,rfl⟩;refine c_ ?_;refine L.step sD (S.fN rfl cQ rfl rfl func297 q_ rfl aH (λM p=>BM M o g (st gF l 1) (st gF l 2) 1 (va gF l 1) rfl rfl B X N 1 rfl v (a _ bK)) ?_);rintro e h ⟨D,Z,O,rfl,b,rfl⟩;refine c_ ?_;refine L.step sD (S.fN rfl cQ rfl rfl func297 q_ rfl aH (λM p=>BM M o g (st gF l 2) (st gF l 3) 8 (va gF l 2) rfl rfl D Z O 8 rfl o8 (b _ (a _ bK))) ?_);rintro e h ⟨F,n3,P,rfl,d,rfl⟩;refine c_ ?_;intros;refine L.step sD (S.fN rfl cQ rfl rfl func297 q_ rfl aH (λM p=>BM M o g (st gF l 3) (st gF l 4) 1 (va gF l 3) rfl rfl F n3 P 1 rfl v (d _ (b _ (a _ bK)))) ?_);rintro e h ⟨H,n4,Q,rfl,j,rfl⟩;refine c_ ?_;refine L.step sD (S.fN rfl cQ rfl rfl func297 q_ rfl aH (λM p=>BM M o g (st gF l 4) (st gF l 5) 2 (va gF l 4) rfl rfl H n4 Q 2 rfl o2 (j _ (d _ (b _ (a _ bK))))) ?_);rintro e h ⟨J,n5,R,rfl,f,rfl⟩;refine c_ ?_;rw[q] at f⊢;dsimp only at f⊢;refine cl sD sK aH (λM p=>JQ M g false J n5 R [] (f _ (j _ (d _ (b _ (a _ bK)))))) (e_ ?_);refine aU (λM=>JW M (MZ l)) ?_;rw[m];rintro e h ⟨rfl,rfl⟩;refine gk bU ?_;unfold oK at s;by_cases t:(yE l).check=0
 ·rw[c! t] at s;subst s;rw[t,<-m];refine c_ ?_;exact lD
 ·rw[b! t] at s;subst s;refine c_ ?_;exact lD
end
end Go.Proofs.YtmilalkjbojciaaGreat.Sep
