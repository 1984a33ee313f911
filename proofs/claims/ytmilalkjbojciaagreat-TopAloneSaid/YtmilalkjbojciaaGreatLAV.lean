/- Part AV: what it needs. No condition. -/
import Derived.Test.YtmilalkjbojciaaGreatLAT
set_option maxRecDepth 100000
set_option maxHeartbeats 8000000
open Go.Proofs.Tryz
namespace Go.Proofs.YtmilalkjbojciaaGreat.Sep
section
open Go.RowKit Reg Oct
open Mem hiding Rd
section
variable (E:Env)
theorem XW(c:fU):G E 9 [.agg c.cs.toArray] [] (cM (.bool (decide c.cV)) []):=by
 unfold fU.cV;refine t_ func9 ntmps9 ?_;repeat' (first|refine w_ ?_|refine k_ ?_|refine f_ ?_ ?_|intro _)
 all_goals exact aR rfl aF aA ⟨rJ,rfl⟩
variable (A:Option Addr) (n c:Nat) (B:Option Addr) (m d:Nat)
end
def Chk(b:Nat)(cs:List (List dK)):Prop:=∀c∈cs,c.length=b/\aJx c
theorem Chk.len{b:Nat}:∀ {cs:List (List dK)},Chk b cs->cs.flatten.length=b*cs.length
 | [],_=>rfl
 |c::cs,h=>by rw[aFs,aAe,(h c (.head _)).1,Chk.len (cs:=cs) (λd hd=>h d (.tail _ hd)),aAs,Nat.mul_succ];omega
theorem Chk.put{b:Nat}{cs:List (List dK)}{c:List dK}(h:Chk b cs)(h1:c.length=b)(h2:aJx c):Chk b (cs++[c]):=by
 intro d hd;rcases aBg.1 hd with hd|hd
 ·exact h d hd
 ·obtain rfl:=aAp.1 hd;exact⟨h1,h2⟩
section
variable (E:Env) (A:Option Addr) (n c:Nat)
theorem aPk(l:List dK)(hn:n<=1000000)(hln:l.length=n):G E 268 [.slice A n c,.int .i64 n,U2] [own cP A n c l] (λe H'=>∃z:List dK,(z.Perm l/\aJx z)/\e=.returned (.tuple #[])/\H'=[own cP A n c z]):=by
 have hmax:=fX;refine t_ func268 ntmps268 ?_;repeat first|refine v_ ?_|intro
 refine C.loop (X:=List (List dK)×List dK) (λz=>[(0,.slice A n c),(1,.int .i64 n),(2,U2),(6,.int .i64 20),(7,.int .i64 z.1.flatten.length),(8,.int .i64 ((z.1.flatten.length+20:Nat):Int))]) (λz=>[own cP A n c (z.1.flatten++z.2)])
  (λz=>Chk 20 z.1/\(z.1.flatten++z.2).Perm l) (λz=>z.2.length) ([],l) aD aA ⟨(λc h=>by cases h),aQt _⟩ ?_
 rintro⟨cs,r⟩ G1 ⟨h1,h2⟩;dsimp only at h1 h2⊢;have hl:=h2.length_eq;rw[aAe,hln] at hl;by_cases hb:cs.flatten.length+20<=n
 ·obtain⟨p,q,rfl,hp⟩:∃p q,r=p++q/\p.length=20:=⟨r.take 20,r.drop 20,(aAx ..).symm,by rw[aAg];omega⟩
  obtain⟨z,k1,k2,k3⟩:=aKd cs.flatten p q;rw[hp] at k1;rw[<-aAb];have law:=λM=>Vk M A n c (cs.flatten++p++q) hn (by rw[aAb,h2.length_eq,hln]) cs.flatten.length (cs.flatten.length+20) o_ o_;rw[k1] at law;obtain⟨F,hF⟩:∃F,cs.flatten.length=F:=⟨_,rfl⟩
  rw[hF] at law hb⊢;repeat first|refine v_ ?_|intro
  refine bK law ?_;repeat first|refine v_ ?_|intro
  have hz:z.length=20:=by rw[k2.length_eq,hp]
  have hc:(cs++[z]).flatten.length=F+20:=by simp[hF,hz]
  refine⟨(cs++[z],q),(by dsimp only;rw[hc];exact aD),(by dsimp only;rw[show(cs++[z]).flatten++q=cs.flatten++z++q by simp];exact aA),⟨h1.put hz k3,?_⟩,by dsimp only;rw[aAe,hp];omega⟩;dsimp only;refine List.Perm.trans ?_ h2;rw[show(cs++[z]).flatten++q=cs.flatten++(z++q) by simp];exact aQr _ (k2.append_right q)
 have law:=λM=>Vk M A n c (cs.flatten++r) hn (by rw[h2.length_eq,hln]) cs.flatten.length n o_ (aAf _);obtain⟨z,k1,k2,k3⟩:=aKd cs.flatten r [];rw[aAc,aAc,hl] at k1;rw[k1] at law;have hzr:=k2.length_eq;have hp0:(cs.flatten++z).Perm l:=(aQr _ k2).trans h2;have hr:z.length<20:=o_;clear k1 k2 h2;obtain⟨F,hF⟩:∃F,cs.flatten.length=F:=⟨_,rfl⟩
 rw[hF] at law hb⊢;repeat first|refine v_ ?_|intro
 refine bK law ?_;repeat first|refine v_ ?_|intro
 refine C.loop (X:=Nat×List (List dK)×List dK) (λz=>[(0,.slice A n c),(1,.int .i64 n),(2,U2),(6,.int .i64 z.1)]) (λz=>[own cP A n c (z.2.1.flatten++z.2.2)])
  (λz=>(1<=z.1/\z.1<=2000000)/\Chk z.1 z.2.1/\z.2.2.length<z.1/\aJx z.2.2/\(z.2.1.flatten++z.2.2).Perm l) (λz=>n - z.1) (20,cs,z) aD aA ⟨by dsimp only;omega,h1,hr,k3,hp0⟩ ?_
 clear law hp0 hr k3 h1 hb hzr hF hl;rintro⟨b,cs,r⟩ G2 ⟨⟨b1,b2⟩,h1,h2,h3,h4⟩;dsimp only at b1 b2 h1 h2 h3 h4⊢;by_cases hbn:b<n
 ·have w1:IntKind.i64.wrap (2*(b:Int))=((2*b:Nat):Int):=by rw[show 2*(b:Int)=((2*b:Nat):Int) by omega];exact aAq _ o_
  have w2:IntKind.i64.wrap ((b:Int)*2)=((2*b:Nat):Int):=by rw[show(b:Int)*2=((2*b:Nat):Int) by omega];exact aAq _ o_
  repeat first|refine v_ ?_|intro
  refine C.loop (X:=List (List dK)×List (List dK)) (λz=>[(0,.slice A n c),(1,.int .i64 n),(2,U2),(6,.int .i64 b),(7,.int .i64 z.1.flatten.length),(8,.int .i64 ((2*b+z.1.flatten.length:Nat):Int))]) (λz=>[own cP A n c (z.1.flatten++(z.2.flatten++r))])
   (λz=>Chk (2*b) z.1/\Chk b z.2/\(z.1.flatten++(z.2.flatten++r)).Perm l) (λz=>z.2.length) ([],cs) aD aA ⟨(λc h=>by cases h),h1,h4⟩ ?_
  clear h1 h4;rintro⟨ds,cs⟩ G3 ⟨h0,h1,h4⟩;dsimp only at h0 h1 h4⊢;have hl:=h4.length_eq;rw[aAe,aAe,hln] at hl;obtain⟨F,hF⟩:∃F,ds.flatten.length=F:=⟨_,rfl⟩
  rw[hF] at hl⊢;by_cases ht:2*b+F<=n
  ·obtain⟨c1,c2,cs,rfl⟩:∃c1 c2 cs',cs=c1::c2::cs':=by
    rcases cs with _|⟨c1,_|⟨c2,cs⟩⟩
    ·simp at hl;omega
    ·have:=(h1 c1 (.head _)).1;simp at hl;omega
    ·exact⟨_,_,_,rfl⟩
   obtain⟨l1,s1⟩:=h1 c1 (.head _);obtain⟨l2,s2⟩:=h1 c2 (.tail _ (.head _));have e1:ds.flatten++((c1::c2::cs).flatten++r)=ds.flatten++c1++c2++(cs.flatten++r):=by simp
   rw[e1] at h4⊢;have law:=λM=>aOp A n c (c1.length+c2.length) M ds.flatten c1 c2 (cs.flatten++r) (aAf _) hn o_ o_ s1 s2 (by rw[h4.length_eq,hln]);rw[hF,l1,l2,show((F+b+b:Nat):Int)=((2*b+F:Nat):Int) by omega,aQs F b] at law;have w3:IntKind.i64.wrap (((2*b+F:Nat):Int)+((2*b:Nat):Int))=((2*b+(2*b+F):Nat):Int):=by rw[show((2*b+F:Nat):Int)+((2*b:Nat):Int)=((2*b+(2*b+F):Nat):Int) by omega];exact aAq _ o_
   repeat first|refine v_ ?_|intro
   refine bW law ?_;rintro e H' ⟨z,⟨z1,z2⟩,rfl,rfl⟩;repeat first|refine v_ ?_|intro
   have hz:z.length=2*b:=by rw[z1.length_eq,aAe,l1,l2];omega
   have hc:(ds++[z]).flatten.length=2*b+F:=by simp[hF,hz];omega
   refine⟨(ds++[z],cs),(by dsimp only;rw[hc];exact aD),(by dsimp only;rw[show(ds++[z]).flatten++(cs.flatten++r)=ds.flatten++z++(cs.flatten++r) by simp];exact aA),⟨h0.put hz z2,λd hd=>h1 d (.tail _ (.tail _ hd)),?_⟩,by dsimp only[List.length_cons];omega⟩;dsimp only;refine List.Perm.trans ?_ h4;rw[show(ds++[z]).flatten++(cs.flatten++r)=ds.flatten++(z++(cs.flatten++r)) by simp,show ds.flatten++c1++c2++(cs.flatten++r)=ds.flatten++((c1++c2)++(cs.flatten++r)) by simp];exact aQr _ (z1.append_right _)
  rcases cs with _|⟨c1,_|⟨c2,cs⟩⟩
  ·simp only[List.flatten_nil,aBq,aDh,aCa] at hl h4⊢;repeat first|refine v_ ?_|intro
   exact⟨(2*b,ds,r),aD,aA,⟨⟨by dsimp only;omega,by dsimp only;omega⟩,h0,by dsimp only;omega,h3,h4⟩,by dsimp only;omega⟩
  ·obtain⟨l1,s1⟩:=h1 c1 (.head _);simp only[aFs,List.flatten_nil,aAc] at hl h4⊢;by_cases hr:1<=r.length
   ·have e1:ds.flatten++(c1++r)=ds.flatten++c1++r++[]:=by simp
    rw[e1] at h4⊢;have law:=λM=>aOp A n c (c1.length+r.length) M ds.flatten c1 r [] (aAf _) hn o_ hr s1 h3 (by rw[h4.length_eq,hln]);rw[hF,l1,show((F+b+r.length:Nat):Int)=(n:Int) by omega,aQs F b] at law;repeat first|refine v_ ?_|intro
    refine bW law ?_;rintro e H' ⟨z,⟨z1,z2⟩,rfl,rfl⟩;rw[aAc];repeat first|refine v_ ?_|intro
    have hz:z.length=b+r.length:=by rw[z1.length_eq,aAe,l1]
    refine⟨(2*b,ds,z),aD,aA,⟨⟨by dsimp only;omega,by dsimp only;omega⟩,h0,by dsimp only;omega,z2,List.Perm.trans ?_ h4⟩,by dsimp only;omega⟩;dsimp only;rw[aAc,aAb];exact aQr _ z1
   ·obtain rfl:r=[]:=aQq.1 o_;rw[aAc] at h4⊢;rw[aDh] at hl;repeat first|refine v_ ?_|intro
    exact⟨(2*b,ds,c1),aD,aA,⟨⟨by dsimp only;omega,by dsimp only;omega⟩,h0,by dsimp only;omega,s1,h4⟩,by dsimp only;omega⟩
  ·exfalso;have l1:=(h1 c1 (.head _)).1;have l2:=(h1 c2 (.tail _ (.head _))).1;simp only[aFs,aAe] at hl;omega
 ·repeat first|refine v_ ?_|intro
  have hl:=h4.length_eq;rw[aAe,hln,h1.len] at hl;rcases cs with _|⟨c1,_|⟨c2,cs⟩⟩
  ·exact gO rfl aA (⟨r,⟨h4,h3⟩,rfl,rfl⟩)
  ·obtain rfl:r=[]:=aQq.1 (by simp at hl;omega);exact gO rfl aA (⟨c1,⟨by simpa using h4,(h1 c1 (.head _)).2⟩,rfl,by simp⟩)
  ·exfalso;simp only[aAs] at hl;rw[Nat.mul_add,Nat.mul_add] at hl;omega
end
theorem aLc{j k:bJ}(hj:j≠k)(w:Int):∀ {ks:List (bJ×Int)} {q:Nat} {v:Int},ks[q]?=some (k,v)->eT (ks.set q (k,w)) j=eT ks j
 | [],_,_,h=>by cases h
 |x::ks,0,v,h=>by
  obtain rfl:x=(k,v):=by simpa using h
  show(if j=k then _ else _)=(if j=k then _ else _);rw[if_neg hj,if_neg hj]
 |x::ks,q+1,v,h=>by
  have h:ks[q]?=some (k,v):=by simpa using h
  show(if j=x.1 then _ else(eT (ks.set q (k,w)) j).map _)=(if j=x.1 then _ else(eT ks j).map _);rw[aLc hj w h]
theorem aKy{j k:bJ}(hj:j≠k)(v:Int):∀(ks:List (bJ×Int)),eT (ks++[(k,v)]) j=eT ks j
 | []=>if_neg hj
 |x::ks=>by
  show(if j=x.1 then _ else(eT (ks++[(k,v)]) j).map _)=(if j=x.1 then _ else(eT ks j).map _);rw[aKy hj v ks]
theorem aLa{j k:bJ}(hj:j≠k)(ks:List (bJ×Int)):lO (yH ks k) j=lO ks j:=by
 unfold lO yH;rw[aLc hj _ (Oq ks k)];unfold iM;cases hf:eT ks k with
 |none=>dsimp only;rw[aKy hj]
 |some z=>rfl
def aLv(s:List (bJ×Int)×List dK):Prop:=(∀r∈s.2,r.key.ord<=lO s.1 r.key.id)/\(s.2.map dK.key).Nodup
theorem aLv.step{s:List (bJ×Int)×List dK}(h:aLv s)(rest:List dK)(q:dK):aLv (EZ rest s q):=by
 unfold EZ;split
 ·exact h
 refine⟨λr hr=>?_,?_⟩
 ·rcases aBg.1 hr with hr|hr
  ·have:=h.1 r hr;dsimp only;by_cases e:r.key.id=q.key.id
   ·rw[e,Mz];rw[e] at this;omega
   ·rw[aLa e];exact this
  ·obtain rfl:=aAp.1 hr;exact aCd _
 ·dsimp only;rw[aBk];refine aQv.2 ⟨h.2,by simp,λa ha b hb=>?_⟩;obtain⟨r,hr,rfl⟩:=aFn.1 ha;obtain rfl:=aAp.1 hb;intro e;have:=h.1 r hr;rw[e] at this;dsimp only at this;rw[Mz] at this;omega
theorem aLv.go:∀(l:List dK) {s:List (bJ×Int)×List dK},aLv s->((sI l s).map dK.key).Nodup
 | [],_,h=>h.2
 |q::l,_,h=>aLv.go l (h.step l q)
theorem aMe(l:List dK):((sI l ([],[])).map dK.key).Nodup:=aLv.go l ⟨(λ_ h=>by cases h),List.Pairwise.nil⟩
theorem BK.aQg{o:List dK}(hn:o.length<=1000000)(hk:(o.map dK.key).Nodup):BK o:=λE A c=>by
 have stb:=λM=>aPk M A o.length c o hn rfl;have one:∀z:List dK,z.Perm o/\aJx z->z=mB 0 o.length o:=by
  rintro z ⟨h1,h2⟩;obtain⟨z',k1,k2,k3⟩:=aKd [] o [];rw[aBq,aAc,aAc,aBq,aDh,aCa] at k1;rw[k1];exact aNb (h1.trans k2.symm) h2 k3 ((h1.map dK.key).nodup_iff.2 hk)
 generalize mB 0 o.length o=l2 at *;have hmax:=fX;have sts:∀M,G M 208 [.slice A o.length c,U2] [own cP A o.length c o] (cM (.tuple #[]) [own cP A o.length c l2]):=λM=>by
  refine t_ func208 ntmps208 ?_;repeat first|refine v_ ?_|intro
  refine bW stb ?_;rintro e H' ⟨z,hz,rfl,rfl⟩;obtain rfl:=one z hz;repeat first|refine v_ ?_|intro
  exact r4
 refine t_ func148 ntmps148 ?_;repeat first|refine v_ ?_|intro
 refine bK sts ?_;repeat first|refine v_ ?_|intro
 exact B7
theorem BK.net(l:List dK)(h:l.length<=1000000):BK (sI l ([],[])):=BK.aQg (aBw (aMa l ([],[])) (by rw[aDh];omega)) (aMe l)
instance {a0 a1 a2 a3 a4 a5 a6 a7 b0 b1 b2 b3 b4 b5 b6 b7:Int}:QG 42 #[.int .i64 a0,.int .i64 a1,.int .i64 a2,.int .i64 a3,.int .i64 a4,.int .i64 a5,.int .i64 a6,.int .i64 a7] #[.int .i64 b0,.int .i64 b1,.int .i64 b2,.int .i64 b3,.int .i64 b4,.int .i64 b5,.int .i64 b6,.int .i64 b7] (decide (a0=b0)&&(decide (a1=b1)&&(decide (a2=b2)&&(decide (a3=b3)&&(decide (a4=b4)&&(decide (a5=b5)&&(decide (a6=b6)&&decide (a7=b7)))))))):=⟨VP.eight (e:=2) q_ q_ q_ q_⟩
instance:DecidableEq O8:=λx y=>decidable_of_iff (x.a0=y.a0/\x.a1=y.a1/\x.a2=y.a2/\x.a3=y.a3/\x.a4=y.a4/\x.a5=y.a5/\x.a6=y.a6/\x.a7=y.a7) (by cases x;cases y;simp)
instance:DecidableEq Bk:=λx y=>decidable_of_iff (x.fP=y.fP/\x.mO=y.mO/\x.eO=y.eO/\x.aH=y.aH) (by cases x;cases y;simp)
theorem O8.dec(a b:O8):(decide (a.a0=b.a0)&&(decide (a.a1=b.a1)&&(decide (a.a2=b.a2)&&(decide (a.a3=b.a3)&&(decide (a.a4=b.a4)&&(decide (a.a5=b.a5)&&(decide (a.a6=b.a6)&&decide (a.a7=b.a7))))))))=decide (a=b):=by
 rw[aBz];cases a;cases b;simp only[aAv,decide_eq_true_eq,O8.mk.injEq]
section
variable (E:Env)
theorem aJi(x y:Bh)(hx:Rd E eB x.A x.m x.c x.b.aH)(hy:Rd E eB y.A y.m y.c y.b.aH):G E 17 [.agg x.cs.toArray,.agg y.cs.toArray] [] (cM (.bool (decide (x.b=y.b))) []):=by
 obtain⟨⟨a1,a2,a3,l⟩,A,n,c⟩:=x;obtain⟨⟨b1,b2,b3,k⟩,B,m,d⟩:=y;have hn:=hx.len;have hcap:=hx.cap;have hm:=hy.len;have hcap2:=hy.cap;have hmax:=fX;dsimp only at hx hy hn hcap hm hcap2⊢;have d1:=O8.dec a1 b1;have d2:=O8.dec a2 b2;have d3:=O8.dec a3 b3;dsimp only[Bh.cs,Bk.cs];refine t_ func17 ntmps17 ?_;by_cases h1:a1=b1
 case neg =>
  have e1:=d1.trans (decide_eq_false h1);have e2:=congrArg not e1;rw[decide_eq_false (show ¬((⟨a1,a2,a3,l⟩:Bk)=⟨b1,b2,b3,k⟩) from λh=>h1 (Bk.mk.inj h).1)];repeat first|refine v_ ?_|intro
  exact B7
 by_cases h2:a2=b2
 case neg =>
  have e1:=d2.trans (decide_eq_false h2);have e2:=congrArg not e1;have e3:=congrArg not (d1.trans (decide_eq_true h1));rw[decide_eq_false (show ¬((⟨a1,a2,a3,l⟩:Bk)=⟨b1,b2,b3,k⟩) from λh=>h2 (Bk.mk.inj h).2.1)];repeat first|refine v_ ?_|intro
  exact B7
 by_cases h3:a3=b3
 case neg =>
  have e1:=d3.trans (decide_eq_false h3);have e2:=congrArg not e1;have e3:=congrArg not (d1.trans (decide_eq_true h1));have e4:=congrArg not (d2.trans (decide_eq_true h2));rw[decide_eq_false (show ¬((⟨a1,a2,a3,l⟩:Bk)=⟨b1,b2,b3,k⟩) from λh=>h3 (Bk.mk.inj h).2.2.1)];repeat first|refine v_ ?_|intro
  exact B7
 have e1:=congrArg not (d1.trans (decide_eq_true h1));have e2:=congrArg not (d2.trans (decide_eq_true h2));have e3:=congrArg not (d3.trans (decide_eq_true h3));have hd:decide ((⟨a1,a2,a3,l⟩:Bk)=⟨b1,b2,b3,k⟩)=decide (l=k):=by rw[h1,h2,h3];simp
 rw[hd];by_cases hnm:n=m
 ·subst hnm;repeat first|refine v_ ?_|intro
  rename_i g2 g3;refine C.scan (Y:=Unit) hn (λi _=>[(2,pt g2),(3,pt g3),(5,.int .i64 i)]) (λ_ _=>[aJ g2 45 (Bk.cs ⟨a1,a2,a3,l⟩ A n c),aJ g3 45 (Bk.cs ⟨b1,b2,b3,k⟩ B n d)]) (λi _=>l.take i=k.take i) () aD aA rfl ?_ ?_
  ·intro i _ x G hi hx2 hall;have hy2:k[i]?=some k[i]:=aAa o_;generalize k[i]=y at hy2;dsimp only[Bk.cs];by_cases hxy:x=y
   ·subst hxy;have hd:(!decide (x=x))=false:=by simp
    repeat first|refine v_ ?_|intro
    refine rA (l_ [0,1,2,3,4,5,6,7,8,9,10] .nil) ?_;repeat first|refine v_ ?_|intro
    exact⟨(),aD,aA,by rw[take_succ hx2,take_succ hy2,hall]⟩
   ·have hd:(!decide (x=y))=true:=by simp[hxy]
    repeat first|refine v_ ?_|intro
    refine rA (l_ [0,1,2,3,4,5,6,7,8,9,10] .nil) ?_;repeat first|refine v_ ?_|intro
    exact aR rfl aF aA (⟨rJ (by rw[eq_comm,decide_eq_false_iff_not];rintro rfl;rw[hx2] at hy2;injection hy2 with hy2;exact hxy hy2),rfl⟩)
  ·intro _ G hall;dsimp only[Bk.cs];repeat first|refine v_ ?_|intro
   exact aR rfl aF aA (⟨rJ (by rw[eq_comm,decide_eq_true_iff];rwa [hn,aAo,<-hn,hm,aAo] at hall),rfl⟩)
 ·repeat first|refine v_ ?_|intro
  exact aR rfl aF aA (⟨rJ (by rw[eq_comm,decide_eq_false_iff_not];rintro rfl;omega),rfl⟩)
end
end
section
theorem aOj{n:Nd}(h:n.up=true):n.state=n.s:=by unfold Nd.state;rw[if_pos h]
def aMm:List dK->List dK
 | []=>[]
 |q::l=>if (q.key.cD||l.any λx=>decide (x.key=q.key.other))=true then aMm l else q::aMm l
def aKs(a:bJ)(l:List dK):List dK:=l.filter λq=>decide (q.key.id=a)
theorem aLe(a:bJ)(l m:List dK):aKs a (l++m)=aKs a l++aKs a m:=aQz ..
theorem aKz(a:bJ)(q:dK):aKs a [q]=if q.key.id=a then[q] else[]:=by
 unfold aKs;by_cases h:q.key.id=a<;>simp[h]
def aLt(S:List dK)(x:dK):Prop:=∃(k:Nat) (q:dK),(aKs x.key.id S)[k]?=some q/\x=⟨⟨x.key.id,(k:Int)+1,false⟩,q.bC⟩
structure aMq(S:List dK)(s:List (bJ×Int)×List dK):Prop where
 c:∀a,lO s.1 a=(aKs a S).length
 m:∀x,x∈s.2↔aLt S x
theorem aMq.step{S:List dK}{s:List (bJ×Int)×List dK}(h:aMq S s)(q:dK):aMq (S++[q]) (yH s.1 q.key.id,s.2++[⟨⟨q.key.id,lO (yH s.1 q.key.id) q.key.id,false⟩,q.bC⟩]):=by
 refine⟨λa=>?_,λx=>?_⟩
 ·dsimp only;rw[aLe,aKz,aAe];by_cases e:q.key.id=a
  ·subst e;rw[Mz,if_pos rfl,h.c];rfl
  ·rw[aLa (aFh e),if_neg e,h.c];rfl
 ·dsimp only;rw[aBg,aAp,h.m,Mz,h.c];unfold aLt;rw[aLe,aKz];constructor
  ·rintro(⟨k,y,h1,h2⟩|rfl)
   ·exact⟨k,y,by rw[aBp (aAd.1 h1).1];exact h1,h2⟩
   ·refine⟨(aKs q.key.id S).length,q,?_,rfl⟩;dsimp only;rw[if_pos rfl,aBc (aAf _),aEi];rfl
  ·rintro⟨k,y,h1,h2⟩;by_cases hk:k<(aKs x.key.id S).length
   ·rw[aBp hk] at h1;exact .inl ⟨k,y,h1,h2⟩
   ·rw[aBc o_] at h1;have e:q.key.id=x.key.id:=by
     by_cases e:q.key.id=x.key.id
     ·exact e
     ·rw[if_neg e] at h1;cases h1
    rw[if_pos e] at h1;have hl:=(aAd.1 h1).1;rw[aDa] at hl;have hk0:k=(aKs x.key.id S).length:=o_;rw[hk0,aEi] at h1;obtain rfl:=aDk h1;refine .inr ?_;rw[h2,hk0,e]
theorem aMq.go:∀ {l S:List dK} {s:List (bJ×Int)×List dK},aMq S s->∀x,x∈sI l s↔aLt (S++aMm l) x
 | [],S,s,h,x=>by
  show x∈s.2↔aLt (S++[]) x;rw[aAc];exact h.m x
 |q::l,S,s,h,x=>by
  show x∈sI l (EZ l s q)↔_;unfold EZ aMm;by_cases hc:(q.key.cD||l.any λx=>decide (x.key=q.key.other))=true
  ·rw[if_pos hc,if_pos hc];exact aMq.go h x
  ·rw[if_neg hc,if_neg hc];have hu:q.key.cD=false:=by
    cases hx:q.key.cD with
    |false=>rfl
    |true=>exact absurd (by rw[hx];rfl) hc
   rw[hu,aMq.go (h.step q) x,aAb];rfl
theorem aPn(l:List dK)(x:dK):x∈sI l ([],[])↔aLt (aMm l) x:=by
 have h0:aMq [] ([],[]):=⟨λ_=>rfl,λx=>⟨λh=>(aAk h).elim,λ⟨k,q,h,_⟩=>by cases h⟩⟩
 have:=aMq.go (l:=l) h0 x
 rwa [aBq] at this
theorem aKn{a:bJ}{x:dK}:∀ {w:List cQ} {k:Nat},x∈AZ a k w↔∃(i:Nat) (f:cQ),w[i]?=some f/\x=⟨⟨a,((k+i:Nat):Int)+1,false⟩,f⟩
 | [],k=>⟨λh=>(aAk h).elim,λ⟨_,_,h,_⟩=>by cases h⟩
 |e::w,k=>by
  show x∈⟨⟨a,(k:Int)+1,false⟩,e⟩::AZ a (k+1) w↔_;rw[aEj,aKn];constructor
  ·rintro(rfl|⟨i,f,h1,rfl⟩)
   ·exact⟨0,e,rfl,rfl⟩
   ·exact⟨i+1,f,h1,by rw[show k+1+i=k+(i+1) by omega]⟩
  ·rintro⟨i,f,h1,rfl⟩;cases i with
   |zero=>obtain rfl:=aDk h1;exact .inl rfl
   |succ i=>exact .inr ⟨i,f,h1,by rw[show k+1+i=k+(i+1) by omega]⟩
theorem aKv{x:dK}:∀ {l:List aX} {W:List (List cQ)},x∈tW l W↔∃(i:Nat) (c:aX) (w:List cQ) (k:Nat) (f:cQ),l[i]?=some c/\W[i]?=some w/\w[k]?=some f/\x=⟨⟨c.id,((k:Nat):Int)+1,false⟩,f⟩
 | [],W=>⟨λh=>by unfold tW at h;exact(aAk h).elim,λ⟨_,_,_,_,_,h,_⟩=>by cases h⟩
 |_::_,[]=>⟨λh=>by unfold tW at h;exact(aAk h).elim,λ⟨_,_,_,_,_,_,h,_⟩=>by cases h⟩
 |c::l,w::W=>by
  show x∈AZ c.id 0 w++tW l W↔_;rw[aBg,aKn,aKv];constructor
  ·rintro(⟨k,f,h1,rfl⟩|⟨i,c',w',k,f,h1,h2,h3⟩)
   ·exact⟨0,c,w,k,f,rfl,rfl,h1,by rw[aCa]⟩
   ·exact⟨i+1,c',w',k,f,h1,h2,h3⟩
  ·rintro⟨i,c',w',k,f,h1,h2,h3,rfl⟩;cases i with
   |zero =>
    obtain rfl:=aDk h1;obtain rfl:=aDk h2;exact .inl ⟨k,f,h3,by rw[aCa]⟩
   |succ i=>exact .inr ⟨i,c',w',k,f,h1,h2,h3,rfl⟩
theorem aLu(a:bJ):∀(w:List cQ) (k:Nat),((AZ a k w).map dK.key).Nodup
 | [],_=>List.Pairwise.nil
 |e::w,k=>by
  show(dK.key ⟨⟨a,(k:Int)+1,false⟩,e⟩::(AZ a (k+1) w).map dK.key).Nodup;refine aQy.2 ⟨λh=>?_,aLu a w (k+1)⟩;obtain⟨x,hx,hk⟩:=aFn.1 h;obtain⟨i,f,_,rfl⟩:=aKn.1 hx;have:=congrArg bP.ord hk;dsimp only at this;omega
theorem aKm:∀ {l:List aX} (W:List (List cQ)),(l.map aX.id).Nodup->((tW l W).map dK.key).Nodup
 | [],_,_=>by unfold tW;exact List.Pairwise.nil
 |_::_,[],_=>by unfold tW;exact List.Pairwise.nil
 |c::l,w::W,h=>by
  rw[aCi,aQy] at h;show((AZ c.id 0 w++tW l W).map dK.key).Nodup;rw[aBk];refine aQv.2 ⟨aLu _ _ _,aKm W h.2,λa ha b hb e=>?_⟩;obtain⟨x,hx,rfl⟩:=aFn.1 ha;obtain⟨y,hy,rfl⟩:=aFn.1 hb;obtain⟨_,_,_,rfl⟩:=aKn.1 hx;obtain⟨i,c',_,_,_,h1,_,_,rfl⟩:=aKv.1 hy;have:=congrArg bP.id e;dsimp only at this;exact h.1 (by rw[this];exact aFi (aAi h1))
theorem aLx{k:Nat}:∀ {l:List aX} {W:List (List cQ)},(∀w∈W,w.length<=k)->(tW l W).length<=k*l.length
 | [],W,_=>by unfold tW;exact aAh _
 |_::_,[],_=>by unfold tW;exact aAh _
 |c::l,w::W,h=>by
  have h1:=h w aBo;have h2:=aLx (k:=k) (l:=l) (W:=W) λx hx=>h x (aBl _ hx);show(AZ c.id 0 w++tW l W).length<=_;rw[aAe,Dj,aAs,Nat.mul_succ];omega
theorem aKj{α β:Type}{f:α->β}{l:List α}(h:(l.map f).Nodup):l.Nodup:=(List.pairwise_map.1 h).imp λhn e=>hn (congrArg f e)
theorem aOe{l m:List dK}(hl:(l.map dK.key).Nodup)(hm:(m.map dK.key).Nodup)(h:∀x,x∈l↔x∈m):mB 0 l.length l=mB 0 m.length m:=by
 obtain⟨z,k1,k2,k3⟩:=aKd [] l [];obtain⟨y,j1,j2,j3⟩:=aKd [] m [];rw[aBq,aAc,aAc,aBq,aDh,aCa] at k1 j1;rw[k1,j1];have hp:l.Perm m:=(List.perm_ext_iff_of_nodup (aKj hl) (aKj hm)).2 h;exact aNb (k2.trans (hp.trans j2.symm)) k3 j3 ((k2.map dK.key).nodup_iff.2 hl)
abbrev B0(l:List aX):List (List cQ):=(gH sY l).2.map λo=>mU o true
theorem aNk{A:List dK}{l:List aX}(hid:(l.map aX.id).Nodup)(h:∀x,aLt (aMm A) x↔∃(i:Nat) (c:aX) (w:List cQ) (k:Nat) (f:cQ),l[i]?=some c/\(B0 l)[i]?=some w/\w[k]?=some f/\x=⟨⟨c.id,((k:Nat):Int)+1,false⟩,f⟩):FP A=Ep l:=by
 unfold FP Ep;refine aOe (aMe A) (aKm _ hid) λx=>?_;rw[aPn,h];exact aKv.symm
structure Dn(s:dS)(m:Nat):Prop where
 made:s.made=m
 len:s.l.length=m
 at_:∀(i:Nat) (e:bH),s.l[i]?=some e->e.ord=(i:Int)+1/\e.cX=true/\e.gone=false
structure Tn(s:dS)(m:Nat):Prop where
 made:s.made=(m:Int)+1
 len:s.l.length=m+1
 at_:∀(i:Nat) (e:bH),s.l[i]?=some e->e.ord=(i:Int)+1/\e.gone=false/\(e.cX=true↔i<m)
theorem Dn.zero{w:List cQ}:Dn ⟨0,[],w⟩ 0:=⟨rfl,rfl,λ_ _ h=>by cases h⟩
theorem Dn.pG{s:dS}{m:Nat}(h:Dn s m){e:bH}(he:e∈s.l):e.pG=false:=by
 obtain⟨i,hi⟩:=aQx he;obtain⟨_,h1,h2⟩:=h.at_ i e hi;unfold bH.pG;rw[h1,h2];rfl
theorem Dn.AP{s:dS}{m:Nat}(h:Dn s m):AP s.l=none:=by
 cases he:s.l[s.l.length - 1]? with
 |none=>unfold Sep.AP;rw[he]
 |some e=>exact Ch he (h.pG (aAi he))
theorem Dn.next{s:dS}{m:Nat}(h:Dn s m)(hm:m<255)(id:bJ):s.Yr id=(s.w[m]?).map λf=>⟨⟨id,(m:Int)+1,false⟩,f⟩:=by
 unfold dS.Yr Sep.next;rw[h.AP,h.len,h.made];dsimp only;cases hf:s.w[m]? with
 |none=>rw[Gm (.inl (aBx.1 hf))];rfl
 |some f=>rw[Mm hf o_];rfl
theorem Dn.ready{s:dS}{m:Nat}(h:Dn s m)(hm:m<255)(id:bJ){cf:fU}(hc:1<=cf.dC)(now:Int):Ej id s.made s.l s.w cf now=(s.w[m]?).isSome:=by
 have hn:=h.next hm id;unfold dS.Yr at hn;unfold Ej;rw[hn,h.AP,Option.isSome_map];dsimp only;rw[decide_eq_true hc,aRb]
theorem Dn.gV{s:dS}{m:Nat}(h:Dn s m)(hm:m<255)(id:bJ)(now:Int)(hw:m<s.w.length):Tn (s.gV id now) m/\(s.gV id now).w=s.w:=by
 rcases HJ (s:=s) (id:=id) (now:=now) with h1|⟨e,h1,_⟩|⟨f,_,_,_,h1⟩
 ·exfalso;have hn:=h.next hm id;rw[aAa hw] at hn;unfold dS.Yr at hn;have:=congrArg (λz:dS=>z.made) h1;unfold dS.gV at this;rw[MQ hn h.AP] at this;dsimp only[Option.getD] at this;omega
 ·rw[h.AP] at h1;cases h1
 ·rw[h1];refine⟨⟨by dsimp only;rw[h.made],by simp[h.len],λi e he=>?_⟩,rfl⟩;dsimp only at he;by_cases hi:i<s.l.length
  ·rw[aBp hi] at he;obtain⟨k1,k2,k3⟩:=h.at_ i e he;exact⟨k1,k3,⟨λ_=>by rw[<-h.len];exact hi,λ_=>k2⟩⟩
  ·have hl:=(aAd.1 he).1;rw[aAe,aDa] at hl;obtain rfl:i=s.l.length:=o_;rw[aBc (aAf _),aEi] at he;obtain rfl:=aDk he;have:=h.len;exact⟨by dsimp only;rw[h.made];omega,rfl,⟨(λh=>by cases h),λh=>by omega⟩⟩
theorem Dn.tA{s:dS}{m:Nat}(h:Dn s m)(hm:m<255)(id:bJ)(hw:m<s.w.length)(now:Int):s.tA id ⟨id,(m:Int)+1,false⟩=true/\(pK id s.made s.l s.w now).isSome=true:=by
 have hn:=h.next hm id;rw[aAa hw] at hn;refine⟨?_,?_⟩
 ·unfold dS.tA;rw[hn];exact decide_eq_true rfl
 ·unfold dS.Yr at hn;rw[MQ hn h.AP];rfl
theorem Tn.qJ{s:dS}{m:Nat}(h:Tn s m)(id:bJ):Dn (s.qJ id ⟨id,(m:Int)+1,false⟩) (m+1)/\(s.qJ id ⟨id,(m:Int)+1,false⟩).w=s.w/\(cX id s.l ⟨id,(m:Int)+1,false⟩).isSome=true:=by
 have hl:=h.len;obtain⟨e,he⟩:∃e,s.l[m]?=some e:=⟨_,aAa o_⟩
 obtain⟨k1,k2,k3⟩:=h.at_ m e he;have ha:e.cX=false:=by
  cases hx:e.cX with
  |false=>rfl
  |true=>have:=k3.1 hx;omega
 have hf:s.l.findIdx? (λe=>decide (e.ord=(m:Int)+1))=some m:=by
  rw[aDj];obtain⟨h1,h2⟩:=aAd.1 he;refine⟨h1,by rw[h2];exact decide_eq_true k1,λj hj=>?_⟩;have:=(h.at_ j _ (aAa o_)).1;rw[Bool.not_eq_true];exact decide_eq_false o_
 have hk:=HP (id:=id) (k:=⟨id,(m:Int)+1,false⟩) rfl hf he;rw[if_pos (by rw[ha];rfl)] at hk;have hs:s.qJ id ⟨id,(m:Int)+1,false⟩=⟨s.made,s.l.set m e.qJ,s.w⟩:=by unfold dS.qJ;rw[hk];rfl
 rw[hs,hk];refine⟨⟨by dsimp only;rw[h.made];omega,by simp[h.len],λi x hx=>?_⟩,rfl,rfl⟩;dsimp only at hx;by_cases hi:i=m
 ·subst hi;rw[aGh o_] at hx;obtain rfl:=aDk hx;exact⟨k1,rfl,k2⟩
 ·rw[aEq (aFh hi)] at hx;obtain⟨q1,q2,q3⟩:=h.at_ i x hx;have:=(aAd.1 hx).1;exact⟨q1,q3.2 o_,q2⟩
theorem Dn.quiet{s:dS}{m:Nat}(h:Dn s m):Sep.quiet s.l s.w=decide (m=s.w.length):=by
 unfold Sep.quiet;have:(s.l.all λe => !e.pG)=true:=aDm.2 λe he=>by rw[h.pG he];rfl
 rw[this,aRb,h.len]
def aKi(r:Int)(f:bJ->dS->dS)(ids:List bJ)(ps:List dS):List dS:=ps.mapIdx λi p=>if RT r i∈ids then f (RT r i) p else p
theorem aKf{r:Int}{i j:Nat}(h:RT r i=RT r j):i=j:=by
 have:=congrArg bJ.seq h;unfold RT at this;dsimp only at this;omega
theorem aJz(r:Int)(f:bJ->dS->dS)(ids:List bJ)(ps:List dS):(aKi r f ids ps).length=ps.length:=List.length_mapIdx
theorem aKb{r:Int}{f:bJ->dS->dS}{ids:List bJ}{ps:List dS}{i:Nat}{p:dS}(h:ps[i]?=some p):(aKi r f ids ps)[i]?=some (if RT r i∈ids then f (RT r i) p else p):=by
 unfold aKi;rw[aEh,h];rfl
theorem aMf(r:Int)(f:bJ->dS->dS)(ps:List dS):aKi r f [] ps=ps:=by
 refine aCk λi=>?_;cases h:ps[i]? with
 |none=>rw[aBx] at h⊢;rw[aJz];exact h
 |some p=>rw[aKb h,if_neg aAk]
theorem aLs{r:Int}{f:bJ->dS->dS}{ids:List bJ}{ps:List dS}{i:Nat}{p:dS}(h:ps[i]?=some p)(hn:RT r i∉ids):aKi r f (RT r i::ids) ps=aKi r f ids (ps.set i (f (RT r i) p)):=by
 have hi:=(aAd.1 h).1;refine aCk λj=>?_;by_cases hj:j=i
 ·subst hj;rw[aKb h,aKb (aGh hi),if_pos aBo,if_neg hn]
 ·cases hx:ps[j]? with
  |none =>
   rw[aBx] at hx;rw[aBx.2 (by rw[aJz];exact hx),aBx.2 (by rw[aJz,aAt];exact hx)]
  |some x =>
   rw[aKb hx,aKb (by rw[aEq (aFh hj)];exact hx)];have:RT r j∈RT r i::ids↔RT r j∈ids:=by
    rw[aEj];exact⟨λh=>h.resolve_left λe=>hj (aKf e),.inr⟩
   by_cases hm:RT r j∈ids
   ·rw[if_pos (this.2 hm),if_pos hm]
   ·rw[if_neg (λh=>hm (this.1 h)),if_neg hm]
def aLh(r:Int)(j i:Nat)(s:dS):List dK:=match s.w[j]? with
 |some f=>[⟨⟨RT r i,(j:Int)+1,false⟩,f⟩]
 |none=>[]
def row(r:Int)(j:Nat)(ps:List dS)(k:Nat):List dK:=jP (aLh r j) ps k
theorem aLy{α:Type}{f g:Nat->dS->List α}{ps qs:List dS}:∀ {k:Nat},(∀i,i<k->(match ps[i]? with|some s=>f i s|none=>[])=(match qs[i]? with|some s=>g i s|none=>[]))->jP f ps k=jP g qs k
 |0,_=>rfl
 |k+1,h=>by
  have h1:=aLy (k:=k) λi hi=>h i o_;have h2:=h k o_;show jP f ps k++_=jP g qs k++_;rw[h1];exact congrArg (jP g qs k++·) h2
theorem aMh{α:Type}{f:Nat->dS->List α}{ps:List dS}{x:α}:∀ {k:Nat},x∈jP f ps k↔∃i s,i<k/\ps[i]?=some s/\x∈f i s
 |0=>⟨λh=>(aAk h).elim,λ⟨_,_,h,_⟩=>by omega⟩
 |k+1=>by
  show x∈jP f ps k++_↔_;rw[aBg,aMh];constructor
  ·rintro(⟨i,s,h1,h2⟩|h)
   ·exact⟨i,s,by omega,h2⟩
   ·cases hs:ps[k]? with
    |none=>rw[hs] at h;exact(aAk h).elim
    |some s=>rw[hs] at h;exact⟨k,s,by omega,hs,h⟩
  ·rintro⟨i,s,h1,h2,h3⟩;by_cases hi:i<k
   ·exact .inl ⟨i,s,hi,h2,h3⟩
   ·obtain rfl:i=k:=o_;rw[h2];exact .inr h3
theorem mem_row{r:Int}{j k:Nat}{ps:List dS}{q:dK}:q∈row r j ps k↔∃i s f,i<k/\ps[i]?=some s/\s.w[j]?=some f/\q=⟨⟨RT r i,(j:Int)+1,false⟩,f⟩:=by
 unfold row;rw[aMh];constructor
 ·rintro⟨i,s,h1,h2,h3⟩;unfold aLh at h3;cases hf:s.w[j]? with
  |none=>rw[hf] at h3;exact(aAk h3).elim
  |some f=>rw[hf] at h3;exact⟨i,s,f,h1,h2,hf,aAp.1 h3⟩
 ·rintro⟨i,s,f,h1,h2,h3,h4⟩;refine⟨i,s,h1,h2,?_⟩;unfold aLh;rw[h3,h4];exact aAp.2 rfl
theorem aNa(r:Int)(j:Nat)(ps:List dS)(k:Nat):row r j ps (k+1)=row r j ps k++(match ps[k]? with|some s=>aLh r j k s|none=>[]):=rfl
theorem aMr(r:Int)(j:Nat)(ps:List dS):∀k,((row r j ps k).map λq=>q.key.id).Nodup
 |0=>List.Pairwise.nil
 |k+1=>by
  rw[aNa,aBk];refine aQv.2 ⟨aMr r j ps k,?_,λa ha b hb=>?_⟩
  ·cases ps[k]? with
   |none=>exact List.Pairwise.nil
   |some s =>
    show((aLh r j k s).map _).Nodup;unfold aLh;split<;>simp
  ·obtain⟨q,hq,rfl⟩:=aFn.1 ha;obtain⟨i,s,f,h1,_,_,rfl⟩:=mem_row.1 hq;intro e;obtain⟨x,hx,rfl⟩:=aFn.1 hb;cases hs:ps[k]? with
   |none=>rw[hs] at hx;exact(aAk hx).elim
   |some s =>
    rw[hs] at hx;unfold aLh at hx;dsimp only at hx;cases hf:s.w[j]? with
    |none=>rw[hf] at hx;exact(aAk hx).elim
    |some f =>
     rw[hf] at hx;rw[aAp.1 hx] at e;have:=aKf e;omega
theorem aPl(r:Int)(j:Nat)(ps:List dS)(k:Nat):(row r j ps k).length<=k:=K4 (λi s=>by unfold aLh;split<;>simp) ps k
end
end Go.Proofs.YtmilalkjbojciaaGreat.Sep
