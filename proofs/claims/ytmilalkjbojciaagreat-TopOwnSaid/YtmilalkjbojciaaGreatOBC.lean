/- Part BC: what it needs. No condition. -/
import Derived.Test.YtmilalkjbojciaaGreatOAA
import Derived.Test.YtmilalkjbojciaaGreatOBB
set_option maxRecDepth 100000
set_option maxHeartbeats 8000000
open Go.Proofs.Tryz
namespace Go.Proofs.YtmilalkjbojciaaGreat.Sep
theorem V4.mE{v:V4}{i j x:Int}(hi:0≤i∧i≤3)(hj:0≤j∧j≤3):(v.set i x).get j=if j=i then x else v.get j:=by
 rcases four hi with rfl|rfl|rfl|rfl<;>rcases four hj with rfl|rfl|rfl|rfl<;>rfl
theorem V4.set_comm{v:V4}{i j x y:Int}(hi:0≤i∧i≤3)(hj:0≤j∧j≤3)(h:i≠j):(v.set i x).set j y=(v.set j y).set i x:=by
 rcases four hi with rfl|rfl|rfl|rfl<;>rcases four hj with rfl|rfl|rfl|rfl<;>first|exact absurd rfl h|rfl
def gT(k t:V4)(c:aX):Bool:=Ak k t c&&c.may
def follow(k t:V4):List aX→Option (V4×V4)
 | []=>some (k,t)
 |c::l=>if gT k t c then follow (k.set c.id.rep c.id.seq) (t.set c.id.rep c.time) l else none
theorem gY{k t:V4}{c:aX}:gT k t c=true↔c.may=true∧(0≤c.id.rep∧c.id.rep≤3)∧c.id.seq=k.get c.id.rep+1∧t.get c.id.rep<c.time:=by
 unfold gT Ak vK;rw[aAv,aAv,aAv,aAv,decide_eq_true_eq,decide_eq_true_eq,decide_eq_true_eq];constructor
 ·rintro⟨⟨⟨⟨_,h2⟩,h3⟩,h4⟩,h5⟩;have hm:=(aX.bY c).1 h5;refine⟨h5,⟨hm.1.1,hm.1.2.1⟩,?_,h4⟩;rw[if_pos ⟨hm.1.1,hm.1.2.1⟩] at h2;split at h2
  ·have:=congrArg bJ.seq h2;dsimp only at this;have:=hm.1.2.2.1;omega
  ·exact(congrArg bJ.seq h2).symm
 ·rintro⟨h5,h1,h2,h4⟩;have hm:=(aX.bY c).1 h5;refine⟨⟨⟨⟨(bJ.bY c.id).2 hm.1,?_⟩,hm.2.1⟩,h4⟩,h5⟩;rw[if_pos h1,if_neg o_,←h2]
theorem eU(k t:V4)(a b:List aX):follow k t (a++b)=(follow k t a).bind λp=>follow p.1 p.2 b:=by
 induction a generalizing k t with
 |nil=>rfl
 |cons c a ih =>
  rw[aCj,follow,follow];split
  ·exact ih _ _
  ·rfl
theorem Gy{k t:V4}{x c:aX}{l:List aX}(h:x.id.rep≠c.id.rep)(hx:0≤x.id.rep∧x.id.rep≤3)(hc:0≤c.id.rep∧c.id.rep≤3):follow k t (x::c::l)=follow k t (c::x::l):=by
 have key:∀ {x c:aX},x.id.rep≠c.id.rep→(0≤x.id.rep∧x.id.rep≤3)→(0≤c.id.rep∧c.id.rep≤3)→gT (k.set x.id.rep x.id.seq) (t.set x.id.rep x.time) c=gT k t c:=by
  intro x c h hx hc;rw[aBz,gY,gY,V4.mE hx hc,V4.mE hx hc,if_neg (aFh h),if_neg (aFh h)]
 simp only[follow];rw[key h hx hc,key (aFh h) hc hx,V4.set_comm hx hc h,V4.set_comm hx hc h];cases gT k t x<;>cases gT k t c<;>simp
theorem Ac{k t:V4}{a b:List aX}{c:aX}(h:∀x∈a,x.id.rep≠c.id.rep∧0≤x.id.rep∧x.id.rep≤3)(hc:0≤c.id.rep∧c.id.rep≤3):follow k t (a++c::b)=follow k t (c::(a++b)):=by
 induction a generalizing k t with
 |nil=>rfl
 |cons x a ih =>
  have hx:=h x aBo;rw[aCj,aCj,←Gy hx.1 hx.2 hc,follow,follow];split
  ·exact ih λy hy=>h y (aBl _ hy)
  ·rfl
theorem Ah{k t k' t':V4}{l:List aX}(h:follow k t l=some (k',t')){r:Int}(hr:0≤r∧r≤3):k.get r≤k'.get r∧t.get r≤t'.get r:=by
 induction l generalizing k t with
 |nil=>injection h with h;injection h with h1 h2;subst h1 h2;exact⟨aCd _,aCd _⟩
 |cons c l ih =>
  rw[follow] at h;split at h
  ·rename_i hn;obtain⟨_,h1,h2,h3⟩:=gY.1 hn;have:=ih h;rw[V4.mE h1 hr,V4.mE h1 hr] at this;split at this
   ·rename_i e;subst e;omega
   ·exact this
  ·cases h
theorem jF{k t k' t':V4}{l:List aX}(h:follow k t l=some (k',t')){x:aX}(hx:x∈l):x.may=true∧(0≤x.id.rep∧x.id.rep≤3)∧k.get x.id.rep<x.id.seq∧x.id.seq≤k'.get x.id.rep∧t.get x.id.rep<x.time∧x.time≤t'.get x.id.rep:=by
 induction l generalizing k t with
 |nil=>exact absurd hx (aAk)
 |cons c l ih =>
  rw[follow] at h;split at h
  ·rename_i hn;obtain⟨h0,h1,h2,h3⟩:=gY.1 hn;rcases aEj.1 hx with rfl|hx
   ·have:=Ah h h1;rw[V4.mE h1 h1,V4.mE h1 h1,if_pos rfl,if_pos rfl] at this;exact⟨h0,h1,by omega,this.1,h3,this.2⟩
   ·obtain⟨q0,q1,q2,q3,q4,q5⟩:=ih h hx;rw[V4.mE h1 q1] at q2 q4;refine⟨q0,q1,?_,q3,?_,q5⟩
    ·split at q2
     ·rename_i e;rw[e];omega
     ·exact q2
    ·split at q4
     ·rename_i e;rw[e];omega
     ·exact q4
  ·cases h
theorem BT{k t k' t':V4}{l:List aX}(h:follow k t l=some (k',t')){r q:Int}(hr:0≤r∧r≤3)(h1:k.get r<q)(h2:q≤k'.get r):∃x∈l,x.id=⟨r,q⟩:=by
 induction l generalizing k t with
 |nil=>injection h with h;injection h with h3 h4;subst h3;omega
 |cons c l ih =>
  rw[follow] at h;split at h
  ·rename_i hn;obtain⟨_,g1,g2,g3⟩:=gY.1 hn;by_cases e:r=c.id.rep∧q=c.id.seq
   ·exact⟨c,aBo,by cases hc:c.id;rw[hc] at e;rw[e.1,e.2]⟩
   ·obtain⟨x,hx,hid⟩:=ih h (by rw[V4.mE g1 hr];split;(rename_i e2;rw[e2] at h1;omega);exact h1);exact⟨x,aBl _ hx,hid⟩
  ·cases h
theorem MW{k t k' t':V4}{a b:List aX}{c x:aX}(h:follow k t (a++c::b)=some (k',t'))(hx:x∈a)(hr:x.id.rep=c.id.rep):x.id.seq<c.id.seq:=by
 rw[eU] at h;cases h1:follow k t a with
 |none=>rw[h1] at h;cases h
 |some p =>
  rw[h1] at h;have h2:follow p.1 p.2 (c::b)=some (k',t'):=h;have h3:=jF (l:=a) (k':=p.1) (t':=p.2) h1 hx;have h4:=(jF h2 (x:=c) aBo).2.2.1;rw[hr] at h3;omega
theorem wQ(a b:Int):(a<b∧sX a b = -1)∨(a=b∧sX a b=0)∨(b<a∧sX a b=1):=by
 unfold sX;rcases Int.lt_trichotomy a b with h|h|h
 ·exact .inl ⟨h,by rw[if_pos h]⟩
 ·exact .inr (.inl ⟨h,by rw[if_neg o_,if_neg o_]⟩)
 ·exact .inr (.inr ⟨h,by rw[if_neg o_,if_pos h]⟩)
theorem yQ(a b:aX):iP a b<0↔a.time<b.time∨a.time=b.time∧(a.id.rep<b.id.rep∨a.id.rep=b.id.rep∧a.id.seq<b.id.seq):=by
 unfold iP;rcases wQ a.time b.time with⟨h,e⟩|⟨h,e⟩|⟨h,e⟩<;>rcases wQ a.id.rep b.id.rep with⟨h2,e2⟩|⟨h2,e2⟩|⟨h2,e2⟩<;>rcases wQ a.id.seq b.id.seq with⟨h3,e3⟩|⟨h3,e3⟩|⟨h3,e3⟩<;>rw[e,e2,e3]<;>simp[DC]<;>omega
def HL(l:List aX):Prop:=l.Pairwise λx y=>iP x y<0
theorem zE{α:Type}{p:α→Bool}{l:List α}{x:α}(hx:x∈l.drop (behind p l)):p x=false:=by
 induction l with
 |nil=>simp at hx
 |cons a l ih =>
  rw[behind] at hx;split at hx
  ·exact ih hx
  ·rename_i h0;have h0:behind p l=0:=by omega
   rw[h0,aCh] at ih;split at hx
   ·exact ih hx
   ·rename_i ha;rcases aEj.1 hx with rfl|hx
    ·simpa using ha
    ·exact ih hx
theorem Gu{α:Type}{p:α→Bool}{l:List α}{n:Nat}(h:behind p l=n+1):∃x,l[n]?=some x∧p x=true:=by
 induction l generalizing n with
 |nil=>cases h
 |cons a l ih =>
  rw[behind] at h;split at h
  ·rename_i h0;obtain⟨m,hm⟩:∃m,behind p l=m+1:=⟨behind p l - 1,by omega⟩
   obtain⟨x,h1,h2⟩:=ih hm;obtain rfl:n=m+1:=by omega
   exact⟨x,by simpa using h1,h2⟩
  ·split at h
   ·rename_i ha;obtain rfl:n=0:=by omega
    exact⟨a,rfl,ha⟩
   ·cases h
theorem HL.put{l:List aX}(h:HL l){c:aX}(hd:∀x∈l,x.id≠c.id):HL (lG l c):=by
 unfold HL lG at *;have hle:=AJ (λx=>decide (¬iP c x<0)) l;have haft:∀y∈l.drop (uI l c),iP c y<0:=λy hy=>by
  have:=zE hy;simpa using this
 have hpre:∀y∈l.take (uI l c),iP y c<0:=by
  intro y hy;cases hn:uI l c with
  |zero=>rw[hn] at hy;simp at hy
  |succ n =>
   obtain⟨z,hz,hp⟩:=Gu hn;have hp:¬iP c z<0:=by simpa using hp
   have hzc:iP z c<0:=by
    rw[yQ] at hp⊢;have:=hd z (aAi hz);have:¬(z.id.rep=c.id.rep∧z.id.seq=c.id.seq):=λh=>this (bJ.eq_iff.2 h);omega
   rw[hn,take_succ hz] at hy;rcases aBg.1 hy with hy|hy
   ·obtain⟨i,hi,rfl⟩:=aBm hy;have hyz:iP (l.take n)[i] z<0:=by
     obtain⟨hnl,rfl⟩:=aAd.1 hz;rw[aAg] at hi;rw[List.getElem_take];exact List.pairwise_iff_getElem.1 h i n o_ hnl o_
    rw[yQ] at hyz hzc⊢;omega
   ·rw[aAp] at hy;subst hy;exact hzc
 rw[aAb,aFf];refine⟨h.sublist (aFt _ _),?_,?_⟩
 ·rw[List.singleton_append,List.pairwise_cons];exact⟨haft,h.sublist (List.drop_sublist _ _)⟩
 ·intro a ha b hb;rcases aBg.1 hb with hb|hb
  ·rw[aAp] at hb;subst hb;exact hpre a ha
  ·rw[←aAx (uI l c) l,aFf] at h;exact h.2.2 a ha b hb
theorem DW{l:List aX}{c:aX}(h:HL (l++[c])):lG l c=l++[c]:=by
 unfold HL at h;rw[aFf] at h;have e:uI l c=l.length:=by
  unfold uI;rcases List.eq_nil_or_concat l with rfl|⟨m,z,rfl⟩
  ·rfl
  ·have hz:iP z c<0:=h.2.2 z (by simp) c (by simp);rw[List.concat_eq_append,D4 (i:=m.length) (x:=z) (by simp) (by rw[decide_eq_true_eq];rw[yQ] at hz⊢;omega) (λj y hj hy=>by
    have:=(aAd.1 hy).1;simp at this;omega)]
   simp
 unfold lG;rw[e,aAo,aCy,aAc]
theorem JN{k t k' t':V4}{a l:List aX}{c:aX}(h:follow k t (a++l)=some (k',t'))(hn:gT k' t' c=true):follow k t (a++lG l c)=some (k'.set c.id.rep c.id.seq,t'.set c.id.rep c.time):=by
 obtain⟨_,g1,g2,g3⟩:=gY.1 hn;have haft:∀y∈l.drop (uI l c),y.id.rep≠c.id.rep∧0≤y.id.rep∧y.id.rep≤3:=λy hy=>by
  have h1:iP c y<0:=by simpa using zE hy
  have h2:=jF h (aCp _ (aDw hy));refine⟨λe=>?_,h2.2.1⟩;have h3:=h2.2.2.2.2.2;rw[yQ] at h1;rw[e] at h3;omega
 unfold lG;rw[aAb,List.singleton_append,←aAb,eU];have h5:follow k t ((a++l.take (uI l c))++l.drop (uI l c))=some (k',t'):=by rw[aAb,aAx];exact h
 rw[eU] at h5;cases h6:follow k t (a++l.take (uI l c)) with
 |none=>rw[h6] at h5;cases h5
 |some p =>
  rw[h6] at h5;have h5:follow p.1 p.2 (l.drop (uI l c))=some (k',t'):=h5;show follow p.1 p.2 (c::l.drop (uI l c))=_;have h7:=Ac (k:=p.1) (t:=p.2) (b:=[]) (c:=c) haft g1;rw[aAc] at h7;rw[←h7,eU,h5];show(if gT k' t' c then _ else none)=_;rw[if_pos hn];rfl
theorem Fe{k t k' t':V4}{a x y:List aX}{c:aX}(h:follow k t (a++(x++c::y))=some (k',t'))(hf:∀z∈x,¬(z.id.rep=c.id.rep∧z.id.seq<c.id.seq)):follow k t (a++[c]++(x++y))=some (k',t'):=by
 have hx:∀z∈x,z.id.rep≠c.id.rep∧0≤z.id.rep∧z.id.rep≤3:=λz hz=>by
  have h2:=jF h (aCp _ (aDn _ hz));refine⟨λe=>hf z hz ⟨e,?_⟩,h2.2.1⟩;rw[←aAb] at h;exact MW h (aCp _ hz) e
 have hc:=(jF h (x:=c) (by simp)).2.1;rw[←h,aAb,eU,eU,List.singleton_append];congr 1;funext p;exact(Ac hx hc).symm
end Go.Proofs.YtmilalkjbojciaaGreat.Sep
