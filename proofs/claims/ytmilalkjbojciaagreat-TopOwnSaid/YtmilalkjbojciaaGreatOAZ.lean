/- Part AZ: what it needs. No condition. -/
import Derived.Test.YtmilalkjbojciaaGreatOAA
import Derived.Test.YtmilalkjbojciaaGreatOAS
import Derived.Test.YtmilalkjbojciaaGreatOAP
set_option maxRecDepth 100000
set_option maxHeartbeats 8000000
open Go.Proofs.Tryz
namespace Go.Proofs.YtmilalkjbojciaaGreat.Sep
theorem Dn{o:Out}(h:o.fit)(pF:Bool):(∀f∈mU o pF,f.ok)∧(mU o pF).length≤8:=by
 have hl:∀l:List cQ,(l.filter tG).length+(l.filter kD).length≤l.length:=by
  intro l
  induction l with
  |nil=>exact aAf _
  |cons x l ih =>
   have:¬(tG x=true∧kD x=true):=by
    rintro⟨h1,h2⟩;unfold tG at h1;rw[h2] at h1;simp at h1
   simp only[List.filter_cons,aAs];split<;>split<;>(try simp only[aAs])<;>first|omega|(exfalso;exact this ⟨‹_›,‹_›⟩)
 have h1:=hl o.zM;have h2:=h.len;unfold mU;split
 ·refine⟨λf hf=>?_,?_⟩
  ·rcases aBg.1 hf with hf|hf
   ·exact h.zM f (List.mem_filter.1 hf).1
   ·split at hf
    ·exact h.zM f (List.mem_filter.1 hf).1
    ·exact(aAk hf).elim
  ·rw[aAe];split
   ·omega
   ·simp only[aDh];omega
 ·exact⟨λ_ h=>(aAk h).elim,aAh _⟩
theorem Fc:(⟨0,[]⟩:Out).fit:=⟨λ_ h=>(aAk h).elim,aAh _⟩
theorem xH{v:Lg}(hl:∀c∈v.l,c.ok)(ht:∀c∈v.t,c.ok)(a:bJ):(cE v a).1.fit:=by
 have key:∀ {l:List Out} {i:Nat},(∀o∈l,o.fit)→(l[i]?.getD ⟨0,[]⟩).fit:=by
  intro l i h;cases hi:l[i]? with
  |none=>exact Fc
  |some o=>exact h o (aAi hi)
 unfold cE;split
 ·exact key (mG pS hl).2
 split
 ·exact key (mG (mG pS hl).1 λc hc=>ht c (aBs hc)).2
 ·exact Fc
theorem tQ{v:Lg}{a:bJ}(h:(cE v a).2.2=true):∃c∈v.l++v.t,c.id=a:=by
 unfold cE at h;split at h
 ·rename_i h1;obtain⟨_,x,hx,hp⟩:=gZ h1;exact⟨x,aDn _ (aAi hx),of_decide_eq_true hp⟩
 ·split at h
  ·rename_i h1;obtain⟨_,x,hx,hp⟩:=gZ h1;exact⟨x,aCp _ (aAi hx),of_decide_eq_true hp⟩
  ·cases h
theorem Ie{l:List aX}{r:Int}{n:Nat}(h:∀q:Nat,q<n→∃c∈l,c.id=⟨r,((q+1:Nat):Int)⟩):n≤l.length:=by
 induction n generalizing l with
 |zero=>exact aAh _
 |succ n ih =>
  obtain⟨c,hc,hid⟩:=h n (Nat.lt_succ_self n);obtain⟨i,hi,hx⟩:=aBm hc;have h2:n≤(l.eraseIdx i).length:=ih λq hq=>by
   obtain⟨d,hd,hdid⟩:=h q (Nat.lt_succ_of_lt hq);refine⟨d,?_,hdid⟩;obtain⟨j,hj,hy⟩:=aBm hd;have hij:j≠i:=by
    rintro rfl;rw[hx] at hy;subst hy;rw[hid] at hdid;injection hdid with _ h3
    omega
   exact List.mem_eraseIdx_iff_getElem.2 ⟨j,hj,hij,hy⟩
  rw[List.length_eraseIdx_of_lt hi] at h2;omega
def gI(v:Lg)(r:Int)(q:Nat):Option (List cQ):=if (cE v ⟨r,((q+1:Nat):Int)⟩).2.2 then some (mU (cE v ⟨r,((q+1:Nat):Int)⟩).1 (cE v ⟨r,((q+1:Nat):Int)⟩).2.1) else none
def lU(v:Lg)(r:Int):Nat→Nat→List dS→List dS
 |0,_,ps=>ps
 |k+1,q,ps=>match gI v r q with
  |none=>ps
  |some w=>lU v r k (q+1) (rW ps ((q+1:Nat):Int) w)
theorem LV{ps:List dS}{i:Nat}{w:List cQ}:(mQ ps i w).length≤max ps.length (ps.length+1)∧(i<ps.length→(mQ ps i w).length=ps.length):=by
 unfold mQ;split
 ·exact⟨by simp,λ_=>by simp⟩
 ·exact⟨by simp,λh=>absurd h ‹_›⟩
theorem IT{ps:List dS}{q:Nat}{w:List cQ}{n:Nat}(h:ps.length≤n)(hq:q+1≤n):(rW ps ((q+1:Nat):Int) w).length≤n:=by
 unfold rW;split
 ·rename_i h1;have e:(((q+1:Nat):Int) - 1).toNat=q:=by omega
  rw[e];have:=LV (ps:=ps) (i:=q) (w:=w);by_cases h2:q<ps.length
  ·rw[this.2 h2];exact h
  ·unfold mQ;rw[if_neg h2];simp;omega
 ·exact h
def bJ.small(a:bJ):Prop:=(0≤a.rep∧a.rep≤255)∧0≤a.seq∧a.seq≤65535
structure Wk.cV(w:Wk):Prop where
 out:∀f∈w.out,f.check=0
 ref:w.ref.small
theorem bR{f:cQ}(hk:1≤f.kind∧f.kind≤11)(ha:0≤f.a∧f.a≤255)(hr:f.ref.small):f.check=0:=by
 unfold cQ.check;rw[if_pos hk,if_pos ⟨ha,hr.1,hr.2⟩]
theorem Wk.cV.tell{w:Wk}(h:w.cV)(kind a k:Int)(h1:1≤kind∧kind≤11)(h2:0≤a∧a≤255):(w.tell kind a k).cV :=
 ⟨λf hf=>by
  rcases aBg.1 hf with hf|hf
  ·exact h.out f hf
  ·obtain rfl:=aAp.1 hf;exact bR h1 h2 h.ref,h.ref⟩
theorem eK.tK{w:Wk}{r:Bk×Int}(hw:w.cV):eK Wk.cV (w.iQ r):=by
 unfold Wk.iQ;split
 ·exact eK.ok ⟨hw.out,hw.ref⟩
 ·exact eK.error
theorem eK.Bu{w:Wk}(hw:w.cV)(hb:w.b.fit){a:bJ}(ha:a.small)(st:List Int):eK (λp=>Wk.cV p.1∧p.2.fit) (w.order a st):=by
 obtain⟨q,hq⟩:∃q,q=FT w.b a st:=⟨_,rfl⟩
 obtain⟨o,k⟩:=q;rw[show w.order a st=_ from iF hq];split
 ·exact eK.ok ⟨⟨hw.out,ha⟩,hb.C7 o (BF hq ‹_›)⟩
 ·exact eK.error
theorem i7{x:Int}(h:0≤x∧x≤7):0≤x∧x≤255:=by omega
theorem Wk.Rl{w:Wk}(hw:w.cV)(hb:w.b.fit){c:aX}(hc:c.may=true):eK Wk.cV (w.do c):=by
 obtain⟨hid,hti,hki,ha,hbb,hr1,hr2⟩:=(aX.bY c).1 hc;have href:c.ref.small:=⟨hr1,hr2⟩
 have hids:c.id.small:=⟨⟨hid.1,by omega⟩,by omega,hid.2.2.2⟩
 unfold Wk.do;split
 ·exact eK.ask λ_=>eK.tK hw
 split
 ·exact eK.ask λ_=>(eK.tK hw).bind λx hx=>eK.pure (hx.tell _ _ _ sD ha)
 split
 ·refine eK.ask λhp=>?_;have tA:0≤oI w.b c∧oI w.b c≤255:=by
   unfold oI;split
   ·rename_i h;simp only[aAv] at h;exact i7 (Cn h.2)
   ·exact hbb
  refine(eK.tK hw).bind λx hx=>(eK.tK hx).bind λy hy=>?_;exact eK.pure (Wk.cV.tell (Wk.cV.tell (w:={ y with ref:=c.id }) ⟨hy.out,hids⟩ _ _ _ sD tA) _ _ _ sD ha)
 split
 ·refine eK.ask λhp=>?_;refine(eK.Bu hw hb href _).bind λp hp2=>?_;obtain⟨w1,o⟩:=p;obtain⟨h1,h3⟩:=hp2;dsimp only at h1 h3⊢;have key:∀x:Wk,x.cV→eK Wk.cV (pure ((x.put { o with iN:=c.n } 1).tell 2 o.item c.n)):=λx hx=>eK.pure (Wk.cV.tell (w:=x.put { o with iN:=c.n } 1) ⟨hx.out,hx.ref⟩ _ _ _ sD (i7 h3.item));split
  ·exact(eK.tK h1).bind λx hx=>key x hx
  ·exact(eK.tK h1).bind λx hx=>key x hx
 split
 ·refine(eK.Bu hw hb href _).bind λp hp2=>?_;obtain⟨w1,o⟩:=p;obtain⟨h1,h3⟩:=hp2;dsimp only at h1 h3⊢;refine(eK.tK h1).bind λx hx=>?_;have hx1:=hx.tell 3 o.item o.iN sD (i7 h3.item);have key:∀y:Wk,y.cV→eK Wk.cV (pure ((y.put o 4).tell 7 o.cC 2)):=λy hy=>eK.pure (Wk.cV.tell (w:=y.put o 4) ⟨hy.out,hy.ref⟩ _ _ _ sD (i7 h3.cC));split
  ·refine eK.bind (p:=Wk.cV) ?_ λy hy=>key y hy;exact(eK.tK hx1).bind λy hy=>eK.pure (hy.tell _ _ _ sD (i7 h3.cC))
  ·exact eK.bind (p:=Wk.cV) (eK.ok hx1) λy hy=>key y hy
 split
 ·refine(eK.Bu hw hb href _).bind λp hp2=>?_;obtain⟨w1,o⟩:=p;obtain⟨h1,h3⟩:=hp2;dsimp only at h1 h3⊢;split
  ·exact eK.error
  ·refine(eK.tK h1).bind λx hx=>?_;exact eK.pure (Wk.cV.tell (Wk.cV.tell (w:=x.put { o with cost:=(mY w1.b o.item o.iN).1 } 2) ⟨hx.out,hx.ref⟩ _ _ _ sD (i7 h3.cC)) _ _ _ sD (i7 h3.cC))
 split
 ·refine(eK.Bu hw hb href _).bind λp hp2=>?_;obtain⟨w1,o⟩:=p;obtain⟨h1,h3⟩:=hp2;dsimp only at h1 h3⊢;exact eK.pure ((((Wk.cV.tell (w:=w1.put o 3) ⟨h1.out,h1.ref⟩ _ _ _ sD (i7 h3.item)).tell _ _ _ sD (i7 h3.item)).tell _ _ _ sD (i7 h3.item)).tell _ _ _ sD (i7 h3.cC))
 split
 ·refine(eK.Bu hw hb href _).bind λp hp2=>?_;obtain⟨w1,o⟩:=p;obtain⟨h1,h3⟩:=hp2;dsimp only at h1 h3⊢;refine(eK.tK h1).bind λx hx=>?_;exact eK.pure (Wk.cV.tell (w:=x.put o 5) ⟨hx.out,hx.ref⟩ _ _ _ sD (i7 h3.cC))
 split
 ·exact eK.tK hw
 ·exact eK.error
def Out.cV(o:Out):Prop:=∀f∈o.zM,f.check=0
theorem Pk{b:Bk}(h:b.fit){c:aX}(hc:c.may=true):(C0 b c).2.cV:=by
 have hw:Wk.cV ⟨b,[],⟨0,0⟩⟩:=⟨(λ_ h=>(aAk h).elim),(show bJ.small ⟨0,0⟩ by unfold bJ.small;decide)⟩
 unfold C0;cases hd:Wk.do ⟨b,[],⟨0,0⟩⟩ c with
 |ok w=>exact(Wk.Rl hw h hc w hd).out
 |error k=>exact λ_ h=>(aAk h).elim
theorem DS{b:Bk}(h:b.fit){l:List aX}(hl:∀c∈l,c.ok)(hm:∀c∈l,c.may=true):∀o∈(gH b l).2,o.cV:=by
 induction l generalizing b with
 |nil=>exact λ_ h=>by cases h
 |cons c l ih =>
  have h1:=Ki h (hl c aBo);have h2:=ih h1.1 (λx hx=>hl x (aBl _ hx)) λx hx=>hm x (aBl _ hx);intro o ho;rcases aEj.1 ho with rfl|ho
  ·exact Pk h (hm c aBo)
  ·exact h2 o ho
theorem C6{v:Lg}(hl:∀c∈v.l,c.ok)(ht:∀c∈v.t,c.ok)(hlm:∀c∈v.l,c.may=true)(htm:∀c∈v.t,c.may=true)(a:bJ):(cE v a).1.cV:=by
 have key:∀ {l:List Out} {i:Nat},(∀o∈l,o.cV)→(l[i]?.getD ⟨0,[]⟩).cV:=by
  intro l i h;cases hi:l[i]? with
  |none=>exact λ_ h=>(aAk h).elim
  |some o=>exact h o (aAi hi)
 unfold cE;split
 ·exact key (DS pS hl hlm)
 split
 ·exact key (DS (mG pS hl).1 (λc hc=>ht c (aBs hc)) λc hc=>htm c (aBs hc))
 ·exact λ_ h=>(aAk h).elim
theorem Jb{o:Out}(h:o.cV)(pF:Bool):∀f∈mU o pF,f.check=0:=by
 unfold mU;split
 ·intro f hf;rcases aBg.1 hf with hf|hf
  ·exact h f (List.mem_filter.1 hf).1
  ·split at hf
   ·exact h f (List.mem_filter.1 hf).1
   ·exact(aAk hf).elim
 ·exact λ_ h=>(aAk h).elim
end Go.Proofs.YtmilalkjbojciaaGreat.Sep
