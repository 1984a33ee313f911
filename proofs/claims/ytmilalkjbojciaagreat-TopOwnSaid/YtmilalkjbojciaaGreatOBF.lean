/- Part BF: what it needs. No condition. -/
import Derived.Test.YtmilalkjbojciaaGreatOAA
import Derived.Test.YtmilalkjbojciaaGreatOBD
import Derived.Test.YtmilalkjbojciaaGreatOAZ
import Derived.Test.YtmilalkjbojciaaGreatOBC
set_option maxRecDepth 100000
set_option maxHeartbeats 8000000
open Go.Proofs.Tryz
namespace Go.Proofs.YtmilalkjbojciaaGreat.Sep
structure Vd(v:Lg):Prop where
 MM:follow FR FR (v.l++v.t)=some (v.known,v.times)
 T4:∀c∈v.l,c.ok
 TZ:∀c∈v.t,c.ok
 len:v.l.length+v.t.length≤48
 HL:HL v.t
structure Gd(s:Sv):Prop where
 v:Vd s.v
 rep:0≤s.r∧s.r≤3
 n:(s.ps.length:Int)=s.v.known.get s.r
 w:∀(q:Nat) (p:dS),s.ps[q]?=some p→gI s.v s.r q=some p.w
 ch:JL s.ps
theorem BQ{r:Int}:FR.get r=0:=by unfold V4.get;split;rfl;split;rfl;split;rfl;rfl
theorem Vd.may{v:Lg}(h:Vd v){c:aX}(hc:c∈v.l++v.t):c.may=true:=(jF h.MM hc).1
theorem AH{l:List aX}{a:bJ}:0≤bI l a↔∃c∈l,c.id=a:=by
 have:=rC (λc:aX=>decide (c.id=a)) l;constructor
 ·intro h;rw[show place (λc:aX=>decide (c.id=a)) l=bI l a from rfl,decide_eq_true h] at this;obtain⟨c,h1,h2⟩:=aEm.1 this.symm;exact⟨c,h1,of_decide_eq_true h2⟩
 ·rintro⟨c,h1,h2⟩;rw[aEm.2 ⟨c,h1,by rw[h2];exact decide_eq_true rfl⟩] at this;exact of_decide_eq_true this
theorem EO{v:Lg}{a:bJ}:(cE v a).2.2=true↔∃c∈v.l++v.t,c.id=a:=by
 refine⟨tQ,?_⟩;rintro⟨c,hc,h2⟩;unfold cE;split
 ·rfl
 ·split
  ·rfl
  ·rename_i n1 n2;rcases aBg.1 hc with hc|hc
   ·exact absurd (AH.2 ⟨c,hc,h2⟩) n1
   ·exact absurd (AH.2 ⟨c,hc,h2⟩) n2
theorem HV{v:Lg}(h:Vd v){r:Int}(hr:0≤r∧r≤3)(q:Nat):(gI v r q).isSome=true↔(q:Int)<v.known.get r:=by
 have e:(gI v r q).isSome=(cE v ⟨r,((q+1:Nat):Int)⟩).2.2:=by
  unfold gI;split
  ·rename_i h;rw[h];rfl
  ·rename_i h;simpa using h
 rw[e,EO];constructor
 ·rintro⟨c,hc,hid⟩;have:=jF h.MM hc;rw[hid] at this;dsimp only at this;omega
 ·intro hq;exact BT h.MM hr (by rw[BQ];omega) o_
theorem JJ{v:Lg}(h:Vd v){r:Int}{q:Nat}{w:List cQ}(hw:gI v r q=some w):(∀f∈w,f.ok)∧w.length≤8∧∀f∈w,f.check=0:=by
 unfold gI at hw;split at hw
 ·injection hw with hw
  subst hw;have h1:=Dn (xH h.T4 h.TZ ⟨r,((q+1:Nat):Int)⟩) (cE v ⟨r,((q+1:Nat):Int)⟩).2.1;exact⟨h1.1,h1.2,Jb (C6 h.T4 h.TZ (λc hc=>h.may (aDn _ hc)) (λc hc=>h.may (aCp _ hc)) _) _⟩
 ·cases hw
theorem Vd.count{v:Lg}(h:Vd v){r:Int}(hr:0≤r∧r≤3):0≤v.known.get r∧v.known.get r≤48:=by
 have h0:=Ah h.MM hr;rw[BQ] at h0;refine⟨h0.1,?_⟩;have hp:=Ie (l:=v.l++v.t) (r:=r) (n:=(v.known.get r).toNat) λq hq=>BT h.MM hr (by rw[BQ];omega) o_;rw[aAe] at hp;have:=h.len;omega
theorem YK{p:dS}(h:JO p){w:List cQ}(hw:(∀f∈w,f.ok)∧w.length≤8∧∀f∈w,f.check=0):JO (p.put w):=⟨dS.OO h.1 hw.1 hw.2.1,h.2.put hw.2.2⟩
theorem Br{ps:List dS}{q:Nat}{w:List cQ}(hq:q≤ps.length)(i:Nat):(mQ ps q w)[i]?=if i=q then some ((ps.getD q s0).put w) else ps[i]?:=by
 unfold mQ;by_cases h:q<ps.length
 ·rw[if_pos h,aDr];by_cases e:q=i
  ·subst e;rw[if_pos rfl,if_pos h,if_pos rfl]
  ·rw[if_neg e,if_neg (aFh e)]
 ·obtain rfl:q=ps.length:=by omega
  rw[if_neg h];by_cases e:i=ps.length
  ·subst e;rw[if_pos rfl,aBc (aAf _),aEi,aBb,aBx.2 (aAf _)];rfl
  ·rw[if_neg e];by_cases h2:i<ps.length
   ·rw[aBp h2]
   ·rw[aBx.2 (by simp;omega),aBx.2 o_]
theorem Aa{v:Lg}{r:Int}{K:Nat}(hK:∀q:Nat,(gI v r q).isSome=true↔q<K):∀(n q:Nat) (ps:List dS),q≤K→K<q+n→q≤ps.length→ps.length≤K →
  (lU v r n q ps).length=K∧∀i,i<K→(lU v r n q ps)[i]?=if i<q then ps[i]? else some ((ps.getD i s0).put ((gI v r i).getD []))
 |0,q,ps,h1,h2,_,_=>by omega
 |n+1,q,ps,h1,h2,h3,h4=>by
  rw[lU];have hk:=hK q;cases hw:gI v r q with
  |none =>
   rw[hw] at hk;have:¬q<K:=λh=>by have:=hk.2 h;cases this
   exact⟨by dsimp only;omega,λi hi=>by dsimp only;rw[if_pos o_]⟩
  |some w =>
   rw[hw] at hk;have hq:q<K:=hk.1 rfl;have e:rW ps ((q+1:Nat):Int) w=mQ ps q w:=by
    unfold rW;rw[if_pos o_];congr 1;omega
   dsimp only;rw[e];have hl:(mQ ps q w).length=max ps.length (q+1):=by
    unfold mQ;split
    ·rw[aAt];omega
    ·rw[aAe];simp;omega
   obtain⟨g1,g2⟩:=Aa hK n (q+1) (mQ ps q w) o_ o_ o_ o_;refine⟨g1,λi hi=>?_⟩;rw[g2 i hi];by_cases e1:i<q
   ·rw[if_pos e1,if_pos o_,Br h3,if_neg o_]
   ·rw[if_neg e1];by_cases e2:i=q
    ·subst e2;rw[if_pos o_,Br h3,if_pos rfl,hw];rfl
    ·rw[if_neg o_,aBb,Br h3,if_neg e2,←aBb]
theorem Gd.JG{v:Lg}{r:Int}{ps:List dS}(hv:Vd v)(hr:0≤r∧r≤3)(hc:JL ps)(hn:(ps.length:Int)≤v.known.get r):Gd (Sv.again ⟨v,ps,r⟩)∧∀i,i<(v.known.get r).toNat→(Sv.again ⟨v,ps,r⟩).ps[i]?=some ((ps.getD i s0).put ((gI v r i).getD [])):=by
 have hcnt:=hv.count hr;have hK:∀q:Nat,(gI v r q).isSome=true↔q<(v.known.get r).toNat:=λq=>by rw[HV hv hr];omega
 obtain⟨h1,h2⟩:=Aa hK 49 0 ps (aAh _) o_ (aAh _) o_;have h3:∀i,i<(v.known.get r).toNat→(lU v r 49 0 ps)[i]?=some ((ps.getD i s0).put ((gI v r i).getD [])):=λi hi=>by rw[h2 i hi,if_neg o_]
 have hsome:∀i,i<(v.known.get r).toNat→∃w,gI v r i=some w:=λi hi=>by
  have:=(hK i).2 hi;cases hw:gI v r i with
  |none=>rw[hw] at this;cases this
  |some w=>exact⟨w,rfl⟩
 refine⟨⟨hv,hr,?_,?_,?_⟩,h3⟩
 ·show((lU v r 49 0 ps).length:Int)=_;rw[h1];show((v.known.get r).toNat:Int)=v.known.get r;omega
 ·intro q p hp;have hlt:=(aAd.1 hp).1;have hlt:q<(v.known.get r).toNat:=by rw[←h1];exact hlt
  have e:some ((ps.getD q s0).put ((gI v r q).getD []))=some p:=(h3 q hlt).symm.trans hp;injection e with e
  obtain⟨w,hw⟩:=hsome q hlt;show gI v r q=some p.w;rw[←e,hw];rfl
 ·intro p hp;obtain⟨i,hi,rfl⟩:=aBm hp;have hlt:i<(v.known.get r).toNat:=by rw[←h1];exact hi
  have e:some ((ps.getD i s0).put ((gI v r i).getD []))=some (Sv.again ⟨v,ps,r⟩).ps[i]:=(h3 i hlt).symm.trans (aAa hi);injection e with e
  obtain⟨w,hw⟩:=hsome i hlt;rw[←e,hw];exact YK (hc.getD i) (JJ hv hw)
theorem Hj(v:Lg)(c:aX):((sV v c).2≠0∧(sV v c).1=v)∨((sV v c).2=0∧v.l.length+v.t.length<48∧gT v.known v.times c=true∧(sV v c).1=⟨v.l,tP v.t c,v.known.set c.id.rep c.id.seq,v.times.set c.id.rep c.time⟩):=by
 unfold sV gT;split
 ·exact .inl ⟨(show(3:Int)≠0 by decide),rfl⟩
 split
 ·exact .inl ⟨(show(9:Int)≠0 by decide),rfl⟩
 split
 ·exact .inl ⟨(show(4:Int)≠0 by decide),rfl⟩
 ·rename_i h1 h2 h3;exact .inr ⟨rfl,by omega,by rw[show Ak v.known v.times c=true by simpa using h2,show c.may=true by simpa using h3];rfl,rfl⟩
theorem Vd.fresh{v:Lg}(h:Vd v){c:aX}(hn:gT v.known v.times c=true):∀x∈v.l++v.t,x.id≠c.id:=λx hx e=>by
 have h1:=jF h.MM hx;obtain⟨_,_,h2,_⟩:=gY.1 hn;rw[e] at h1;omega
theorem AA{v:Lg}(h:Vd v){c:aX}(hn:gT v.known v.times c=true):tP v.t c=lG v.t c:=by
 unfold tP;rw[if_pos];have:¬0≤bI v.t c.id:=λh0=>by
  obtain⟨x,hx,e⟩:=AH.1 h0;exact h.fresh hn x (aCp _ hx) e
 omega
theorem Vd.add{v:Lg}(h:Vd v){c:aX}(hc:c.ok)(hlt:v.l.length+v.t.length<48)(hn:gT v.known v.times c=true):Vd ⟨v.l,tP v.t c,v.known.set c.id.rep c.id.seq,v.times.set c.id.rep c.time⟩:=by
 rw[AA h hn];refine⟨JN h.MM hn,h.T4,λx hx=>?_,?_,h.HL.put λx hx=>h.fresh hn x (aCp _ hx)⟩
 ·rcases CE hx with rfl|hx
  ·exact hc
  ·exact h.TZ x hx
 ·show v.l.length+(lG v.t c).length≤48;rw[lA];omega
theorem Gd.pE{s:Sv}(h:Gd s){c:aX}(hc:c.ok):Gd (s.pE c).1:=by
 unfold Sv.pE;split
 ·rcases Hj s.v c with⟨h1,h2⟩|⟨h1,h2,h3,h4⟩
  ·rw[if_neg h1,h2];exact h
  ·rw[if_pos h1,h4];obtain⟨_,g1,g2,_⟩:=gY.1 h3;refine(Gd.JG (h.v.add hc h2 h3) h.rep h.ch ?_).1;dsimp only;rw[V4.mE g1 h.rep,h.n];split
   ·rename_i e;rw[e];omega
   ·exact aCd _
 ·exact h
theorem C4(v:Lg)(a:bJ):((fZ v a).2≠0∧(fZ v a).1=v)∨((fZ v a).2=0∧∃x c y,v.t=x++c::y∧c.id=a∧(∀z∈x,¬(z.id.rep=c.id.rep∧z.id.seq<c.id.seq))∧(fZ v a).1=⟨v.l++[c],x++y,v.known,v.times⟩):=by
 unfold fZ;split
 ·exact .inl ⟨(show(14:Int)≠0 by decide),rfl⟩
 split
 ·exact .inl ⟨(show(9:Int)≠0 by decide),rfl⟩
 ·rename_i h1 h2;have h2:lM v.t a=true:=by simpa using h2
  obtain⟨hlt,c,hx,hp⟩:=gZ (p:=λc:aX=>decide (c.id=a)) (l:=v.t) (show 0≤bI v.t a by omega);have hid:c.id=a:=of_decide_eq_true hp;have hx:v.t[(bI v.t a).toNat]?=some c:=hx;have hlt:(bI v.t a).toNat<v.t.length:=hlt;refine .inr ⟨rfl,v.t.take (bI v.t a).toNat,c,v.t.drop ((bI v.t a).toNat+1),?_,hid,?_,?_⟩
  ·obtain⟨_,rfl⟩:=aAd.1 hx;rw[←aAm hlt,aAx]
  ·intro z hz hh;unfold lM at h2;rw[aAv] at h2;have h3:(v.t.any λc=>decide (c.id.rep=a.rep∧c.id.seq<a.seq))=false:=by simpa using h2.2
   rw[List.any_eq_false] at h3;exact h3 z (aBs hz) (decide_eq_true (by rw[←hid];exact hh))
  ·rw[hx];unfold rF mD;rw[if_pos h2,if_pos ⟨by omega,by omega⟩];rfl
theorem Vd.qA{v:Lg}(h:Vd v){x y:List aX}{c:aX}(ht:v.t=x++c::y)(hf:∀z∈x,¬(z.id.rep=c.id.rep∧z.id.seq<c.id.seq)):Vd ⟨v.l++[c],x++y,v.known,v.times⟩:=by
 have hfol:=h.MM;have hokt:=h.TZ;have hlen:=h.len;have hsrt:=h.HL;rw[ht] at hfol hokt hlen hsrt;refine⟨Fe hfol hf,λz hz=>?_,λz hz=>?_,?_,?_⟩
 ·rcases aBg.1 hz with hz|hz
  ·exact h.T4 z hz
  ·rw[aAp] at hz;subst hz;exact hokt z (by simp)
 ·rcases aBg.1 hz with hz|hz
  ·exact hokt z (aDn _ hz)
  ·exact hokt z (aCp _ (aBl _ hz))
 ·simp only[aAe,aAs,aDh] at hlen⊢;omega
 ·exact hsrt.sublist (List.Sublist.append_left (List.sublist_cons_self c y) x)
theorem Gd.KE{s:Sv}(h:Gd s)(a:bJ):Gd (s.KE a).1:=by
 unfold Sv.KE;split
 ·rcases C4 s.v a with⟨h1,h2⟩|⟨h1,x,c,y,h2,h3,h4,h5⟩
  ·rw[if_neg h1,h2];exact h
  ·rw[if_pos h1,h5];exact(Gd.JG (h.v.qA h2 h4) h.rep h.ch (by dsimp only;rw[h.n];exact aCd _)).1
 ·exact h
theorem Gd.set{s:Sv}(h:Gd s){i:Nat}{p:dS}(hp:JO p)(hw:p.w=(s.ps.getD i s0).w):Gd ⟨s.v,s.ps.set i p,s.r⟩:=by
 refine⟨h.v,h.rep,by dsimp only;rw[aAt];exact h.n,λq x hx=>?_,h.ch.set hp⟩;dsimp only at hx⊢;rw[aDr] at hx;split at hx
 ·rename_i e;subst e;split at hx
  ·rename_i hlt;injection hx with hx
   subst hx;rw[hw,aBb,aAa hlt];exact h.w i _ (aAa hlt)
  ·cases hx
 ·exact h.w q x hx
theorem Gd.MO{s:Sv}(h:Gd s)(k:bP)(now:Int):Gd (s.MO k now).1:=by
 unfold Sv.MO;split
 ·rename_i hm;rw[aAv] at hm;have hnow:0≤now∧now≤1073741824:=of_decide_eq_true hm.2;have hI:dQ now:=by unfold dQ;omega
  unfold wJ;dsimp only;split
  ·have hg:=h.ch.getD (k.id.seq - 1).toNat;refine h.set ?_ ?_
   ·split
    ·exact⟨dS.FI hg.1 hI,hg.2.gV hg.1 hnow⟩
    ·exact hg
   ·split<;>rfl
  ·exact h
 ·exact h
theorem Gd.Ls{s:Sv}(h:Gd s)(k:bP):Gd (s.Ls k).1:=by
 unfold Sv.Ls;split
 ·unfold wZ;dsimp only;split
  ·have hg:=h.ch.getD (k.id.seq - 1).toNat;exact h.set ⟨dS.Ez hg.1,hg.2.qJ⟩ rfl
  ·exact h
 ·exact h
theorem Gd.new{r:Int}(hr:0≤r∧r≤3):Gd ⟨Hb,[],r⟩ :=
 ⟨⟨rfl,(λ_ h=>(aAk h).elim),(λ_ h=>(aAk h).elim),(show(0:Nat)+0≤48 by decide),List.Pairwise.nil⟩,hr,by show(0:Int)=FR.get r;rw[BQ],(λq p h=>by cases h),λ_ h=>(aAk h).elim⟩
theorem Gd.np{s:Sv}(h:Gd s):s.ps.length≤48:=by
 have:=h.v.count h.rep;have:=h.n;omega
end Go.Proofs.YtmilalkjbojciaaGreat.Sep
