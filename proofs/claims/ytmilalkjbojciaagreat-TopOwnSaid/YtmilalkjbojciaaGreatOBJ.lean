/- Part BJ: what it needs. No condition. -/
import Derived.Test.YtmilalkjbojciaaGreatOAA
import Derived.Test.YtmilalkjbojciaaGreatOBF
import Derived.Test.YtmilalkjbojciaaGreatOAV
import Derived.Test.YtmilalkjbojciaaGreatOBI
import Derived.Test.YtmilalkjbojciaaGreatOBB
set_option maxRecDepth 100000
set_option maxHeartbeats 8000000
open Go.Proofs.Tryz
namespace Go.Proofs.YtmilalkjbojciaaGreat.Sep
open Go.RowKit Reg Oct
open Mem hiding Rd
inductive Rc
 |lI (c:aX)
 |rI (a:bJ)
 |DG (k:bP) (now:Int)
 |qJ (k:bP)
def Rc.r:Rc→pD
 | .lI c=>R1 c
 | .rI a=>R2 a
 | .DG k now=>R3 k now
 | .qJ k=>R4 k
def Rc.may:Rc→Bool
 | .lI c=>c.may
 | .rI a=>a.may
 | .DG k now=>k.may&&mZ now
 | .qJ k=>k.may
def Rc.ok:Rc→Prop
 | .lI c=>c.ok
 | .DG _ now=>dQ now
 |_=>True
def Rc.b(x:Rc):List UInt8:=tO x.r
def Sv.doc(s:Sv):Rc→Sv×Int
 | .lI c=>s.pE c
 | .rI a=>s.KE a
 | .DG k now=>s.MO k now
 | .qJ k=>s.Ls k
theorem Gd.doc{s:Sv}(h:Gd s){x:Rc}(hx:x.ok):Gd (s.doc x).1:=by
 cases x with
 |lI c=>exact h.pE hx
 |rI a=>exact h.KE a
 |DG k now=>exact h.MO k now
 |qJ k=>exact h.Ls k
theorem KG(s:Sv)(x:Rc):(s.doc x).1.r=s.r:=by
 cases x with
 |lI c=>show(s.pE c).1.r=_;unfold Sv.pE;split;(split<;>rfl);rfl
 |rI a=>show(s.KE a).1.r=_;unfold Sv.KE;split;(split<;>rfl);rfl
 |DG k now=>show(s.MO k now).1.r=_;unfold Sv.MO;split<;>rfl
 |qJ k=>show(s.Ls k).1.r=_;unfold Sv.Ls;split<;>rfl
theorem Ke{s:Sv}{x:Rc}(h:(s.doc x).2=0):x.may=true:=by
 cases x with
 |lI c=>change (s.pE c).2=0 at h;unfold Sv.pE at h;split at h;assumption;cases h
 |rI a=>change (s.KE a).2=0 at h;unfold Sv.KE at h;split at h;assumption;cases h
 |DG k now=>change (s.MO k now).2=0 at h;unfold Sv.MO at h;split at h;assumption;cases h
 |qJ k=>change (s.Ls k).2=0 at h;unfold Sv.Ls at h;split at h;assumption;cases h
theorem Rc.xW(x:Rc):1≤x.b.length∧x.b.length≤23∧x.b[0]?≠some 5:=by
 cases x with
 |lI c=>show 1≤([1]++c.put).length∧([1]++c.put).length≤23∧([1]++c.put)[0]?≠some 5;simp[c.bD]
 |rI a=>show 1≤([2]++kU a).length∧([2]++kU a).length≤23∧([2]++kU a)[0]?≠some 5;simp[iZ]
 |DG k now=>show 1≤([3]++eR k++be now.toNat 4).length∧([3]++eR k++be now.toNat 4).length≤23∧([3]++eR k++be now.toNat 4)[0]?≠some 5;simp[fO,aP]
 |qJ k=>show 1≤([4]++eR k).length∧([4]++eR k).length≤23∧([4]++eR k)[0]?≠some 5;simp[fO]
section
variable (E:Env) (g:Nat) (s:Sv) (os:List Ov)
theorem Xz(hro:Bw E os)(hps:s.ps.length≤48)(x:Rc)(hx:x.ok):G E 191 [pt g,.agg x.r.cs.toArray] [aT g s os] λe H'=>∃new,e=.returned (.int .i64 (s.doc x).2)∧H'=[aT g (s.doc x).1 (os++new),aO dM new]:=by
 cases x with
 |lI c =>
  refine aK.post (XR E g s os hro hps c hx) ?_;rintro e H' ⟨rfl,rfl⟩;exact⟨[aT g (s.pE c).1 (os++[]),aO dM []],by rw[aAc];exact aB.trans (aB.kP dM) (aB.aV (.cons (.aM .aN) (.cons .aN .nil))),[],rfl,rfl⟩
 |rI a=>exact XB E g s os hro hps a
 |DG k now =>
  refine aK.post (XT E g s os hps k now hx) ?_;rintro e H' ⟨rfl,rfl⟩;exact⟨[aT g (s.MO k now).1 (os++[]),aO dM []],by rw[aAc];exact aB.trans (aB.kP dM) (aB.aV (.cons (.aM .aN) (.cons .aN .nil))),[],rfl,rfl⟩
 |qJ k =>
  refine aK.post (Yj E g s os hps k) ?_;rintro e H' ⟨rfl,rfl⟩;exact⟨[aT g (s.Ls k).1 (os++[]),aO dM []],by rw[aAc];exact aB.trans (aB.kP dM) (aB.aV (.cons (.aM .aN) (.cons .aN .nil))),[],rfl,rfl⟩
theorem W2(x:Rc)(hm:x.may=true):G E 228 [.agg x.r.cs.toArray] [] λe H'=>∃A c,e=.returned (.tuple #[.slice A x.b.length c,.int .i64 0])∧H'=[own aU A x.b.length c x.b]:=by
 cases x with
 |lI c =>
  have hl:(Rc.lI c).b.length=23:=by show([1]++c.put).length=23;simp[c.bD]
  rw[hl];exact PG E c hm
 |rI a =>
  have hl:(Rc.rI a).b.length=4:=by show([2]++kU a).length=4;simp[iZ]
  rw[hl];exact NS E a hm
 |DG k now =>
  have hl:(Rc.DG k now).b.length=10:=by show([3]++eR k++be now.toNat 4).length=10;simp[fO,aP]
  have hm:(k.may&&mZ now)=true:=hm;rw[aAv] at hm;rw[hl];exact Ns E k now hm.1 hm.2
 |qJ k =>
  have hl:(Rc.qJ k).b.length=6:=by show([4]++eR k).length=6;simp[fO]
  rw[hl];exact Ph E k hm
end
theorem HM{a:bJ}(ha:a.may=true)(x:UInt8)(t:List UInt8):oE (x::(kU a++t))=a:=by
 obtain⟨r0,r1,s0,s1⟩:=(bJ.bY a).1 ha;have e1:bX ([x]++(be a.rep.toNat 1++(be a.seq.toNat 2++t))) 1 1=a.rep.toNat:=dL rfl o_;have e2:bX (([x]++be a.rep.toNat 1)++(be a.seq.toNat 2++t)) 2 2=a.seq.toNat:=dL (by simp[aP]) o_;have e3:x::(kU a++t)=[x]++(be a.rep.toNat 1++(be a.seq.toNat 2++t)):=by unfold kU;simp
 unfold oE;rw[e3,e1];rw[←aAb,e2];rw[bJ.eq_iff];exact⟨by dsimp only;omega,by dsimp only;omega⟩
theorem GU{k:bP}(hk:k.may=true)(x:UInt8)(t:List UInt8):keyOf (x::(eR k++t))=k∧bX (x::(eR k++t)) 5 1≤1:=by
 obtain⟨h1,h2,h3⟩:=(bP.bY k).1 hk;have hi:=HM (a:=k.id) ((bJ.bY _).2 h1) x ([UInt8.ofNat k.ord.toNat,UInt8.ofNat (gQ k.cD).toNat]++t);rw[←aAb] at hi;have hl:(x::kU k.id).length=4:=by simp[iZ]
 have e1:bX ((x::kU k.id)++(be k.ord.toNat 1++([UInt8.ofNat (gQ k.cD).toNat]++t))) 4 1=k.ord.toNat:=dL hl o_;have hu:(gQ k.cD).toNat<256 ^ 1:=by cases k.cD<;>decide
 have e2:bX (((x::kU k.id)++be k.ord.toNat 1)++(be (gQ k.cD).toNat 1++t)) 5 1=(gQ k.cD).toNat:=dL (by simp[iZ,aP]) hu;have e3:x::(eR k++t)=(x::kU k.id)++(be k.ord.toNat 1++([UInt8.ofNat (gQ k.cD).toNat]++t)):=by unfold eR;rw[nC];simp
 have e4:x::(eR k++t)=((x::kU k.id)++be k.ord.toNat 1)++(be (gQ k.cD).toNat 1++t):=by unfold eR;rw[nC,nC];simp
 have e5:bX (x::(eR k++t)) 4 1=k.ord.toNat:=by rw[e3];exact e1
 have e6:bX (x::(eR k++t)) 5 1=(gQ k.cD).toNat:=by rw[e4];exact e2
 have e7:oE (x::(eR k++t))=k.id:=by
  rw[show x::(eR k++t)=x::(kU k.id++[UInt8.ofNat k.ord.toNat,UInt8.ofNat (gQ k.cD).toNat]++t) by unfold eR;simp];exact hi
 refine⟨?_,by rw[e6];cases k.cD<;>decide⟩;unfold keyOf;rw[e7,e5,e6];obtain⟨id,o,u⟩:=k;dsimp only at h2 h3⊢;rw[show((o.toNat:Nat):Int)=o by omega];cases u<;>rfl
theorem Km{x:Rc}(hm:x.may=true)(hx:x.ok):vF x.b=some x.r:=by
 cases x with
 |lI c =>
  have hm:c.may=true:=hm;show vF ([1]++c.put)=_;rw[Uz (by rw[uY (by simp)];rfl) (by simp[c.bD])];show(tT c.put).map R1=_;rw[CJ hm hx.2.2.2.2.2.1];rfl
 |rI a =>
  have hm:a.may=true:=hm;show vF ([2]++kU a)=_;have e:=HM hm 2 [];rw[aAc] at e;rw[T9 (by rw[uY (by simp)];rfl) (by simp[iZ])];show(if (oE (2::kU a)).may=true then some (R2 (oE (2::kU a))) else none)=_;rw[e,if_pos hm];rfl
 |DG k now =>
  have hm:(k.may&&mZ now)=true:=hm;rw[aAv] at hm;have hnow:0≤now∧now≤1073741824:=of_decide_eq_true hm.2;show vF ([3]++eR k++be now.toNat 4)=_;obtain⟨e1,e2⟩:=GU hm.1 3 (be now.toNat 4);have e3:bX (([3]++eR k)++(be now.toNat 4++[])) 6 4=now.toNat:=dL (by simp[fO]) o_;rw[aAc] at e3;rw[UA (by rw[uY (by simp)];rfl) (by simp[fO,aP]),e3];rw[show([3]++eR k++be now.toNat 4:List UInt8)=3::(eR k++be now.toNat 4) by simp,e1];rw[show((now.toNat:Nat):Int)=now by omega,if_pos ⟨e2,by rw[hm.1,hm.2];rfl⟩];rfl
 |qJ k =>
  have hm:k.may=true:=hm;show vF ([4]++eR k)=_;obtain⟨e1,e2⟩:=GU hm 4 [];rw[aAc] at e1 e2;rw[UZ (by rw[uY (by simp)];rfl) (by simp[fO])];show(if bX (4::eR k) 5 1≤1∧(keyOf (4::eR k)).may=true then some (R4 (keyOf (4::eR k))) else none)=_;rw[e1,if_pos ⟨e2,hm⟩];rfl
end Go.Proofs.YtmilalkjbojciaaGreat.Sep
namespace Go.Proofs.YtmilalkjbojciaaGreat.Sep
def jX(r:Int)(l:List aX):Sv:=l.foldl (λs c=>((s.doc (.lI c)).1.doc (.rI c.id)).1) ⟨Hb,[],r⟩
def DF(s:Sv)(t:List aX):Sv:=t.foldl (λs c=>(s.doc (.lI c)).1) s
theorem DP{r:Int}{l:List aX}{i:Nat}{c:aX}(h:l[i]?=some c):jX r (l.take (i+1))=(((jX r (l.take i)).doc (.lI c)).1.doc (.rI c.id)).1:=iX h
theorem Db{s:Sv}{l:List aX}{i:Nat}{c:aX}(h:l[i]?=some c):DF s (l.take (i+1))=((DF s (l.take i)).doc (.lI c)).1:=iX h
def Em(ps:List dS):Prop:=∀p∈ps,p.made=0∧p.l=[]
theorem Em.again{v:Lg}{r:Int}{ps:List dS}(hv:Vd v)(hr:0≤r∧r≤3)(hc:JL ps)(hn:(ps.length:Int)≤v.known.get r)(he:Em ps):Em (Sv.again ⟨v,ps,r⟩).ps:=by
 obtain⟨h1,h2⟩:=Gd.JG hv hr hc hn;intro p hp;obtain⟨i,hi,rfl⟩:=aBm hp;have hlt:i<(v.known.get r).toNat:=by
  have:=h1.n;have e:(Sv.again ⟨v,ps,r⟩).v=v:=rfl;rw[e] at this;have e2:(Sv.again ⟨v,ps,r⟩).r=r:=rfl;rw[e2] at this;omega
 have h3:=h2 i hlt;rw[aAa hi] at h3;injection h3 with h3
 have h4:(ps.getD i s0).made=0∧(ps.getD i s0).l=[]:=by
  rw[aBb];cases hx:ps[i]? with
  |none=>exact⟨rfl,rfl⟩
  |some x=>exact he x (aAi hx)
 rw[h3];refine⟨h4.1,?_⟩;show settle _ (ps.getD i s0).l=[];rw[h4.2];rfl
theorem xJ{s:Sv}(h:Gd s)(he:Em s.ps){c:aX}(hc:c.ok)(hlt:s.v.l.length+s.v.t.length<48)(hn:gT s.v.known s.v.times c=true)(hs:HL (s.v.t++[c])) :
  (s.doc (.lI c)).2=0∧(s.doc (.lI c)).1.v=⟨s.v.l,s.v.t++[c],s.v.known.set c.id.rep c.id.seq,s.v.times.set c.id.rep c.time⟩∧Em (s.doc (.lI c)).1.ps:=by
 obtain⟨hm,g1,g2,g3⟩:=gY.1 hn;have e1:sV s.v c=(⟨s.v.l,s.v.t++[c],s.v.known.set c.id.rep c.id.seq,s.v.times.set c.id.rep c.time⟩,0):=by
  unfold gT at hn;rw[aAv] at hn;unfold sV;rw[if_neg o_,if_neg (by rw[hn.1];decide),if_neg (by rw[hm];decide),AA h.v (by unfold gT;rw[hn.1,hn.2];rfl),DW hs]
 have e2:s.doc (.lI c)=(Sv.again ⟨⟨s.v.l,s.v.t++[c],s.v.known.set c.id.rep c.id.seq,s.v.times.set c.id.rep c.time⟩,s.ps,s.r⟩,0):=by
  show s.pE c=_;unfold Sv.pE;rw[if_pos hm,e1,if_pos rfl]
 rw[e2];refine⟨rfl,rfl,?_⟩;have hv:=h.v.add hc hlt hn;rw[AA h.v hn,DW hs] at hv;refine Em.again hv h.rep h.ch ?_ he;show(s.ps.length:Int)≤(s.v.known.set c.id.rep c.id.seq).get s.r;rw[V4.mE g1 h.rep,h.n];split
 ·rename_i e;rw[e];omega
 ·exact aCd _
theorem KK{s:Sv}(h:Gd s)(he:Em s.ps){c:aX}(ht:s.v.t=[c]):(s.doc (.rI c.id)).2=0∧(s.doc (.rI c.id)).1.v=⟨s.v.l++[c],[],s.v.known,s.v.times⟩∧Em (s.doc (.rI c.id)).1.ps:=by
 have hmay:=(aX.bY c).1 (h.v.may (c:=c) (by rw[ht];simp));have hid:c.id.may=true:=(bJ.bY _).2 hmay.1;have f0:bI [c] c.id=0:=by show place (λx:aX=>decide (x.id=c.id)) [c]=0;unfold place;rw[if_pos (decide_eq_true rfl)]
 have fr:lM [c] c.id=true:=by
  unfold lM;rw[f0];simp
 have e1:fZ s.v c.id=(⟨s.v.l++[c],[],s.v.known,s.v.times⟩,0):=by
  unfold fZ;rw[ht,f0,if_neg sD,if_neg (by rw[fr];decide)];unfold rF mD;rw[fr,f0,if_pos rfl];rfl
 have e2:s.doc (.rI c.id)=(Sv.again ⟨⟨s.v.l++[c],[],s.v.known,s.v.times⟩,s.ps,s.r⟩,0):=by
  show s.KE c.id=_;unfold Sv.KE;rw[if_pos hid,e1,if_pos rfl]
 rw[e2];refine⟨rfl,rfl,?_⟩;have hv:=h.v.qA (x:=[]) (y:=[]) (c:=c) (by rw[ht];rfl) (λ_ h=>(aAk h).elim);exact Em.again hv h.rep h.ch (by dsimp only;rw[h.n];exact aCd _) he
theorem jL{k t k' t':V4}{l:List aX}(h:follow k t l=some (k',t')){i:Nat}{c:aX}(hc:l[i]?=some c):∃p,follow k t (l.take i)=some p∧gT p.1 p.2 c=true∧follow k t (l.take (i+1))=some (p.1.set c.id.rep c.id.seq,p.2.set c.id.rep c.time):=by
 obtain⟨hi,rfl⟩:=aAd.1 hc;have e:l=l.take i++(l[i]::l.drop (i+1)):=by rw[←aAm hi,aAx]
 rw[e,eU] at h;cases h1:follow k t (l.take i) with
 |none=>rw[h1] at h;cases h
 |some p =>
  rw[h1] at h;have h2:follow p.1 p.2 (l[i]::l.drop (i+1))=some (k',t'):=h;rw[follow] at h2;split at h2
  ·rename_i hn;refine⟨p,rfl,hn,?_⟩;rw[aAn hi,eU,h1];show(if gT p.1 p.2 l[i] then _ else none)=_;rw[if_pos hn];rfl
  ·cases h2
structure p5(r:Int)(R:Sv)(l t:List aX)(p:V4×V4):Prop where
 g:Gd R
 e:Em R.ps
 v:R.v=⟨l,t,p.1,p.2⟩
 r:R.r=r
theorem EX{v:Lg}(hv:Vd v){r:Int}(hr:0≤r∧r≤3):∀i,i≤v.l.length→∃p,follow FR FR (v.l.take i)=some p∧p5 r (jX r (v.l.take i)) (v.l.take i) [] p
 |0,_=>⟨(FR,FR),rfl,Gd.new hr,(λ_ h=>(aAk h).elim),rfl,rfl⟩
 |i+1,hi=>by
  obtain⟨p,h1,h2⟩:=EX hv hr i o_;have hx:v.l[i]?=some v.l[i]:=aAa o_;have hx2:(v.l++v.t)[i]?=some v.l[i]:=by rw[aBp o_];exact hx
  obtain⟨q,q1,q2,q3⟩:=jL hv.MM hx2;rw[aCw o_] at q1;rw[aCw o_] at q3;rw[h1] at q1;injection q1 with q1
  subst q1;have hlen:=hv.len;have hok:=hv.T4 _ (aAi hx);generalize v.l[i]=c at *;have hl:(v.l.take i).length=i:=by rw[aAg];omega
  obtain⟨a1,a2,a3⟩:=xJ h2.g h2.e (c:=c) hok (by rw[h2.v];dsimp only;rw[hl];show i+0<48;omega) (by rw[h2.v];exact q2) (by rw[h2.v];exact aFq _ _);have g1:=h2.g.doc (x:=.lI c) hok;rw[h2.v] at a2;obtain⟨b1,b2,b3⟩:=KK g1 a3 (c:=c) (by rw[a2];rfl);have g2:=g1.doc (x:=.rI c.id) trivial;refine⟨_,q3,?_⟩;rw[DP hx,take_succ hx];refine⟨g2,b3,by rw[b2,a2],?_⟩;rw[KG,KG];exact h2.r
theorem BP{v:Lg}(hv:Vd v){r:Int}(hr:0≤r∧r≤3):∀i,i≤v.t.length→∃p,follow FR FR (v.l++v.t.take i)=some p∧p5 r (DF (jX r v.l) (v.t.take i)) v.l (v.t.take i) p
 |0,_=>by
  obtain⟨p,h1,h2⟩:=EX hv hr v.l.length (aAf _);rw[aAo] at h1 h2;exact⟨p,by rw[aCg,aAc];exact h1,h2⟩
 |i+1,hi=>by
  obtain⟨p,h1,h2⟩:=BP hv hr i o_;have hx:v.t[i]?=some v.t[i]:=aAa o_;have hx2:(v.l++v.t)[v.l.length+i]?=some v.t[i]:=by rw[aBc o_,aEw];exact hx
  obtain⟨q,q1,q2,q3⟩:=jL hv.MM hx2;rw[aFc] at q1;rw[aDv,aFc] at q3;rw[h1] at q1;injection q1 with q1
  subst q1;have hlen:=hv.len;have hok:=hv.TZ _ (aAi hx);have hs:HL (v.t.take (i+1)):=hv.HL.sublist (aFt _ _);rw[take_succ hx] at hs;generalize v.t[i]=c at *;have hl:(v.t.take i).length=i:=by rw[aAg];omega
  obtain⟨a1,a2,a3⟩:=xJ h2.g h2.e (c:=c) hok (by rw[h2.v];dsimp only;rw[hl];omega) (by rw[h2.v];exact q2) (by rw[h2.v];exact hs);have g1:=h2.g.doc (x:=.lI c) hok;rw[h2.v] at a2;refine⟨_,q3,?_⟩;rw[Db hx,take_succ hx];exact⟨g1,a3,a2,by rw[KG];exact h2.r⟩
theorem LR{s:Sv}(h:Gd s){i:Nat}{c:aX}(hx:s.v.l[i]?=some c):((jX s.r (s.v.l.take i)).doc (.lI c)).2=0∧(((jX s.r (s.v.l.take i)).doc (.lI c)).1.doc (.rI c.id)).2=0:=by
 have hi:=(aAd.1 hx).1;obtain⟨p,h1,h2⟩:=EX h.v h.rep i o_;have hx2:(s.v.l++s.v.t)[i]?=some c:=by rw[aBp o_];exact hx
 obtain⟨q,q1,q2,q3⟩:=jL h.v.MM hx2;rw[aCw o_,h1] at q1;injection q1 with q1
 subst q1;have hlen:=h.v.len;have hok:=h.v.T4 _ (aAi hx);have hl:(s.v.l.take i).length=i:=by rw[aAg];omega
 obtain⟨a1,a2,a3⟩:=xJ h2.g h2.e (c:=c) hok (by rw[h2.v];dsimp only;rw[hl];show i+0<48;omega) (by rw[h2.v];exact q2) (by rw[h2.v];exact aFq _ _);have g1:=h2.g.doc (x:=.lI c) hok;rw[h2.v] at a2;exact⟨a1,(KK g1 a3 (c:=c) (by rw[a2];rfl)).1⟩
theorem NH{s:Sv}(h:Gd s){i:Nat}{c:aX}(hx:s.v.t[i]?=some c):((DF (jX s.r s.v.l) (s.v.t.take i)).doc (.lI c)).2=0:=by
 have hi:=(aAd.1 hx).1;obtain⟨p,h1,h2⟩:=BP h.v h.rep i o_;have hx2:(s.v.l++s.v.t)[s.v.l.length+i]?=some c:=by rw[aBc o_,aEw];exact hx
 obtain⟨q,q1,q2,q3⟩:=jL h.v.MM hx2;rw[aFc,h1] at q1;injection q1 with q1
 subst q1;have hlen:=h.v.len;have hok:=h.v.TZ _ (aAi hx);have hs:HL (s.v.t.take (i+1)):=h.v.HL.sublist (aFt _ _);rw[take_succ hx] at hs;have hl:(s.v.t.take i).length=i:=by rw[aAg];omega
 exact(xJ h2.g h2.e (c:=c) hok (by rw[h2.v];dsimp only;rw[hl];omega) (by rw[h2.v];exact q2) (by rw[h2.v];exact hs)).1
def part(s:Sv)(i:Nat):Sv:=⟨s.v,s.ps.take i++(s.ps.drop i).map (λp=>⟨0,[],p.w⟩),s.r⟩
theorem FZ{s:Sv}(h:Gd s):DF (jX s.r s.v.l) s.v.t=part s 0:=by
 obtain⟨p,h1,h2⟩:=BP h.v h.rep s.v.t.length (aAf _);rw[aAo] at h1 h2;rw[h.v.MM] at h1;injection h1 with h1
 subst h1;have hv:(DF (jX s.r s.v.l) s.v.t).v=s.v:=h2.v;have hr:=h2.r;have hn:=h2.g.n;have hw:=h2.g.w;have he:=h2.e;generalize DF (jX s.r s.v.l) s.v.t=R at *;obtain⟨v,ps,r⟩:=R;dsimp only at hv hr hn hw he;subst hv hr;have hlen:ps.length=s.ps.length:=by have:=h.n;omega
 unfold part;congr 1;rw[aCg,aCh,aBq];apply aCk;intro i;rw[aBf];by_cases hi:i<ps.length
 ·have h3:=hw i _ (aAa hi);have h4:=h.w i _ (aAa o_);rw[h3] at h4;injection h4 with h4
  have h5:=he _ (aCs hi);rw[aAa hi,aAa o_];show some ps[i]=some _;congr 1;generalize ps[i]=q at *;obtain⟨m,l,w⟩:=q;dsimp only at h4 h5;rw[h5.1,h5.2,h4]
 ·rw[aBx.2 o_,aBx.2 o_];rfl
theorem Nm(s:Sv):part s s.ps.length=s:=by
 unfold part;rw[aAo,aCy,aDo,aAc]
theorem Cb(s:Sv)(i:Nat):(part s i).ps.length=s.ps.length:=by
 unfold part;simp only[aAe,aAg,aAw,aBd];omega
theorem EP{s:Sv}{i:Nat}(hi:i<s.ps.length):(part s i).ps[i]?=some ⟨0,[],s.ps[i].w⟩:=by
 unfold part;dsimp only;rw[aBc (by rw[aAg];omega),aAg,aBr o_,aEi,aBf,aCv,aFb,aAa hi];rfl
theorem DO{s:Sv}(h:Gd s){i:Nat}(hi:i<s.ps.length):(part s i).load ⟨s.r,((i+1:Nat):Int)⟩ s.ps[i].made s.ps[i].l=(part s (i+1),true):=by
 have hj:=h.ch _ (aCs hi);have hlen:=Cb s i;have hg:((part s i).ps.getD i s0).w=s.ps[i].w:=by rw[aBb,EP hi];rfl
 have hs:(part s i).ps.set i s.ps[i]=(part s (i+1)).ps:=by
  unfold part;dsimp only;rw[List.set_append_right _ _ (by rw[aAg];omega),aAg,aBr o_,aEi,aAm hi,aCi,List.set_cons_zero,aAn hi,aAb];rfl
 unfold Sv.load pQ;have e1:(part s i).r=s.r:=rfl;rw[e1,if_pos ⟨rfl,by dsimp only;omega,by dsimp only;omega⟩,hj.whole,if_pos rfl];dsimp only;rw[show(((i+1:Nat):Int) - 1).toNat=i by omega,hg,hj.2.gone];rw[show(⟨s.ps[i].made,s.ps[i].l,s.ps[i].w⟩:dS)=s.ps[i] from rfl,hs];rfl
theorem Gd.part{s:Sv}(h:Gd s):∀i,i≤s.ps.length→Gd (part s i)
 |0,_=>by
  obtain⟨p,h1,h2⟩:=BP h.v h.rep s.v.t.length (aAf _);rw[aAo,FZ h] at h2;exact h2.g
 |i+1,hi=>by
  have hp:=Gd.part h i o_;have hj:=h.ch _ (aCs (show i<s.ps.length by omega));have e:=DO h (show i<s.ps.length by omega);have h2:=hp.set (i:=i) hj (by rw[aBb,EP o_];rfl);have hs:(Sep.part s (i+1)).ps=(Sep.part s i).ps.set i s.ps[i]:=by
   unfold Sv.load pQ at e;have hlen:=Cb s i;have e1:(Sep.part s i).r=s.r:=rfl;rw[e1,if_pos ⟨rfl,by dsimp only;omega,by dsimp only;omega⟩,hj.whole,if_pos rfl] at e;have e2:=congrArg (λz=>z.1.ps) e;dsimp only at e2;rw[←e2,show(((i+1:Nat):Int) - 1).toNat=i by omega,aBb,EP o_];dsimp only[Option.getD];rw[hj.2.gone]
  have e3:Sep.part s (i+1)=⟨(Sep.part s i).v,(Sep.part s i).ps.set i s.ps[i],(Sep.part s i).r⟩:=by rw[←hs];rfl
  rw[e3];exact h2
structure Lc where
 base:Option Sv
 l:List Rc
def Qb(r:Int):Sv:=⟨Hb,[],r⟩
def Gb:Option Sv→List (List UInt8)
 |some s=>[5::fJ s]
 |none=>[]
def Lc.bs(z:Lc):List (List UInt8):=Gb z.base++z.l.map Rc.b
def F9(s:Sv)(l:List Rc):Sv:=l.foldl (λs x=>(s.doc x).1) s
def Lc.sv(r:Int)(z:Lc):Sv:=F9 (z.base.getD (Qb r)) z.l
structure Lc.ok(r:Int)(z:Lc):Prop where
 rep:0≤r∧r≤3
 base:∀s,z.base=some s→Gd s∧s.r=r
 l:∀x∈z.l,x.may=true∧x.ok
theorem Rm{l:List Rc}(hl:∀x∈l,x.may=true∧x.ok):∀ {s:Sv},Gd s→Gd (F9 s l)∧(F9 s l).r=s.r:=by
 induction l with
 |nil=>exact λh=>⟨h,rfl⟩
 |cons x l ih =>
  intro s h;have h2:=ih (λy hy=>hl y (aBl _ hy)) (h.doc (hl x aBo).2);exact⟨h2.1,h2.2.trans (KG s x)⟩
theorem Lc.ok.start{r:Int}{z:Lc}(h:z.ok r):Gd (z.base.getD (Qb r))∧(z.base.getD (Qb r)).r=r:=by
 cases hb:z.base with
 |none=>exact⟨Gd.new h.rep,rfl⟩
 |some s=>exact h.base s hb
theorem Lc.ok.gd{r:Int}{z:Lc}(h:z.ok r):Gd (z.sv r)∧(z.sv r).r=r:=by
 obtain⟨h1,h2⟩:=h.start;obtain⟨h3,h4⟩:=Rm h.l h1;exact⟨h3,h4.trans h2⟩
theorem Lc.ok.take{r:Int}{z:Lc}(h:z.ok r)(k:Nat):∃z':Lc,z'.ok r∧z'.bs=z.bs.take k:=by
 obtain⟨base,l⟩:=z;cases base with
 |none=>exact⟨⟨none,l.take k⟩,⟨h.rep,(λs hs=>by cases hs),λx hx=>h.l x (aBs hx)⟩,by unfold Lc.bs Gb;simp[List.map_take]⟩
 |some s =>
  cases k with
  |zero=>exact⟨⟨none,[]⟩,⟨h.rep,(λs hs=>by cases hs),λx hx=>(aAk hx).elim⟩,rfl⟩
  |succ k=>exact⟨⟨some s,l.take k⟩,⟨h.rep,h.base,λx hx=>h.l x (aBs hx)⟩,by unfold Lc.bs Gb;simp[List.map_take]⟩
theorem Lc.ok.push{r:Int}{z:Lc}(h:z.ok r){x:Rc}(h1:x.may=true)(h2:x.ok):Lc.ok r ⟨z.base,z.l++[x]⟩:=⟨h.rep,h.base,λy hy=>by
 rcases aBg.1 hy with hy|hy
 ·exact h.l y hy
 ·rw[aAp] at hy;subst hy;exact⟨h1,h2⟩⟩
theorem Lc.SC(z:Lc)(x:Rc):Lc.bs ⟨z.base,z.l++[x]⟩=z.bs++[x.b]:=by unfold Lc.bs;simp
theorem Lc.RM(r:Int)(z:Lc)(x:Rc):Lc.sv r ⟨z.base,z.l++[x]⟩=((z.sv r).doc x).1:=by unfold Lc.sv F9;simp
noncomputable def vG(r:Int)(bF:List (List UInt8)):Lc:=open Classical in if h:∃z:Lc,z.ok r∧z.bs=bF then h.choose else⟨none,[]⟩
theorem Dl{r:Int}{bF:List (List UInt8)}(h:∃z:Lc,z.ok r∧z.bs=bF):(vG r bF).ok r∧(vG r bF).bs=bF:=by
 unfold vG;rw[dif_pos h];exact h.choose_spec
structure Nd where
 r:Int
 ls:LS
 up:Bool
 lc:Lc
 s:Sv
def Nd.qO(n:Nd):List (List UInt8):=(LS.open n.ls.N n.ls.D (-1)).bF
structure Nd.ok(n:Nd):Prop where
 rep:0≤n.r∧n.r≤3
 n0:1≤n.ls.N
 n1:n.ls.N≤64
 len:n.ls.D.length=32*(2*n.ls.N+1)
 a0 : -1≤n.ls.aG
 a1:n.ls.aG≤9223372036854775807
 qO:∃z:Lc,z.ok n.r∧z.bs=n.qO
 inv:n.up=true→Inv n.ls∧n.ls.dead=false
 lc:n.up=true→n.lc.ok n.r∧n.lc.bs=n.ls.bF∧n.s=n.lc.sv n.r
theorem Nd.ok.gd{n:Nd}(h:n.ok)(hu:n.up=true):Gd n.s∧n.s.r=n.r:=by
 obtain⟨h1,_,h3⟩:=h.lc hu;rw[h3];exact h1.gd
noncomputable def Nd.stored(n:Nd):Sv:=(vG n.r n.qO).sv n.r
noncomputable def Nd.state(n:Nd):Sv:=if n.up then n.s else n.stored
def Nd.write(n:Nd)(x:Rc):Nd×Int :=
 if (n.s.doc x).2=0 then
  (if (n.ls.append x.b).1=0 then(⟨n.r,(n.ls.append x.b).2,n.up,⟨n.lc.base,n.lc.l++[x]⟩,(n.s.doc x).1⟩,0) else(n,(n.ls.append x.b).1))
 else(n,(n.s.doc x).2)
def Nd.sync(n:Nd):Nd×Int:=if n.up then(if n.ls.sync.1=0 then(⟨n.r,n.ls.sync.2,true,n.lc,n.s⟩,0) else(⟨n.r,n.ls.sync.2,false,n.lc,n.s⟩,19)) else(n,19)
def Nd.CA(n:Nd):Nd:=⟨n.r,n.ls,false,n.lc,n.s⟩
noncomputable def Nd.opened(n:Nd):Nd:=⟨n.r,LS.open n.ls.N n.ls.D (-1),true,vG n.r n.qO,n.stored⟩
noncomputable def Nd.rO(n:Nd):Nd×Int:=if n.up then(n,9) else(n.opened,0)
def LS.arm(s:LS)(k:Int):LS:=⟨s.N,s.D,s.bF,s.kE,s.pos,s.cG,s.dead,if s.dead then s.aG else max k (-1)⟩
def Nd.arm(n:Nd)(k:Int):Nd:=if n.up then⟨n.r,n.ls.arm k,true,n.lc,n.s⟩ else n
def Nd.At(n:Nd):List UInt8:=5::fJ n.s
def Nd.pack(n:Nd):Nd×Int :=
 if n.up then
  (if (n.ls.swap n.At).1=0 then(⟨n.r,(n.ls.swap n.At).2,true,⟨some n.s,[]⟩,n.s⟩,0)
  else if (n.ls.swap n.At).1=19 then(⟨n.r,(n.ls.swap n.At).2,false,n.lc,n.s⟩,19) else(n,(n.ls.swap n.At).1))
 else(n,19)
def Nd.new(r:Int)(N:Nat):Nd:=⟨r,LS.new N,true,⟨none,[]⟩,Qb r⟩
theorem Lc.E3{r:Int}(hr:0≤r∧r≤3):Lc.ok r ⟨none,[]⟩:=⟨hr,(λs hs=>by cases hs),λx hx=>(aAk hx).elim⟩
theorem xZ{s:LS}(h:Inv s):(LS.open s.N s.D (-1)).bF=s.bF.take s.kE:=by rw[(CD h (-1)).2.2.2]
theorem Nd.ok.new{r:Int}{N:Nat}(hr:0≤r∧r≤3)(h0:1≤N)(h1:N≤64):(Nd.new r N).ok:=by
 have hi:=Inv.new h0 h1;exact⟨hr,h0,h1,hi.len,by show(-1:Int) ≤ -1;decide,by show(-1:Int)≤_;decide,⟨⟨none,[]⟩,Lc.E3 hr,(xZ hi).symm⟩,λ_=>⟨hi,rfl⟩,λ_=>⟨Lc.E3 hr,rfl,rfl⟩⟩
theorem Nd.ok.write{n:Nd}(h:n.ok){x:Rc}(hx:x.ok)(hu:n.up=true):(n.write x).1.ok:=by
 unfold Nd.write;split
 ·rename_i hd;split
  ·rename_i ha;obtain⟨i1,i2⟩:=h.inv hu;obtain⟨l1,l2,l3⟩:=h.lc hu;have hinv:=i1.append x.b;rcases tI (s:=n.ls) (b:=x.b) with e|⟨_,e1,e2,e3,e⟩
   ·exfalso;unfold LS.append at ha e;have hb:=x.xW;rw[if_neg o_,if_neg o_] at ha e;split at ha
    ·cases ha
    ·rename_i hc;rw[if_neg hc] at e;have:=congrArg (λs:LS=>s.bF.length) e;dsimp only at this;rw[aAe] at this;simp at this
   ·rw[e] at hinv⊢;refine⟨h.rep,h.n0,h.n1,h.len,h.a0,h.a1,h.qO,λ_=>⟨hinv,i2⟩,λ_=>⟨l1.push (Ke hd) hx,?_,?_⟩⟩
    ·rw[Lc.SC,l2]
    ·rw[Lc.RM,←l3]
  ·exact h
 ·exact h
theorem Nd.ok.CA{n:Nd}(h:n.ok):n.CA.ok:=⟨h.rep,h.n0,h.n1,h.len,h.a0,h.a1,h.qO,(λhu=>by cases hu),λhu=>by cases hu⟩
theorem My{s:LS}(hd:s.dead=false):s.sync.1=0∨s.sync.1=19:=by
 obtain⟨z,q,du,po,pe,de,F,h1,h2,h3,_⟩:=Ga hd;rw[h1];exact h3
theorem MI{s:LS}(h:Inv s)(hd:s.dead=false)(_hc:s.sync.1≠0):∃k,(LS.open s.sync.2.N s.sync.2.D (-1)).bF=s.bF.take k∧s.sync.2.N=s.N∧s.sync.2.D.length=s.D.length∧s.kE≤k:=by
 obtain⟨z,q,du,po,pe,de,F,h1,h2,h3,h4,h5⟩:=Ga hd;rw[h1];obtain⟨g1,g2,g3⟩:=laid h q h2;obtain⟨k,k1,k2,k3,k4⟩:=found h q h2;refine⟨k,?_,rfl,g2.trans h.len.symm,k1⟩;show Frm.cZ (bB (sp s.D (bS s.N (hb s.D)+s.pos) (s.cG.take q)) s.N (hb (sp s.D (bS s.N (hb s.D)+s.pos) (s.cG.take q))))=_;rw[g1,g3];exact k4
theorem JT{s:LS}(h0 : -1≤s.aG)(h1:s.aG≤9223372036854775807) : -1≤s.sync.2.aG∧s.sync.2.aG≤9223372036854775807:=by
 unfold LS.sync;split
 ·exact⟨h0,h1⟩
 split<;>exact⟨rU h0 _ _,zD h1 _ _⟩
theorem Nd.ok.sync{n:Nd}(h:n.ok):n.sync.1.ok:=by
 unfold Nd.sync;by_cases hu:n.up=true
 ·rw[if_pos hu];obtain⟨i1,i2⟩:=h.inv hu;obtain⟨l1,l2,l3⟩:=h.lc hu;have ha:=JT h.a0 h.a1;by_cases hc:n.ls.sync.1=0
  ·rw[if_pos hc];cases hq:iT n.ls.aG n.ls.pos n.ls.cG.length
   ·rw[Kd i2 hq] at ha⊢;have hinv:=i1.synced (fY n.ls.aG n.ls.pos n.ls.cG.length);refine⟨h.rep,h.n0,h.n1,hinv.len,ha.1,ha.2,⟨n.lc,l1,?_⟩,λ_=>⟨hinv,rfl⟩,λ_=>⟨l1,l2,l3⟩⟩;rw[l2];exact((xZ hinv).trans (aAj (aAf _))).symm
   ·rw[F7 i2 hq] at hc;cases hc
  ·rw[if_neg hc];obtain⟨k,k1,k2,k3,_⟩:=MI i1 i2 hc;obtain⟨z,z1,z2⟩:=l1.take k;refine⟨h.rep,by dsimp only;rw[k2];exact h.n0,by dsimp only;rw[k2];exact h.n1,by dsimp only;rw[k2,k3];exact h.len,ha.1,ha.2,⟨z,z1,?_⟩,(λhu=>by cases hu),λhu=>by cases hu⟩;rw[z2,l2];exact k1.symm
 ·rw[if_neg hu];exact h
theorem Nd.ok.opened{n:Nd}(h:n.ok):n.opened.ok:=by
 have hinv:Inv (LS.open n.ls.N n.ls.D (-1)):=Inv.open h.len h.n0 h.n1;obtain⟨z1,z2⟩:=Dl h.qO;have ha:(LS.open n.ls.N n.ls.D (-1)).aG = -1:=by unfold LS.open fY;dsimp only;rw[if_neg o_,if_pos rfl]
 refine⟨h.rep,h.n0,h.n1,hinv.len,?_,?_,⟨vG n.r n.qO,z1,?_⟩,λ_=>⟨hinv,rfl⟩,λ_=>⟨z1,z2,rfl⟩⟩
 ·show -1≤(LS.open n.ls.N n.ls.D (-1)).aG;rw[ha];decide
 ·show(LS.open n.ls.N n.ls.D (-1)).aG≤_;rw[ha];decide
 ·rw[z2];exact((xZ hinv).trans (aAj (aAf _))).symm
theorem Nd.ok.arm{n:Nd}(h:n.ok){k:Int}(hk:k≤9223372036854775807):(n.arm k).ok:=by
 unfold Nd.arm;split
 ·rename_i hu;obtain⟨i1,i2⟩:=h.inv hu;have h0:=h.a0;have h1:=h.a1;refine⟨h.rep,h.n0,h.n1,h.len,?_,?_,h.qO,λ_=>⟨⟨i1.len,i1.n0,i1.n1,i1.Ly,i1.kE,i1.pos,i1.cG,i1.half,i1.fit⟩,i2⟩,λ_=>h.lc hu⟩
  ·show -1≤(if n.ls.dead then n.ls.aG else max k (-1));split<;>omega
  ·show(if n.ls.dead then n.ls.aG else max k (-1))≤_;split<;>omega
 ·exact h
theorem JH{s:LS}(h0 : -1≤s.aG)(h1:s.aG≤9223372036854775807)(b:List UInt8) : -1≤(s.swap b).2.aG∧(s.swap b).2.aG≤9223372036854775807:=by
 have a1:=rU h0 0 (32*s.N);have a2:=zD h1 0 (32*s.N);have b1:=rU a1 0 (b.length+7);have b2:=zD a2 0 (b.length+7);have c1:=D1 b1 b2;unfold LS.swap;repeat' split
 all_goals first|exact⟨h0,h1⟩|exact⟨a1,a2⟩|exact⟨b1,b2⟩|exact c1
theorem QH{s:LS}{b:List UInt8}:(s.swap b).1=0→(s.swap b).2.bF=[b]∧(s.swap b).2.kE=1∧(s.swap b).2.dead=false:=by
 unfold LS.swap;by_cases c1:b.length=0
 ·rw[if_pos c1];exact λh=>absurd h (by dsimp only;omega)
 rw[if_neg c1];by_cases c2:4096<b.length
 ·rw[if_pos c2];exact λh=>absurd h (by dsimp only;omega)
 rw[if_neg c2];by_cases c3:32*s.N<b.length+7
 ·rw[if_pos c3];exact λh=>absurd h (by dsimp only;omega)
 rw[if_neg c3];by_cases c4:s.dead=true
 ·rw[if_pos c4];exact λh=>absurd h (by dsimp only;omega)
 rw[if_neg c4];by_cases c5:iT s.aG 0 (32*s.N)=true
 ·rw[if_pos c5];exact λh=>absurd h (by dsimp only;omega)
 rw[if_neg c5];by_cases c6:iT (rT s) 0 (b.length+7)=true
 ·rw[if_pos c6];exact λh=>absurd h (by dsimp only;omega)
 rw[if_neg c6];by_cases c7:jD (yA s b)=true
 ·rw[if_pos c7];exact λh=>absurd h (by dsimp only;omega)
 rw[if_neg c7];exact λ_=>⟨rfl,rfl,rfl⟩
theorem Nd.ok.pack{n:Nd}(h:n.ok):n.pack.1.ok:=by
 unfold Nd.pack;by_cases hu:n.up=true
 ·rw[if_pos hu];obtain⟨i1,i2⟩:=h.inv hu;obtain⟨l1,l2,l3⟩:=h.lc hu;have hg:=h.gd hu;have ha:=JH h.a0 h.a1 n.At;have hnew:Lc.ok n.r ⟨some n.s,[]⟩:=⟨h.rep,(λs hs=>by injection hs with hs;subst hs;exact hg),λx hx=>(aAk hx).elim⟩
  obtain⟨f1,f2,f3⟩:=JS i1 i2 n.At;by_cases hc:(n.ls.swap n.At).1=0
  ·rw[if_pos hc];have hinv:=i1.swap i2 n.At hc;have hrecs:=QH hc;refine⟨h.rep,by dsimp only;rw[f1];exact h.n0,by dsimp only;rw[f1];exact h.n1,hinv.len,ha.1,ha.2,⟨⟨some n.s,[]⟩,hnew,?_⟩,λ_=>⟨hinv,hrecs.2.2⟩,λ_=>⟨hnew,hrecs.1.symm,rfl⟩⟩;show[5::fJ n.s]++[]=(LS.open (n.ls.swap n.At).2.N (n.ls.swap n.At).2.D (-1)).bF;rw[xZ hinv,hrecs.1,hrecs.2.1];rfl
  ·rw[if_neg hc];split
   ·refine⟨h.rep,by dsimp only;rw[f1];exact h.n0,by dsimp only;rw[f1];exact h.n1,by dsimp only;rw[f1,f2];exact h.len,ha.1,ha.2,?_,(λhu=>by cases hu),λhu=>by cases hu⟩;rcases f3 with⟨f3,_⟩|⟨f3,_⟩
    ·obtain⟨z,z1,z2⟩:=l1.take n.ls.kE;refine⟨z,z1,?_⟩;rw[z2,l2,←f3];show _=Frm.cZ (bB (n.ls.swap n.At).2.D (n.ls.swap n.At).2.N _);rw[f1]
    ·refine⟨⟨some n.s,[]⟩,hnew,?_⟩;show[5::fJ n.s]++[]=Frm.cZ (bB (n.ls.swap n.At).2.D (n.ls.swap n.At).2.N _);rw[f1,f3];rfl
   ·exact h
 ·rw[if_neg hu];exact h
end Go.Proofs.YtmilalkjbojciaaGreat.Sep
