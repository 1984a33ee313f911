/- Part AL: what it needs. No condition. -/
import Derived.Test.YtmilalkjbojciaaGreatRAA
import Derived.Test.YtmilalkjbojciaaGreatRAE
import Derived.Test.YtmilalkjbojciaaGreatRAJ
import Derived.Test.YtmilalkjbojciaaGreatRAB
set_option maxRecDepth 100000
set_option maxHeartbeats 8000000
open Go.Proofs.Tryz
namespace Go.Proofs.YtmilalkjbojciaaGreat.Sep
open Go.RowKit Reg
open Mem hiding Rd
theorem TM:Rec prog 195 [.int .i64 0,.int .i64 0,.int .i64 0,.int .i64 0,.int .i64 0,.int .i64 0,.int .i64 0,.int .i64 0,.slice none 0 0,.slice none 0 0,.int .i64 0,.int .i64 0,.int .i64 0,.bool false,.int .i64 0,.int .i64 0,.int .i64 0,.int .i64 0,.int .i64 0] [(0,1),(1,1),(2,1),(3,4),(7,1),(8,1),(9,1),(10,4),(14,5)]:=⟨q_,q_⟩
instance WY:cL 195 [.int .i64 0,.int .i64 0,.int .i64 0,.int .i64 0,.int .i64 0,.int .i64 0,.int .i64 0,.int .i64 0,.slice none 0 0,.slice none 0 0,.int .i64 0,.int .i64 0,.int .i64 0,.bool false,.int .i64 0,.int .i64 0,.int .i64 0,.int .i64 0,.int .i64 0] [(0,1),(1,1),(2,1),(3,4),(7,1),(8,1),(9,1),(10,4),(14,5)]:=⟨TM⟩
theorem SL:Rec prog 330 [.slice none 0 0] [(0,1)]:=⟨q_,q_⟩
instance WV:cL 330 [.slice none 0 0] [(0,1)]:=⟨SL⟩
theorem Su:Rec prog 279 [.pointer none] [(0,1)]:=⟨q_,q_⟩
instance WW:cL 279 [.pointer none] [(0,1)]:=⟨Su⟩
theorem UD{a0 a1 a2 a3 b0 b1 b2 b3:Int}:VP prog 98 #[.int .i64 a0,.int .i64 a1,.int .i64 a2,.int .i64 a3] #[.int .i64 b0,.int .i64 b1,.int .i64 b2,.int .i64 b3] (decide (a0=b0)&&(decide (a1=b1)&&(decide (a2=b2)&&decide (a3=b3)))):=VP.four (e:=3) q_ q_ q_ q_
instance X5{a0 a1 a2 a3 b0 b1 b2 b3:Int}:QG 98 #[.int .i64 a0,.int .i64 a1,.int .i64 a2,.int .i64 a3] #[.int .i64 b0,.int .i64 b1,.int .i64 b2,.int .i64 b3] (decide (a0=b0)&&(decide (a1=b1)&&(decide (a2=b2)&&decide (a3=b3)))):=⟨UD⟩
abbrev oK(m:Mg)(A:Option Addr)(n c:Nat)(B:Option Addr)(k d:Nat):List Value:=[.int .i64 m.kind,.int .i64 m.fr,.int .i64 m.to,.int .i64 m.k0,.int .i64 m.k1,.int .i64 m.k2,.int .i64 m.k3,.int .i64 m.base,.slice A n c,.slice B k d,.int .i64 m.key.id.rep,.int .i64 m.key.id.seq,.int .i64 m.key.ord,.bool m.key.cD,.int .i64 m.bC.kind,.int .i64 m.bC.a,.int .i64 m.bC.n,.int .i64 m.bC.ref.rep,.int .i64 m.bC.ref.seq]
theorem Bt{α:Type}{l r:List α}{i:Nat}{x:α}(h:l.take i=r.take i)(hx:l[i]?=some x)(hy:r[i]?=some x):l.take (i+1)=r.take (i+1):=by
 obtain⟨h1,h2⟩:=aAd.1 hx;obtain⟨h3,h4⟩:=aAd.1 hy;rw[aAn h1,aAn h3,h,h2,h4]
theorem GS{α:Type}{l r:List α}{i:Nat}{x y:α}(hx:l[i]?=some x)(hy:r[i]?=some y)(h:x≠y):l≠r:=by
 intro he;subst he;rw[hx] at hy;injection hy with hy
 exact h hy
theorem Dx{α:Type}{l r:List α}{i:Nat}(h:l.take i=r.take i)(h1:i=l.length)(h2:i=r.length):l=r:=by
 rw[aAj o_,aAj o_] at h;exact h
section
variable (E:Env) (A:Option Addr) (n c:Nat) (B:Option Addr) (k d:Nat)
theorem U9(l r:List bJ)(hr:Rd E fN A n c l)(hr2:Rd E fN B k d r):aK prog E 340 #[.slice A n c,.slice B k d] [] λe H'=>e=.returned (.bool (decide (l=r)))∧H'=[]:=by
 have hcap:=hr.cap;have hcap2:=hr2.cap;have hn:=hr.len;have hm:=hr2.len;have hmax:=fX;refine t_ func340 ntmps340 ?_;by_cases hnk:n=k
 case neg =>
  have hne:¬l=r:=λh=>hnk (by rw[hn,hm,h]);rw[decide_eq_false hne];repeat first|refine aE ?_|intro
  exact B7
 subst hnk;repeat first|refine aE ?_|intro
 refine C.loop (X:=Nat) (λi=>[(0,.slice A n c),(1,.slice B n d),(12,.int .i64 n),(13,.int .i64 i)]) (λ_=>[]) (λi=>i≤n∧l.take i=r.take i) (λi=>n - i) 0 aD aA ⟨aAh _,rfl⟩ ?_;rintro i G ⟨hi,hall⟩;by_cases hlt:i<n
 ·have hx:l[i]?=some l[i]:=aAa o_;have hy:r[i]?=some r[i]:=aAa o_;generalize l[i]=x at hx;generalize r[i]=y at hy;by_cases hxy:x=y
  ·have hst:=Bt hall hx (by rw[hxy];exact hy);have hd:(!decide ((⟨x.rep,x.seq⟩:bJ)=⟨y.rep,y.seq⟩))=false:=by rw[hxy,decide_eq_true rfl];rfl
   repeat first|refine aE ?_|intro
   refine rA (l_ [0,1,2,3,4,5,6,7,8] .nil) ?_;repeat first|refine aE ?_|intro
   exact⟨i+1,aD,aA,⟨by omega,hst⟩,by omega⟩
  ·have hd:(!decide ((⟨x.rep,x.seq⟩:bJ)=⟨y.rep,y.seq⟩))=true:=congrArg Bool.not (decide_eq_false (show ¬((⟨x.rep,x.seq⟩:bJ)=⟨y.rep,y.seq⟩) from hxy));rw[decide_eq_false (GS hx hy hxy)];repeat first|refine aE ?_|intro
   refine rA (l_ [0,1,2,3,4,5,6,7,8] .nil) ?_;repeat first|refine aE ?_|intro
   exact B7
 ·obtain rfl:i=n:=o_;rw[decide_eq_true (Dx hall hn hm)];repeat first|refine aE ?_|intro
  exact B7
theorem yR(l r:List aX)(hr:Rd E bE A n c l)(hr2:Rd E bE B k d r):aK prog E 80 #[.slice A n c,.slice B k d] [] λe H'=>e=.returned (.bool (decide (l=r)))∧H'=[]:=by
 have hcap:=hr.cap;have hcap2:=hr2.cap;have hn:=hr.len;have hm:=hr2.len;have hmax:=fX;refine t_ func80 ntmps80 ?_;by_cases hnk:n=k
 case neg =>
  have hne:¬l=r:=λh=>hnk (by rw[hn,hm,h]);rw[decide_eq_false hne];repeat first|refine aE ?_|intro
  exact B7
 subst hnk;repeat first|refine aE ?_|intro
 refine C.loop (X:=Nat) (λi=>[(0,.slice A n c),(1,.slice B n d),(12,.int .i64 n),(13,.int .i64 i)]) (λ_=>[]) (λi=>i≤n∧l.take i=r.take i) (λi=>n - i) 0 aD aA ⟨aAh _,rfl⟩ ?_;rintro i G ⟨hi,hall⟩;by_cases hlt:i<n
 ·have hx:l[i]?=some l[i]:=aAa o_;have hy:r[i]?=some r[i]:=aAa o_;generalize l[i]=x at hx;generalize r[i]=y at hy;by_cases hxy:x=y
  ·have hst:=Bt hall hx (by rw[hxy];exact hy);have hd:(!decide ((⟨⟨x.id.rep,x.id.seq⟩,x.time,x.kind,x.a,x.b,x.n,⟨x.ref.rep,x.ref.seq⟩⟩:aX)=⟨⟨y.id.rep,y.id.seq⟩,y.time,y.kind,y.a,y.b,y.n,⟨y.ref.rep,y.ref.seq⟩⟩))=false:=by rw[hxy,decide_eq_true rfl];rfl
   repeat first|refine aE ?_|intro
   refine rA (l_ [0,1,2,3,4,5,6,7,8] .nil) ?_;repeat first|refine aE ?_|intro
   exact⟨i+1,aD,aA,⟨by omega,hst⟩,by omega⟩
  ·have hd:(!decide ((⟨⟨x.id.rep,x.id.seq⟩,x.time,x.kind,x.a,x.b,x.n,⟨x.ref.rep,x.ref.seq⟩⟩:aX)=⟨⟨y.id.rep,y.id.seq⟩,y.time,y.kind,y.a,y.b,y.n,⟨y.ref.rep,y.ref.seq⟩⟩))=true:=congrArg Bool.not (decide_eq_false (show ¬((⟨⟨x.id.rep,x.id.seq⟩,x.time,x.kind,x.a,x.b,x.n,⟨x.ref.rep,x.ref.seq⟩⟩:aX)=⟨⟨y.id.rep,y.id.seq⟩,y.time,y.kind,y.a,y.b,y.n,⟨y.ref.rep,y.ref.seq⟩⟩) from hxy));rw[decide_eq_false (GS hx hy hxy)];repeat first|refine aE ?_|intro
   refine rA (l_ [0,1,2,3,4,5,6,7,8] .nil) ?_;repeat first|refine aE ?_|intro
   exact B7
 ·obtain rfl:i=n:=o_;rw[decide_eq_true (Dx hall hn hm)];repeat first|refine aE ?_|intro
  exact B7
theorem plC(l r:List aX)(hr:Rd E bE A n c l)(hr2:Rd E bE B k d r):aK prog E 15 #[.slice A n c,.slice B k d] [] λe H'=>e=.returned (.bool (decide (l=r)))∧H'=[]:=by
 have hcap:=hr.cap;have hcap2:=hr2.cap;have hn:=hr.len;have hm:=hr2.len;have hmax:=fX;refine t_ func15 ntmps15 ?_;by_cases hnk:n=k
 case neg =>
  have hne:¬l=r:=λh=>hnk (by rw[hn,hm,h]);rw[decide_eq_false hne];repeat first|refine aE ?_|intro
  exact B7
 subst hnk;repeat first|refine aE ?_|intro
 refine C.loop (X:=Nat) (λi=>[(0,.slice A n c),(1,.slice B n d),(5,.int .i64 i)]) (λ_=>[]) (λi=>i≤n∧l.take i=r.take i) (λi=>n - i) 0 aD aA ⟨aAh _,rfl⟩ ?_;rintro i G ⟨hi,hall⟩;by_cases hlt:i<n
 ·have hx:l[i]?=some l[i]:=aAa o_;have hy:r[i]?=some r[i]:=aAa o_;generalize l[i]=x at hx;generalize r[i]=y at hy;by_cases hxy:x=y
  ·have hst:=Bt hall hx (by rw[hxy];exact hy);have hd:(!decide ((⟨⟨x.id.rep,x.id.seq⟩,x.time,x.kind,x.a,x.b,x.n,⟨x.ref.rep,x.ref.seq⟩⟩:aX)=⟨⟨y.id.rep,y.id.seq⟩,y.time,y.kind,y.a,y.b,y.n,⟨y.ref.rep,y.ref.seq⟩⟩))=false:=by rw[hxy,decide_eq_true rfl];rfl
   repeat first|refine aE ?_|intro
   refine rA (l_ [0,1,2,3,4,5,6,7,8] .nil) ?_;repeat first|refine aE ?_|intro
   exact⟨i+1,aD,aA,⟨by omega,hst⟩,by omega⟩
  ·have hd:(!decide ((⟨⟨x.id.rep,x.id.seq⟩,x.time,x.kind,x.a,x.b,x.n,⟨x.ref.rep,x.ref.seq⟩⟩:aX)=⟨⟨y.id.rep,y.id.seq⟩,y.time,y.kind,y.a,y.b,y.n,⟨y.ref.rep,y.ref.seq⟩⟩))=true:=congrArg Bool.not (decide_eq_false (show ¬((⟨⟨x.id.rep,x.id.seq⟩,x.time,x.kind,x.a,x.b,x.n,⟨x.ref.rep,x.ref.seq⟩⟩:aX)=⟨⟨y.id.rep,y.id.seq⟩,y.time,y.kind,y.a,y.b,y.n,⟨y.ref.rep,y.ref.seq⟩⟩) from hxy));rw[decide_eq_false (GS hx hy hxy)];repeat first|refine aE ?_|intro
   refine rA (l_ [0,1,2,3,4,5,6,7,8] .nil) ?_;repeat first|refine aE ?_|intro
   exact B7
 ·obtain rfl:i=n:=o_;rw[decide_eq_true (Dx hall hn hm)];repeat first|refine aE ?_|intro
  exact B7
end
section
variable (E:Env) (A:Option Addr) (n c:Nat) (B:Option Addr) (k d:Nat) (A2:Option Addr) (n2 c2:Nat) (B2:Option Addr) (k2 d2:Nat)
theorem YH(a b:Mg)(h1:Rd E fN A n c a.ids)(h2:Rd E bE B k d a.iS)(h3:Rd E fN A2 n2 c2 b.ids)(h4:Rd E bE B2 k2 d2 b.iS):aK prog E 289 #[.agg (oK a A n c B k d).toArray,.agg (oK b A2 n2 c2 B2 k2 d2).toArray] [] λe H'=>e=.returned (.bool (decide (a=b)))∧H'=[]:=by
 refine t_ func289 ntmps289 ?_;by_cases q_kind:a.kind=b.kind
 case neg =>
  have hne:a≠b:=λh=>q_kind (by rw[h]);rw[decide_eq_false hne];repeat first|refine aE ?_|intro
  exact B7
 by_cases q_fr:a.fr=b.fr
 case neg =>
  have hne:a≠b:=λh=>q_fr (by rw[h]);rw[decide_eq_false hne];repeat first|refine aE ?_|intro
  exact B7
 by_cases q_to:a.to=b.to
 case neg =>
  have hne:a≠b:=λh=>q_to (by rw[h]);rw[decide_eq_false hne];repeat first|refine aE ?_|intro
  exact B7
 by_cases q_known:a.k0=b.k0∧a.k1=b.k1∧a.k2=b.k2∧a.k3=b.k3
 case neg =>
  have hne:a≠b:=λh=>q_known (by rw[h];exact⟨rfl,rfl,rfl,rfl⟩);have hdn:(decide (a.k0=b.k0)&&(decide (a.k1=b.k1)&&(decide (a.k2=b.k2)&&decide (a.k3=b.k3))))=false:=by rw[Bool.eq_false_iff];intro h;simp at h;exact q_known h
  rw[decide_eq_false hne];repeat first|refine aE ?_|intro
  exact B7
 have hdn:(decide (a.k0=b.k0)&&(decide (a.k1=b.k1)&&(decide (a.k2=b.k2)&&decide (a.k3=b.k3))))=true:=by simp only[aAv,decide_eq_true_eq];exact q_known
 by_cases q_base:a.base=b.base
 case neg =>
  have hne:a≠b:=λh=>q_base (by rw[h]);rw[decide_eq_false hne];repeat first|refine aE ?_|intro
  exact B7
 by_cases q_key:a.key=b.key
 case neg =>
  have hne:a≠b:=λh=>q_key (by rw[h]);have hdk:decide ((⟨⟨a.key.id.rep,a.key.id.seq⟩,a.key.ord,a.key.cD⟩:bP)=⟨⟨b.key.id.rep,b.key.id.seq⟩,b.key.ord,b.key.cD⟩)=false:=decide_eq_false (show ¬((⟨⟨a.key.id.rep,a.key.id.seq⟩,a.key.ord,a.key.cD⟩:bP)=⟨⟨b.key.id.rep,b.key.id.seq⟩,b.key.ord,b.key.cD⟩) from q_key);rw[decide_eq_false hne];repeat first|refine aE ?_|intro
  exact B7
 have hdk:decide ((⟨⟨a.key.id.rep,a.key.id.seq⟩,a.key.ord,a.key.cD⟩:bP)=⟨⟨b.key.id.rep,b.key.id.seq⟩,b.key.ord,b.key.cD⟩)=true:=decide_eq_true (show(⟨⟨a.key.id.rep,a.key.id.seq⟩,a.key.ord,a.key.cD⟩:bP)=⟨⟨b.key.id.rep,b.key.id.seq⟩,b.key.ord,b.key.cD⟩ from q_key);by_cases q_what:a.bC=b.bC
 case neg =>
  have hne:a≠b:=λh=>q_what (by rw[h]);have hdw:decide ((⟨a.bC.kind,a.bC.a,a.bC.n,⟨a.bC.ref.rep,a.bC.ref.seq⟩⟩:cQ)=⟨b.bC.kind,b.bC.a,b.bC.n,⟨b.bC.ref.rep,b.bC.ref.seq⟩⟩)=false:=decide_eq_false (show ¬((⟨a.bC.kind,a.bC.a,a.bC.n,⟨a.bC.ref.rep,a.bC.ref.seq⟩⟩:cQ)=⟨b.bC.kind,b.bC.a,b.bC.n,⟨b.bC.ref.rep,b.bC.ref.seq⟩⟩) from q_what);rw[decide_eq_false hne];repeat first|refine aE ?_|intro
  exact B7
 have hdw:decide ((⟨a.bC.kind,a.bC.a,a.bC.n,⟨a.bC.ref.rep,a.bC.ref.seq⟩⟩:cQ)=⟨b.bC.kind,b.bC.a,b.bC.n,⟨b.bC.ref.rep,b.bC.ref.seq⟩⟩)=true:=decide_eq_true (show(⟨a.bC.kind,a.bC.a,a.bC.n,⟨a.bC.ref.rep,a.bC.ref.seq⟩⟩:cQ)=⟨b.bC.kind,b.bC.a,b.bC.n,⟨b.bC.ref.rep,b.bC.ref.seq⟩⟩ from q_what);by_cases q_ids:a.ids=b.ids
 case neg =>
  have hne:a≠b:=λh=>q_ids (by rw[h]);rw[decide_eq_false hne];repeat first|refine aE ?_|intro
  refine C1 (λM=>U9 M _ _ _ _ _ _ a.ids b.ids) ?_;rw[decide_eq_false q_ids];rintro e H' ⟨rfl,rfl⟩;repeat first|refine aE ?_|intro
  exact B7
 by_cases q_chs:a.iS=b.iS
 case neg =>
  have hne:a≠b:=λh=>q_chs (by rw[h]);rw[decide_eq_false hne];repeat first|refine aE ?_|intro
  refine C1 (λM=>U9 M _ _ _ _ _ _ a.ids b.ids) ?_;rw[decide_eq_true q_ids];rintro e H' ⟨rfl,rfl⟩;repeat first|refine aE ?_|intro
  refine C1 (λM=>yR M _ _ _ _ _ _ a.iS b.iS) ?_;rw[decide_eq_false q_chs];rintro e H' ⟨rfl,rfl⟩;repeat first|refine aE ?_|intro
  exact B7
 have hee:a=b:=Mg.eq_iff.2 ⟨q_kind,q_fr,q_to,q_known.1,q_known.2.1,q_known.2.2.1,q_known.2.2.2,q_base,q_ids,q_chs,q_key,q_what⟩;rw[decide_eq_true hee];repeat first|refine aE ?_|intro
 refine C1 (λM=>U9 M _ _ _ _ _ _ a.ids b.ids) ?_;rw[decide_eq_true q_ids];rintro e H' ⟨rfl,rfl⟩;repeat first|refine aE ?_|intro
 refine C1 (λM=>yR M _ _ _ _ _ _ a.iS b.iS) ?_;rw[decide_eq_true q_chs];rintro e H' ⟨rfl,rfl⟩;repeat first|refine aE ?_|intro
 exact B7
end
theorem Sub.arr{α:Type}{T:Ty α}{E M:Env}{R R':List aL}{g:Nat}{t:TypeId}{cs:List Value}(hE:Sub E R M)(h:Has (Sep.aJ g t cs) R R'){i m:Nat}{l:List α}(hm:m=l.length)(hmax:m≤maxLen)(hv:∀j u,(T.bT l)[j]?=some u→cs[i+j]?=some u):Rd M T (some ⟨g,i,none⟩) m m l:=by
 refine⟨hm,aAf _,hmax,.inr ⟨_,rfl,?_,λj u hu=>?_⟩⟩
 ·obtain⟨F,h1,h2⟩:=hE.fr;obtain⟨F1,F2,h3,_,h5,_⟩:=h.cT h1;exact h2 _ ((h3 _).2 (.inl ((h5.1 _).2 rfl)))
 ·rw[fB];exact(qP.aJ hE h (hv j u hu)).2
def RX{α:Type}(p:α→Bool)(l:List α):Int:=match l.findIdx? p with|some i=>i|none => -1
theorem Bp{α:Type}{p:α→Bool}{l:List α}(h:∀x∈l,p x=false):RX p l = -1:=by
 unfold RX;rw[aEp.2 h]
theorem CB{α:Type}{p:α→Bool}{l:List α}{i:Nat}{x:α}(hx:l[i]?=some x)(hp:p x=true)(h:∀j y,j<i→l[j]?=some y→p y=false):RX p l=i:=by
 unfold RX;obtain⟨hi,he⟩:=aAd.1 hx;rw[aDj.2 ⟨hi,by rw[he];exact hp,λj hj=>by rw[h j l[j] hj (aAa o_)];exact aAl⟩]
theorem E6{α:Type}(p:α→Bool)(l:List α):decide (0≤RX p l)=l.any p:=by
 unfold RX;cases h:l.findIdx? p with
 |none =>
  rw[aEp] at h;rw[aBz];simp;exact h
 |some i =>
  rw[aDj] at h;obtain⟨hi,h1,_⟩:=h;rw[aEm.2 ⟨_,aCs hi,h1⟩];exact decide_eq_true (aFo i)
theorem Ef{α:Type}(p:α→Bool)(l:List α):(!(l.any λx => !p x))=l.all p:=by
 induction l with
 |nil=>rfl
 |cons a l ih=>simp[List.any_cons,List.all_cons,←ih]
section
variable (E:Env)
theorem Yz(n:Int):aK prog E 332 #[.int .i64 n] [] λe H'=>e=.returned (.bool (wV n))∧H'=[]:=by
 refine t_ func332 ntmps332 ?_;repeat first|refine aE ?_|intro
 refine bK (λM=>dV M n 0 3) ?_;repeat first|refine aE ?_|intro
 exact B7
theorem Zg(n:Int):aK prog E 334 #[.int .i64 n] [] λe H'=>e=.returned (.bool (!sq n))∧H'=[]:=by
 refine t_ func334 ntmps334 ?_;repeat first|refine aE ?_|intro
 refine bK (λM=>dV M n 0 65535) ?_;repeat first|refine aE ?_|intro
 exact B7
theorem Z7(x:bJ):aK prog E 336 #[.agg x.cs.toArray] [] λe H'=>e=.returned (.bool (!x.may))∧H'=[]:=by
 refine t_ func336 ntmps336 ?_;repeat first|refine aE ?_|intro
 refine bK (λM=>yK M x) ?_;repeat first|refine aE ?_|intro
 exact B7
theorem Y8(x:aX):aK prog E 338 #[.agg x.cs.toArray] [] λe H'=>e=.returned (.bool (!x.may))∧H'=[]:=by
 refine t_ func338 ntmps338 ?_;repeat first|refine aE ?_|intro
 refine bW (λM=>kF M x) ?_;cases hx:x.may
 ·rintro e H' ⟨rfl,rfl⟩;repeat first|refine aE ?_|intro
  exact B7
 ·rintro e H' ⟨rfl,rfl⟩;repeat first|refine aE ?_|intro
  exact B7
variable (A:Option Addr) (n c:Nat)
theorem p9(l:List Int)(hr:Rd E Au A n c l):aK prog E 368 #[.slice A n c,.func (.func 334) #[] #[]] [] λr H'=>r=.returned (.int .i64 (RX (λx => !sq x) l))∧H'=[]:=by
 have hn:=hr.len;have hcap:=hr.cap;refine t_ func368 ntmps368 ?_;repeat first|refine aE ?_|intro
 refine C.loop (X:=Nat) (λi=>[(0,.slice A n c),(1,.func (.func 334) #[] #[]),(7,.int .i64 n),(8,.int .i64 i)]) (λ_=>[]) (λi=>i≤n∧∀j y,j<i→l[j]?=some y→(λx => !sq x) y=false) (λi=>n - i) 0 aD aB.refl ⟨aAh _,λj y hj=>by omega⟩ ?_;rintro i G ⟨hi,hall⟩;by_cases hlt:i<n
 ·have hx:l[i]?=some l[i]:=aAa o_;generalize l[i]=x at hx;have hmax:=fX;repeat first|refine aE ?_|intro
  refine L.step sD (S.wB rfl rfl rfl rfl func334 q_ rfl aC (λM hE=>Zg M x) ?_);rintro r H' ⟨rfl,rfl⟩;refine gk bG ?_;cases hp:sq x
  ·rw[CB (p:=λx => !sq x) hx (by rw[hp];rfl) hall];repeat first|refine aE ?_|intro
   exact B7
  ·repeat first|refine aE ?_|intro
   refine⟨i+1,aD,aB.refl,⟨by omega,λj y hj hy=>?_⟩,by omega⟩;by_cases hji:j=i
   ·subst hji;rw[hx] at hy;injection hy with hy;subst hy;dsimp only;rw[hp];rfl
   ·exact hall j y o_ hy
 ·obtain rfl:i=n:=o_;rw[Bp (λx hx=>by obtain⟨j,hj,rfl⟩:=aBm hx;exact hall j _ o_ (aAa hj))];repeat first|refine aE ?_|intro
  exact B7
theorem z7(l:List Int)(hr:Rd E Au A n c l):aK prog E 333 #[.slice A n c,.func (.func 334) #[] #[]] [] λr H'=>r=.returned (.bool (l.any λx => !sq x))∧H'=[]:=by
 refine t_ func333 ntmps333 ?_;repeat first|refine aE ?_|intro
 refine eV (λM=>p9 M A n c l) ?_;repeat first|refine aE ?_|intro
 exact aR rfl aF aA (⟨by rw[←E6],rfl⟩)
theorem ixI(l:List bJ)(hr:Rd E fN A n c l):aK prog E 369 #[.slice A n c,.func (.func 336) #[] #[]] [] λr H'=>r=.returned (.int .i64 (RX (λx => !x.may) l))∧H'=[]:=by
 have hn:=hr.len;have hcap:=hr.cap;refine t_ func369 ntmps369 ?_;repeat first|refine aE ?_|intro
 refine C.loop (X:=Nat) (λi=>[(0,.slice A n c),(1,.func (.func 336) #[] #[]),(7,.int .i64 n),(8,.int .i64 i)]) (λ_=>[]) (λi=>i≤n∧∀j y,j<i→l[j]?=some y→(λx => !x.may) y=false) (λi=>n - i) 0 aD aB.refl ⟨aAh _,λj y hj=>by omega⟩ ?_;rintro i G ⟨hi,hall⟩;by_cases hlt:i<n
 ·have hx:l[i]?=some l[i]:=aAa o_;generalize l[i]=x at hx;have hmax:=fX;repeat first|refine aE ?_|intro
  refine L.step sD (S.wB rfl rfl rfl rfl func336 q_ rfl aC (λM hE=>Z7 M x) ?_);rintro r H' ⟨rfl,rfl⟩;refine gk bG ?_;cases hp:x.may
  ·rw[CB (p:=λx => !x.may) hx (by rw[hp];rfl) hall];repeat first|refine aE ?_|intro
   exact B7
  ·repeat first|refine aE ?_|intro
   refine⟨i+1,aD,aB.refl,⟨by omega,λj y hj hy=>?_⟩,by omega⟩;by_cases hji:j=i
   ·subst hji;rw[hx] at hy;injection hy with hy;subst hy;dsimp only;rw[hp];rfl
   ·exact hall j y o_ hy
 ·obtain rfl:i=n:=o_;rw[Bp (λx hx=>by obtain⟨j,hj,rfl⟩:=aBm hx;exact hall j _ o_ (aAa hj))];repeat first|refine aE ?_|intro
  exact B7
theorem cfI(l:List bJ)(hr:Rd E fN A n c l):aK prog E 335 #[.slice A n c,.func (.func 336) #[] #[]] [] λr H'=>r=.returned (.bool (l.any λx => !x.may))∧H'=[]:=by
 refine t_ func335 ntmps335 ?_;repeat first|refine aE ?_|intro
 refine eV (λM=>ixI M A n c l) ?_;repeat first|refine aE ?_|intro
 exact aR rfl aF aA (⟨by rw[←E6],rfl⟩)
theorem u7(l:List aX)(hr:Rd E bE A n c l):aK prog E 230 #[.slice A n c,.func (.func 338) #[] #[]] [] λr H'=>r=.returned (.int .i64 (RX (λx => !x.may) l))∧H'=[]:=by
 have hn:=hr.len;have hcap:=hr.cap;refine t_ func230 ntmps230 ?_;repeat first|refine aE ?_|intro
 refine C.loop (X:=Nat) (λi=>[(0,.slice A n c),(1,.func (.func 338) #[] #[]),(7,.int .i64 n),(8,.int .i64 i)]) (λ_=>[]) (λi=>i≤n∧∀j y,j<i→l[j]?=some y→(λx => !x.may) y=false) (λi=>n - i) 0 aD aB.refl ⟨aAh _,λj y hj=>by omega⟩ ?_;rintro i G ⟨hi,hall⟩;by_cases hlt:i<n
 ·have hx:l[i]?=some l[i]:=aAa o_;generalize l[i]=x at hx;have hmax:=fX;repeat first|refine aE ?_|intro
  refine L.step sD (S.wB rfl rfl rfl rfl func338 q_ rfl aC (λM hE=>Y8 M x) ?_);rintro r H' ⟨rfl,rfl⟩;refine gk bG ?_;cases hp:x.may
  ·rw[CB (p:=λx => !x.may) hx (by rw[hp];rfl) hall];repeat first|refine aE ?_|intro
   exact B7
  ·repeat first|refine aE ?_|intro
   refine⟨i+1,aD,aB.refl,⟨by omega,λj y hj hy=>?_⟩,by omega⟩;by_cases hji:j=i
   ·subst hji;rw[hx] at hy;injection hy with hy;subst hy;dsimp only;rw[hp];rfl
   ·exact hall j y o_ hy
 ·obtain rfl:i=n:=o_;rw[Bp (λx hx=>by obtain⟨j,hj,rfl⟩:=aBm hx;exact hall j _ o_ (aAa hj))];repeat first|refine aE ?_|intro
  exact B7
theorem p4(l:List aX)(hr:Rd E bE A n c l):aK prog E 337 #[.slice A n c,.func (.func 338) #[] #[]] [] λr H'=>r=.returned (.bool (l.any λx => !x.may))∧H'=[]:=by
 refine t_ func337 ntmps337 ?_;repeat first|refine aE ?_|intro
 refine eV (λM=>u7 M A n c l) ?_;repeat first|refine aE ?_|intro
 exact aR rfl aF aA (⟨by rw[←E6],rfl⟩)
end
theorem Ao(m:Mg)(A:Option Addr)(n c:Nat)(B:Option Addr)(k d:Nat):∀j u,(Au.bT [m.k0,m.k1,m.k2,m.k3])[j]?=some u→(oK m A n c B k d)[3+j]?=some u:=by
 intro j u h;have e:Au.bT [m.k0,m.k1,m.k2,m.k3]=[.int .i64 m.k0,.int .i64 m.k1,.int .i64 m.k2,.int .i64 m.k3]:=rfl;rw[e] at h
 match j,h with
 |0,h=>exact h
 |1,h=>exact h
 |2,h=>exact h
 |3,h=>exact h
 |j+4,h=>simp at h
section
variable (E:Env) (m:Mg) (A:Option Addr) (n c:Nat) (B:Option Addr) (k d:Nat)
theorem Oj:aK prog E 287 #[.agg (oK m A n c B k d).toArray] [] λe H'=>e=.returned (.bool m.nT)∧H'=[]:=by
 refine t_ func287 ntmps287 ?_;unfold Mg.nT;by_cases h3:m.kind=3
 ·rw[if_pos h3];repeat first|refine aE ?_|intro
  refine bW (λM=>Yz M m.fr) ?_;cases hf:wV m.fr
  ·rintro e H' ⟨rfl,rfl⟩;repeat first|refine aE ?_|intro
   exact B7
  ·rintro e H' ⟨rfl,rfl⟩;repeat first|refine aE ?_|intro
   exact B7
 rw[if_neg h3];by_cases h4:m.kind=4
 ·rw[if_pos h4];by_cases hf:m.fr=9
  ·rw[decide_eq_true hf];repeat first|refine aE ?_|intro
   refine bK (λM=>Yz M m.to) ?_;repeat first|refine aE ?_|intro
   exact B7
  ·rw[decide_eq_false hf];repeat first|refine aE ?_|intro
   exact B7
 rw[if_neg h4];repeat first|refine aE ?_|intro
 refine bW (λM=>Yz M m.fr) ?_;cases hf:wV m.fr
 ·rintro e H' ⟨rfl,rfl⟩;repeat first|refine aE ?_|intro
  exact B7
 ·rintro e H' ⟨rfl,rfl⟩;repeat first|refine aE ?_|intro
  refine bK (λM=>Yz M m.to) ?_;repeat first|refine aE ?_|intro
  exact B7
def HQ(m:Mg)(A:Option Addr)(n c:Nat)(B:Option Addr)(k d:Nat)(r:Value):Prop :=
 ∃A' n' c' B' k' d',r=.agg (oK m.bare A' n' c' B' k' d').toArray∧(∀E,Rd E fN A n c m.ids→Rd E fN A' n' c' m.bare.ids)∧∀E,Rd E bE B k d m.iS→Rd E bE B' k' d' m.bare.iS
theorem Um(h:m.kind=1):HQ m A n c B k d (.agg #[.int .i64 m.kind,.int .i64 m.fr,.int .i64 m.to,.int .i64 m.k0,.int .i64 m.k1,.int .i64 m.k2,.int .i64 m.k3,.int .i64 m.base,.slice none 0 0,.slice none 0 0,.int .i64 0,.int .i64 0,.int .i64 0,.bool false,.int .i64 0,.int .i64 0,.int .i64 0,.int .i64 0,.int .i64 0]):=by
 have e:m.bare=⟨m.kind,m.fr,m.to,m.k0,m.k1,m.k2,m.k3,m.base,[],[],xX,rZ⟩:=if_pos h;refine⟨none,0,0,none,0,0,by rw[e];rfl,λE _=>by rw[e];exact Rd.nil E fN,λE _=>by rw[e];exact Rd.nil E bE⟩
theorem UW(h:m.kind=2):HQ m A n c B k d (.agg #[.int .i64 m.kind,.int .i64 m.fr,.int .i64 m.to,.int .i64 0,.int .i64 0,.int .i64 0,.int .i64 0,.int .i64 m.base,.slice A n c,.slice B k d,.int .i64 0,.int .i64 0,.int .i64 0,.bool false,.int .i64 0,.int .i64 0,.int .i64 0,.int .i64 0,.int .i64 0]):=by
 have e:m.bare=⟨m.kind,m.fr,m.to,0,0,0,0,m.base,m.ids,m.iS,xX,rZ⟩:=by unfold Mg.bare;rw[if_neg o_,if_pos h]
 refine⟨A,n,c,B,k,d,by rw[e];rfl,λE h=>by rw[e];exact h,λE h=>by rw[e];exact h⟩
theorem UT(h:m.kind=3):HQ m A n c B k d (.agg #[.int .i64 m.kind,.int .i64 m.fr,.int .i64 m.to,.int .i64 0,.int .i64 0,.int .i64 0,.int .i64 0,.int .i64 0,.slice none 0 0,.slice none 0 0,.int .i64 m.key.id.rep,.int .i64 m.key.id.seq,.int .i64 m.key.ord,.bool m.key.cD,.int .i64 m.bC.kind,.int .i64 m.bC.a,.int .i64 m.bC.n,.int .i64 m.bC.ref.rep,.int .i64 m.bC.ref.seq]):=by
 have e:m.bare=⟨m.kind,m.fr,m.to,0,0,0,0,0,[],[],m.key,m.bC⟩:=by unfold Mg.bare;rw[if_neg o_,if_neg o_,if_pos h]
 refine⟨none,0,0,none,0,0,by rw[e],λE _=>by rw[e];exact Rd.nil E fN,λE _=>by rw[e];exact Rd.nil E bE⟩
theorem UY(h:m.kind=4):HQ m A n c B k d (.agg #[.int .i64 m.kind,.int .i64 m.fr,.int .i64 m.to,.int .i64 0,.int .i64 0,.int .i64 0,.int .i64 0,.int .i64 0,.slice none 0 0,.slice none 0 0,.int .i64 m.key.id.rep,.int .i64 m.key.id.seq,.int .i64 m.key.ord,.bool m.key.cD,.int .i64 0,.int .i64 0,.int .i64 0,.int .i64 0,.int .i64 0]):=by
 have e:m.bare=⟨m.kind,m.fr,m.to,0,0,0,0,0,[],[],m.key,rZ⟩:=by unfold Mg.bare;rw[if_neg o_,if_neg o_,if_neg o_,if_pos h]
 refine⟨none,0,0,none,0,0,by rw[e];rfl,λE _=>by rw[e];exact Rd.nil E fN,λE _=>by rw[e];exact Rd.nil E bE⟩
theorem Wm(h:1≤m.kind∧m.kind≤4):aK prog E 290 #[.agg (oK m A n c B k d).toArray] [] λe H'=>(∃r,e=.returned r∧HQ m A n c B k d r)∧H'=[]:=by
 refine t_ func290 ntmps290 ?_;rcases(show m.kind=1∨m.kind=2∨m.kind=3∨m.kind=4 by omega) with h1|h1|h1|h1
 ·have hp:=Um m A n c B k d h1;repeat first|refine aE ?_|intro
  rename_i gb gr g;refine rB (l_ [0,1,2,3,4] (g_ 5 (n_ 6 (g_ 7 .nil)))) ([aJ gb 195 (oK m A n c B k d)]) ?_;repeat first|refine aE ?_|intro
  apply cI;(· exact rfl);(· exact aF);(· exact rfl);(· exact rfl);(· exact rfl);(· exact aS);(· exact rfl);rotate_left;(· exact(⟨⟨_,rfl,hp⟩,rfl⟩));(· exact aA)
 ·have hp:=UW m A n c B k d h1;repeat first|refine aE ?_|intro
  rename_i gb gr g;refine rB (l_ [0,1,2,3,4,5,6] (g_ 7 (n_ 8 (g_ 9 (n_ 10 (g_ 11 .nil)))))) ([aJ gb 195 (oK m A n c B k d)]) ?_;repeat first|refine aE ?_|intro
  apply cI;(· exact rfl);(· exact aF);(· exact rfl);(· exact rfl);(· exact rfl);(· exact aS);(· exact rfl);rotate_left;(· exact(⟨⟨_,rfl,hp⟩,rfl⟩));(· exact aA)
 ·have hp:=UT m A n c B k d h1;repeat first|refine aE ?_|intro
  rename_i gb gr g;refine rB (l_ [0,1,2,3,4] (g_ 5 (n_ 6 (g_ 7 .nil)))) ([aJ gb 195 (oK m A n c B k d)]) ?_;repeat first|refine aE ?_|intro
  apply cI;(· exact rfl);(· exact aF);(· exact rfl);(· exact rfl);(· exact rfl);(· exact aS);(· exact rfl);rotate_left;(· exact(⟨⟨_,rfl,hp⟩,rfl⟩));(· exact aA)
 ·have hp:=UY m A n c B k d h1;repeat first|refine aE ?_|intro
  apply cI;(· exact rfl);(· exact aF);(· exact rfl);(· exact rfl);(· exact rfl);(· exact aS);(· exact rfl);rotate_left;(· exact(⟨⟨_,rfl,hp⟩,rfl⟩));(· exact aA)
theorem Zm(hI:Rd E fN A n c m.ids)(hC:Rd E bE B k d m.iS)(h:1≤m.kind∧m.kind≤4):aK prog E 288 #[.agg (oK m A n c B k d).toArray] [] λe H'=>e=.returned (.bool m.cV)∧H'=[]:=by
 have hn:=hI.len;have hk:=hC.len;have hnc:=hI.cap;have hkc:=hC.cap;have h4m:4≤maxLen:=sD;have hkn:=Ao m A n c B k d;refine t_ func288 ntmps288 ?_;unfold Mg.cV;rcases(show m.kind=1∨m.kind=2∨m.kind=3∨m.kind=4 by omega) with h1|h1|h1|h1
 ·rw[if_pos h1];have hall:=Ef sq [m.k0,m.k1,m.k2,m.k3];rw[show[m.k0,m.k1,m.k2,m.k3].all sq=(sq m.k0&&sq m.k1&&sq m.k2&&sq m.k3) by simp[Bool.and_assoc]] at hall;repeat first|refine aE ?_|intro
  rename_i g;refine cl sD sK aC (λM hE=>z7 M (some ⟨g,3,none⟩) 4 4 [m.k0,m.k1,m.k2,m.k3] (hE.arr aS rfl h4m hkn)) ?_;rintro e H' ⟨rfl,rfl⟩;refine gk bG ?_;rw[←hall];cases hs:([m.k0,m.k1,m.k2,m.k3].any λx => !sq x)
  ·repeat first|refine aE ?_|intro
   refine bK (λM=>dV M m.base 0 48) ?_;repeat first|refine aE ?_|intro
   exact B7
  ·repeat first|refine aE ?_|intro
   exact B7
 ·rw[if_neg o_,if_pos h1];rw[←hn,←hk,←Ef bJ.may,←Ef aX.may];by_cases hn16:n≤16
  ·have d16:decide (n≤16)=true:=decide_eq_true hn16;rw[d16];repeat first|refine aE ?_|intro
   refine eV (λM=>cfI M A n c m.ids) ?_;by_cases hk8:k≤8
   ·have d8:decide (k≤8)=true:=decide_eq_true hk8;rw[d8];repeat first|refine aE ?_|intro
    refine eV (λM=>p4 M B k d m.iS) ?_;cases hs:(m.ids.any λx => !x.may)
    ·cases hs2:(m.iS.any λx => !x.may)
     ·repeat first|refine aE ?_|intro
      refine bK (λM=>dV M m.base 0 48) ?_;repeat first|refine aE ?_|intro
      exact B7
     ·repeat first|refine aE ?_|intro
      exact B7
    ·repeat first|refine aE ?_|intro
     exact B7
   ·have d8:decide (k≤8)=false:=decide_eq_false hk8;rw[d8];cases hs:(m.ids.any λx => !x.may)
    ·repeat first|refine aE ?_|intro
     exact B7
    ·repeat first|refine aE ?_|intro
     exact B7
  ·have d16:decide (n≤16)=false:=decide_eq_false hn16;rw[d16];by_cases hk8:k≤8
   ·repeat first|refine aE ?_|intro
    refine eV (λM=>p4 M B k d m.iS) ?_;repeat first|refine aE ?_|intro
    exact B7
   ·repeat first|refine aE ?_|intro
    exact B7
 ·rw[if_neg o_,if_neg o_,if_pos h1];repeat first|refine aE ?_|intro
  refine bW (λM=>pI M m.key) ?_;cases hs:m.key.may
  ·rintro e H' ⟨rfl,rfl⟩;repeat first|refine aE ?_|intro
   exact B7
  ·rintro e H' ⟨rfl,rfl⟩;repeat first|refine aE ?_|intro
   refine bK (λM=>ES M m.bC) ?_;repeat first|refine aE ?_|intro
   exact B7
 ·rw[if_neg o_,if_neg o_,if_neg o_];repeat first|refine aE ?_|intro
  refine bK (λM=>pI M m.key) ?_;repeat first|refine aE ?_|intro
  exact B7
theorem Cr(hI:Rd E fN A n c m.ids)(hC:Rd E bE B k d m.iS):aK prog E 235 #[.agg (oK m A n c B k d).toArray] [] λe H'=>e=.returned (.int .i64 m.check)∧H'=[]:=by
 refine t_ func235 ntmps235 ?_;unfold Mg.check;repeat first|refine aE ?_|intro
 refine bW (λM=>dV M m.kind 1 4) ?_;by_cases h:1≤m.kind∧m.kind≤4
 case neg =>
  rw[decide_eq_false h,if_neg h];rintro e H' ⟨rfl,rfl⟩;repeat first|refine aE ?_|intro
  exact B7
 rw[decide_eq_true h,if_pos h];rintro e H' ⟨rfl,rfl⟩;repeat first|refine aE ?_|intro
 refine bW (λM=>Oj M m A n c B k d) ?_;cases hp:m.nT
 ·rw[if_neg (by simp)];rintro e H' ⟨rfl,rfl⟩;repeat first|refine aE ?_|intro
  exact B7
 rintro e H' ⟨rfl,rfl⟩;repeat first|refine aE ?_|intro
 refine C1 (λM h1 h2=>Zm M m A n c B k d h1 h2 h) ?_;cases hf:m.cV
 ·rw[if_neg (by simp)];rintro e H' ⟨rfl,rfl⟩;repeat first|refine aE ?_|intro
  exact B7
 rw[if_pos (by rfl)];rintro e H' ⟨rfl,rfl⟩;repeat first|refine aE ?_|intro
 refine rA (l_ [0,2] (g_ 1 (g_ 3 (l_ [4,5] .nil)))) ?_;repeat first|refine aE ?_|intro
 refine iO (λM=>Wm M m A n c B k d h) ?_;rintro e H' ⟨⟨r,rfl,A',n',c',B',k',d',rfl,hi',hc'⟩,rfl⟩;repeat first|refine aE ?_|intro
 refine cg rfl sD bA sK aC (λM hE=>YH M A' n' c' B' k' d' A n c B k d m.bare m (hi' _ dB) (hc' _ dB) dB dB) ?_;by_cases hb:m.bare=m
 ·rw[decide_eq_true hb,if_pos hb];rintro e H' ⟨rfl,rfl⟩;repeat first|refine aE ?_|intro
  exact B7
 ·rw[decide_eq_false hb,if_neg hb];rintro e H' ⟨rfl,rfl⟩;repeat first|refine aE ?_|intro
  exact B7
end
end Go.Proofs.YtmilalkjbojciaaGreat.Sep
