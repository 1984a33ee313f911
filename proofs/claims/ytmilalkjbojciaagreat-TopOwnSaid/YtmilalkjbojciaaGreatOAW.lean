/- Part AW: what it needs. No condition. -/
import Derived.Test.YtmilalkjbojciaaGreatOAA
import Derived.Test.YtmilalkjbojciaaGreatOAI
import Derived.Test.YtmilalkjbojciaaGreatOAO
import Derived.Test.YtmilalkjbojciaaGreatOAQ
import Derived.Test.YtmilalkjbojciaaGreatOAV
import Derived.Test.YtmilalkjbojciaaGreatOAC
import Derived.Test.YtmilalkjbojciaaGreatOAP
import Derived.Test.YtmilalkjbojciaaGreatOAG
set_option maxRecDepth 100000
set_option maxHeartbeats 8000000
open Go.Proofs.Tryz
namespace Go.Proofs.YtmilalkjbojciaaGreat.Crc
def Ug:Nat:=3988292384
def LB(c:Nat):Nat:=if c % 2=1 then(c / 2) ^^^ Ug else c / 2
def bits(c:Nat):Nat→Nat
 |0=>c
 |k+1=>LB (bits c k)
def byte(c x:Nat):Nat:=bits (c ^^^ x) 8
def raw(c:Nat)(l:List UInt8):Nat:=l.foldl (λc x=>byte c x.toNat) c
def more(c:Nat)(l:List UInt8):Nat:=4294967295 ^^^ raw (4294967295 ^^^ c) l
def sum(l:List UInt8):Nat:=more 0 l
theorem zP{a b:Nat}(ha:a<4294967296)(hb:b<4294967296):a ^^^ b<4294967296:=Nat.xor_lt_two_pow (n:=32) ha hb
theorem Qr{c:Nat}(h:c<4294967296):LB c<4294967296:=by
 unfold LB;split
 ·exact zP o_ sD
 ·omega
theorem FG{c:Nat}(h:c<4294967296):∀k,bits c k<4294967296
 |0=>h
 |k+1=>Qr (FG h k)
theorem Rg{c x:Nat}(h:c<4294967296)(hx:x<256):byte c x<4294967296:=FG (zP h o_) 8
theorem Np{c:Nat}(h:c<4294967296):∀l,raw c l<4294967296:=by
 intro l;induction l generalizing c with
 |nil=>exact h
 |cons x l ih=>exact ih (Rg h (aEr x))
theorem KN{c:Nat}(h:c<4294967296)(l:List UInt8):more c l<4294967296:=zP sD (Np (zP sD h) l)
theorem EW(l:List UInt8):sum l<4294967296:=KN sD l
theorem CM(c:Nat)(a b:List UInt8):raw c (a++b)=raw (raw c a) b:=List.foldl_append
theorem PA(c:Nat)(a:List UInt8)(x:UInt8):raw c (a++[x])=byte (raw c a) x.toNat:=by rw[CM];rfl
theorem Kl(a b:Nat):a ^^^ (a ^^^ b)=b:=by rw[←Nat.xor_assoc,Nat.xor_self,Nat.zero_xor]
theorem Gp(c:Nat)(a b:List UInt8):more c (a++b)=more (more c a) b:=by
 unfold more;rw[CM,Kl]
theorem OS(c:Nat):more c []=c:=Kl _ _
end Go.Proofs.YtmilalkjbojciaaGreat.Crc
namespace Go.Proofs.YtmilalkjbojciaaGreat.Crc
open Go.RowKit Mem
theorem YA{c:Nat}(h:c<4294967296):Go.bits .and .u32 (c:Int) 1=((c % 2:Nat):Int):=by
 rw[show(1:Int)=((1:Nat):Int) from rfl,u32_and_nat c 1 h sD,nat_mask1]
theorem T5{c:Nat}(h:c<4294967296):Go.bits .xor .u32 IntKind.u32.max (c:Int)=((4294967295 ^^^ c:Nat):Int):=u32_xor_nat 4294967295 c sD h
theorem QO(c:Nat)(hc:c<4294967296)(A:Option Addr)(n cap B:Nat)(l:List UInt8)(W:World)(hr:Rd Fq W B A n cap l) :
  Calls prog 294 #[.int .u32 (c:Int),.slice A n cap] W λe w'=>e=.returned (.int .u32 (more c l:Nat))∧W=w':=by
 have hn:=hr.cap;have hnl:=Lib.hid hr.len;unfold maxLen at hn;have hx:=T5 hc;have hd:∀l,4294967295 ^^^ raw (4294967295 ^^^ c) l=more c l:=λ_=>rfl;have HD:=Lib.hid hd;clear hd;have hc0:4294967295 ^^^ c<4294967296:=zP sD hc;generalize 4294967295 ^^^ c=c0 at *
 go_enter func294,ntmps294
 go_wp2
 clear hx
 go_loop [5,12] (λt i=>∃k:Nat,k≤n∧i=.int .i64 k∧t=.int .u32 (raw c0 (l.take k):Nat)) (λ_ i=>n - (intOf i).toNat)
 case atStart=>exact⟨0,by omega,rfl,rfl⟩
 case round =>
  obtain⟨k,hk,rfl,rfl⟩:=hrel;have hb:=Np hc0 (l.take k);by_cases hlt:k<n
  ·obtain⟨ad,rfl,_,hl,hcell⟩:=hr.j9 hlt;have hs:raw c0 (l.take (k+1))=byte (raw c0 (l.take k)) l[k].toNat:=by
    rw[aAn hl,PA]
   have HS:=Lib.hid hs;clear hs;have hx:=aEr l[k];generalize hR:raw c0 (l.take k)=R at *;clear hR;generalize l[k].toNat=x at *;have hxx:Go.bits .xor .u32 (R:Int) (x:Int)=((R ^^^ x:Nat):Int):=u32_xor_nat R x hb o_;have hR2:R ^^^ x<4294967296:=zP hb o_;have hby:bits (R ^^^ x) 8=byte R x:=rfl;have HBY:=Lib.hid hby
   clear hby
   generalize hY:R ^^^ x=Y at *;clear hY
   go_wp2
   clear hxx
   go_loop [5,20] (λt i=>∃j:Nat,j≤8∧i=.int .i64 j∧t=.int .u32 (bits Y j:Nat)) (λ_ i=>8 - (intOf i).toNat)
   case atStart=>exact⟨0,by omega,rfl,rfl⟩
   case round =>
    obtain⟨j,hj,rfl,rfl⟩:=hrel;have hbb:=FG hR2 j;have hst:bits Y (j+1)=LB (bits Y j):=rfl;have HST:=Lib.hid hst;clear hst;by_cases h8:j<8
    ·generalize bits Y j=Z at *;have hm:=YA hbb;have hq:(Z:Int) / 2=((Z / 2:Nat):Int):=by simp
     have hp:Go.bits .xor .u32 ((Z:Int) / 2) 3988292384=((Z / 2 ^^^ Ug:Nat):Int):=by
      rw[hq];exact u32_xor_nat (Z / 2) 3988292384 o_ sD
     clear hq;by_cases h1:Z % 2=1
     ·have hs1:LB Z=Z / 2 ^^^ Ug:=if_pos h1;have HS1:=Lib.hid hs1;clear hs1
      go_wp2
      all_goals go_round
      case rel=>exact⟨j+1,by omega,by go_num,J7 (by rw[HST.out,HS1.out])⟩
      case measure=>simp[intOf];omega
     ·have hs1:LB Z=Z / 2:=if_neg h1;have HS1:=Lib.hid hs1;clear hs1 hp
      go_wp2
      all_goals go_round
      case rel=>exact⟨j+1,by omega,by go_num,by rw[HST.out,HS1.out];simp⟩
      case measure=>simp[intOf];omega
    ·obtain rfl:j=8:=by omega
     go_wp2
     go_round
     case rel=>exact⟨k+1,by omega,by go_num,J7 (by rw[HS.out,HBY.out])⟩
     case measure=>simp[intOf];omega
  ·obtain rfl:k=n:=by omega
   go_wp2
   go_ret
   exact⟨SP (by rw[T5 hb,HD.out,hnl.out,aAo]),rfl⟩
def FK(c:Nat)(ls:List (List UInt8)):Nat:=ls.foldl more c
theorem R9{c:Nat}(h:c<4294967296):∀ls,FK c ls<4294967296:=by
 intro ls;induction ls generalizing c with
 |nil=>exact h
 |cons x l ih=>exact ih (KN h x)
theorem FE(c:Nat)(ls:List (List UInt8)):FK c ls=more c ls.flatten:=by
 induction ls generalizing c with
 |nil=>exact(OS c).symm
 |cons x l ih=>rw[aFs,Gp,←ih];rfl
theorem MK(c:Nat)(ls:List (List UInt8))(x:List UInt8):FK c (ls++[x])=more (FK c ls) x:=by simp[FK]
end Go.Proofs.YtmilalkjbojciaaGreat.Crc
namespace Go.Proofs.YtmilalkjbojciaaGreat.Sep
open Go.RowKit Reg
open Mem hiding Rd
theorem V5{E:Env}{H:List aL}{A:Option Addr}{n c:Nat}{l:List UInt8}{u:World}(h:kV E H aU A n c l)(hu:St E H u):Mem.Rd Fq u u.heap.size A n c l:=by
 obtain⟨h0,h1,h2,h3⟩:=h u hu;refine⟨h0,h1,h2,?_,λhn=>?_⟩
 ·rw[Fq.bM,←h0]
 ·rcases h3 with h3|⟨ad,e,hc⟩
  ·omega
  ·have hl:0<(aU.bT l).length:=by rw[aU.bM,←h0];exact Nat.mul_pos hn aU.gL
   have:=aEk _ _ (hc 0 _ (aAa hl));exact⟨ad,e,by rwa [eQ] at this,hc⟩
theorem Of(E:Env)(s:Nat)(hs:s<4294967296)(A:Option Addr)(n c:Nat)(l:List UInt8)(hr:Rd E aU A n c l) :
  aK prog E 294 #[.int .u32 s,.slice A n c] [] λe H'=>e=.returned (.int .u32 (Crc.more s l:Nat))∧H'=[] :=
 Pu λ_ hw=>Crc.QO s hs A n c _ l _ (V5 (kV.rd hr) hw)
theorem P9(E:Env)(A:Option Addr)(n c:Nat)(l:List Oc)(hr:Rd E vQ A n c l)(hi:Zl E l) :
  aK prog E 245 #[.slice A n c] [] λe H'=>e=.returned (.int .u32 (Crc.sum (l.map (·.b)).flatten:Nat))∧H'=[]:=by
 have hn:=hr.len;have hcap:=hr.cap;have hbig:n≤9223372036854775807:=by unfold maxLen at hcap;omega
 refine t_ func245 ntmps245 ?_;repeat first|refine aE ?_|intro
 refine C.loop (X:=Nat) (λi=>[(3,.int .u32 (Crc.FK 0 ((l.take i).map (·.b)):Nat)),(6,.slice A n c),(7,.int .i64 n),(8,.int .i64 i)]) (λ_=>[]) (λi=>i≤n) (λi=>n - i) 0 aD aB.refl (aAh _) ?_;rintro i G hin;by_cases hlt:i<n
 ·have hx:l[i]?=some l[i]:=aAa o_;have hri:=hi.at_ hx;have hs:=Crc.R9 (c:=0) sD ((l.take i).map (·.b));have e3:Crc.FK 0 ((l.take (i+1)).map (·.b))=Crc.more (Crc.FK 0 ((l.take i).map (·.b))) l[i].b:=by
   rw[aAn o_,aBk,aCi,aDo,Crc.MK]
  generalize l[i]=x at *;repeat first|refine aE ?_|intro
  refine dX (λ(E':Env)=>Of E' _ hs x.A x.n x.c x.b) ?_;rintro e H' ⟨rfl,rfl⟩;rw[←e3];repeat first|refine aE ?_|intro
  exact⟨i+1,aD,aB.refl,by omega,by omega⟩
 ·obtain rfl:i=n:=by omega
  have e4:Crc.FK 0 ((l.take i).map (·.b))=Crc.sum (l.map (·.b)).flatten:=by
   rw[hn,aAo,Crc.FE];rfl
  rw[e4];repeat first|refine aE ?_|intro
  exact e1_
theorem Bc(E:Env)(_g:Nat)(A:Option Addr)(n c:Nat)(l:List UInt8)(hr:Rd E aU A n c l)(B:Option Addr)(hB:Rd E vQ B 1 1 [⟨A,n,c,l⟩]) :
  aK prog E 245 #[.slice B 1 1] [] λe H'=>e=.returned (.int .u32 (Crc.sum l:Nat))∧H'=[]:=by
 have h:=P9 E B 1 1 _ hB (λx hx=>by simp at hx;subst hx;exact hr);simpa using h
end Go.Proofs.YtmilalkjbojciaaGreat.Sep
namespace Go.Proofs.YtmilalkjbojciaaGreat.Frm
open Oct
def fr(b:List UInt8):List UInt8:=be b.length 2++b++be (Crc.sum b) 4++[90]
theorem bO(b:List UInt8):(fr b).length=b.length+7:=by simp[fr,aP];omega
def size(l:List UInt8):Nat:=get (l.take 2)
def ok(l:List UInt8):Prop:=2≤l.length∧1≤size l∧size l≤4096∧size l+7≤l.length∧l[size l+6]?=some 90∧get ((l.drop (size l+2)).take 4)=Crc.sum ((l.drop 2).take (size l))
instance (l:List UInt8):Decidable (ok l):=by unfold ok;exact inferInstance
def kG(l:List UInt8):Option (List UInt8×Nat):=if ok l then some ((l.drop 2).take (size l),size l+7) else none
theorem lW{l x:List UInt8}{k:Nat}(h:kG l=some (x,k)):8≤k∧k≤l.length∧x.length+7=k:=by
 unfold kG at h;split at h
 ·rename_i ho;injection h with h;injection h with h1 h2
  subst h1 h2;obtain⟨h1,h2,h3,h4,_⟩:=ho;simp;omega
 ·cases h
theorem Hf{l:List UInt8}(h2:2≤l.length)(_h1:1≤size l)(h3:size l+7≤l.length):(l[size l+6]?=some 90∧get ((l.drop (size l+2)).take 4)=Crc.sum ((l.drop 2).take (size l)))↔fr ((l.drop 2).take (size l))=l.take (size l+7):=by
 have hlen:((l.drop 2).take (size l)).length=size l:=by simp;omega
 have e1:l.take (size l+7)=l.take 2++(l.drop 2).take (size l)++(l.drop (size l+2)).take 4++(l.drop (size l+6)).take 1:=by
  rw[show size l+7=2+size l+4+1 by omega,aDd,aDd,aDd,show 2+size l+4=size l+6 by omega,show 2+size l=size l+2 by omega]
 have e2:be (size l) 2=l.take 2:=by
  have:=Ec (l.take 2);rw[aAg,aBr h2] at this;exact this
 have hl4:((l.drop (size l+2)).take 4).length=4:=by simp;omega
 have lJ:(l.drop (size l+6)).take 1=[90]↔l[size l+6]?=some 90:=by
  rw[aAm o_,aAa o_,aEl,aCg];constructor
  ·intro h;injection h with h _;rw[h]
  ·intro h;injection h with h;rw[h]
 have hfour:be (Crc.sum ((l.drop 2).take (size l))) 4=(l.drop (size l+2)).take 4↔get ((l.drop (size l+2)).take 4)=Crc.sum ((l.drop 2).take (size l)):=by
  constructor
  ·intro h;rw[←h,FD,aEc];exact Crc.EW _
  ·intro h;rw[←h];have:=Ec ((l.drop (size l+2)).take 4);rw[hl4] at this;exact this
 unfold fr;rw[e1,hlen,e2,←lJ,←hfour];constructor
 ·rintro⟨h5,h6⟩;rw[h5,h6]
 ·intro h;have h7:=List.append_inj' h (by rw[aAg];simp;omega);have h8:=List.append_inj' h7.1 (by rw[aP,hl4]);exact⟨h7.2.symm,h8.2⟩
theorem Jq{b t:List UInt8}(h:b.length≤4096):size (fr b++t)=b.length:=by
 unfold size fr;rw[aAb,aAb,aAb,aBj (aP _ _),FD,aEc o_]
theorem yY{b t:List UInt8}(h1:1≤b.length)(h:b.length≤4096):kG (fr b++t)=some (b,b.length+7):=by
 have hs:=Jq (t:=t) h;have hl:(fr b++t).length=b.length+7+t.length:=by rw[aAe,bO]
 have e:((fr b++t).drop 2).take (size (fr b++t))=b:=by
  rw[hs];unfold fr;rw[aAb,aAb,aAb,aBu (aP _ _),aBj rfl]
 have hok:ok (fr b++t):=by
  have h2:2≤(fr b++t).length:=by omega
  have h3:1≤size (fr b++t):=by omega
  have h4:size (fr b++t)+7≤(fr b++t).length:=by omega
  refine⟨h2,h3,by omega,h4,(Hf h2 h3 h4).2 ?_⟩;rw[e,hs,aBj (bO b)]
 unfold kG;rw[if_pos hok,e,hs]
def scan:Nat→List UInt8→List (List UInt8)×Nat
 |0,_=>([],0)
 |k+1,l=>match kG l with
  |none=>([],0)
  |some (x,n)=>(x::(scan k (l.drop n)).1,n+(scan k (l.drop n)).2)
theorem uM{k:Nat}{l:List UInt8}(h:kG l=none):scan k l=([],0):=by
 cases k with
 |zero=>rfl
 |succ k=>simp[scan,h]
theorem AG{k:Nat}{l x:List UInt8}{n:Nat}(h:kG l=some (x,n)):scan (k+1) l=(x::(scan k (l.drop n)).1,n+(scan k (l.drop n)).2):=by simp[scan,h]
theorem Lo{k m:Nat}{l:List UInt8}(hk:l.length≤k)(hm:l.length≤m):scan k l=scan m l:=by
 induction k generalizing l m with
 |zero =>
  have h0:l=[]:=aBi o_;subst h0;rw[uM (k:=m) rfl];rfl
 |succ k ih =>
  cases hq:kG l with
  |none=>rw[uM hq,uM hq]
  |some r =>
   obtain⟨x,n⟩:=r;have hb:=lW hq;cases m with
   |zero=>omega
   |succ m =>
    have:=ih (l:=l.drop n) (m:=m) (by simp;omega) (by simp;omega);rw[AG hq,AG hq,this]
def cZ(l:List UInt8):List (List UInt8):=(scan l.length l).1
def upto(l:List UInt8):Nat:=(scan l.length l).2
theorem gR{l:List UInt8}(h:kG l=none):cZ l=[]∧upto l=0:=by unfold cZ upto;rw[uM h];exact⟨rfl,rfl⟩
theorem kM{l x:List UInt8}{n:Nat}(h:kG l=some (x,n)):cZ l=x::cZ (l.drop n)∧upto l=n+upto (l.drop n):=by
 have hb:=lW h;unfold cZ upto;have e:scan l.length l=(x::(scan (l.length - 1) (l.drop n)).1,n+(scan (l.length - 1) (l.drop n)).2):=by
  rw[show l.length=(l.length - 1)+1 by omega];exact AG h
 have e2:scan (l.length - 1) (l.drop n)=scan (l.drop n).length (l.drop n):=Lo (by simp;omega) (aAf _);rw[e,e2];exact⟨rfl,rfl⟩
theorem yG(l:List UInt8):8*(cZ l).length≤l.length:=by
 have key:∀(k:Nat) (l:List UInt8),l.length≤k→8*(cZ l).length≤l.length:=by
  intro k
  induction k with
  |zero =>
   intro l hl;have h0:l=[]:=aBi o_;subst h0;rw[(gR (l:=[]) rfl).1];simp
  |succ k ih =>
   intro l hl;cases hq:kG l with
   |none=>rw[(gR hq).1];simp
   |some r =>
    obtain⟨x,n⟩:=r;have hb:=lW hq;have:=ih (l.drop n) (by simp;omega);rw[(kM hq).1,aAs];simp at this;omega
 exact key _ l (aAf _)
theorem Cp{b:List UInt8}(h:b.length≤4096){k z:Nat}(hk:k<b.length+7):kG ((fr b).take k++List.replicate z 0)=none:=by
 unfold kG;refine if_neg ?_;rintro⟨h2,h1,h3,h4,h5,_⟩;have hl:((fr b).take k).length=k:=by rw[aAg,bO];omega
 have hge:k≤size ((fr b).take k++List.replicate z 0)+6:=by
  by_cases hk2:2≤k
  ·have e:size ((fr b).take k++List.replicate z 0)=b.length:=by
    have h6:=Jq (t:=[]) h;unfold size at h6⊢;rw[aAc] at h6;rw[aCw o_,aEn,aBr hk2,h6]
   omega
  ·omega
 rw[aBc o_,aDc] at h5;split at h5
 ·cases h5
 ·cases h5
theorem I8(ls:List (List UInt8))(hls:∀x∈ls,1≤x.length∧x.length≤4096)(cut z:Nat)(hc:cut≤(ls.map fr).flatten.length) :
  ∃k,k≤ls.length∧cZ ((ls.map fr).flatten.take cut++List.replicate z 0)=ls.take k∧((ls.take k).map fr).flatten.length≤cut∧(k<ls.length→cut<((ls.take (k+1)).map fr).flatten.length):=by
 induction ls generalizing cut with
 |nil =>
  refine⟨0,aAf _,?_,by simp,λh=>absurd h (by simp)⟩;have h0:kG (List.replicate z 0)=none:=by
   have:=Cp (b:=[]) (k:=0) (z:=z) (by simp) (by simp);simpa using this
  simpa using(gR h0).1
 |cons x ls ih =>
  have hx:=hls x (by simp);simp only[aCi,aFs,aAe,bO] at hc⊢;by_cases hk:cut<x.length+7
  ·refine⟨0,aAh _,?_,by simp,λ_=>by simp[bO];omega⟩;rw[aCw (by rw[bO];omega),(gR (Cp hx.2 hk)).1];rfl
  ·obtain⟨k,h1,h2,h3,h4⟩:=ih (λy hy=>hls y (by simp[hy])) (cut - (x.length+7)) o_;have e:(fr x++(ls.map fr).flatten).take cut=fr x++((ls.map fr).flatten).take (cut - (x.length+7)):=by
    rw[aEt,aAj (by rw[bO];omega),bO]
   refine⟨k+1,by simp;omega,?_,?_,λh=>?_⟩
   ·rw[e,aAb];have hg:=yY (b:=x) (t:=((ls.map fr).flatten).take (cut - (x.length+7))++List.replicate z 0) hx.1 hx.2;rw[(kM hg).1,aBu (bO x),h2];rfl
   ·simp only[aEl,aCi,aFs,aAe,bO];omega
   ·have:=h4 (by simpa using h);rw[aEl,aCi,aFs,aAe,bO];omega
end Go.Proofs.YtmilalkjbojciaaGreat.Frm
namespace Go.Proofs.YtmilalkjbojciaaGreat.Sep
open Go.RowKit Oct
def fI:List Nat→List Nat→List UInt8
 |w::ws,v::vs=>be v w++fI ws vs
 |_,_=>[]
def Ay:List Nat→List UInt8→List Nat
 | [],_=>[]
 |w::ws,l=>Oct.get (l.take w)::Ay ws (l.drop w)
theorem yO(ws:List Nat)(l:List UInt8)(h:ws.sum≤l.length):fI ws (Ay ws l)=l.take ws.sum:=by
 induction ws generalizing l with
 |nil=>simp[fI]
 |cons w ws ih =>
  rw[List.sum_cons] at h;have hb:=Ec (l.take w);rw[show(l.take w).length=w by simp;omega] at hb;show be (Oct.get (l.take w)) w++fI ws (Ay ws (l.drop w))=_;rw[ih (l.drop w) (by simp;omega),hb,List.sum_cons,aDd]
def fit:List Nat→List Nat→Prop
 |w::ws,v::vs=>v<256 ^ w∧fit ws vs
 | [],[]=>True
 |_,_=>False
theorem Ca(ws vs:List Nat)(t:List UInt8)(h:fit ws vs):Ay ws (fI ws vs++t)=vs:=by
 induction ws generalizing vs with
 |nil =>
  cases vs with
  |nil=>rfl
  |cons _ _=>cases h
 |cons w ws ih =>
  cases vs with
  |nil=>cases h
  |cons v vs =>
   show Oct.get (((be v w++fI ws vs)++t).take w)::Ay ws (((be v w++fI ws vs)++t).drop w)=_;rw[aAb,aBj (aP _ _),aBu (aP _ _),FD,aEc h.1,ih vs h.2]
theorem Bx(ws vs:List Nat)(h:fit ws vs):(fI ws vs).length=ws.sum:=by
 induction ws generalizing vs with
 |nil =>
  cases vs with
  |nil=>rfl
  |cons _ _=>cases h
 |cons w ws ih =>
  cases vs with
  |nil=>cases h
  |cons v vs =>
   show(be v w++fI ws vs).length=_;rw[aAe,aP,ih vs h.2,List.sum_cons]
structure Mg where
 kind:Int
 fr:Int
 to:Int
 k0:Int
 k1:Int
 k2:Int
 k3:Int
 base:Int
 ids:List bJ
 iS:List aX
 key:bP
 bC:cQ
theorem Mg.eq_iff{x y:Mg}:x=y↔x.kind=y.kind∧x.fr=y.fr∧x.to=y.to∧x.k0=y.k0∧x.k1=y.k1∧x.k2=y.k2∧x.k3=y.k3∧x.base=y.base∧x.ids=y.ids∧x.iS=y.iS∧x.key=y.key∧x.bC=y.bC:=by
 cases x;cases y;simp
instance:DecidableEq Mg:=λ_ _=>decidable_of_iff _ Mg.eq_iff.symm
abbrev Mg.ks(m:Mg):List Int:=[m.k0,m.k1,m.k2,m.k3]
def xX:bP:=⟨⟨0,0⟩,0,false⟩
def rZ:cQ:=⟨0,0,0,⟨0,0⟩⟩
def wV(n:Int):Bool:=decide (0≤n∧n≤3)
def sq(n:Int):Bool:=decide (0≤n∧n≤65535)
def bs(n:Int):Bool:=decide (0≤n∧n≤48)
def Mg.nT(m:Mg):Bool:=if m.kind=3 then wV m.fr&&decide (m.to=9) else if m.kind=4 then decide (m.fr=9)&&wV m.to else wV m.fr&&wV m.to
def Mg.cV(m:Mg):Bool :=
 if m.kind=1 then(sq m.k0&&sq m.k1&&sq m.k2&&sq m.k3)&&bs m.base
 else if m.kind=2 then((decide (m.ids.length≤16)&&m.ids.all bJ.may)&&(decide (m.iS.length≤8)&&m.iS.all aX.may))&&bs m.base
 else if m.kind=3 then m.key.may&&decide (m.bC.check=0)
 else m.key.may
def Mg.bare(m:Mg):Mg :=
 if m.kind=1 then⟨m.kind,m.fr,m.to,m.k0,m.k1,m.k2,m.k3,m.base,[],[],xX,rZ⟩
 else if m.kind=2 then⟨m.kind,m.fr,m.to,0,0,0,0,m.base,m.ids,m.iS,xX,rZ⟩
 else if m.kind=3 then⟨m.kind,m.fr,m.to,0,0,0,0,0,[],[],m.key,m.bC⟩
 else if m.kind=4 then⟨m.kind,m.fr,m.to,0,0,0,0,0,[],[],m.key,rZ⟩
 else⟨m.kind,m.fr,m.to,0,0,0,0,0,[],[],xX,rZ⟩
def Mg.check(m:Mg):Int :=
 if 1≤m.kind∧m.kind≤4 then(if (m.nT&&m.cV)=true then(if m.bare=m then 0 else 16) else 4) else 12
theorem Mg.bR{m:Mg}(h:m.check=0):(1≤m.kind∧m.kind≤4)∧m.nT=true∧m.cV=true∧m.bare=m:=by
 unfold Mg.check at h;split at h
 ·rename_i h1;split at h
  ·rename_i h2;split at h
   ·rename_i h3;simp at h2;exact⟨h1,h2.1,h2.2,h3⟩
   ·cases h
  ·cases h
 ·cases h
def Mg.ok(m:Mg):Prop:=(∀c∈m.iS,dQ c.n)∧dQ m.bC.n
def jS(b:Bool):Nat:=if b then 1 else 0
abbrev kW:List Nat:=[1,2,1,1]
def kK(k:bP):List Nat:=[k.id.rep.toNat,k.id.seq.toNat,k.ord.toNat,jS k.cD]
def gM(a:bJ):List UInt8:=fI [1,2] [a.rep.toNat,a.seq.toNat]
def kH(l:List bJ):List UInt8:=(l.map gM).flatten
def Mg.body(m:Mg):List UInt8 :=
 fI [1,1,1] [m.kind.toNat,m.fr.toNat,m.to.toNat] ++
 (if m.kind=1 then fI [2,2,2,2,1] [m.k0.toNat,m.k1.toNat,m.k2.toNat,m.k3.toNat,m.base.toNat]
 else if m.kind=2 then fI [1,1] [m.base.toNat,m.ids.length]++(kH m.ids++dP m.iS)
 else if m.kind=3 then fI kW (kK m.key)++m.bC.put
 else fI kW (kK m.key))
def Mg.enc(m:Mg):List UInt8:=Frm.fr m.body
theorem xF(a:bJ):(gM a).length=3:=by simp[gM,fI,aP]
theorem jC(l:List bJ):(kH l).length=3*l.length:=by
 induction l with
 |nil=>rfl
 |cons c l ih =>
  have:kH (c::l)=gM c++kH l:=rfl;rw[this,aAe,xF,ih,aAs];omega
theorem DR(l:List bJ)(a:bJ):kH (l++[a])=kH l++gM a:=by simp[kH]
def vS(l:List UInt8)(i:Nat):bJ:=⟨(bX l i 1:Nat),(bX l (i+1) 2:Nat)⟩
def sR:Nat→Nat→List UInt8→List bJ
 |0,_,_=>[]
 |n+1,i,l=>sR n i l++[vS l (i+3*n)]
theorem yF(n i:Nat)(l:List UInt8):(sR n i l).length=n:=by
 induction n with
 |zero=>rfl
 |succ n ih=>rw[sR,aAe,ih];rfl
theorem Iy{l:List UInt8}{i:Nat}(h:i+3≤l.length):gM (vS l i)=(l.drop i).take 3:=by
 unfold gM vS;simp only[fI,aAu,aAc];rw[dY o_,dY o_,show(3:Nat)=1+2 from rfl,aDd,aBt]
theorem Hz(n i:Nat)(l:List UInt8)(h:i+3*n≤l.length):kH (sR n i l)=(l.drop i).take (3*n):=by
 induction n with
 |zero=>simp[sR,kH]
 |succ n ih =>
  rw[sR,DR,ih o_,Iy o_,show 3*(n+1)=3*n+3 by omega,aDd,aBt]
theorem jK{a b:List UInt8}{i w j:Nat}(h:a.length=j):bX (a++b) (j+i) w=bX b i w:=by
 unfold bX;rw[←h,List.drop_append,aCn o_,aBq,show a.length+i - a.length=i by omega]
theorem I4{a:bJ}{x t:List UInt8}{i:Nat}(h:a.may=true)(hx:x.length=i):vS (x++(gM a++t)) i=a:=by
 rw[bJ.bY] at h;unfold vS;have h1:=jK (a:=x) (b:=gM a++t) (i:=0) (w:=1) hx;have h2:=jK (a:=x) (b:=gM a++t) (i:=1) (w:=2) hx;rw[aFb] at h1;rw[h1,h2];have e0:bX (gM a++t) 0 1=a.rep.toNat:=by
  have:=dL (a:=[]) (b:=be a.seq.toNat 2++t) (i:=0) (w:=1) (n:=a.rep.toNat) rfl o_;simpa [gM,fI,aAb] using this
 have e1:bX (gM a++t) 1 2=a.seq.toNat:=by
  have:=dL (a:=be a.rep.toNat 1) (b:=t) (i:=1) (w:=2) (n:=a.seq.toNat) (by simp[aP]) o_;simpa [gM,fI,aAb] using this
 rw[e0,e1];cases a;simp only[bJ.eq_iff];simp at h⊢;omega
theorem Hw(l:List bJ)(x t:List UInt8)(h:l.all bJ.may=true):sR l.length x.length (x++(kH l++t))=l:=by
 have key:∀k,k≤l.length→sR k x.length (x++(kH l++t))=l.take k:=by
  intro k
  induction k with
  |zero=>intro _;rfl
  |succ k ih =>
   intro hk;have hm:(l[k]'hk).may=true:=by
    rw[aDm] at h;exact h _ (aCs _)
   have q:∀(a b:List bJ) (z:bJ),kH (a++z::b)=kH a++(gM z++kH b):=λa b z=>by simp[kH]
   have hl:l.take k++l[k]::l.drop (k+1)=l:=by rw[←aAm hk,aAx]
   have e:=q (l.take k) (l.drop (k+1)) (l[k]'hk);rw[hl] at e;rw[sR,ih o_,aAn hk];congr 1;rw[show x++(kH l++t)=(x++kH (l.take k))++(gM (l[k]'hk)++(kH (l.drop (k+1))++t)) by rw[e];simp];rw[I4 hm (by rw[aAe,jC,aAg];omega)]
 rw[key l.length (aAf _),aAo]
def Al(l:List UInt8)(i:Nat):bP:=⟨⟨(bX l i 1:Nat),(bX l (i+1) 2:Nat)⟩,(bX l (i+3) 1:Nat),decide (((bX l (i+4) 1:Nat):Int)=1)⟩
def tF:List UInt8→Option (List aX)
 | []=>none
 |h::t=>if t.length=22*h.toNat then pieces h.toNat t else none
def mask(x:List UInt8):Option Mg :=
 if x.length=12 then some ⟨1,(bX x 1 1:Nat),(bX x 2 1:Nat),(bX x 3 2:Nat),(bX x 5 2:Nat),(bX x 7 2:Nat),(bX x 9 2:Nat),(bX x 11 1:Nat),[],[],xX,rZ⟩ else none
def GG(x:List UInt8):Option Mg :=
 if 5+3*bX x 4 1+1≤x.length then
  (tF (x.drop (5+3*bX x 4 1))).map λcs=>⟨2,(bX x 1 1:Nat),(bX x 2 1:Nat),0,0,0,0,(bX x 3 1:Nat),sR (bX x 4 1) 5 x,cs,xX,rZ⟩
 else none
def PI(x:List UInt8):Option Mg :=
 if x.length=21∧bX x 7 1≤1 then(eY (x.drop 8)).map λf=>⟨3,(bX x 1 1:Nat),(bX x 2 1:Nat),0,0,0,0,0,[],[],Al x 3,f⟩ else none
def OR(x:List UInt8):Option Mg :=
 if x.length=8∧bX x 7 1≤1 then some ⟨4,(bX x 1 1:Nat),(bX x 2 1:Nat),0,0,0,0,0,[],[],Al x 3,rZ⟩ else none
def B9(x:List UInt8):Option Mg :=
 if x.length<3 then none else if bX x 0 1=1 then mask x else if bX x 0 1=2 then GG x else if bX x 0 1=3 then PI x else if bX x 0 1=4 then OR x else none
def Iw(x:List UInt8):Option Mg:=match B9 x with
 |some m=>if m.check=0 then some m else none
 |none=>none
end Go.Proofs.YtmilalkjbojciaaGreat.Sep
namespace Go.Proofs.YtmilalkjbojciaaGreat.Sep
open Go.RowKit Reg
open Mem hiding Rd
theorem TM:Rec prog 195 [.int .i64 0,.int .i64 0,.int .i64 0,.int .i64 0,.int .i64 0,.int .i64 0,.int .i64 0,.int .i64 0,.slice none 0 0,.slice none 0 0,.int .i64 0,.int .i64 0,.int .i64 0,.bool false,.int .i64 0,.int .i64 0,.int .i64 0,.int .i64 0,.int .i64 0] [(0,1),(1,1),(2,1),(3,4),(7,1),(8,1),(9,1),(10,4),(14,5)]:=⟨by kernel_rfl,by kernel_rfl⟩
instance WY:cL 195 [.int .i64 0,.int .i64 0,.int .i64 0,.int .i64 0,.int .i64 0,.int .i64 0,.int .i64 0,.int .i64 0,.slice none 0 0,.slice none 0 0,.int .i64 0,.int .i64 0,.int .i64 0,.bool false,.int .i64 0,.int .i64 0,.int .i64 0,.int .i64 0,.int .i64 0] [(0,1),(1,1),(2,1),(3,4),(7,1),(8,1),(9,1),(10,4),(14,5)]:=⟨TM⟩
theorem SL:Rec prog 330 [.slice none 0 0] [(0,1)]:=⟨by kernel_rfl,by kernel_rfl⟩
instance WV:cL 330 [.slice none 0 0] [(0,1)]:=⟨SL⟩
theorem Su:Rec prog 279 [.pointer none] [(0,1)]:=⟨by kernel_rfl,by kernel_rfl⟩
instance WW:cL 279 [.pointer none] [(0,1)]:=⟨Su⟩
theorem UD{a0 a1 a2 a3 b0 b1 b2 b3:Int}:VP prog 98 #[.int .i64 a0,.int .i64 a1,.int .i64 a2,.int .i64 a3] #[.int .i64 b0,.int .i64 b1,.int .i64 b2,.int .i64 b3] (decide (a0=b0)&&(decide (a1=b1)&&(decide (a2=b2)&&decide (a3=b3)))):=VP.four (e:=3) q_ q_ q_ q_
instance X5{a0 a1 a2 a3 b0 b1 b2 b3:Int}:QG 98 #[.int .i64 a0,.int .i64 a1,.int .i64 a2,.int .i64 a3] #[.int .i64 b0,.int .i64 b1,.int .i64 b2,.int .i64 b3] (decide (a0=b0)&&(decide (a1=b1)&&(decide (a2=b2)&&decide (a3=b3)))):=⟨UD⟩
abbrev oK(m:Mg)(A:Option Addr)(n c:Nat)(B:Option Addr)(k d:Nat):List Value:=[.int .i64 m.kind,.int .i64 m.fr,.int .i64 m.to,.int .i64 m.k0,.int .i64 m.k1,.int .i64 m.k2,.int .i64 m.k3,.int .i64 m.base,.slice A n c,.slice B k d,.int .i64 m.key.id.rep,.int .i64 m.key.id.seq,.int .i64 m.key.ord,.bool m.key.cD,.int .i64 m.bC.kind,.int .i64 m.bC.a,.int .i64 m.bC.n,.int .i64 m.bC.ref.rep,.int .i64 m.bC.ref.seq]
theorem Bt{α:Type}{l r:List α}{i:Nat}{x:α}(h:l.take i=r.take i)(hx:l[i]?=some x)(hy:r[i]?=some x):l.take (i+1)=r.take (i+1):=by
 obtain⟨h1,h2⟩:=aAd.1 hx;obtain⟨h3,h4⟩:=aAd.1 hy;rw[aAn h1,aAn h3,h,h2,h4]
theorem GS{α:Type}{l r:List α}{i:Nat}{x y:α}(hx:l[i]?=some x)(hy:r[i]?=some y)(h:x≠y):l≠r:=by
 intro he;subst he;rw[hx] at hy;injection hy with hy
 exact h hy
theorem Dx{α:Type}{l r:List α}{i:Nat}(h:l.take i=r.take i)(h1:i=l.length)(h2:i=r.length):l=r:=by
 rw[aAj o_,aAj o_] at h;exact h
section
variable (E:Env) (A:Option Addr) (n c:Nat) (B:Option Addr) (k d:Nat)
theorem U9(l r:List bJ)(hr:Rd E fN A n c l)(hr2:Rd E fN B k d r):aK prog E 340 #[.slice A n c,.slice B k d] [] λe H'=>e=.returned (.bool (decide (l=r)))∧H'=[]:=by
 have hcap:=hr.cap;have hcap2:=hr2.cap;have hn:=hr.len;have hm:=hr2.len;have hmax:=fX;refine t_ func340 ntmps340 ?_;by_cases hnk:n=k
 case neg =>
  have hne:¬l=r:=λh=>hnk (by rw[hn,hm,h]);rw[decide_eq_false hne];repeat first|refine aE ?_|intro
  exact e1_
 subst hnk;repeat first|refine aE ?_|intro
 refine C.loop (X:=Nat) (λi=>[(0,.slice A n c),(1,.slice B n d),(12,.int .i64 n),(13,.int .i64 i)]) (λ_=>[]) (λi=>i≤n∧l.take i=r.take i) (λi=>n - i) 0 aD aA ⟨aAh _,rfl⟩ ?_;rintro i G ⟨hi,hall⟩;by_cases hlt:i<n
 ·have hx:l[i]?=some l[i]:=aAa o_;have hy:r[i]?=some r[i]:=aAa o_;generalize l[i]=x at hx;generalize r[i]=y at hy;by_cases hxy:x=y
  ·have hst:=Bt hall hx (by rw[hxy];exact hy);have hd:(!decide ((⟨x.rep,x.seq⟩:bJ)=⟨y.rep,y.seq⟩))=false:=by rw[hxy,decide_eq_true rfl];rfl
   repeat first|refine aE ?_|intro
   refine rA (l_ [0,1,2,3,4,5,6,7,8] .nil) ?_;repeat first|refine aE ?_|intro
   exact⟨i+1,aD,aA,⟨by omega,hst⟩,by omega⟩
  ·have hd:(!decide ((⟨x.rep,x.seq⟩:bJ)=⟨y.rep,y.seq⟩))=true:=congrArg Bool.not (decide_eq_false (show ¬((⟨x.rep,x.seq⟩:bJ)=⟨y.rep,y.seq⟩) from hxy));rw[decide_eq_false (GS hx hy hxy)];repeat first|refine aE ?_|intro
   refine rA (l_ [0,1,2,3,4,5,6,7,8] .nil) ?_;repeat first|refine aE ?_|intro
   exact e1_
 ·obtain rfl:i=n:=by omega
  rw[decide_eq_true (Dx hall hn hm)];repeat first|refine aE ?_|intro
  exact e1_
theorem yR(l r:List aX)(hr:Rd E bE A n c l)(hr2:Rd E bE B k d r):aK prog E 80 #[.slice A n c,.slice B k d] [] λe H'=>e=.returned (.bool (decide (l=r)))∧H'=[]:=by
 have hcap:=hr.cap;have hcap2:=hr2.cap;have hn:=hr.len;have hm:=hr2.len;have hmax:=fX;refine t_ func80 ntmps80 ?_;by_cases hnk:n=k
 case neg =>
  have hne:¬l=r:=λh=>hnk (by rw[hn,hm,h]);rw[decide_eq_false hne];repeat first|refine aE ?_|intro
  exact e1_
 subst hnk;repeat first|refine aE ?_|intro
 refine C.loop (X:=Nat) (λi=>[(0,.slice A n c),(1,.slice B n d),(12,.int .i64 n),(13,.int .i64 i)]) (λ_=>[]) (λi=>i≤n∧l.take i=r.take i) (λi=>n - i) 0 aD aA ⟨aAh _,rfl⟩ ?_;rintro i G ⟨hi,hall⟩;by_cases hlt:i<n
 ·have hx:l[i]?=some l[i]:=aAa o_;have hy:r[i]?=some r[i]:=aAa o_;generalize l[i]=x at hx;generalize r[i]=y at hy;by_cases hxy:x=y
  ·have hst:=Bt hall hx (by rw[hxy];exact hy);have hd:(!decide ((⟨⟨x.id.rep,x.id.seq⟩,x.time,x.kind,x.a,x.b,x.n,⟨x.ref.rep,x.ref.seq⟩⟩:aX)=⟨⟨y.id.rep,y.id.seq⟩,y.time,y.kind,y.a,y.b,y.n,⟨y.ref.rep,y.ref.seq⟩⟩))=false:=by rw[hxy,decide_eq_true rfl];rfl
   repeat first|refine aE ?_|intro
   refine rA (l_ [0,1,2,3,4,5,6,7,8] .nil) ?_;repeat first|refine aE ?_|intro
   exact⟨i+1,aD,aA,⟨by omega,hst⟩,by omega⟩
  ·have hd:(!decide ((⟨⟨x.id.rep,x.id.seq⟩,x.time,x.kind,x.a,x.b,x.n,⟨x.ref.rep,x.ref.seq⟩⟩:aX)=⟨⟨y.id.rep,y.id.seq⟩,y.time,y.kind,y.a,y.b,y.n,⟨y.ref.rep,y.ref.seq⟩⟩))=true:=congrArg Bool.not (decide_eq_false (show ¬((⟨⟨x.id.rep,x.id.seq⟩,x.time,x.kind,x.a,x.b,x.n,⟨x.ref.rep,x.ref.seq⟩⟩:aX)=⟨⟨y.id.rep,y.id.seq⟩,y.time,y.kind,y.a,y.b,y.n,⟨y.ref.rep,y.ref.seq⟩⟩) from hxy));rw[decide_eq_false (GS hx hy hxy)];repeat first|refine aE ?_|intro
   refine rA (l_ [0,1,2,3,4,5,6,7,8] .nil) ?_;repeat first|refine aE ?_|intro
   exact e1_
 ·obtain rfl:i=n:=by omega
  rw[decide_eq_true (Dx hall hn hm)];repeat first|refine aE ?_|intro
  exact e1_
end
section
variable (E:Env) (A:Option Addr) (n c:Nat) (B:Option Addr) (k d:Nat) (A2:Option Addr) (n2 c2:Nat) (B2:Option Addr) (k2 d2:Nat)
theorem YH(a b:Mg)(h1:Rd E fN A n c a.ids)(h2:Rd E bE B k d a.iS)(h3:Rd E fN A2 n2 c2 b.ids)(h4:Rd E bE B2 k2 d2 b.iS):aK prog E 289 #[.agg (oK a A n c B k d).toArray,.agg (oK b A2 n2 c2 B2 k2 d2).toArray] [] λe H'=>e=.returned (.bool (decide (a=b)))∧H'=[]:=by
 refine t_ func289 ntmps289 ?_;by_cases q_kind:a.kind=b.kind
 case neg =>
  have hne:a≠b:=λh=>q_kind (by rw[h]);rw[decide_eq_false hne];repeat first|refine aE ?_|intro
  exact e1_
 by_cases q_fr:a.fr=b.fr
 case neg =>
  have hne:a≠b:=λh=>q_fr (by rw[h]);rw[decide_eq_false hne];repeat first|refine aE ?_|intro
  exact e1_
 by_cases q_to:a.to=b.to
 case neg =>
  have hne:a≠b:=λh=>q_to (by rw[h]);rw[decide_eq_false hne];repeat first|refine aE ?_|intro
  exact e1_
 by_cases q_known:a.k0=b.k0∧a.k1=b.k1∧a.k2=b.k2∧a.k3=b.k3
 case neg =>
  have hne:a≠b:=λh=>q_known (by rw[h];exact⟨rfl,rfl,rfl,rfl⟩);have hdn:(decide (a.k0=b.k0)&&(decide (a.k1=b.k1)&&(decide (a.k2=b.k2)&&decide (a.k3=b.k3))))=false:=by rw[Bool.eq_false_iff];intro h;simp at h;exact q_known h
  rw[decide_eq_false hne];repeat first|refine aE ?_|intro
  exact e1_
 have hdn:(decide (a.k0=b.k0)&&(decide (a.k1=b.k1)&&(decide (a.k2=b.k2)&&decide (a.k3=b.k3))))=true:=by simp only[aAv,decide_eq_true_eq];exact q_known
 by_cases q_base:a.base=b.base
 case neg =>
  have hne:a≠b:=λh=>q_base (by rw[h]);rw[decide_eq_false hne];repeat first|refine aE ?_|intro
  exact e1_
 by_cases q_key:a.key=b.key
 case neg =>
  have hne:a≠b:=λh=>q_key (by rw[h]);have hdk:decide ((⟨⟨a.key.id.rep,a.key.id.seq⟩,a.key.ord,a.key.cD⟩:bP)=⟨⟨b.key.id.rep,b.key.id.seq⟩,b.key.ord,b.key.cD⟩)=false:=decide_eq_false (show ¬((⟨⟨a.key.id.rep,a.key.id.seq⟩,a.key.ord,a.key.cD⟩:bP)=⟨⟨b.key.id.rep,b.key.id.seq⟩,b.key.ord,b.key.cD⟩) from q_key);rw[decide_eq_false hne];repeat first|refine aE ?_|intro
  exact e1_
 have hdk:decide ((⟨⟨a.key.id.rep,a.key.id.seq⟩,a.key.ord,a.key.cD⟩:bP)=⟨⟨b.key.id.rep,b.key.id.seq⟩,b.key.ord,b.key.cD⟩)=true:=decide_eq_true (show(⟨⟨a.key.id.rep,a.key.id.seq⟩,a.key.ord,a.key.cD⟩:bP)=⟨⟨b.key.id.rep,b.key.id.seq⟩,b.key.ord,b.key.cD⟩ from q_key);by_cases q_what:a.bC=b.bC
 case neg =>
  have hne:a≠b:=λh=>q_what (by rw[h]);have hdw:decide ((⟨a.bC.kind,a.bC.a,a.bC.n,⟨a.bC.ref.rep,a.bC.ref.seq⟩⟩:cQ)=⟨b.bC.kind,b.bC.a,b.bC.n,⟨b.bC.ref.rep,b.bC.ref.seq⟩⟩)=false:=decide_eq_false (show ¬((⟨a.bC.kind,a.bC.a,a.bC.n,⟨a.bC.ref.rep,a.bC.ref.seq⟩⟩:cQ)=⟨b.bC.kind,b.bC.a,b.bC.n,⟨b.bC.ref.rep,b.bC.ref.seq⟩⟩) from q_what);rw[decide_eq_false hne];repeat first|refine aE ?_|intro
  exact e1_
 have hdw:decide ((⟨a.bC.kind,a.bC.a,a.bC.n,⟨a.bC.ref.rep,a.bC.ref.seq⟩⟩:cQ)=⟨b.bC.kind,b.bC.a,b.bC.n,⟨b.bC.ref.rep,b.bC.ref.seq⟩⟩)=true:=decide_eq_true (show(⟨a.bC.kind,a.bC.a,a.bC.n,⟨a.bC.ref.rep,a.bC.ref.seq⟩⟩:cQ)=⟨b.bC.kind,b.bC.a,b.bC.n,⟨b.bC.ref.rep,b.bC.ref.seq⟩⟩ from q_what);by_cases q_ids:a.ids=b.ids
 case neg =>
  have hne:a≠b:=λh=>q_ids (by rw[h]);rw[decide_eq_false hne];repeat first|refine aE ?_|intro
  refine C1 (λ(E':Env)=>U9 E' _ _ _ _ _ _ a.ids b.ids) ?_;rw[decide_eq_false q_ids];rintro e H' ⟨rfl,rfl⟩;repeat first|refine aE ?_|intro
  exact e1_
 by_cases q_chs:a.iS=b.iS
 case neg =>
  have hne:a≠b:=λh=>q_chs (by rw[h]);rw[decide_eq_false hne];repeat first|refine aE ?_|intro
  refine C1 (λ(E':Env)=>U9 E' _ _ _ _ _ _ a.ids b.ids) ?_;rw[decide_eq_true q_ids];rintro e H' ⟨rfl,rfl⟩;repeat first|refine aE ?_|intro
  refine C1 (λ(E':Env)=>yR E' _ _ _ _ _ _ a.iS b.iS) ?_;rw[decide_eq_false q_chs];rintro e H' ⟨rfl,rfl⟩;repeat first|refine aE ?_|intro
  exact e1_
 have hee:a=b:=Mg.eq_iff.2 ⟨q_kind,q_fr,q_to,q_known.1,q_known.2.1,q_known.2.2.1,q_known.2.2.2,q_base,q_ids,q_chs,q_key,q_what⟩;rw[decide_eq_true hee];repeat first|refine aE ?_|intro
 refine C1 (λ(E':Env)=>U9 E' _ _ _ _ _ _ a.ids b.ids) ?_;rw[decide_eq_true q_ids];rintro e H' ⟨rfl,rfl⟩;repeat first|refine aE ?_|intro
 refine C1 (λ(E':Env)=>yR E' _ _ _ _ _ _ a.iS b.iS) ?_;rw[decide_eq_true q_chs];rintro e H' ⟨rfl,rfl⟩;repeat first|refine aE ?_|intro
 exact e1_
end
end Go.Proofs.YtmilalkjbojciaaGreat.Sep
namespace Go.Proofs.YtmilalkjbojciaaGreat.Sep
open Oct
def Mp(k:Int):Bool:=decide (k=1∨k=2∨k=3∨k=5∨12≤k)
def Pv(k:Int):Bool:=decide (k=3∨7≤k∧k≤10)
def Qg(k:Int):Bool:=decide (k=4∨k=6∨k=10∨k=11∨k=14)
def Ux(k:Int):Bool:=decide (k=1)
def YS(b:Bool)(c:aX):aX:=match b with|true=>⟨⟨0,0⟩,0,c.kind,c.a,c.b,c.n,c.ref⟩|false=>⟨⟨0,0⟩,0,0,0,0,0,⟨0,0⟩⟩
def wG(b:Bool)(n:Int):Int:=match b with|true=>n|false=>0
def cH.bare(x:cH):cH:=⟨x.kind,wG (Mp x.kind) x.r,wG (Pv x.kind) x.i,wG (Qg x.kind) x.n,YS (Ux x.kind) x.c⟩
def cH.Yv(x:cH):List Int:=[x.r,x.i,x.c.kind,x.c.a,x.c.b,x.c.ref.rep]
def cH.check(x:cH):Int :=
 if 1≤x.kind∧x.kind≤15 then
  if x.Yv.all small=true then
   if (0≤x.c.ref.seq∧x.c.ref.seq≤65535)∧0≤x.n∧x.n≤2147483647 then
    if x.bare=x then 0 else 16
   else 4
  else 4
 else 12
theorem cH.bR{x:cH}(h:x.check=0):(1≤x.kind∧x.kind≤15)∧((0≤x.r∧x.r≤255)∧(0≤x.i∧x.i≤255)∧(0≤x.c.kind∧x.c.kind≤255)∧(0≤x.c.a∧x.c.a≤255)∧(0≤x.c.b∧x.c.b≤255)∧0≤x.c.ref.rep∧x.c.ref.rep≤255)∧((0≤x.c.ref.seq∧x.c.ref.seq≤65535)∧0≤x.n∧x.n≤2147483647)∧x.bare=x:=by
 unfold cH.check at h;split at h
 ·rename_i h1;split at h
  ·rename_i h2;split at h
   ·rename_i h3;split at h
    ·rename_i h4;refine⟨h1,?_,h3,h4⟩;simpa [cH.Yv,small] using h2
    ·cases h
   ·cases h
  ·cases h
 ·cases h
end Go.Proofs.YtmilalkjbojciaaGreat.Sep
namespace Go.Proofs.YtmilalkjbojciaaGreat.Sep
open Go.RowKit Reg Oct
open Mem hiding Rd
theorem Me:Lu prog 322 [.int .i64 0,.int .i64 0,.int .i64 0,.int .i64 0,.int .i64 0,.int .i64 0,.int .i64 0,.int .i64 0,.int .i64 0,.int .i64 0,.int .i64 0,.int .i64 0,.int .i64 0,.int .i64 0,.int .i64 0,.int .i64 0] [(0,1),(1,1),(2,1),(3,1),(4,1),(5,1),(6,1),(7,1),(8,1),(9,1),(10,1),(11,1),(12,1),(13,1),(14,1),(15,1)] 1:=⟨by kernel_rfl,by kernel_rfl,rfl⟩
instance TR:Bj 322 [.int .i64 0,.int .i64 0,.int .i64 0,.int .i64 0,.int .i64 0,.int .i64 0,.int .i64 0,.int .i64 0,.int .i64 0,.int .i64 0,.int .i64 0,.int .i64 0,.int .i64 0,.int .i64 0,.int .i64 0,.int .i64 0] [(0,1),(1,1),(2,1),(3,1),(4,1),(5,1),(6,1),(7,1),(8,1),(9,1),(10,1),(11,1),(12,1),(13,1),(14,1),(15,1)] 1:=⟨Me⟩
theorem Od:Lu prog 184 [.int .i64 0,.int .i64 0,.int .i64 0,.int .i64 0,.int .i64 0,.int .i64 0] [(0,1),(1,1),(2,1),(3,1),(4,1),(5,1)] 1:=⟨by kernel_rfl,by kernel_rfl,rfl⟩
instance V3:Bj 184 [.int .i64 0,.int .i64 0,.int .i64 0,.int .i64 0,.int .i64 0,.int .i64 0] [(0,1),(1,1),(2,1),(3,1),(4,1),(5,1)] 1:=⟨Od⟩
abbrev Zc:List Int:=[0,9,1,3,4,1,4,2,2,2,6,4,1,1,5,1]
def vN(k:Nat):Int:=Zc.getD k 0
theorem wU(E:Env)(k:Nat)(h:k<16):aK prog E 169 #[.int .i64 k] [] λe H'=>e=.returned (.int .i64 (vN k))∧H'=[]:=by
 have g:([.int .i64 0,.int .i64 9,.int .i64 1,.int .i64 3,.int .i64 4,.int .i64 1,.int .i64 4,.int .i64 2,.int .i64 2,.int .i64 2,.int .i64 6,.int .i64 4,.int .i64 1,.int .i64 1,.int .i64 5,.int .i64 1]:List Value)[k]?=some (.int .i64 (vN k)):=by
  rcases(show k=0∨k=1∨k=2∨k=3∨k=4∨k=5∨k=6∨k=7∨k=8∨k=9∨k=10∨k=11∨k=12∨k=13∨k=14∨k=15 by omega) with rfl|rfl|rfl|rfl|rfl|rfl|rfl|rfl|rfl|rfl|rfl|rfl|rfl|rfl|rfl|rfl<;>rfl
 refine t_ func169 ntmps169 ?_;repeat first|refine aE ?_|intro
 exact e1_
theorem VY(k:Nat)(h1:1≤k)(h:k≤15):Go.bits .and .i64 (vN k) 1=(if Mp k then 1 else 0)∧Go.bits .and .i64 (vN k) 2=(if Pv k then 2 else 0)∧Go.bits .and .i64 (vN k) 4=(if Qg k then 4 else 0)∧Go.bits .and .i64 (vN k) 8=(if Ux k then 8 else 0):=by
 rcases(show k=1∨k=2∨k=3∨k=4∨k=5∨k=6∨k=7∨k=8∨k=9∨k=10∨k=11∨k=12∨k=13∨k=14∨k=15 by omega) with rfl|rfl|rfl|rfl|rfl|rfl|rfl|rfl|rfl|rfl|rfl|rfl|rfl|rfl|rfl<;>exact⟨by decide,by decide,by decide,by decide⟩
theorem Og(E:Env)(x:cH)(h1:1≤x.kind)(h:x.kind≤15):aK prog E 108 #[.agg x.cs.toArray] [] λe H'=>e=.returned (.agg x.bare.cs.toArray)∧H'=[]:=by
 obtain⟨k,hk⟩:=aCf (show 0≤x.kind by omega);have hf:=wU E k o_;obtain⟨br,bi,bn,bc⟩:=VY k o_ o_;rw[←hk] at br bi bn bc;have hk16:k<16:=by omega
 refine t_ func108 ntmps108 ?_;repeat first|refine aE ?_|refine Dr.two ?_ ?_|intro
 rename_i g gres;refine C.BI (X:=Nat) (λg4=>[(1,.pointer (some ⟨g,0,none⟩)),(2,.pointer (some ⟨gres,0,none⟩)),(3,.int .i64 (vN k)),(4,.pointer (some ⟨g4,0,none⟩))])
  (λg4=>[aJ g 39 x.cs,aJ gres 39 E0.cs,aJ g4 39 (⟨x.kind,0,0,0,⟨⟨0,0⟩,0,0,0,0,0,⟨0,0⟩⟩⟩:cH).cs]) (λ_=>True) ?_ ?_
 ·refine rA (l_ [0,1,3,4,5] (.two 2 (g_ 6 (n_ 7 (g_ 8 .nil))) 6 (g_ 2 (n_ 7 (g_ 8 .nil))))) ?_;repeat first|refine aE ?_|intro
  refine Dr.two ?_ ?_
  ·refine yB rfl sD bA sK aC (λE' hE=>(by rw[hk];exact wU E' k hk16)) ?_;rintro e H' ⟨rfl,rfl⟩;repeat first|refine aE ?_|refine Dr.two ?_ ?_|intro
   exact⟨_,aD,aA,trivial⟩
  ·repeat first|refine aE ?_|intro
   refine cg rfl sD bA sK aC (λE' hE=>(by rw[hk];exact wU E' k hk16)) ?_;rintro e H' ⟨rfl,rfl⟩;repeat first|refine aE ?_|refine Dr.two ?_ ?_|intro
   exact⟨_,aD,aA,trivial⟩
 rintro g4 G -;refine C.cut (X:=Unit) (λ_=>[(1,.pointer (some ⟨g,0,none⟩)),(2,.pointer (some ⟨gres,0,none⟩)),(3,.int .i64 (vN k)),(4,.pointer (some ⟨g4,0,none⟩))])
  (λ_=>[aJ g 39 x.cs,aJ gres 39 E0.cs,aJ g4 39 (⟨x.kind,wG (Mp x.kind) x.r,0,0,⟨⟨0,0⟩,0,0,0,0,0,⟨0,0⟩⟩⟩:cH).cs]) (λ_=>True) ?_ ?_
 ·cases hh:Mp x.kind
  ·rw[hh,if_neg aAl] at br;rw[show wG false x.r=0 from rfl];repeat first|refine aE ?_|refine Dr.two ?_ ?_|intro
   exact⟨(),aD,aA,trivial⟩
  ·rw[hh,if_pos rfl] at br;rw[show wG true x.r=x.r from rfl];repeat first|refine aE ?_|refine Dr.two ?_ ?_|intro
   exact⟨(),aD,aA,trivial⟩
 rintro - G -;refine C.cut (X:=Unit) (λ_=>[(1,.pointer (some ⟨g,0,none⟩)),(2,.pointer (some ⟨gres,0,none⟩)),(3,.int .i64 (vN k)),(4,.pointer (some ⟨g4,0,none⟩))])
  (λ_=>[aJ g 39 x.cs,aJ gres 39 E0.cs,aJ g4 39 (⟨x.kind,wG (Mp x.kind) x.r,wG (Pv x.kind) x.i,0,⟨⟨0,0⟩,0,0,0,0,0,⟨0,0⟩⟩⟩:cH).cs]) (λ_=>True) ?_ ?_
 ·cases hh:Pv x.kind
  ·rw[hh,if_neg aAl] at bi;rw[show wG false x.i=0 from rfl];repeat first|refine aE ?_|refine Dr.two ?_ ?_|intro
   exact⟨(),aD,aA,trivial⟩
  ·rw[hh,if_pos rfl] at bi;rw[show wG true x.i=x.i from rfl];repeat first|refine aE ?_|refine Dr.two ?_ ?_|intro
   exact⟨(),aD,aA,trivial⟩
 rintro - G -;refine C.cut (X:=Unit) (λ_=>[(1,.pointer (some ⟨g,0,none⟩)),(2,.pointer (some ⟨gres,0,none⟩)),(3,.int .i64 (vN k)),(4,.pointer (some ⟨g4,0,none⟩))])
  (λ_=>[aJ g 39 x.cs,aJ gres 39 E0.cs,aJ g4 39 (⟨x.kind,wG (Mp x.kind) x.r,wG (Pv x.kind) x.i,wG (Qg x.kind) x.n,⟨⟨0,0⟩,0,0,0,0,0,⟨0,0⟩⟩⟩:cH).cs]) (λ_=>True) ?_ ?_
 ·cases hh:Qg x.kind
  ·rw[hh,if_neg aAl] at bn;rw[show wG false x.n=0 from rfl];repeat first|refine aE ?_|refine Dr.two ?_ ?_|intro
   exact⟨(),aD,aA,trivial⟩
  ·rw[hh,if_pos rfl] at bn;rw[show wG true x.n=x.n from rfl];repeat first|refine aE ?_|refine Dr.two ?_ ?_|intro
   exact⟨(),aD,aA,trivial⟩
 rintro - G -;unfold cH.bare;cases hh:Ux x.kind
 ·rw[hh,if_neg aAl] at bc;repeat first|refine aE ?_|refine Dr.two ?_ ?_|intro
  exact e7_
 ·rw[hh,if_pos rfl] at bc;repeat first|refine aE ?_|refine Dr.two ?_ ?_|intro
  exact e7_
end Go.Proofs.YtmilalkjbojciaaGreat.Sep
