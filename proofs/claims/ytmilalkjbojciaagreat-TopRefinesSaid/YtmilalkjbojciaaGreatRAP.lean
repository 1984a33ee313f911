/- Part AP: what it needs. No condition. -/
import Derived.Test.YtmilalkjbojciaaGreatRAA
import Derived.Test.YtmilalkjbojciaaGreatRAE
import Derived.Test.YtmilalkjbojciaaGreatRAO
import Derived.Test.YtmilalkjbojciaaGreatRAJ
set_option maxRecDepth 100000
set_option maxHeartbeats 8000000
open Go.Proofs.Tryz
namespace Go.Proofs.YtmilalkjbojciaaGreat.Sep
open Go.RowKit Reg
open Mem hiding Rd
def dS.tA(s:dS)(id:bJ)(k:bP):Bool:=match s.Yr id with
 |some q=>decide (q.key=k)
 |none=>false
def dS.put(s:dS)(w:List cQ):dS:=⟨s.made,settle w s.l,w⟩
theorem dS.OO{s:dS}{w:List cQ}(h:s.ok)(hw:∀f∈w,f.ok)(hl:w.length≤8):(s.put w).ok :=
 ⟨aHi h.sE,hw,h.tS,h.nK,by show((settle w s.l).length:Int)≤s.made;rw[dJ];exact h.len,hl⟩
theorem map_set{ls:List fG}{i:Nat}{e:fG}:(ls.set i e).map fG.s=(ls.map fG.s).set i e.s:=List.map_set
theorem mN{X:Type}{l:List X}{i:Nat}{x:X}(h:l[i]?=some x):l.set i x=l:=by
 apply aCk;intro j;rw[aDr];split
 ·rename_i hij;subst hij;rw[if_pos (aAd.1 h).1,h]
 ·rfl
def DZ(g:Nat)(B:Option Addr)(n d:Nat)(r:Int)(ls:List fG)(i:Nat)(s:dS)(b:Bool):Ending→List aL→Prop:=λx H' =>
 ∃ls',x=.returned (.bool b)∧EE r ls'∧ls'.length=ls.length∧ls'.map fG.s=(ls.map fG.s).set i s∧H'=vM g B n d r ls'
theorem bQ{P:Program}{E:Env}{fn:Func}{R:Ending→List aL→Prop}{F:Nat→Value}{H H1:List aL}{e:Ex}(hc:aB E H H1)(h:gF P E fn R e F H1)(hp:∀c,e≠.panic c:=by intro c h;cases h):gF P E fn R e F H:=by
 cases e with
 |normal=>obtain⟨v,H',h1,h2,h3⟩:=h;exact⟨v,H',λw hw=>h1 w (hc w hw),hc.trans h2,h3⟩
 |ret=>obtain⟨v,H',h1,h2,h3⟩:=h;exact⟨v,H',λw hw=>h1 w (hc w hw),hc.trans h2,h3⟩
 |exit id=>exact h
 |panic c=>exact absurd rfl (hp c)
def TX(L:List aL):aL:=⟨λF w=>cT L F w,λh hk=>iJ h hk,λh hb=>mP h hb⟩
theorem IL{X:Type}{f:X→aL}{l l':List X}(h:l'.map f=l.map f):aO f l'=aO f l:=by
 show TX (l'.map f)=TX (l.map f);rw[h]
theorem Mw{a:aL}{H H':List aL}(h:dT a [a] H H'):H'=H:=by
 induction h with
 |aN=>rfl
 |aM _ ih=>rw[ih]
theorem aB.same{E:Env}{X:Type}{f:X→aL}{l:List X}{H H':List aL}{i:Nat}{x x':X}(hx:l[i]?=some x)(hf:f x'=f x)(hr:dT (aO f l) [aO f (l.set i x')] H H'):aB E H H':=by
 have e:aO f (l.set i x')=aO f l:=by
  have hm:(l.set i x').map f=l.map f:=by rw[List.map_set,hf,mN (by rw[aBf,hx];rfl)]
  exact IL hm
 rw[e] at hr;rw[Mw hr];exact aB.refl
theorem aB.uF{E:Env}{B:Option Addr}{n d i:Nat}{ls ls':List fG}{H H':List aL}(e:fG)(hl:ls.set i e=ls')(hr:dT (Sep.D7 eD B n d ls i [.int .i64 e.id.rep,.int .i64 e.id.seq,.int .i64 e.made,.slice e.A e.n e.c,.slice e.X e.nx e.cx]) [own eD B n d ls'] H H'):aB E H H':=aB.V9 (e:=e) rfl hl hr
section
variable (E:Env) (g:Nat) (B:Option Addr) (n d:Nat) (r:Int) (ls:List fG)
theorem DZ.same{g:Nat}{B:Option Addr}{n d:Nat}{r:Int}{ls:List fG}{i:Nat}{e:fG}(he:ls[i]?=some e)(hok:EE r ls):DZ g B n d r ls i e.s false (.returned (.bool false)) (vM g B n d r ls) :=
 ⟨ls,rfl,hok,rfl,by rw[mN (x:=e.s) (by rw[aBf,he];rfl)],rfl⟩
theorem Qp(k:bP)(now:Int)(hn:n≤100000)(h:¬OL r n k.id):aK prog E 259 #[.pointer (some ⟨g,0,none⟩),.agg k.cs.toArray,.int .i64 now] [lg g B n d r] λe H'=>e=.returned (.bool false)∧H'=[lg g B n d r]:=by
 refine t_ func259 ntmps259 ?_;repeat first|refine cY ?_|intro
 refine bK (λM=>JR M g B n d r k.id hn h) ?_;repeat first|refine cY ?_|intro
 exact B7
theorem ZP(i:Nat)(hn:n≤100000)(hi:i<n)(hok:EE r ls){e:fG}(he:ls[i]?=some e)(o:Int)(u:Bool)(now:Int)(hnow:dQ now) :
  aK prog E 259 #[.pointer (some ⟨g,0,none⟩),.agg #[.int .i64 r,.int .i64 ((i+1:Nat):Int),.int .i64 o,.bool u],.int .i64 now] (vM g B n d r ls)
   (DZ g B n d r ls i (if e.s.tA e.id ⟨e.id,o,u⟩ then e.s.gV e.id now else e.s) (e.s.tA e.id ⟨e.id,o,u⟩&&(pK e.id e.made e.l e.w now).isSome)):=by
 have hoe:=hok i e he;have hid:=hoe.id;have hm:dQ e.made:=by have:=hoe.s.tS;have:=hoe.s.nK;unfold dQ;unfold fG.s at *;dsimp only at *;omega
 have hnl:e.n≤1000000:=by have h1:=hoe.s.len;have h2:=hoe.s.nK;have h3:=hoe.n;unfold fG.s at h1 h2;dsimp only at h1 h2;omega
 have hsame:=DZ.same (g:=g) (B:=B) (n:=n) (d:=d) he hok;have htok:=dS.FI (id:=e.id) hoe.s hnow;cases hq:e.s.Yr e.id with
 |none =>
  have hhit:e.s.tA e.id ⟨e.id,o,u⟩=false:=by unfold dS.tA;rw[hq]
  rw[hhit];simp only[aCx,aCb,if_false];unfold vM;refine t_ func259 ntmps259 ?_;repeat first|refine cY ?_|refine Dr.two ?_ ?_|intro
  refine bW (λM=>uJ M g B n d r ls i hn hi he) ?_;rintro x H' ⟨rfl,rfl⟩;repeat first|refine cY ?_|refine Dr.two ?_ ?_|intro
  refine rB (l_ [0,1,2,3,4,5,6,7] (.two 8 (l_ [9,10,11] (g_ 12 (g_ 13 (n_ 14 .nil)))) 12 (g_ 8 (l_ [9,10,11] (g_ 13 (n_ 14 .nil)))))) ([own eD B n d ls]) ?_;repeat first|refine cY ?_|intro
  refine Dr.two ?_ ?_
  ·refine yB rfl sD bA sK aC (λM hE=>yJ M e.id e.made e.A e.n e.c e.l e.w e.X e.nx e.cx (Sub.aO (f:=gJ) hE aS he rfl) (Sub.aO (f:=iD) hE aS he rfl) hoe.s.sE hm) ?_;unfold Ra;rw[show next e.id e.made e.l e.w=none from hq];dsimp only[Option.getD,Option.isSome];rintro x H' ⟨rfl,rfl⟩;repeat first|refine cY ?_|refine Dr.two ?_ ?_|intro
   exact jQ (hsame)
  ·repeat first|refine cY ?_|intro
   refine cg rfl sD bA sK aC (λM hE=>yJ M e.id e.made e.A e.n e.c e.l e.w e.X e.nx e.cx (Sub.aO (f:=gJ) hE aS he rfl) (Sub.aO (f:=iD) hE aS he rfl) hoe.s.sE hm) ?_;unfold Ra;rw[show next e.id e.made e.l e.w=none from hq];dsimp only[Option.getD,Option.isSome];rintro x H' ⟨rfl,rfl⟩;repeat first|refine cY ?_|refine Dr.two ?_ ?_|intro
   exact jQ (hsame)
 |some q =>
  by_cases hk:q.key=⟨e.id,o,u⟩
  ·have hhit:e.s.tA e.id ⟨e.id,o,u⟩=true:=by unfold dS.tA;rw[hq];exact decide_eq_true hk
   rw[hhit];simp only[aCt,if_true];have hd:(!decide ((⟨⟨q.key.id.rep,q.key.id.seq⟩,q.key.ord,q.key.cD⟩:bP)=⟨⟨r,((i+1:Nat):Int)⟩,o,u⟩))=false:=by
    rw[show(⟨⟨q.key.id.rep,q.key.id.seq⟩,q.key.ord,q.key.cD⟩:bP)=q.key from rfl,hk,hid,decide_eq_true rfl];rfl
   unfold vM;refine t_ func259 ntmps259 ?_;repeat first|refine cY ?_|refine Dr.two ?_ ?_|intro
   refine bW (λM=>uJ M g B n d r ls i hn hi he) ?_;rintro x H' ⟨rfl,rfl⟩;repeat first|refine cY ?_|refine Dr.two ?_ ?_|intro
   refine rB (l_ [0,1,2,3,4,5,6,7] (.two 8 (l_ [9,10,11] (g_ 12 (g_ 13 (n_ 14 .nil)))) 12 (g_ 8 (l_ [9,10,11] (g_ 13 (n_ 14 .nil)))))) ([own eD B n d ls]) ?_;repeat first|refine cY ?_|intro
   refine Dr.two ?_ ?_
   ·refine yB rfl sD bA sK aC (λM hE=>yJ M e.id e.made e.A e.n e.c e.l e.w e.X e.nx e.cx (Sub.aO (f:=gJ) hE aS he rfl) (Sub.aO (f:=iD) hE aS he rfl) hoe.s.sE hm) ?_;unfold Ra;rw[show next e.id e.made e.l e.w=some q from hq];dsimp only[Option.getD,Option.isSome];rintro x H' ⟨rfl,rfl⟩;repeat first|refine cY ?_|refine Dr.two ?_ ?_|intro
    apply C.conv;(· exact aB.NJ (T:=eD) (A:=B) (n:=n) (c:=d) (l:=ls) (k:=i) (e:=e) (cs:=[.int .i64 e.id.rep,.int .i64 e.id.seq,.int .i64 e.made,.slice e.A e.n e.c,.slice e.X e.nx e.cx]) he rfl dH)
    refine C.bL 16 (l_ [0,1,2,3,4,5,6,7,8,9] (g_ 10 (l_ [11,12,14,15] (.two 13 (g_ 16 (g_ 17 .nil)) 16 (g_ 13 (g_ 17 .nil)))))) _ q_ q_ aB.refl ?_;repeat first|refine cY ?_|refine Dr.two ?_ ?_|intro
    refine cg rfl sD bA sK aC (λM hE=>YM M e.id e.made e.A e.n e.c e.l e.w e.X e.nx e.cx now (Sub.aO (f:=gJ) hE aS he rfl) (Sub.aO (f:=iD) hE aS he rfl) hnl hoe.s.sE hm) ?_;unfold BJ;rintro x H' ⟨A',n',c',rfl,hn',hc',rfl⟩;refine gd bG aA ?_;obtain⟨t,ht⟩:∃t,(pK e.id e.made e.l e.w now).getD (e.made,e.l)=t:=⟨_,rfl⟩
    have hts:e.s.gV e.id now=⟨t.1,t.2,e.w⟩:=by unfold dS.gV fG.s;dsimp only;rw[ht]
    rw[ht] at hn';rw[ht];have hnew:(⟨e.id,t.1,A',n',c',t.2,e.X,e.nx,e.cx,e.w⟩:fG).ok r i:=⟨hid,hn',hc',hoe.nx,hoe.cx,by show(⟨t.1,t.2,e.w⟩:dS).ok;rw[←hts];exact htok⟩
    repeat first|refine cY ?_|intro
    refine Dr.two ?_ ?_
    ·repeat first|refine cY ?_|refine Dr.two ?_ ?_|intro
     refine bQ (aB.swap (f:=gJ) (l:=ls) (i:=i) (x:=e) (x':=⟨e.id,t.1,A',n',c',t.2,e.X,e.nx,e.cx,e.w⟩) he aC) ?_;refine bQ (aB.uF ⟨e.id,t.1,A',n',c',t.2,e.X,e.nx,e.cx,e.w⟩ rfl dH) ?_;refine bQ (aB.same (f:=iD) (i:=i) he (x':=⟨e.id,t.1,A',n',c',t.2,e.X,e.nx,e.cx,e.w⟩) rfl dH) ?_;exact aR rfl aF aA (⟨ls.set i ⟨e.id,t.1,A',n',c',t.2,e.X,e.nx,e.cx,e.w⟩,rfl,hok.set hnew,by simp,by rw[map_set,hts];rfl,rfl⟩)
    ·repeat first|refine cY ?_|refine Dr.two ?_ ?_|intro
     refine bQ (aB.swap (f:=gJ) (l:=ls) (i:=i) (x:=e) (x':=⟨e.id,t.1,A',n',c',t.2,e.X,e.nx,e.cx,e.w⟩) he aC) ?_;refine bQ (aB.uF ⟨e.id,t.1,A',n',c',t.2,e.X,e.nx,e.cx,e.w⟩ rfl dH) ?_;refine bQ (aB.same (f:=iD) (i:=i) he (x':=⟨e.id,t.1,A',n',c',t.2,e.X,e.nx,e.cx,e.w⟩) rfl dH) ?_;exact aR rfl aF aA (⟨ls.set i ⟨e.id,t.1,A',n',c',t.2,e.X,e.nx,e.cx,e.w⟩,rfl,hok.set hnew,by simp,by rw[map_set,hts];rfl,rfl⟩)
   ·repeat first|refine cY ?_|intro
    refine cg rfl sD bA sK aC (λM hE=>yJ M e.id e.made e.A e.n e.c e.l e.w e.X e.nx e.cx (Sub.aO (f:=gJ) hE aS he rfl) (Sub.aO (f:=iD) hE aS he rfl) hoe.s.sE hm) ?_;unfold Ra;rw[show next e.id e.made e.l e.w=some q from hq];dsimp only[Option.getD,Option.isSome];rintro x H' ⟨rfl,rfl⟩;repeat first|refine cY ?_|refine Dr.two ?_ ?_|intro
    apply C.conv;(· exact aB.NJ (T:=eD) (A:=B) (n:=n) (c:=d) (l:=ls) (k:=i) (e:=e) (cs:=[.int .i64 e.id.rep,.int .i64 e.id.seq,.int .i64 e.made,.slice e.A e.n e.c,.slice e.X e.nx e.cx]) he rfl dH)
    refine C.bL 16 (l_ [0,1,2,3,4,5,6,7,8,9] (g_ 10 (l_ [11,12,14,15] (.two 13 (g_ 16 (g_ 17 .nil)) 16 (g_ 13 (g_ 17 .nil)))))) _ q_ q_ aB.refl ?_;repeat first|refine cY ?_|refine Dr.two ?_ ?_|intro
    refine cg rfl sD bA sK aC (λM hE=>YM M e.id e.made e.A e.n e.c e.l e.w e.X e.nx e.cx now (Sub.aO (f:=gJ) hE aS he rfl) (Sub.aO (f:=iD) hE aS he rfl) hnl hoe.s.sE hm) ?_;unfold BJ;rintro x H' ⟨A',n',c',rfl,hn',hc',rfl⟩;refine gd bG aA ?_;obtain⟨t,ht⟩:∃t,(pK e.id e.made e.l e.w now).getD (e.made,e.l)=t:=⟨_,rfl⟩
    have hts:e.s.gV e.id now=⟨t.1,t.2,e.w⟩:=by unfold dS.gV fG.s;dsimp only;rw[ht]
    rw[ht] at hn';rw[ht];have hnew:(⟨e.id,t.1,A',n',c',t.2,e.X,e.nx,e.cx,e.w⟩:fG).ok r i:=⟨hid,hn',hc',hoe.nx,hoe.cx,by show(⟨t.1,t.2,e.w⟩:dS).ok;rw[←hts];exact htok⟩
    repeat first|refine cY ?_|intro
    refine Dr.two ?_ ?_
    ·repeat first|refine cY ?_|refine Dr.two ?_ ?_|intro
     refine bQ (aB.swap (f:=gJ) (l:=ls) (i:=i) (x:=e) (x':=⟨e.id,t.1,A',n',c',t.2,e.X,e.nx,e.cx,e.w⟩) he aC) ?_;refine bQ (aB.uF ⟨e.id,t.1,A',n',c',t.2,e.X,e.nx,e.cx,e.w⟩ rfl dH) ?_;refine bQ (aB.same (f:=iD) (i:=i) he (x':=⟨e.id,t.1,A',n',c',t.2,e.X,e.nx,e.cx,e.w⟩) rfl dH) ?_;exact aR rfl aF aA (⟨ls.set i ⟨e.id,t.1,A',n',c',t.2,e.X,e.nx,e.cx,e.w⟩,rfl,hok.set hnew,by simp,by rw[map_set,hts];rfl,rfl⟩)
    ·repeat first|refine cY ?_|refine Dr.two ?_ ?_|intro
     refine bQ (aB.swap (f:=gJ) (l:=ls) (i:=i) (x:=e) (x':=⟨e.id,t.1,A',n',c',t.2,e.X,e.nx,e.cx,e.w⟩) he aC) ?_;refine bQ (aB.uF ⟨e.id,t.1,A',n',c',t.2,e.X,e.nx,e.cx,e.w⟩ rfl dH) ?_;refine bQ (aB.same (f:=iD) (i:=i) he (x':=⟨e.id,t.1,A',n',c',t.2,e.X,e.nx,e.cx,e.w⟩) rfl dH) ?_;exact aR rfl aF aA (⟨ls.set i ⟨e.id,t.1,A',n',c',t.2,e.X,e.nx,e.cx,e.w⟩,rfl,hok.set hnew,by simp,by rw[map_set,hts];rfl,rfl⟩)
  ·have hhit:e.s.tA e.id ⟨e.id,o,u⟩=false:=by unfold dS.tA;rw[hq];exact decide_eq_false hk
   rw[hhit];simp only[aCx,aCb,if_false];have hd:(!decide ((⟨⟨q.key.id.rep,q.key.id.seq⟩,q.key.ord,q.key.cD⟩:bP)=⟨⟨r,((i+1:Nat):Int)⟩,o,u⟩))=true:=by
    rw[show(⟨⟨q.key.id.rep,q.key.id.seq⟩,q.key.ord,q.key.cD⟩:bP)=q.key from rfl,←hid,decide_eq_false hk];rfl
   unfold vM;refine t_ func259 ntmps259 ?_;repeat first|refine cY ?_|refine Dr.two ?_ ?_|intro
   refine bW (λM=>uJ M g B n d r ls i hn hi he) ?_;rintro x H' ⟨rfl,rfl⟩;repeat first|refine cY ?_|refine Dr.two ?_ ?_|intro
   refine rB (l_ [0,1,2,3,4,5,6,7] (.two 8 (l_ [9,10,11] (g_ 12 (g_ 13 (n_ 14 .nil)))) 12 (g_ 8 (l_ [9,10,11] (g_ 13 (n_ 14 .nil)))))) ([own eD B n d ls]) ?_;repeat first|refine cY ?_|intro
   refine Dr.two ?_ ?_
   ·refine yB rfl sD bA sK aC (λM hE=>yJ M e.id e.made e.A e.n e.c e.l e.w e.X e.nx e.cx (Sub.aO (f:=gJ) hE aS he rfl) (Sub.aO (f:=iD) hE aS he rfl) hoe.s.sE hm) ?_;unfold Ra;rw[show next e.id e.made e.l e.w=some q from hq];dsimp only[Option.getD,Option.isSome];rintro x H' ⟨rfl,rfl⟩;repeat first|refine cY ?_|refine Dr.two ?_ ?_|intro
    exact jQ (hsame)
   ·repeat first|refine cY ?_|intro
    refine cg rfl sD bA sK aC (λM hE=>yJ M e.id e.made e.A e.n e.c e.l e.w e.X e.nx e.cx (Sub.aO (f:=gJ) hE aS he rfl) (Sub.aO (f:=iD) hE aS he rfl) hoe.s.sE hm) ?_;unfold Ra;rw[show next e.id e.made e.l e.w=some q from hq];dsimp only[Option.getD,Option.isSome];rintro x H' ⟨rfl,rfl⟩;repeat first|refine cY ?_|refine Dr.two ?_ ?_|intro
    exact jQ (hsame)
theorem Qe(k:bP)(hn:n≤100000)(h:¬OL r n k.id):aK prog E 260 #[.pointer (some ⟨g,0,none⟩),.agg k.cs.toArray] [lg g B n d r] λe H'=>e=.returned (.bool false)∧H'=[lg g B n d r]:=by
 refine t_ func260 ntmps260 ?_;repeat first|refine cY ?_|intro
 refine bK (λM=>JR M g B n d r k.id hn h) ?_;repeat first|refine cY ?_|intro
 exact B7
theorem Zt(i:Nat)(hn:n≤100000)(hi:i<n)(hok:EE r ls){e:fG}(he:ls[i]?=some e)(o:Int)(u:Bool) :
  aK prog E 260 #[.pointer (some ⟨g,0,none⟩),.agg #[.int .i64 r,.int .i64 ((i+1:Nat):Int),.int .i64 o,.bool u]] (vM g B n d r ls)
   (DZ g B n d r ls i (e.s.qJ e.id ⟨e.id,o,u⟩) (cX e.id e.l ⟨e.id,o,u⟩).isSome):=by
 have hoe:=hok i e he;have hid:=hoe.id;have hnl:e.n≤1000000:=by have h1:=hoe.s.len;have h2:=hoe.s.nK;have h3:=hoe.n;unfold fG.s at h1 h2;dsimp only at h1 h2;omega
 have haok:=dS.Ez (id:=e.id) (k:=⟨e.id,o,u⟩) hoe.s;have hkk:(⟨⟨r,((i+1:Nat):Int)⟩,o,u⟩:bP)=⟨e.id,o,u⟩:=by rw[hid]
 unfold vM;refine t_ func260 ntmps260 ?_;repeat first|refine cY ?_|refine Dr.two ?_ ?_|intro
 rename_i g3;refine bW (λM=>uJ M g B n d r ls i hn hi he) ?_;rintro x H' ⟨rfl,rfl⟩;repeat first|refine cY ?_|refine Dr.two ?_ ?_|intro
 refine rB (l_ [0,1,2,3,4] (.two 5 (l_ [6,7,8] (g_ 9 (g_ 10 (n_ 11 .nil)))) 9 (g_ 5 (l_ [6,7,8] (g_ 10 (n_ 11 .nil)))))) ([own eD B n d ls,aJ g3 75 [.int .i64 r,.int .i64 ((i+1:Nat):Int),.int .i64 o,.bool u]]) ?_;repeat first|refine cY ?_|intro
 refine Dr.two ?_ ?_
 ·refine yB rfl sD bA sK aC (λM hE=>(show aK _ _ _ #[.agg #[.int .i64 e.id.rep,.int .i64 e.id.seq,.int .i64 e.made,.slice e.A e.n e.c],.agg #[.int .i64 r,.int .i64 ((i+1:Nat):Int),.int .i64 o,.bool u]] _ _ from Xi M e.id e.made e.A e.n e.c e.l ⟨⟨r,((i+1:Nat):Int)⟩,o,u⟩ (Sub.aO (f:=gJ) hE aS he rfl) hnl)) ?_;unfold BC;rw[hkk];rintro x H' ⟨A',n',c',rfl,hn',hc',rfl⟩;repeat first|refine cY ?_|refine Dr.two ?_ ?_|intro
  apply L.conv;(· exact aB.NJ (T:=eD) (A:=B) (n:=n) (c:=d) (l:=ls) (k:=i) (e:=e) (cs:=[.int .i64 e.id.rep,.int .i64 e.id.seq,.int .i64 e.made,.slice e.A e.n e.c,.slice e.X e.nx e.cx]) he rfl dH)
  repeat first|refine cY ?_|refine Dr.two ?_ ?_|intro
  have hnew:(⟨e.id,e.made,A',n',c',(cX e.id e.l ⟨e.id,o,u⟩).getD e.l,e.X,e.nx,e.cx,e.w⟩:fG).ok r i:=⟨hid,hn',hc',hoe.nx,hoe.cx,haok⟩
  refine bQ (aB.swap (f:=gJ) (l:=ls) (i:=i) (x:=e) (x':=⟨e.id,e.made,A',n',c',(cX e.id e.l ⟨e.id,o,u⟩).getD e.l,e.X,e.nx,e.cx,e.w⟩) he aC) ?_;refine bQ (aB.uF ⟨e.id,e.made,A',n',c',(cX e.id e.l ⟨e.id,o,u⟩).getD e.l,e.X,e.nx,e.cx,e.w⟩ rfl dH) ?_;refine bQ (aB.same (f:=iD) (i:=i) he (x':=⟨e.id,e.made,A',n',c',(cX e.id e.l ⟨e.id,o,u⟩).getD e.l,e.X,e.nx,e.cx,e.w⟩) rfl dH) ?_;exact aR rfl aF aA (⟨ls.set i ⟨e.id,e.made,A',n',c',(cX e.id e.l ⟨e.id,o,u⟩).getD e.l,e.X,e.nx,e.cx,e.w⟩,rfl,hok.set hnew,by simp,by rw[map_set];rfl,rfl⟩)
 ·repeat first|refine cY ?_|intro
  refine cg rfl sD bA sK aC (λM hE=>(show aK _ _ _ #[.agg #[.int .i64 e.id.rep,.int .i64 e.id.seq,.int .i64 e.made,.slice e.A e.n e.c],.agg #[.int .i64 r,.int .i64 ((i+1:Nat):Int),.int .i64 o,.bool u]] _ _ from Xi M e.id e.made e.A e.n e.c e.l ⟨⟨r,((i+1:Nat):Int)⟩,o,u⟩ (Sub.aO (f:=gJ) hE aS he rfl) hnl)) ?_;unfold BC;rw[hkk];rintro x H' ⟨A',n',c',rfl,hn',hc',rfl⟩;repeat first|refine cY ?_|refine Dr.two ?_ ?_|intro
  apply L.conv;(· exact aB.NJ (T:=eD) (A:=B) (n:=n) (c:=d) (l:=ls) (k:=i) (e:=e) (cs:=[.int .i64 e.id.rep,.int .i64 e.id.seq,.int .i64 e.made,.slice e.A e.n e.c,.slice e.X e.nx e.cx]) he rfl dH)
  repeat first|refine cY ?_|refine Dr.two ?_ ?_|intro
  have hnew:(⟨e.id,e.made,A',n',c',(cX e.id e.l ⟨e.id,o,u⟩).getD e.l,e.X,e.nx,e.cx,e.w⟩:fG).ok r i:=⟨hid,hn',hc',hoe.nx,hoe.cx,haok⟩
  refine bQ (aB.swap (f:=gJ) (l:=ls) (i:=i) (x:=e) (x':=⟨e.id,e.made,A',n',c',(cX e.id e.l ⟨e.id,o,u⟩).getD e.l,e.X,e.nx,e.cx,e.w⟩) he aC) ?_;refine bQ (aB.uF ⟨e.id,e.made,A',n',c',(cX e.id e.l ⟨e.id,o,u⟩).getD e.l,e.X,e.nx,e.cx,e.w⟩ rfl dH) ?_;refine bQ (aB.same (f:=iD) (i:=i) he (x':=⟨e.id,e.made,A',n',c',(cX e.id e.l ⟨e.id,o,u⟩).getD e.l,e.X,e.nx,e.cx,e.w⟩) rfl dH) ?_;exact aR rfl aF aA (⟨ls.set i ⟨e.id,e.made,A',n',c',(cX e.id e.l ⟨e.id,o,u⟩).getD e.l,e.X,e.nx,e.cx,e.w⟩,rfl,hok.set hnew,by simp,by rw[map_set];rfl,rfl⟩)
end
abbrev s0:dS:=⟨0,[],[]⟩
abbrev Uw(r:Int)(i:Nat):fG:=⟨⟨r,((i+1:Nat):Int)⟩,0,none,0,0,[],none,0,0,[]⟩
theorem VV(r:Int)(i:Nat):(Uw r i).ok r i:=⟨rfl,rfl,⟨aAf _,aAh _⟩,rfl,⟨aAf _,aAh _⟩,dS.Kk⟩
def mQ(ps:List dS)(i:Nat)(w:List cQ):List dS:=if i<ps.length then ps.set i ((ps.getD i s0).put w) else ps++[s0.put w]
theorem K8{ps:List dS}{i:Nat}{s:dS}{w:List cQ}(h:ps[i]?=some s):mQ ps i w=ps.set i (s.put w):=by
 unfold mQ;rw[if_pos (aAd.1 h).1,aBb,h];rfl
theorem K7{ps:List dS}{w:List cQ}:mQ ps ps.length w=(ps++[s0]).set ps.length (s0.put w):=by
 unfold mQ;rw[if_neg o_,List.set_append_right _ _ (aAf _),aEi];rfl
def Xk(g:Nat)(r:Int)(ps:List dS):Ending→List aL→Prop:=λx H' =>
 ∃B' n' d' ls',x=.returned (.bool true)∧EE r ls'∧n'=ls'.length∧(n'≤d'∧d'≤maxLen)∧ls'.map fG.s=ps∧H'=vM g B' n' d' r ls'
section
variable (E:Env) (g:Nat) (B:Option Addr) (n d:Nat) (r:Int) (ls:List fG)
theorem Rw(s:Int)(v:Value)(hn:n≤100000)(h:s<1∨(n:Int)+1<s):aK prog E 308 #[.pointer (some ⟨g,0,none⟩),.int .i64 s,v] [lg g B n d r] λe H'=>e=.returned (.bool false)∧H'=[lg g B n d r]:=by
 have hmax:=fX;have hw:IntKind.i64.wrap ((n:Int)+1)=(n:Int)+1:=aAq _ o_;refine t_ func308 ntmps308 ?_;by_cases h1:s<1
 ·repeat first|refine cY ?_|intro
  exact B7
 ·repeat first|refine cY ?_|intro
  exact B7
theorem ZV(i:Nat)(hn:n≤100000)(hi:i≤n)(hnl:n=ls.length)(hnd:n≤d∧d≤maxLen)(hok:EE r ls)(X:Option Addr)(nx cx:Nat)(w:List cQ)(hw:Rd E eG X nx cx w)(hx:nx≤8)(hwo:∀f∈w,f.ok) :
  aK prog E 308 #[.pointer (some ⟨g,0,none⟩),.int .i64 ((i+1:Nat):Int),.slice X nx cx] (vM g B n d r ls) (Xk g r (mQ (ls.map fG.s) i w)):=by
 have hmax:=fX;have hwl:=hw.len;have hw1:IntKind.i64.wrap ((n:Int)+1)=(n:Int)+1:=aAq _ o_;have hw2:IntKind.i64.wrap (((i+1:Nat):Int) - 1)=(i:Int):=by rw[aAq _ o_];omega
 have hnm:n≤maxLen:=o_;unfold Xk vM;refine t_ func308 ntmps308 ?_;repeat ((fail_if_success (refine C.seq (x:=Code.region 3 _ _) ?_));first|refine XH ?_|refine Z1 ?_|intro _|refine Dr.two ?_ ?_)
 refine C.BI (X:=Option Addr×Nat×Nat×List fG) (λ_=>[(0,.pointer (some ⟨g,0,none⟩)),(1,.int .i64 ((i+1:Nat):Int)),(2,.slice X nx cx)]) (λx=>[lg g x.1 x.2.1 x.2.2.1 r,own eD x.1 x.2.1 x.2.2.1 x.2.2.2,aO gJ x.2.2.2,aO iD x.2.2.2])
  (λx=>EE r x.2.2.2∧x.2.1=x.2.2.2.length∧x.2.1≤200000∧i<x.2.1∧(x.2.1≤x.2.2.1∧x.2.2.1≤maxLen)∧∀e,x.2.2.2[i]?=some e→(x.2.2.2.map fG.s).set i (e.s.put w)=mQ (ls.map fG.s) i w) ?_ ?_
 ·by_cases hlt:i<n
  ·repeat first|refine cY ?_|intro
   exact⟨(B,n,d,ls),aD,aA,⟨hok,hnl,by dsimp only;omega,hlt,hnd,λe he=>(K8 (by rw[aBf,he];rfl)).symm⟩⟩
  ·obtain rfl:i=n:=o_;repeat first|refine cY ?_|intro
   refine C.bL 14 (l_ [0,1,2,3,4,5,6] (g_ 7 (l_ [8,9] (g_ 10 (g_ 11 (l_ [12,13] (g_ 14 .nil))))))) ([lg g B i d r]) q_ q_ aA ?_;repeat first|refine cY ?_|intro
   refine eJ (λM=>u6 M g B i d r _) ?_;repeat first|refine cY ?_|intro
   refine Dr.Aw rfl (by rintro k ⟨⟩<;>decide) bA (S.cB (T:=eD) (e:=(Uw r i)) rfl rfl rfl rfl sD) ?_;rintro _ _ ⟨_,rfl,rfl⟩;refine⟨aA,?_⟩;repeat first|refine cY ?_|intro
   rename_i B' d' h1 h2;have hlen:(ls.map fG.s).length=i:=by rw[aAw,←hnl]
   have hlast:(ls++[Uw r i])[i]?=some (Uw r i):=by rw[hnl];simp
   refine⟨(B',i+1,d',ls++[Uw r i]),aD,?_,⟨hok.push (by rw[←hnl];exact VV r i),by dsimp only;rw[aAe,←hnl];rfl,by dsimp only;omega,by dsimp only;omega,⟨h1,h2⟩,λe he=>?_⟩⟩
   ·dsimp only;refine aB.trans (aB.oR fH none) ?_;refine aB.trans (aB.push (f:=gJ) (l:=ls) (x:=Uw r i) aC) ?_;refine aB.trans (aB.oR eG none) ?_;refine aB.trans (aB.push (f:=iD) (l:=ls) (x:=Uw r i) aC) ?_;exact aA
   ·dsimp only at he⊢;rw[hlast] at he;injection he with he
    subst he;have:=K7 (ps:=ls.map fG.s) (w:=w);rw[hlen] at this;rw[this,aBk];rfl
 rintro⟨B1,n1,d1,l1⟩ F ⟨hok1,hn1,hb1,hi1,hd1,hput⟩;dsimp only at hok1 hn1 hb1 hi1 hd1 hput⊢;obtain⟨e,he⟩:∃e,l1[i]?=some e:=⟨_,aAa o_⟩
 have hoe:=hok1 i e he;have hel:e.n≤1000000:=by have h1:=hoe.s.len;have h2:=hoe.s.nK;have h3:=hoe.n;unfold fG.s at h1 h2;dsimp only at h1 h2;omega
 have hx2:nx≤100000:=o_;have hpo:(e.s.put w).ok:=dS.OO hoe.s hwo o_;repeat ((fail_if_success (refine C.seq (x:=Code.region 6 _ _) ?_));first|refine XH ?_|refine Z1 ?_|intro _|refine Dr.two ?_ ?_)
 apply C.conv;(· exact aB.NJ (T:=eD) (A:=B1) (n:=n1) (c:=d1) (l:=l1) (k:=i) (e:=e) (cs:=[.int .i64 e.id.rep,.int .i64 e.id.seq,.int .i64 e.made,.slice e.A e.n e.c,.slice e.X e.nx e.cx]) he rfl dH)
 repeat first|refine cY ?_|intro
 refine dX (λM h1=>Kf M X nx cx w h1 hx2) ?_;rintro x H' ⟨X',cx',rfl,hcx',rfl⟩;repeat first|refine cY ?_|intro
 refine cl sD sK aC (λM hE=>KH M e.id e.made e.A e.n e.c e.l w X nx cx (Sub.aO (f:=gJ) hE aS he rfl) (hw.sub hE) hel) ?_;rintro x H' ⟨A',c',rfl,hc',rfl⟩;repeat first|refine cY ?_|intro
 have hnew:(⟨e.id,e.made,A',e.n,c',settle w e.l,X',nx,cx',w⟩:fG).ok r i:=⟨hoe.id,by show e.n=(settle w e.l).length;rw[dJ];exact hoe.n,hc',hwl,hcx',hpo⟩
 refine bQ (aB.swap (f:=gJ) (l:=l1) (i:=i) (x:=e) (x':=⟨e.id,e.made,A',e.n,c',settle w e.l,X',nx,cx',w⟩) he aC) ?_;refine bQ (aB.swap (f:=iD) (l:=l1) (i:=i) (x:=e) (x':=⟨e.id,e.made,A',e.n,c',settle w e.l,X',nx,cx',w⟩) he aC) ?_;refine bQ (aB.uF ⟨e.id,e.made,A',e.n,c',settle w e.l,X',nx,cx',w⟩ rfl dH) ?_;exact aR rfl aF aA (⟨B1,n1,d1,l1.set i ⟨e.id,e.made,A',e.n,c',settle w e.l,X',nx,cx',w⟩,rfl,hok1.set hnew,by rw[aAt];exact hn1,hd1,by rw[map_set];exact hput e he,rfl⟩)
def nB:Int→List bH→Bool
 |_,[]=>true
 |last,e::l=>e.may&&(decide (last<e.ord)&&nB e.ord l)
def sL:Int→List bH→Int
 |last,[]=>last
 |_,e::l=>sL e.ord l
theorem LY(l:List bH)(last:Int)(e:bH):nB last (l++[e])=(nB last l&&(e.may&&decide (sL last l<e.ord))):=by
 induction l generalizing last with
 |nil =>
  show(e.may&&(decide (last<e.ord)&&true))=(true&&(e.may&&decide (last<e.ord)));rw[Bool.and_true,aCt]
 |cons x l ih =>
  show(x.may&&(decide (last<x.ord)&&nB x.ord (l++[e])))=((x.may&&(decide (last<x.ord)&&nB x.ord l))&&(e.may&&decide (sL x.ord l<e.ord)));rw[ih,Bool.and_assoc,Bool.and_assoc]
theorem Ir(l:List bH)(last:Int)(e:bH):sL last (l++[e])=e.ord:=by
 induction l generalizing last with
 |nil=>rfl
 |cons x l ih=>simp only[aCj,sL,ih]
theorem LU{l:List bH}{last:Int}{i:Nat}{x:bH}(_hx:l[i]?=some x)(h:nB last (l.take (i+1))=false):nB last l=false:=by
 have hs:∀(a b:List bH) (q:Int),nB q a=false→nB q (a++b)=false:=by
  intro a
  induction a with
  |nil=>intro b q h;simp[nB] at h
  |cons y a ih =>
   intro b q h;simp only[aCj,nB] at h⊢;cases hy:y.may
   ·rfl
   ·rw[hy] at h;cases hd:decide (q<y.ord)
    ·rfl
    ·rw[hd] at h;simp only[aCt] at h⊢;exact ih b _ h
 rw[←aAx (i+1) l];exact hs _ _ _ h
def pY(made:Int)(l:List bH):Bool:=nB 0 l&&decide (sL 0 l≤made∧made≤255)
theorem Oz(id:bJ)(made:Int)(A:Option Addr)(n c:Nat)(l:List bH)(hr:Rd E fH A n c l):aK prog E 379 #[Js id made A n c] [] λx H'=>x=.returned (.bool (pY made l))∧H'=[]:=by
 have hmax:=fX;have hn:=hr.len;have hcap:=hr.cap;unfold pY;refine t_ func379 ntmps379 ?_;repeat first|refine cY ?_|intro
 rename_i g1;refine C.loop (X:=Nat) (λj=>[(1,.pointer (some ⟨g1,0,none⟩)),(3,.int .i64 (sL 0 (l.take j))),(7,.slice A n c),(8,.int .i64 n),(9,.int .i64 j)]) (λ_=>[aJ g1 90 [.int .i64 id.rep,.int .i64 id.seq,.int .i64 made,.slice A n c]]) (λj=>j≤n∧nB 0 (l.take j)=true) (λj=>n - j) 0 aD aA ⟨aAh _,rfl⟩ ?_;rintro j G ⟨hj,hrise⟩;by_cases hlt:j<n
 ·have hx:l[j]?=some l[j]:=aAa o_;have htk:l.take (j+1)=l.take j++[l[j]]:=aAn o_;generalize l[j]=e at hx htk;have hp:=LY (l.take j) 0 e;have hlp:=Ir (l.take j) 0 e;rw[←htk,hrise,aCt] at hp;rw[←htk] at hlp;have hno:nB 0 (l.take (j+1))=false→nB 0 l=false:=LU hx;revert hp hlp hno;generalize sL 0 (l.take j)=q;intro hp hlp hno;repeat first|refine cY ?_|intro
  refine bW (λM=>Jk M e) ?_;cases hm:e.may
  ·rw[hm] at hp;rw[hno hp,aCx];rintro x H' ⟨rfl,rfl⟩;repeat first|refine cY ?_|intro
   exact B7
  rw[hm,aCt] at hp;rintro x H' ⟨rfl,rfl⟩;refine gk bG ?_;by_cases hq:q<e.ord
  ·repeat first|refine cY ?_|intro
   exact⟨j+1,by rw[hlp];exact aD,aA,⟨by omega,by rw[hp];exact decide_eq_true hq⟩,by omega⟩
  ·rw[hno (by rw[hp];exact decide_eq_false hq),aCx];repeat first|refine cY ?_|intro
   exact B7
 ·obtain rfl:j=n:=o_;rw[aAj o_] at hrise⊢;rw[hrise,aCt];repeat first|refine cY ?_|intro
  refine bW (λM=>dV M made (sL 0 l) 255) ?_;rintro x H' ⟨rfl,rfl⟩;repeat first|refine cY ?_|intro
  exact B7
theorem N3(v:Qc)(hn:n≤100000)(h:¬OL r n v.id):aK prog E 366 #[.pointer (some ⟨g,0,none⟩),.agg v.cs.toArray] [lg g B n d r] λe H'=>e=.returned (.bool false)∧H'=[lg g B n d r]:=by
 refine t_ func366 ntmps366 ?_;repeat first|refine cY ?_|intro
 refine bK (λM=>JR M g B n d r v.id hn h) ?_;repeat first|refine cY ?_|intro
 exact B7
theorem NB(i:Nat)(hn:n≤100000)(hi:i<n){e:fG}(he:ls[i]?=some e)(made:Int)(A:Option Addr)(m c:Nat)(l:List bH)(hr:Rd E fH A m c l)(hbad:pY made l=false) :
  aK prog E 366 #[.pointer (some ⟨g,0,none⟩),.agg #[.int .i64 r,.int .i64 ((i+1:Nat):Int),.int .i64 made,.slice A m c]] [lg g B n d r,own eD B n d ls] λe H'=>e=.returned (.bool false)∧H'=[lg g B n d r,own eD B n d ls]:=by
 refine t_ func366 ntmps366 ?_;repeat first|refine cY ?_|intro
 refine bW (λM=>uJ M g B n d r ls i hn hi he) ?_;rintro x H' ⟨rfl,rfl⟩;repeat first|refine cY ?_|intro
 refine dX (λM=>Oz M ⟨r,((i+1:Nat):Int)⟩ made A m c l) ?_;rw[hbad];rintro x H' ⟨rfl,rfl⟩;repeat first|refine cY ?_|intro
 exact B7
theorem YY(i:Nat)(hn:n≤100000)(hi:i<n)(hok:EE r ls){e:fG}(he:ls[i]?=some e)(made:Int)(A:Option Addr)(m c:Nat)(l:List bH)(hr:Rd E fH A m c l)(hm:m≤1000000)(hwh:pY made l=true)(hso:(⟨made,settle e.w l,e.w⟩:dS).ok) :
  aK prog E 366 #[.pointer (some ⟨g,0,none⟩),.agg #[.int .i64 r,.int .i64 ((i+1:Nat):Int),.int .i64 made,.slice A m c]] (vM g B n d r ls)
   (DZ g B n d r ls i ⟨made,settle e.w l,e.w⟩ true):=by
 have hoe:=hok i e he;unfold vM;refine t_ func366 ntmps366 ?_;repeat first|refine cY ?_|intro
 rename_i g3;refine bW (λM=>uJ M g B n d r ls i hn hi he) ?_;rintro x H' ⟨rfl,rfl⟩;repeat first|refine cY ?_|intro
 refine dX (λM=>Oz M ⟨r,((i+1:Nat):Int)⟩ made A m c l) ?_;rw[hwh];rintro x H' ⟨rfl,rfl⟩;repeat first|refine cY ?_|intro
 apply C.conv;(· exact aB.NJ (T:=eD) (A:=B) (n:=n) (c:=d) (l:=ls) (k:=i) (e:=e) (cs:=[.int .i64 e.id.rep,.int .i64 e.id.seq,.int .i64 e.made,.slice e.A e.n e.c,.slice e.X e.nx e.cx]) he rfl dH)
 refine C.bL 9 (l_ [0,1,2,3,4,5] (g_ 6 (l_ [7,8] (g_ 9 .nil)))) _ q_ q_ aB.refl ?_;repeat first|refine cY ?_|intro
 refine cg rfl sD bA sK aC (λM hE=>KH M ⟨r,((i+1:Nat):Int)⟩ made A m c l e.w e.X e.nx e.cx (hr.sub hE) (Sub.aO (f:=iD) hE aS he rfl) hm) ?_;rintro x H' ⟨A',c',rfl,hc',rfl⟩;repeat first|refine cY ?_|intro
 have hid:=hoe.id;have hnew:(⟨⟨r,((i+1:Nat):Int)⟩,made,A',m,c',settle e.w l,e.X,e.nx,e.cx,e.w⟩:fG).ok r i:=⟨rfl,by show m=(settle e.w l).length;rw[dJ];exact hr.len,hc',hoe.nx,hoe.cx,hso⟩
 refine bQ (aB.swap (f:=gJ) (l:=ls) (i:=i) (x:=e) (x':=⟨⟨r,((i+1:Nat):Int)⟩,made,A',m,c',settle e.w l,e.X,e.nx,e.cx,e.w⟩) he aC) ?_;refine bQ (aB.uF ⟨⟨r,((i+1:Nat):Int)⟩,made,A',m,c',settle e.w l,e.X,e.nx,e.cx,e.w⟩ rfl dH) ?_;refine bQ (aB.same (f:=iD) (i:=i) he (x':=⟨⟨r,((i+1:Nat):Int)⟩,made,A',m,c',settle e.w l,e.X,e.nx,e.cx,e.w⟩) rfl dH) ?_;exact aR rfl aF aA (⟨ls.set i ⟨⟨r,((i+1:Nat):Int)⟩,made,A',m,c',settle e.w l,e.X,e.nx,e.cx,e.w⟩,rfl,hok.set hnew,by simp,by rw[map_set];rfl,rfl⟩)
end
end Go.Proofs.YtmilalkjbojciaaGreat.Sep
