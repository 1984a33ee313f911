/- Part AI: what it needs. No condition. -/
import Derived.Test.YtmilalkjbojciaaGreatLAA
import Derived.Test.YtmilalkjbojciaaGreatLAD
import Derived.Test.YtmilalkjbojciaaGreatLAH
set_option maxRecDepth 100000
set_option maxHeartbeats 8000000
open Go.Proofs.Tryz
namespace Go.Proofs.YtmilalkjbojciaaGreat.Sep
open Go.RowKit Reg
open Mem hiding Rd
def dS.tA(s:dS)(id:bJ)(k:bP):Bool:=match s.Yr id with
 |some q=>decide (q.key=k)
 |none=>false
def dS.put(s:dS)(w:List cQ):dS:=⟨s.made,settle w s.l,w⟩
theorem dS.OO{s:dS}{w:List cQ}(h:s.ok)(hw:∀f∈w,f.ok)(hl:w.length≤8):(s.put w).ok :=
 ⟨aHi h.sE,hw,h.tS,h.nK,by show((settle w s.l).length:Int)≤s.made;rw[dJ];exact h.len,hl⟩
theorem map_set{ls:List fG}{i:Nat}{e:fG}:(ls.set i e).map fG.s=(ls.map fG.s).set i e.s:=List.map_set
theorem mN{X:Type}{l:List X}{i:Nat}{x:X}(h:l[i]?=some x):l.set i x=l:=by
 apply aCk;intro j;rw[aDr];split
 ·rename_i hij;subst hij;rw[if_pos (aAd.1 h).1,h]
 ·rfl
def DZ(g:Nat)(B:Option Addr)(n d:Nat)(r:Int)(ls:List fG)(i:Nat)(s:dS)(b:Bool):Ending→List aL→Prop:=λx H' =>
 ∃ls',x=.returned (.bool b)∧EE r ls'∧ls'.length=ls.length∧ls'.map fG.s=(ls.map fG.s).set i s∧H'=vM g B n d r ls'
theorem bQ{P:Program}{E:Env}{fn:Func}{R:Ending→List aL→Prop}{F:Nat→Value}{H H1:List aL}{e:Ex}(hc:aB E H H1)(h:gF P E fn R e F H1)(hp:∀c,e≠.panic c:=by intro c h;cases h):gF P E fn R e F H:=by
 cases e with
 |normal=>obtain⟨v,H',h1,h2,h3⟩:=h;exact⟨v,H',λw hw=>h1 w (hc w hw),hc.trans h2,h3⟩
 |ret=>obtain⟨v,H',h1,h2,h3⟩:=h;exact⟨v,H',λw hw=>h1 w (hc w hw),hc.trans h2,h3⟩
 |exit id=>exact h
 |panic c=>exact absurd rfl (hp c)
def TX(L:List aL):aL:=⟨λF w=>cT L F w,λh hk=>iJ h hk,λh hb=>mP h hb⟩
theorem IL{X:Type}{f:X→aL}{l l':List X}(h:l'.map f=l.map f):aO f l'=aO f l:=by
 show TX (l'.map f)=TX (l.map f);rw[h]
theorem Mw{a:aL}{H H':List aL}(h:dT a [a] H H'):H'=H:=by
 induction h with
 |aN=>rfl
 |aM _ ih=>rw[ih]
theorem aB.same{E:Env}{X:Type}{f:X→aL}{l:List X}{H H':List aL}{i:Nat}{x x':X}(hx:l[i]?=some x)(hf:f x'=f x)(hr:dT (aO f l) [aO f (l.set i x')] H H'):aB E H H':=by
 have e:aO f (l.set i x')=aO f l:=by
  have hm:(l.set i x').map f=l.map f:=by rw[List.map_set,hf,mN (by rw[aBf,hx];rfl)]
  exact IL hm
 rw[e] at hr;rw[Mw hr];exact aB.refl
theorem aB.uF{E:Env}{B:Option Addr}{n d i:Nat}{ls ls':List fG}{H H':List aL}(e:fG)(hl:ls.set i e=ls')(hr:dT (Sep.D7 eD B n d ls i [.int .i64 e.id.rep,.int .i64 e.id.seq,.int .i64 e.made,.slice e.A e.n e.c,.slice e.X e.nx e.cx]) [own eD B n d ls'] H H'):aB E H H':=aB.V9 (e:=e) rfl hl hr
section
variable (E:Env) (g:Nat) (B:Option Addr) (n d:Nat) (r:Int) (ls:List fG)
theorem DZ.same{g:Nat}{B:Option Addr}{n d:Nat}{r:Int}{ls:List fG}{i:Nat}{e:fG}(he:ls[i]?=some e)(hok:EE r ls):DZ g B n d r ls i e.s false (.returned (.bool false)) (vM g B n d r ls) :=
 ⟨ls,rfl,hok,rfl,by rw[mN (x:=e.s) (by rw[aBf,he];rfl)],rfl⟩
theorem Qp(k:bP)(now:Int)(hn:n≤100000)(h:¬OL r n k.id):aK prog E 259 #[.pointer (some ⟨g,0,none⟩),.agg k.cs.toArray,.int .i64 now] [lg g B n d r] λe H'=>e=.returned (.bool false)∧H'=[lg g B n d r]:=by
 refine t_ func259 ntmps259 ?_;repeat first|refine cY ?_|intro
 refine bK (λM=>JR M g B n d r k.id hn h) ?_;repeat first|refine cY ?_|intro
 exact B7
theorem ZP(i:Nat)(hn:n≤100000)(hi:i<n)(hok:EE r ls){e:fG}(he:ls[i]?=some e)(o:Int)(u:Bool)(now:Int)(hnow:dQ now) :
  aK prog E 259 #[.pointer (some ⟨g,0,none⟩),.agg #[.int .i64 r,.int .i64 ((i+1:Nat):Int),.int .i64 o,.bool u],.int .i64 now] (vM g B n d r ls)
   (DZ g B n d r ls i (if e.s.tA e.id ⟨e.id,o,u⟩ then e.s.gV e.id now else e.s) (e.s.tA e.id ⟨e.id,o,u⟩&&(pK e.id e.made e.l e.w now).isSome)):=by
 have hoe:=hok i e he;have hid:=hoe.id;have hm:dQ e.made:=by have:=hoe.s.tS;have:=hoe.s.nK;unfold dQ;unfold fG.s at *;dsimp only at *;omega
 have hnl:e.n≤1000000:=by have h1:=hoe.s.len;have h2:=hoe.s.nK;have h3:=hoe.n;unfold fG.s at h1 h2;dsimp only at h1 h2;omega
 have hsame:=DZ.same (g:=g) (B:=B) (n:=n) (d:=d) he hok;have htok:=dS.FI (id:=e.id) hoe.s hnow;cases hq:e.s.Yr e.id with
 |none =>
  have hhit:e.s.tA e.id ⟨e.id,o,u⟩=false:=by unfold dS.tA;rw[hq]
  rw[hhit];simp only[aCx,aCb,if_false];unfold vM;refine t_ func259 ntmps259 ?_;repeat first|refine cY ?_|refine Dr.two ?_ ?_|intro
  refine bW (λM=>uJ M g B n d r ls i hn hi he) ?_;rintro x H' ⟨rfl,rfl⟩;repeat first|refine cY ?_|refine Dr.two ?_ ?_|intro
  refine rB (l_ [0,1,2,3,4,5,6,7] (.two 8 (l_ [9,10,11] (g_ 12 (g_ 13 (n_ 14 .nil)))) 12 (g_ 8 (l_ [9,10,11] (g_ 13 (n_ 14 .nil)))))) ([own eD B n d ls]) ?_;repeat first|refine cY ?_|intro
  refine Dr.two ?_ ?_
  ·refine yB rfl sD bA sK aC (λM hE=>yJ M e.id e.made e.A e.n e.c e.l e.w e.X e.nx e.cx (Sub.aO (f:=gJ) hE aS he rfl) (Sub.aO (f:=iD) hE aS he rfl) hoe.s.sE hm) ?_;unfold Ra;rw[show next e.id e.made e.l e.w=none from hq];dsimp only[Option.getD,Option.isSome];rintro x H' ⟨rfl,rfl⟩;repeat first|refine cY ?_|refine Dr.two ?_ ?_|intro
   exact jQ (hsame)
  ·repeat first|refine cY ?_|intro
   refine cg rfl sD bA sK aC (λM hE=>yJ M e.id e.made e.A e.n e.c e.l e.w e.X e.nx e.cx (Sub.aO (f:=gJ) hE aS he rfl) (Sub.aO (f:=iD) hE aS he rfl) hoe.s.sE hm) ?_;unfold Ra;rw[show next e.id e.made e.l e.w=none from hq];dsimp only[Option.getD,Option.isSome];rintro x H' ⟨rfl,rfl⟩;repeat first|refine cY ?_|refine Dr.two ?_ ?_|intro
   exact jQ (hsame)
 |some q =>
  by_cases hk:q.key=⟨e.id,o,u⟩
  ·have hhit:e.s.tA e.id ⟨e.id,o,u⟩=true:=by unfold dS.tA;rw[hq];exact decide_eq_true hk
   rw[hhit];simp only[aCt,if_true];have hd:(!decide ((⟨⟨q.key.id.rep,q.key.id.seq⟩,q.key.ord,q.key.cD⟩:bP)=⟨⟨r,((i+1:Nat):Int)⟩,o,u⟩))=false:=by
    rw[show(⟨⟨q.key.id.rep,q.key.id.seq⟩,q.key.ord,q.key.cD⟩:bP)=q.key from rfl,hk,hid,decide_eq_true rfl];rfl
   unfold vM;refine t_ func259 ntmps259 ?_;repeat first|refine cY ?_|refine Dr.two ?_ ?_|intro
   refine bW (λM=>uJ M g B n d r ls i hn hi he) ?_;rintro x H' ⟨rfl,rfl⟩;repeat first|refine cY ?_|refine Dr.two ?_ ?_|intro
   refine rB (l_ [0,1,2,3,4,5,6,7] (.two 8 (l_ [9,10,11] (g_ 12 (g_ 13 (n_ 14 .nil)))) 12 (g_ 8 (l_ [9,10,11] (g_ 13 (n_ 14 .nil)))))) ([own eD B n d ls]) ?_;repeat first|refine cY ?_|intro
   refine Dr.two ?_ ?_
   ·refine yB rfl sD bA sK aC (λM hE=>yJ M e.id e.made e.A e.n e.c e.l e.w e.X e.nx e.cx (Sub.aO (f:=gJ) hE aS he rfl) (Sub.aO (f:=iD) hE aS he rfl) hoe.s.sE hm) ?_;unfold Ra;rw[show next e.id e.made e.l e.w=some q from hq];dsimp only[Option.getD,Option.isSome];rintro x H' ⟨rfl,rfl⟩;repeat first|refine cY ?_|refine Dr.two ?_ ?_|intro
    apply C.conv;(· exact aB.NJ (T:=eD) (A:=B) (n:=n) (c:=d) (l:=ls) (k:=i) (e:=e) (cs:=[.int .i64 e.id.rep,.int .i64 e.id.seq,.int .i64 e.made,.slice e.A e.n e.c,.slice e.X e.nx e.cx]) he rfl dH)
    refine C.bL 16 (l_ [0,1,2,3,4,5,6,7,8,9] (g_ 10 (l_ [11,12,14,15] (.two 13 (g_ 16 (g_ 17 .nil)) 16 (g_ 13 (g_ 17 .nil)))))) _ q_ q_ aB.refl ?_;repeat first|refine cY ?_|refine Dr.two ?_ ?_|intro
    refine cg rfl sD bA sK aC (λM hE=>YM M e.id e.made e.A e.n e.c e.l e.w e.X e.nx e.cx now (Sub.aO (f:=gJ) hE aS he rfl) (Sub.aO (f:=iD) hE aS he rfl) hnl hoe.s.sE hm) ?_;unfold BJ;rintro x H' ⟨A',n',c',rfl,hn',hc',rfl⟩;refine gd bG aA ?_;obtain⟨t,ht⟩:∃t,(pK e.id e.made e.l e.w now).getD (e.made,e.l)=t:=⟨_,rfl⟩
    have hts:e.s.gV e.id now=⟨t.1,t.2,e.w⟩:=by unfold dS.gV fG.s;dsimp only;rw[ht]
    rw[ht] at hn';rw[ht];have hnew:(⟨e.id,t.1,A',n',c',t.2,e.X,e.nx,e.cx,e.w⟩:fG).ok r i:=⟨hid,hn',hc',hoe.nx,hoe.cx,by show(⟨t.1,t.2,e.w⟩:dS).ok;rw[←hts];exact htok⟩
    repeat first|refine cY ?_|intro
    refine Dr.two ?_ ?_
    ·repeat first|refine cY ?_|refine Dr.two ?_ ?_|intro
     refine bQ (aB.swap (f:=gJ) (l:=ls) (i:=i) (x:=e) (x':=⟨e.id,t.1,A',n',c',t.2,e.X,e.nx,e.cx,e.w⟩) he aC) ?_;refine bQ (aB.uF ⟨e.id,t.1,A',n',c',t.2,e.X,e.nx,e.cx,e.w⟩ rfl dH) ?_;refine bQ (aB.same (f:=iD) (i:=i) he (x':=⟨e.id,t.1,A',n',c',t.2,e.X,e.nx,e.cx,e.w⟩) rfl dH) ?_;exact aR rfl aF aA (⟨ls.set i ⟨e.id,t.1,A',n',c',t.2,e.X,e.nx,e.cx,e.w⟩,rfl,hok.set hnew,by simp,by rw[map_set,hts];rfl,rfl⟩)
    ·repeat first|refine cY ?_|refine Dr.two ?_ ?_|intro
     refine bQ (aB.swap (f:=gJ) (l:=ls) (i:=i) (x:=e) (x':=⟨e.id,t.1,A',n',c',t.2,e.X,e.nx,e.cx,e.w⟩) he aC) ?_;refine bQ (aB.uF ⟨e.id,t.1,A',n',c',t.2,e.X,e.nx,e.cx,e.w⟩ rfl dH) ?_;refine bQ (aB.same (f:=iD) (i:=i) he (x':=⟨e.id,t.1,A',n',c',t.2,e.X,e.nx,e.cx,e.w⟩) rfl dH) ?_;exact aR rfl aF aA (⟨ls.set i ⟨e.id,t.1,A',n',c',t.2,e.X,e.nx,e.cx,e.w⟩,rfl,hok.set hnew,by simp,by rw[map_set,hts];rfl,rfl⟩)
   ·repeat first|refine cY ?_|intro
    refine cg rfl sD bA sK aC (λM hE=>yJ M e.id e.made e.A e.n e.c e.l e.w e.X e.nx e.cx (Sub.aO (f:=gJ) hE aS he rfl) (Sub.aO (f:=iD) hE aS he rfl) hoe.s.sE hm) ?_;unfold Ra;rw[show next e.id e.made e.l e.w=some q from hq];dsimp only[Option.getD,Option.isSome];rintro x H' ⟨rfl,rfl⟩;repeat first|refine cY ?_|refine Dr.two ?_ ?_|intro
    apply C.conv;(· exact aB.NJ (T:=eD) (A:=B) (n:=n) (c:=d) (l:=ls) (k:=i) (e:=e) (cs:=[.int .i64 e.id.rep,.int .i64 e.id.seq,.int .i64 e.made,.slice e.A e.n e.c,.slice e.X e.nx e.cx]) he rfl dH)
    refine C.bL 16 (l_ [0,1,2,3,4,5,6,7,8,9] (g_ 10 (l_ [11,12,14,15] (.two 13 (g_ 16 (g_ 17 .nil)) 16 (g_ 13 (g_ 17 .nil)))))) _ q_ q_ aB.refl ?_;repeat first|refine cY ?_|refine Dr.two ?_ ?_|intro
    refine cg rfl sD bA sK aC (λM hE=>YM M e.id e.made e.A e.n e.c e.l e.w e.X e.nx e.cx now (Sub.aO (f:=gJ) hE aS he rfl) (Sub.aO (f:=iD) hE aS he rfl) hnl hoe.s.sE hm) ?_;unfold BJ;rintro x H' ⟨A',n',c',rfl,hn',hc',rfl⟩;refine gd bG aA ?_;obtain⟨t,ht⟩:∃t,(pK e.id e.made e.l e.w now).getD (e.made,e.l)=t:=⟨_,rfl⟩
    have hts:e.s.gV e.id now=⟨t.1,t.2,e.w⟩:=by unfold dS.gV fG.s;dsimp only;rw[ht]
    rw[ht] at hn';rw[ht];have hnew:(⟨e.id,t.1,A',n',c',t.2,e.X,e.nx,e.cx,e.w⟩:fG).ok r i:=⟨hid,hn',hc',hoe.nx,hoe.cx,by show(⟨t.1,t.2,e.w⟩:dS).ok;rw[←hts];exact htok⟩
    repeat first|refine cY ?_|intro
    refine Dr.two ?_ ?_
    ·repeat first|refine cY ?_|refine Dr.two ?_ ?_|intro
     refine bQ (aB.swap (f:=gJ) (l:=ls) (i:=i) (x:=e) (x':=⟨e.id,t.1,A',n',c',t.2,e.X,e.nx,e.cx,e.w⟩) he aC) ?_;refine bQ (aB.uF ⟨e.id,t.1,A',n',c',t.2,e.X,e.nx,e.cx,e.w⟩ rfl dH) ?_;refine bQ (aB.same (f:=iD) (i:=i) he (x':=⟨e.id,t.1,A',n',c',t.2,e.X,e.nx,e.cx,e.w⟩) rfl dH) ?_;exact aR rfl aF aA (⟨ls.set i ⟨e.id,t.1,A',n',c',t.2,e.X,e.nx,e.cx,e.w⟩,rfl,hok.set hnew,by simp,by rw[map_set,hts];rfl,rfl⟩)
    ·repeat first|refine cY ?_|refine Dr.two ?_ ?_|intro
     refine bQ (aB.swap (f:=gJ) (l:=ls) (i:=i) (x:=e) (x':=⟨e.id,t.1,A',n',c',t.2,e.X,e.nx,e.cx,e.w⟩) he aC) ?_;refine bQ (aB.uF ⟨e.id,t.1,A',n',c',t.2,e.X,e.nx,e.cx,e.w⟩ rfl dH) ?_;refine bQ (aB.same (f:=iD) (i:=i) he (x':=⟨e.id,t.1,A',n',c',t.2,e.X,e.nx,e.cx,e.w⟩) rfl dH) ?_;exact aR rfl aF aA (⟨ls.set i ⟨e.id,t.1,A',n',c',t.2,e.X,e.nx,e.cx,e.w⟩,rfl,hok.set hnew,by simp,by rw[map_set,hts];rfl,rfl⟩)
  ·have hhit:e.s.tA e.id ⟨e.id,o,u⟩=false:=by unfold dS.tA;rw[hq];exact decide_eq_false hk
   rw[hhit];simp only[aCx,aCb,if_false];have hd:(!decide ((⟨⟨q.key.id.rep,q.key.id.seq⟩,q.key.ord,q.key.cD⟩:bP)=⟨⟨r,((i+1:Nat):Int)⟩,o,u⟩))=true:=by
    rw[show(⟨⟨q.key.id.rep,q.key.id.seq⟩,q.key.ord,q.key.cD⟩:bP)=q.key from rfl,←hid,decide_eq_false hk];rfl
   unfold vM;refine t_ func259 ntmps259 ?_;repeat first|refine cY ?_|refine Dr.two ?_ ?_|intro
   refine bW (λM=>uJ M g B n d r ls i hn hi he) ?_;rintro x H' ⟨rfl,rfl⟩;repeat first|refine cY ?_|refine Dr.two ?_ ?_|intro
   refine rB (l_ [0,1,2,3,4,5,6,7] (.two 8 (l_ [9,10,11] (g_ 12 (g_ 13 (n_ 14 .nil)))) 12 (g_ 8 (l_ [9,10,11] (g_ 13 (n_ 14 .nil)))))) ([own eD B n d ls]) ?_;repeat first|refine cY ?_|intro
   refine Dr.two ?_ ?_
   ·refine yB rfl sD bA sK aC (λM hE=>yJ M e.id e.made e.A e.n e.c e.l e.w e.X e.nx e.cx (Sub.aO (f:=gJ) hE aS he rfl) (Sub.aO (f:=iD) hE aS he rfl) hoe.s.sE hm) ?_;unfold Ra;rw[show next e.id e.made e.l e.w=some q from hq];dsimp only[Option.getD,Option.isSome];rintro x H' ⟨rfl,rfl⟩;repeat first|refine cY ?_|refine Dr.two ?_ ?_|intro
    exact jQ (hsame)
   ·repeat first|refine cY ?_|intro
    refine cg rfl sD bA sK aC (λM hE=>yJ M e.id e.made e.A e.n e.c e.l e.w e.X e.nx e.cx (Sub.aO (f:=gJ) hE aS he rfl) (Sub.aO (f:=iD) hE aS he rfl) hoe.s.sE hm) ?_;unfold Ra;rw[show next e.id e.made e.l e.w=some q from hq];dsimp only[Option.getD,Option.isSome];rintro x H' ⟨rfl,rfl⟩;repeat first|refine cY ?_|refine Dr.two ?_ ?_|intro
    exact jQ (hsame)
theorem Qe(k:bP)(hn:n≤100000)(h:¬OL r n k.id):aK prog E 260 #[.pointer (some ⟨g,0,none⟩),.agg k.cs.toArray] [lg g B n d r] λe H'=>e=.returned (.bool false)∧H'=[lg g B n d r]:=by
 refine t_ func260 ntmps260 ?_;repeat first|refine cY ?_|intro
 refine bK (λM=>JR M g B n d r k.id hn h) ?_;repeat first|refine cY ?_|intro
 exact B7
theorem Zt(i:Nat)(hn:n≤100000)(hi:i<n)(hok:EE r ls){e:fG}(he:ls[i]?=some e)(o:Int)(u:Bool) :
  aK prog E 260 #[.pointer (some ⟨g,0,none⟩),.agg #[.int .i64 r,.int .i64 ((i+1:Nat):Int),.int .i64 o,.bool u]] (vM g B n d r ls)
   (DZ g B n d r ls i (e.s.qJ e.id ⟨e.id,o,u⟩) (cX e.id e.l ⟨e.id,o,u⟩).isSome):=by
 have hoe:=hok i e he;have hid:=hoe.id;have hnl:e.n≤1000000:=by have h1:=hoe.s.len;have h2:=hoe.s.nK;have h3:=hoe.n;unfold fG.s at h1 h2;dsimp only at h1 h2;omega
 have haok:=dS.Ez (id:=e.id) (k:=⟨e.id,o,u⟩) hoe.s;have hkk:(⟨⟨r,((i+1:Nat):Int)⟩,o,u⟩:bP)=⟨e.id,o,u⟩:=by rw[hid]
 unfold vM;refine t_ func260 ntmps260 ?_;repeat first|refine cY ?_|refine Dr.two ?_ ?_|intro
 rename_i g3;refine bW (λM=>uJ M g B n d r ls i hn hi he) ?_;rintro x H' ⟨rfl,rfl⟩;repeat first|refine cY ?_|refine Dr.two ?_ ?_|intro
 refine rB (l_ [0,1,2,3,4] (.two 5 (l_ [6,7,8] (g_ 9 (g_ 10 (n_ 11 .nil)))) 9 (g_ 5 (l_ [6,7,8] (g_ 10 (n_ 11 .nil)))))) ([own eD B n d ls,aJ g3 75 [.int .i64 r,.int .i64 ((i+1:Nat):Int),.int .i64 o,.bool u]]) ?_;repeat first|refine cY ?_|intro
 refine Dr.two ?_ ?_
 ·refine yB rfl sD bA sK aC (λM hE=>(show aK _ _ _ #[.agg #[.int .i64 e.id.rep,.int .i64 e.id.seq,.int .i64 e.made,.slice e.A e.n e.c],.agg #[.int .i64 r,.int .i64 ((i+1:Nat):Int),.int .i64 o,.bool u]] _ _ from Xi M e.id e.made e.A e.n e.c e.l ⟨⟨r,((i+1:Nat):Int)⟩,o,u⟩ (Sub.aO (f:=gJ) hE aS he rfl) hnl)) ?_;unfold BC;rw[hkk];rintro x H' ⟨A',n',c',rfl,hn',hc',rfl⟩;repeat first|refine cY ?_|refine Dr.two ?_ ?_|intro
  apply L.conv;(· exact aB.NJ (T:=eD) (A:=B) (n:=n) (c:=d) (l:=ls) (k:=i) (e:=e) (cs:=[.int .i64 e.id.rep,.int .i64 e.id.seq,.int .i64 e.made,.slice e.A e.n e.c,.slice e.X e.nx e.cx]) he rfl dH)
  repeat first|refine cY ?_|refine Dr.two ?_ ?_|intro
  have hnew:(⟨e.id,e.made,A',n',c',(cX e.id e.l ⟨e.id,o,u⟩).getD e.l,e.X,e.nx,e.cx,e.w⟩:fG).ok r i:=⟨hid,hn',hc',hoe.nx,hoe.cx,haok⟩
  refine bQ (aB.swap (f:=gJ) (l:=ls) (i:=i) (x:=e) (x':=⟨e.id,e.made,A',n',c',(cX e.id e.l ⟨e.id,o,u⟩).getD e.l,e.X,e.nx,e.cx,e.w⟩) he aC) ?_;refine bQ (aB.uF ⟨e.id,e.made,A',n',c',(cX e.id e.l ⟨e.id,o,u⟩).getD e.l,e.X,e.nx,e.cx,e.w⟩ rfl dH) ?_;refine bQ (aB.same (f:=iD) (i:=i) he (x':=⟨e.id,e.made,A',n',c',(cX e.id e.l ⟨e.id,o,u⟩).getD e.l,e.X,e.nx,e.cx,e.w⟩) rfl dH) ?_;exact aR rfl aF aA (⟨ls.set i ⟨e.id,e.made,A',n',c',(cX e.id e.l ⟨e.id,o,u⟩).getD e.l,e.X,e.nx,e.cx,e.w⟩,rfl,hok.set hnew,by simp,by rw[map_set];rfl,rfl⟩)
 ·repeat first|refine cY ?_|intro
  refine cg rfl sD bA sK aC (λM hE=>(show aK _ _ _ #[.agg #[.int .i64 e.id.rep,.int .i64 e.id.seq,.int .i64 e.made,.slice e.A e.n e.c],.agg #[.int .i64 r,.int .i64 ((i+1:Nat):Int),.int .i64 o,.bool u]] _ _ from Xi M e.id e.made e.A e.n e.c e.l ⟨⟨r,((i+1:Nat):Int)⟩,o,u⟩ (Sub.aO (f:=gJ) hE aS he rfl) hnl)) ?_;unfold BC;rw[hkk];rintro x H' ⟨A',n',c',rfl,hn',hc',rfl⟩;repeat first|refine cY ?_|refine Dr.two ?_ ?_|intro
  apply L.conv;(· exact aB.NJ (T:=eD) (A:=B) (n:=n) (c:=d) (l:=ls) (k:=i) (e:=e) (cs:=[.int .i64 e.id.rep,.int .i64 e.id.seq,.int .i64 e.made,.slice e.A e.n e.c,.slice e.X e.nx e.cx]) he rfl dH)
  repeat first|refine cY ?_|refine Dr.two ?_ ?_|intro
  have hnew:(⟨e.id,e.made,A',n',c',(cX e.id e.l ⟨e.id,o,u⟩).getD e.l,e.X,e.nx,e.cx,e.w⟩:fG).ok r i:=⟨hid,hn',hc',hoe.nx,hoe.cx,haok⟩
  refine bQ (aB.swap (f:=gJ) (l:=ls) (i:=i) (x:=e) (x':=⟨e.id,e.made,A',n',c',(cX e.id e.l ⟨e.id,o,u⟩).getD e.l,e.X,e.nx,e.cx,e.w⟩) he aC) ?_;refine bQ (aB.uF ⟨e.id,e.made,A',n',c',(cX e.id e.l ⟨e.id,o,u⟩).getD e.l,e.X,e.nx,e.cx,e.w⟩ rfl dH) ?_;refine bQ (aB.same (f:=iD) (i:=i) he (x':=⟨e.id,e.made,A',n',c',(cX e.id e.l ⟨e.id,o,u⟩).getD e.l,e.X,e.nx,e.cx,e.w⟩) rfl dH) ?_;exact aR rfl aF aA (⟨ls.set i ⟨e.id,e.made,A',n',c',(cX e.id e.l ⟨e.id,o,u⟩).getD e.l,e.X,e.nx,e.cx,e.w⟩,rfl,hok.set hnew,by simp,by rw[map_set];rfl,rfl⟩)
end
abbrev s0:dS:=⟨0,[],[]⟩
abbrev Uw(r:Int)(i:Nat):fG:=⟨⟨r,((i+1:Nat):Int)⟩,0,none,0,0,[],none,0,0,[]⟩
theorem VV(r:Int)(i:Nat):(Uw r i).ok r i:=⟨rfl,rfl,⟨aAf _,aAh _⟩,rfl,⟨aAf _,aAh _⟩,dS.Kk⟩
def mQ(ps:List dS)(i:Nat)(w:List cQ):List dS:=if i<ps.length then ps.set i ((ps.getD i s0).put w) else ps++[s0.put w]
theorem K8{ps:List dS}{i:Nat}{s:dS}{w:List cQ}(h:ps[i]?=some s):mQ ps i w=ps.set i (s.put w):=by
 unfold mQ;rw[if_pos (aAd.1 h).1,aBb,h];rfl
theorem K7{ps:List dS}{w:List cQ}:mQ ps ps.length w=(ps++[s0]).set ps.length (s0.put w):=by
 unfold mQ;rw[if_neg o_,List.set_append_right _ _ (aAf _),aEi];rfl
def Xk(g:Nat)(r:Int)(ps:List dS):Ending→List aL→Prop:=λx H' =>
 ∃B' n' d' ls',x=.returned (.bool true)∧EE r ls'∧n'=ls'.length∧(n'≤d'∧d'≤maxLen)∧ls'.map fG.s=ps∧H'=vM g B' n' d' r ls'
section
variable (E:Env) (g:Nat) (B:Option Addr) (n d:Nat) (r:Int) (ls:List fG)
theorem Rw(s:Int)(v:Value)(hn:n≤100000)(h:s<1∨(n:Int)+1<s):aK prog E 308 #[.pointer (some ⟨g,0,none⟩),.int .i64 s,v] [lg g B n d r] λe H'=>e=.returned (.bool false)∧H'=[lg g B n d r]:=by
 have hmax:=fX;have hw:IntKind.i64.wrap ((n:Int)+1)=(n:Int)+1:=aAq _ o_;refine t_ func308 ntmps308 ?_;by_cases h1:s<1
 ·repeat first|refine cY ?_|intro
  exact B7
 ·repeat first|refine cY ?_|intro
  exact B7
theorem ZV(i:Nat)(hn:n≤100000)(hi:i≤n)(hnl:n=ls.length)(hnd:n≤d∧d≤maxLen)(hok:EE r ls)(X:Option Addr)(nx cx:Nat)(w:List cQ)(hw:Rd E eG X nx cx w)(hx:nx≤8)(hwo:∀f∈w,f.ok) :
  aK prog E 308 #[.pointer (some ⟨g,0,none⟩),.int .i64 ((i+1:Nat):Int),.slice X nx cx] (vM g B n d r ls) (Xk g r (mQ (ls.map fG.s) i w)):=by
 have hmax:=fX;have hwl:=hw.len;have hw1:IntKind.i64.wrap ((n:Int)+1)=(n:Int)+1:=aAq _ o_;have hw2:IntKind.i64.wrap (((i+1:Nat):Int) - 1)=(i:Int):=by rw[aAq _ o_];omega
 have hnm:n≤maxLen:=o_;unfold Xk vM;refine t_ func308 ntmps308 ?_;repeat ((fail_if_success (refine C.seq (x:=Code.region 3 _ _) ?_));first|refine XH ?_|refine Z1 ?_|intro _|refine Dr.two ?_ ?_)
 refine C.BI (X:=Option Addr×Nat×Nat×List fG) (λ_=>[(0,.pointer (some ⟨g,0,none⟩)),(1,.int .i64 ((i+1:Nat):Int)),(2,.slice X nx cx)]) (λx=>[lg g x.1 x.2.1 x.2.2.1 r,own eD x.1 x.2.1 x.2.2.1 x.2.2.2,aO gJ x.2.2.2,aO iD x.2.2.2])
  (λx=>EE r x.2.2.2∧x.2.1=x.2.2.2.length∧x.2.1≤200000∧i<x.2.1∧(x.2.1≤x.2.2.1∧x.2.2.1≤maxLen)∧∀e,x.2.2.2[i]?=some e→(x.2.2.2.map fG.s).set i (e.s.put w)=mQ (ls.map fG.s) i w) ?_ ?_
 ·by_cases hlt:i<n
  ·repeat first|refine cY ?_|intro
   exact⟨(B,n,d,ls),aD,aA,⟨hok,hnl,by dsimp only;omega,hlt,hnd,λe he=>(K8 (by rw[aBf,he];rfl)).symm⟩⟩
  ·obtain rfl:i=n:=o_;repeat first|refine cY ?_|intro
   refine C.bL 14 (l_ [0,1,2,3,4,5,6] (g_ 7 (l_ [8,9] (g_ 10 (g_ 11 (l_ [12,13] (g_ 14 .nil))))))) ([lg g B i d r]) q_ q_ aA ?_;repeat first|refine cY ?_|intro
   refine eJ (λM=>u6 M g B i d r _) ?_;repeat first|refine cY ?_|intro
   refine Dr.Aw rfl (by rintro k ⟨⟩<;>decide) bA (S.cB (T:=eD) (e:=(Uw r i)) rfl rfl rfl rfl sD) ?_;rintro _ _ ⟨_,rfl,rfl⟩;refine⟨aA,?_⟩;repeat first|refine cY ?_|intro
   rename_i B' d' h1 h2;have hlen:(ls.map fG.s).length=i:=by rw[aAw,←hnl]
   have hlast:(ls++[Uw r i])[i]?=some (Uw r i):=by rw[hnl];simp
   refine⟨(B',i+1,d',ls++[Uw r i]),aD,?_,⟨hok.push (by rw[←hnl];exact VV r i),by dsimp only;rw[aAe,←hnl];rfl,by dsimp only;omega,by dsimp only;omega,⟨h1,h2⟩,λe he=>?_⟩⟩
   ·dsimp only;refine aB.trans (aB.oR fH none) ?_;refine aB.trans (aB.push (f:=gJ) (l:=ls) (x:=Uw r i) aC) ?_;refine aB.trans (aB.oR eG none) ?_;refine aB.trans (aB.push (f:=iD) (l:=ls) (x:=Uw r i) aC) ?_;exact aA
   ·dsimp only at he⊢;rw[hlast] at he;injection he with he
    subst he;have:=K7 (ps:=ls.map fG.s) (w:=w);rw[hlen] at this;rw[this,aBk];rfl
 rintro⟨B1,n1,d1,l1⟩ F ⟨hok1,hn1,hb1,hi1,hd1,hput⟩;dsimp only at hok1 hn1 hb1 hi1 hd1 hput⊢;obtain⟨e,he⟩:∃e,l1[i]?=some e:=⟨_,aAa o_⟩
 have hoe:=hok1 i e he;have hel:e.n≤1000000:=by have h1:=hoe.s.len;have h2:=hoe.s.nK;have h3:=hoe.n;unfold fG.s at h1 h2;dsimp only at h1 h2;omega
 have hx2:nx≤100000:=o_;have hpo:(e.s.put w).ok:=dS.OO hoe.s hwo o_;repeat ((fail_if_success (refine C.seq (x:=Code.region 6 _ _) ?_));first|refine XH ?_|refine Z1 ?_|intro _|refine Dr.two ?_ ?_)
 apply C.conv;(· exact aB.NJ (T:=eD) (A:=B1) (n:=n1) (c:=d1) (l:=l1) (k:=i) (e:=e) (cs:=[.int .i64 e.id.rep,.int .i64 e.id.seq,.int .i64 e.made,.slice e.A e.n e.c,.slice e.X e.nx e.cx]) he rfl dH)
 repeat first|refine cY ?_|intro
 refine dX (λM h1=>Kf M X nx cx w h1 hx2) ?_;rintro x H' ⟨X',cx',rfl,hcx',rfl⟩;repeat first|refine cY ?_|intro
 refine cl sD sK aC (λM hE=>KH M e.id e.made e.A e.n e.c e.l w X nx cx (Sub.aO (f:=gJ) hE aS he rfl) (hw.sub hE) hel) ?_;rintro x H' ⟨A',c',rfl,hc',rfl⟩;repeat first|refine cY ?_|intro
 have hnew:(⟨e.id,e.made,A',e.n,c',settle w e.l,X',nx,cx',w⟩:fG).ok r i:=⟨hoe.id,by show e.n=(settle w e.l).length;rw[dJ];exact hoe.n,hc',hwl,hcx',hpo⟩
 refine bQ (aB.swap (f:=gJ) (l:=l1) (i:=i) (x:=e) (x':=⟨e.id,e.made,A',e.n,c',settle w e.l,X',nx,cx',w⟩) he aC) ?_;refine bQ (aB.swap (f:=iD) (l:=l1) (i:=i) (x:=e) (x':=⟨e.id,e.made,A',e.n,c',settle w e.l,X',nx,cx',w⟩) he aC) ?_;refine bQ (aB.uF ⟨e.id,e.made,A',e.n,c',settle w e.l,X',nx,cx',w⟩ rfl dH) ?_;exact aR rfl aF aA (⟨B1,n1,d1,l1.set i ⟨e.id,e.made,A',e.n,c',settle w e.l,X',nx,cx',w⟩,rfl,hok1.set hnew,by rw[aAt];exact hn1,hd1,by rw[map_set];exact hput e he,rfl⟩)
end
def jP{α:Type}(f:Nat→dS→List α)(ps:List dS):Nat→List α
 |0=>[]
 |k+1=>jP f ps k++(match ps[k]? with|some s=>f k s|none=>[])
theorem I1{α:Type}{f:Nat→dS→List α}{ps:List dS}{k:Nat}{s:dS}(h:ps[k]?=some s):jP f ps (k+1)=jP f ps k++f k s:=by
 show jP f ps k++_=_;rw[h]
def RT(r:Int)(i:Nat):bJ:=⟨r,((i+1:Nat):Int)⟩
def fL(r:Int)(cf:fU)(now:Int)(i:Nat)(s:dS):List dK:=if Ej (RT r i) s.made s.l s.w cf now then[(s.Yr (RT r i)).getD wN] else[]
theorem Tp{ls:List fG}{i:Nat}{e:fG}(h:ls[i]?=some e):(ls.map fG.s)[i]?=some e.s:=by rw[aBf,h];rfl
theorem K4{α:Type}{f:Nat→dS→List α}(hf:∀i s,(f i s).length≤1)(ps:List dS)(k:Nat):(jP f ps k).length≤k:=by
 induction k with
 |zero=>exact aAf _
 |succ k ih =>
  show(jP f ps k++_).length≤_;rw[aAe];cases ps[k]? with
  |none=>simp;omega
  |some s=>have:=hf k s;dsimp only;omega
abbrev mV(v:Qc):aL:=own fH v.A v.n v.c v.l
section
variable (E:Env) (g:Nat) (B:Option Addr) (n d:Nat) (r:Int) (ls:List fG)
theorem JD:aK prog E 161 #[.pointer (some ⟨g,0,none⟩)] [lg g B n d r] λe H'=>e=.returned (.slice B n d)∧H'=[lg g B n d r]:=by
 refine t_ func161 ntmps161 ?_;repeat first|refine cY ?_|intro
 exact B7
theorem U0(cf:fU)(now:Int)(hn:n≤1000)(hnl:n=ls.length)(hok:EE r ls) :
  aK prog E 241 #[.pointer (some ⟨g,0,none⟩),.agg cf.cs.toArray,.int .i64 now] (vM g B n d r ls) λx H'=>∃O m oc,x=.returned (.slice O m oc)∧m=(jP (fL r cf now) (ls.map fG.s) n).length∧H'=[own cP O m oc (jP (fL r cf now) (ls.map fG.s) n),lg g B n d r,own eD B n d ls,aO gJ ls,aO iD ls]:=by
 have hmax:=fX;unfold vM;refine t_ func241 ntmps241 ?_;repeat first|refine cY ?_|intro
 rename_i g4;refine bW (λM=>JD M g B n d r) ?_;rintro x H' ⟨rfl,rfl⟩;repeat first|refine cY ?_|intro
 refine C.loop (X:=Nat×Option Addr×Nat×Nat) (λx=>[(2,.int .i64 now),(4,.pointer (some ⟨g4,0,none⟩)),(7,.slice x.2.1 x.2.2.1 x.2.2.2),(13,.slice B n d),(14,.int .i64 n),(15,.int .i64 x.1)])
  (λx=>[own cP x.2.1 x.2.2.1 x.2.2.2 (jP (fL r cf now) (ls.map fG.s) x.1),aJ g4 23 cf.cs,lg g B n d r,own eD B n d ls,aO gJ ls,aO iD ls]) (λx=>x.1≤n∧x.2.2.1≤x.1∧x.2.2.1=(jP (fL r cf now) (ls.map fG.s) x.1).length) (λx=>n - x.1) (0,none,0,0) aD (by show aB _ _ [own cP none 0 0 [],aJ g4 23 cf.cs,lg g B n d r,own eD B n d ls,aO gJ ls,aO iD ls];exact(aB.oR cP none).trans aA) ⟨aAh _,aAf _,rfl⟩ ?_
 rintro⟨i,O,m,oc⟩ F ⟨hi,hm,hml⟩;dsimp only at hi hm hml⊢;by_cases hlt:i<n
 ·obtain⟨e,he⟩:∃e,ls[i]?=some e:=⟨_,aAa o_⟩
  have hoe:=hok i e he;have hid:RT r i=e.id:=hoe.id.symm;have hm2:dQ e.made:=by have:=hoe.s.tS;have:=hoe.s.nK;unfold dQ;unfold fG.s at *;dsimp only at *;omega
  have hac:=I1 (f:=fL r cf now) (Tp he);repeat first|refine cY ?_|intro
  refine cl sD sK aC (λM hE=>V6 M e.id e.made e.A e.n e.c e.l e.w e.X e.nx e.cx cf now (Sub.aO (f:=gJ) hE aS he rfl) (Sub.aO (f:=iD) hE aS he rfl) hoe.s.sE hm2) ?_;cases hrd:Ej e.id e.made e.l e.w cf now
  ·have hf:fL r cf now i e.s=[]:=by unfold fL fG.s;rw[hid];dsimp only;rw[hrd];rfl
   rw[hf,aAc] at hac;rintro x H' ⟨rfl,rfl⟩;repeat first|refine cY ?_|intro
   refine⟨(i+1,O,m,oc),aD,?_,⟨by dsimp only;omega,by dsimp only;omega,by dsimp only;rw[hac];exact hml⟩,by dsimp only;omega⟩;dsimp only;rw[hac];exact aA
  ·have hf:fL r cf now i e.s=[(next e.id e.made e.l e.w).getD wN]:=by unfold fL fG.s dS.Yr;rw[hid];dsimp only;rw[hrd];rfl
   rw[hf] at hac;rintro x H' ⟨rfl,rfl⟩;repeat first|refine cY ?_|intro
   refine cl sD sK aC (λM hE=>yJ M e.id e.made e.A e.n e.c e.l e.w e.X e.nx e.cx (Sub.aO (f:=gJ) hE aS he rfl) (Sub.aO (f:=iD) hE aS he rfl) hoe.s.sE hm2) ?_;unfold Ra;generalize (next e.id e.made e.l e.w).getD wN=q at hac;rintro x H' ⟨rfl,rfl⟩;repeat first|refine cY ?_|intro
   rename_i O2 c2 k1 k2;refine⟨(i+1,O2,m+1,c2),aD,?_,⟨by dsimp only;omega,by dsimp only;omega,by dsimp only;rw[hac,aAe,←hml];rfl⟩,by dsimp only;omega⟩;dsimp only;rw[hac];exact aA
 obtain rfl:i=n:=o_;repeat first|refine cY ?_|intro
 exact jQ ⟨O,m,oc,rfl,hml,rfl⟩
theorem S9(hn:n≤1000)(hnl:n=ls.length)(hok:EE r ls) :
  aK prog E 100 #[.pointer (some ⟨g,0,none⟩)] (vM g B n d r ls) λx H'=>∃O oc chl,x=.returned (.slice O n oc)∧chl.length=n∧(∀(i:Nat) (e:fG),ls[i]?=some e→∃v:Qc,chl[i]?=some v∧v.id=e.id∧v.made=e.made∧v.l=e.l∧v.n=e.n∧v.n≤v.c∧v.c≤maxLen)∧H'=[own pZ O n oc chl,aO mV chl,lg g B n d r,own eD B n d ls,aO gJ ls,aO iD ls]:=by
 have hmax:=fX;unfold vM;refine t_ func100 ntmps100 ?_;repeat first|refine cY ?_|intro
 refine bW (λM=>JD M g B n d r) ?_;rintro x H' ⟨rfl,rfl⟩;repeat first|refine cY ?_|intro
 refine C.loop (X:=Nat×Option Addr×Nat×List Qc) (λx=>[(3,.slice x.2.1 x.1 x.2.2.1),(7,.slice B n d),(8,.int .i64 n),(9,.int .i64 x.1)])
  (λx=>[own pZ x.2.1 x.1 x.2.2.1 x.2.2.2,aO mV x.2.2.2,lg g B n d r,own eD B n d ls,aO gJ ls,aO iD ls]) (λx=>x.1≤n∧x.2.2.2.length=x.1∧∀(i:Nat) (e:fG),i<x.1→ls[i]?=some e→∃v:Qc,x.2.2.2[i]?=some v∧v.id=e.id∧v.made=e.made∧v.l=e.l∧v.n=e.n∧v.n≤v.c∧v.c≤maxLen) (λx=>n - x.1) (0,none,0,[]) aD ((aB.oR pZ none).trans ((aB.kP mV).trans aA)) ⟨aAh _,rfl,λi e h=>absurd h (aFk _)⟩ ?_
 rintro⟨i,O,oc,chl⟩ F ⟨hi,hcl,hall⟩;dsimp only at hi hcl hall⊢;by_cases hlt:i<n
 ·obtain⟨e,he⟩:∃e,ls[i]?=some e:=⟨_,aAa o_⟩
  have hoe:=hok i e he;have hel:e.n≤1000000:=by have h1:=hoe.s.len;have h2:=hoe.s.nK;have h3:=hoe.n;unfold fG.s at h1 h2;dsimp only at h1 h2;omega
  repeat first|refine cY ?_|intro
  refine cl sD sK aC (λM hE=>Cq M e.id e.made e.A e.n e.c e.l (Sub.aO (f:=gJ) hE aS he rfl) hel) ?_;rintro x H' ⟨A',c',rfl,hc',rfl⟩;repeat first|refine cY ?_|intro
  refine L.fQ sD (S.cB (T:=pZ) (e:=⟨e.id,e.made,A',e.n,c',e.l⟩) rfl rfl rfl rfl sD) ?_;rintro _ _ ⟨_,rfl,rfl⟩;repeat first|refine cY ?_|intro
  rename_i O2 c2 k1 k2;refine⟨(i+1,O2,c2,chl++[⟨e.id,e.made,A',e.n,c',e.l⟩]),aD,aB.trans (aB.push (f:=mV) (l:=chl) (x:=⟨e.id,e.made,A',e.n,c',e.l⟩) aC) aA,⟨by dsimp only;omega,by dsimp only;rw[aAe,hcl];rfl,λj y hj hy=>?_⟩,by dsimp only;omega⟩;dsimp only at hj⊢;by_cases hji:j=i
  ·subst hji;rw[he] at hy;injection hy with hy
   subst hy;exact⟨⟨e.id,e.made,A',e.n,c',e.l⟩,by rw[←hcl];simp,rfl,rfl,rfl,rfl,hc'⟩
  ·obtain⟨v,hv,h⟩:=hall j y o_ hy;exact⟨v,by rw[aBp (by rw[hcl];omega)];exact hv,h⟩
 obtain rfl:i=n:=o_;repeat first|refine cY ?_|intro
 exact aR rfl aF aA (⟨O,oc,chl,rfl,hcl,λj y hy=>hall j y (by have:=(aAd.1 hy).1;omega) hy,rfl⟩)
end
def TY(E:Env)(ls:List fG):Prop:=∀e∈ls,Rd E fH e.A e.n e.c e.l∧Rd E eG e.X e.nx e.cx e.w
theorem TY.sub{E M:Env}{R:List aL}{ls:List fG}(hE:Sub E R M)(h:TY E ls):TY M ls:=λe he=>⟨(h e he).1.sub hE,(h e he).2.sub hE⟩
theorem TY.of{E M:Env}{R R1 R2:List aL}{ls:List fG}(hE:Sub E R M)(h1:Has (aO gJ ls) R R1)(h2:Has (aO iD ls) R R2):TY M ls:=λe he=>by
 obtain⟨i,hi,rfl⟩:=aBm he;exact⟨Sub.aO (f:=gJ) hE h1 (aAa hi) rfl,Sub.aO (f:=iD) hE h2 (aAa hi) rfl⟩
def qG(ps:List dS):Bool:=ps.all λs=>quiet s.l s.w
section
variable (E:Env) (g:Nat) (B:Option Addr) (n d:Nat) (r:Int) (ls:List fG)
theorem p6(x:fG)(hr:Rd E fH x.A x.n x.c x.l)(hw:Rd E eG x.X x.nx x.cx x.w):aK prog E 205 #[.agg x.cs.toArray] [] λe H'=>e=.returned (.bool (!quiet x.l x.w))∧H'=[]:=by
 refine t_ func205 ntmps205 ?_;repeat first|refine cY ?_|intro
 refine DY (λM=>VW M x.id x.made x.A x.n x.c x.l x.w x.X x.nx x.cx) ?_;repeat first|refine cY ?_|intro
 exact B7
theorem Xp(hr:Rd E eD B n d ls)(hst:TY E ls):aK prog E 265 #[.slice B n d,.func (.func 205) #[] #[]] [] λx H'=>(∃i:Int,x=.returned (.int .i64 i)∧decide (0≤i) = !qG (ls.map fG.s))∧H'=[]:=by
 have hn:=hr.len;have hcap:=hr.cap;refine t_ func265 ntmps265 ?_;repeat first|refine cY ?_|intro
 refine C.loop (X:=Nat) (λi=>[(0,.slice B n d),(1,.func (.func 205) #[] #[]),(7,.int .i64 n),(8,.int .i64 i)]) (λ_=>[]) (λi=>i≤n∧∀(j:Nat) (y:fG),j<i→ls[j]?=some y→quiet y.l y.w=true) (λi=>n - i) 0 aD aB.refl ⟨aAh _,λj y hj=>by omega⟩ ?_;rintro i G ⟨hi,hall⟩;by_cases hlt:i<n
 ·have hx:ls[i]?=some ls[i]:=aAa o_;have hmem:ls[i]∈ls:=aCs o_;generalize ls[i]=x at hx hmem;have hmax:=fX;repeat first|refine cY ?_|intro
  refine L.step sD (S.wB (cs:=[]) rfl rfl rfl rfl func205 q_ rfl aC (λM hE=>p6 M x ((hst x hmem).1.sub hE) ((hst x hmem).2.sub hE)) ?_);rintro e H' ⟨rfl,rfl⟩;refine gk bG ?_;cases hp:quiet x.l x.w
  ·have hq:qG (ls.map fG.s)=false:=by
    unfold qG;rw[List.all_eq_false];exact⟨x.s,aFi hmem,by show ¬quiet x.l x.w=true;rw[hp];exact aAl⟩
   repeat first|refine cY ?_|intro
   exact aR rfl aF aA (⟨⟨i,rfl,by rw[hq];exact decide_eq_true (aFo i)⟩,rfl⟩)
  ·repeat first|refine cY ?_|intro
   refine⟨i+1,aD,aB.refl,⟨by omega,λj y hj hy=>?_⟩,by omega⟩;by_cases hji:j=i
   ·subst hji;rw[hx] at hy;injection hy with hy;subst hy;exact hp
   ·exact hall j y o_ hy
 ·obtain rfl:i=n:=o_;have hq:qG (ls.map fG.s)=true:=by
   unfold qG;rw[aDm];intro s hs;obtain⟨y,hy,rfl⟩:=aFn.1 hs;obtain⟨j,hj,rfl⟩:=aBm hy;exact hall j _ o_ (aAa hj)
  repeat first|refine cY ?_|intro
  exact aR rfl aF aA (⟨⟨-1,rfl,by rw[hq];rfl⟩,rfl⟩)
theorem Vj:aK prog E 144 #[.pointer (some ⟨g,0,none⟩)] (vM g B n d r ls) λx H'=>x=.returned (.bool (qG (ls.map fG.s)))∧H'=vM g B n d r ls:=by
 unfold vM;refine t_ func144 ntmps144 ?_;repeat first|refine cY ?_|intro
 refine bW (λM=>JD M g B n d r) ?_;rintro x H' ⟨rfl,rfl⟩;repeat first|refine cY ?_|intro
 have hcont:∀M,Rd M eD B n d ls→TY M ls→aK prog M 204 #[.slice B n d,.func (.func 205) #[] #[]] [] λx H'=>x=.returned (.bool (!qG (ls.map fG.s)))∧H'=[]:=by
  intro E2 h1 h2;refine t_ func204 ntmps204 ?_;repeat first|refine cY ?_|intro
  refine cl sD sK aC (λM hE=>Xp M B n d ls (h1.sub hE) (h2.sub hE)) ?_;rintro x H' ⟨⟨i,rfl,hi⟩,rfl⟩;repeat first|refine cY ?_|intro
  apply aR;(· exact rfl);(· exact aF);rotate_left;(· exact(⟨by rw[←hi],rfl⟩));(· exact aA)
 refine cl sD sK aC (λM hE=>hcont M dB (TY.of hE aS aS)) ?_;rintro x H' ⟨rfl,rfl⟩;repeat first|refine cY ?_|intro
 apply aR;(· exact rfl);(· exact aF);rotate_left;(· exact(⟨by rw[Bool.not_not],rfl⟩));(· exact aA)
theorem VQ(hn:n≤1000)(hnl:n=ls.length)(hok:EE r ls):aK prog E 202 #[.pointer (some ⟨g,0,none⟩)] (vM g B n d r ls) λx H'=>∃g2 B2 d2 l2,x=.returned (.pointer (some ⟨g2,0,none⟩))∧EE r l2∧l2.map fG.s=ls.map fG.s∧(n≤d2∧d2≤maxLen)∧H'=[lg g2 B2 n d2 r,own eD B2 n d2 l2,aO gJ l2,aO iD l2,lg g B n d r,own eD B n d ls,aO gJ ls,aO iD ls]:=by
 have hmax:=fX;unfold vM;refine t_ func202 ntmps202 ?_;repeat first|refine cY ?_|intro
 refine bW (λM=>Xl M r) ?_;rintro x H' ⟨g2,rfl,rfl⟩;repeat first|refine cY ?_|intro
 refine C.loop (X:=Nat×Option Addr×Nat×List fG) (λx=>[(3,.pointer (some ⟨g2,0,none⟩)),(23,.slice B n d),(24,.int .i64 n),(25,.int .i64 x.1)])
  (λx=>[lg g2 x.2.1 x.1 x.2.2.1 r,own eD x.2.1 x.1 x.2.2.1 x.2.2.2,aO gJ x.2.2.2,aO iD x.2.2.2,lg g B n d r,own eD B n d ls,aO gJ ls,aO iD ls])
  (λx=>x.1≤n∧x.2.2.2.length=x.1∧EE r x.2.2.2∧x.2.2.2.map fG.s=(ls.map fG.s).take x.1∧(x.1≤x.2.2.1∧x.2.2.1≤maxLen)) (λx=>n - x.1) (0,none,0,[]) aD ((aB.oR eD none).trans ((aB.kP gJ).trans ((aB.kP iD).trans aA))) ⟨aAh _,rfl,λi e h=>(by cases h),rfl,⟨aAf _,aAh _⟩⟩ ?_
 rintro⟨i,B2,d2,l2⟩ F ⟨hi,hl2,hok2,hp2,hd1,hd2⟩;dsimp only at hi hl2 hok2 hp2 hd1 hd2⊢;by_cases hlt:i<n
 ·obtain⟨e,he⟩:∃e,ls[i]?=some e:=⟨_,aAa o_⟩
  have hoe:=hok i e he;have hel:e.n≤1000000:=by have h1:=hoe.s.len;have h2:=hoe.s.nK;have h3:=hoe.n;unfold fG.s at h1 h2;dsimp only at h1 h2;omega
  have hex:e.nx≤100000:=by have h1:=hoe.s.wide;have h3:=hoe.nx;unfold fG.s at h1;dsimp only at h1;omega
  have htk:(ls.map fG.s).take (i+1)=(ls.map fG.s).take i++[e.s]:=by
   have h:=Tp he;obtain⟨h1,h2⟩:=aAd.1 h;rw[aAn h1,h2]
  repeat first|refine cY ?_|intro
  rename_i g5;refine C.bL 16 (l_ [0,1,2,3,4,5,6,8,9] (g_ 7 (g_ 10 (n_ 11 (g_ 12 (g_ 13 (l_ [14,15] (g_ 16 .nil)))))))) ([lg g2 B2 i d2 r,aJ g5 242 e.cs]) q_ q_ aA ?_;repeat first|refine cY ?_|intro
  refine cg rfl sD bA sK aC (λM hE=>Cq M e.id e.made e.A e.n e.c e.l (Sub.aO (f:=gJ) hE (Has.aM (Has.aM (Has.aM (Has.aM (Has.aM (Has.aM (Has.aM Has.aN))))))) he rfl) hel) ?_;rintro x H' ⟨A',c',rfl,hc',rfl⟩;repeat first|refine cY ?_|intro
  refine cg rfl sD bA sK aC (λM hE=>Kf M e.X e.nx e.cx e.w (Sub.aO (f:=iD) hE (Has.aM (Has.aM (Has.aM (Has.aM (Has.aM (Has.aM (Has.aM (Has.aM (Has.aM Has.aN))))))))) he rfl) hex) ?_;rintro x H' ⟨X',cx',rfl,hcx',rfl⟩;repeat first|refine cY ?_|intro
  refine Dr.Aw rfl (by rintro k ⟨⟩<;>decide) bA (S.cB (T:=eD) (e:=⟨e.id,e.made,A',e.n,c',e.l,X',e.nx,cx',e.w⟩) rfl rfl rfl rfl sD) ?_;rintro _ _ ⟨_,rfl,rfl⟩;refine⟨aA,?_⟩;repeat first|refine cY ?_|intro
  rename_i B3 d3 h1 h2;have hnew:(⟨e.id,e.made,A',e.n,c',e.l,X',e.nx,cx',e.w⟩:fG).ok r i:=⟨hoe.id,hoe.n,hc',hoe.nx,hcx',hoe.s⟩
  refine⟨(i+1,B3,d3,l2++[⟨e.id,e.made,A',e.n,c',e.l,X',e.nx,cx',e.w⟩]),aD,?_,⟨by dsimp only;omega,by dsimp only;rw[aAe,hl2];rfl,hok2.push (by rw[hl2];exact hnew),by dsimp only;rw[aBk,hp2,htk];rfl,⟨h1,h2⟩⟩,by dsimp only;omega⟩;dsimp only;refine aB.trans (aB.push (f:=gJ) (l:=l2) (x:=⟨e.id,e.made,A',e.n,c',e.l,X',e.nx,cx',e.w⟩) aC) ?_;refine aB.trans (aB.push (f:=iD) (l:=l2) (x:=⟨e.id,e.made,A',e.n,c',e.l,X',e.nx,cx',e.w⟩) aC) ?_;exact aA
 obtain rfl:i=n:=o_;repeat first|refine cY ?_|intro
 exact aR rfl aF aA (⟨g2,B2,d2,l2,rfl,hok2,by rw[hp2,aAj (by rw[aAw];omega)],⟨hd1,hd2⟩,rfl⟩)
end
end Go.Proofs.YtmilalkjbojciaaGreat.Sep
