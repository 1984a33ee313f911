/- Part BG: what it needs. No condition. -/
import Derived.Test.YtmilalkjbojciaaGreatOAA
import Derived.Test.YtmilalkjbojciaaGreatOAT
import Derived.Test.YtmilalkjbojciaaGreatOAS
import Derived.Test.YtmilalkjbojciaaGreatOBB
set_option maxRecDepth 100000
set_option maxHeartbeats 8000000
open Go.Proofs.Tryz
namespace Go.Proofs.YtmilalkjbojciaaGreat.Sep
open Go.RowKit Reg
open Mem hiding Rd
theorem Lr{X Y:Type}{f:X→Y}{l:List X}{k:Nat}:(l.eraseIdx k).map f=(l.map f).eraseIdx k:=by
 rw[aDp,aDp,aBk,List.map_take,List.map_drop]
structure Wh where
 A:Option Addr
 c:Nat
 ls:List gN
structure Wf(x:Wh)(ws:List fD):Prop where
 p:x.ls.map gN.p=ws
 ok:Qa x.ls
 len:ws.length≤128
 cap:ws.length≤x.c∧x.c≤maxLen
abbrev Ku(g:Nat)(x:Wh):List aL:=[wr g x.A x.ls.length x.c,own iC x.A x.ls.length x.c x.ls,aO DD x.ls]
def aZ(g:Nat)(ws:List fD):aL:=pack λ(x:Wh)=>iE (Wf x ws)::Ku g x
theorem aZ.mk{E:Env}{R:List aL}{g:Nat}{ws:List fD}{x:Wh}(f:Wf x ws):aB E (Ku g x++R) (aZ g ws::R):=λw hw=>by
 have h1:St E (iE (Wf x ws)::Ku g x++R) w:=aB.lH f w hw;exact h1.conv λF hs=>by
  obtain⟨F1,F2,k1,k2,k3,k4⟩:=aY.1 hs;exact⟨F,⟨F1,F2,k1,k2,⟨x,k3⟩,k4⟩,λ_ h=>h⟩
theorem aZ.out{E:Env}{R:List aL}{g:Nat}{ws:List fD}{w:World}(hw:St E (aZ g ws::R) w):∃x:Wh,Wf x ws∧St E (Ku g x++R) w:=by
 obtain⟨x,hs⟩:=hw.unpack (l:=λ(x:Wh)=>iE (Wf x ws)::Ku g x) Has.aN;have hp:=St.lH (H:=_) (R:=_) hs Has.aN;refine⟨x,hp,hs.conv λF hst=>?_⟩;obtain⟨F1,F2,k1,k2,k3,k4⟩:=hst;exact⟨F2,k4,λb hb=>(k1 b).2 (.inr hb)⟩
theorem kN{E:Env}{f:FuncId}{args:Array Value}{g:Nat}{ws:List fD}{Q:Ending→List aL→Prop}(h:∀x:Wh,Wf x ws→aK prog E f args (Ku g x) Q):aK prog E f args [aZ g ws] Q:=by
 intro hds w hw;obtain⟨x,hf,hs⟩:=aZ.out hw;exact h x hf hds w (by simpa using hs)
theorem Wf.n{x:Wh}{ws:List fD}(f:Wf x ws):x.ls.length=ws.length:=by rw[←f.p,aAw]
theorem Wf.at_{x:Wh}{ws:List fD}(f:Wf x ws){i:Nat}{p:fD}(h:ws[i]?=some p):∃e,x.ls[i]?=some e∧e.p=p∧e.n=e.b.length∧e.n≤140737488355300:=by
 rw[←f.p,aBf] at h;cases he:x.ls[i]? with
 |none=>rw[he] at h;cases h
 |some e =>
  rw[he] at h;injection h with h
  exact⟨e,rfl,h,f.ok e (aAi he)⟩
theorem Qa.sub{l m:List gN}(h:Qa l)(hs:∀e∈m,e∈l):Qa m:=λe he=>h e (hs e he)
def xB(ws:List fD)(i:Int):Option fD:=if i<0 then none else ws[i.toNat]?
theorem CX{ws:List fD}{i:Int}(h:xB ws i=none):i<0∨(ws.length:Int)≤i:=by
 unfold xB at h;split at h
 ·exact .inl ‹_›
 ·have:=aBx.1 h;omega
theorem uP{ws:List fD}{i:Int}{p:fD}(h:xB ws i=some p):∃k:Nat,i=k∧ws[k]?=some p:=by
 unfold xB at h;split at h
 ·cases h
 ·exact⟨i.toNat,by omega,h⟩
def zX(ws:List fD)(p:fD):List fD×Bool:=if 128≤ws.length then(ws,false) else(ws++[p],true)
def cR(ws:List fD)(i:Int):List fD:=if i<0 then ws else ws.eraseIdx i.toNat
def Co(ws:List fD)(i:Int):List fD×Bool:=match xB ws i with
 |some p=>zX ws p
 |none=>(ws,false)
def CU(ws:List fD)(i k:Int):List fD×Bool:=match xB ws i with
 |some p=>if p.broken=true∨k<0∨(p.b.length:Int)≤k / 8 then(ws,false) else(ws.set i.toNat ⟨p.to,tJ p.b k.toNat,true⟩,true)
 |none=>(ws,false)
section
variable (E:Env) (g:Nat) (ws:List fD)
theorem Ko:G E 35 [pt g] [aZ g ws] (cM (.int .i64 ws.length) [aZ g ws]):=by
 refine kN λx hf=>?_;have hl:=hf.n;refine aK.post (aK.dU (Hp:=[wr g x.A x.ls.length x.c]) λE' _=>Z4 E' g x.A x.ls.length x.c (by rw[hl];exact hf.len)) ?_;rintro e H' ⟨H1,⟨rfl,rfl⟩,rfl⟩;have h2:=aZ.mk (E:=E) (R:=[]) (g:=g) hf;rw[aAc] at h2;exact⟨_,h2,by rw[hl],rfl⟩
theorem JU(i:Int):G E 119 [pt g,.int .i64 i] [aZ g ws] (cM (.int .i64 (((xB ws i).map fD.to).getD (-1))) [aZ g ws]):=by
 refine kN λx hf=>?_;have hl:=hf.n;have h2:=aZ.mk (E:=E) (R:=[]) (g:=g) hf;rw[aAc] at h2;cases hi:xB ws i with
 |none =>
  refine aK.post (aK.dU (Hp:=[wr g x.A x.ls.length x.c]) λE' _=>VN E' g x.A x.ls.length x.c i (by rw[hl];exact hf.len) (by rw[hl];exact CX hi)) ?_;rintro e H' ⟨H1,⟨rfl,rfl⟩,rfl⟩;exact⟨_,h2,rfl,rfl⟩
 |some p =>
  obtain⟨k,rfl,hk⟩:=uP hi;obtain⟨e,he,rfl,_,_⟩:=hf.at_ hk;refine aK.post (aK.dU (Hp:=[wr g x.A x.ls.length x.c,own iC x.A x.ls.length x.c x.ls]) λE' _=>Ri E' g x.A x.ls.length x.c x.ls k (by rw[hl];exact hf.len) (aAd.1 he).1 he rfl) ?_;rintro e H' ⟨H1,⟨rfl,rfl⟩,rfl⟩;exact⟨_,h2,rfl,rfl⟩
theorem O0(i:Int):G E 125 [pt g,.int .i64 i] [aZ g ws] (cM (.bool (((xB ws i).map fD.broken).getD false)) [aZ g ws]):=by
 refine kN λx hf=>?_;have hl:=hf.n;have h2:=aZ.mk (E:=E) (R:=[]) (g:=g) hf;rw[aAc] at h2;cases hi:xB ws i with
 |none =>
  refine aK.post (aK.dU (Hp:=[wr g x.A x.ls.length x.c]) λE' _=>H7 E' g x.A x.ls.length x.c i (by rw[hl];exact hf.len) (by rw[hl];exact CX hi)) ?_;rintro e H' ⟨H1,⟨rfl,rfl⟩,rfl⟩;exact⟨_,h2,rfl,rfl⟩
 |some p =>
  obtain⟨k,rfl,hk⟩:=uP hi;obtain⟨e,he,rfl,_,_⟩:=hf.at_ hk;refine aK.post (aK.dU (Hp:=[wr g x.A x.ls.length x.c,own iC x.A x.ls.length x.c x.ls]) λE' _=>GM E' g x.A x.ls.length x.c x.ls k (by rw[hl];exact hf.len) (aAd.1 he).1 he rfl) ?_;rintro e H' ⟨H1,⟨rfl,rfl⟩,rfl⟩;exact⟨_,h2,rfl,rfl⟩
theorem TO(to:Int)(X:Option Addr)(nx cx:Nat)(b:List UInt8)(hr:Rd E aU X nx cx b)(hnx:nx≤140737488355300):G E 30 [pt g,.int .i64 to,.slice X nx cx] [aZ g ws] (cM (.bool (zX ws ⟨to,b,false⟩).2) [aZ g (zX ws ⟨to,b,false⟩).1]):=by
 refine kN λx hf=>?_;have hl:=hf.n;have hln:=hf.len;have hcap:=hf.cap;unfold zX;by_cases h:128≤ws.length
 ·rw[if_pos h];have h2:=aZ.mk (E:=E) (R:=[]) (g:=g) hf;rw[aAc] at h2;refine aK.post (aK.dU (Hp:=[wr g x.A x.ls.length x.c]) λE' _=>Mb E' g x.A x.ls.length x.c to X nx cx o_ (by unfold maxLen;omega)) ?_;rintro e H' ⟨H1,⟨rfl,rfl⟩,rfl⟩;exact⟨_,h2,rfl,rfl⟩
 ·rw[if_neg h];refine aK.post (S6 E g x.A x.ls.length x.c x.ls to X nx cx b o_ rfl hr hnx) ?_;rintro e H' ⟨A',c',O,co,rfl,h1,rfl⟩;have h2:=aZ.mk (E:=E) (R:=[]) (g:=g) (x:=⟨A',c',x.ls++[⟨to,O,nx,co,b,false⟩]⟩) (ws:=ws++[⟨to,b,false⟩]) ⟨by rw[aBk,hf.p];rfl,hf.ok.add hr.len hnx,by rw[aAe];simp;omega,by rw[aAe];simp;omega⟩;rw[aAc] at h2;dsimp only[Ku] at h2;rw[aAe] at h2;exact⟨_,h2,rfl,rfl⟩
theorem vV(i:Int):G E 120 [pt g,.int .i64 i] [aZ g ws] λr H'=>match xB ws i with
  |none=>r=.returned (.tuple #[.slice none 0 0,.bool false])∧H'=[aZ g ws]
  |some p=>∃A n c,n≤140737488355300∧r=.returned (.tuple #[.slice A n c,.bool true])∧H'=[own aU A n c p.b,aZ g (cR ws i)]:=by
 refine kN λx hf=>?_;have hl:=hf.n;have hcap:=hf.cap;cases hi:xB ws i with
 |none =>
  have h2:=aZ.mk (E:=E) (R:=[]) (g:=g) hf;rw[aAc] at h2;refine aK.post (aK.dU (Hp:=[wr g x.A x.ls.length x.c]) λE' _=>Pc E' g x.A x.ls.length x.c i (by rw[hl];exact hf.len) (by rw[hl];exact CX hi)) ?_;rintro e H' ⟨H1,⟨rfl,rfl⟩,rfl⟩;exact⟨_,h2,rfl,rfl⟩
 |some p =>
  obtain⟨k,rfl,hk⟩:=uP hi;obtain⟨e,he,rfl,he1,he2⟩:=hf.at_ hk;have hlt:=(aAd.1 he).1;refine aK.post (XI E g x.A x.ls.length x.c x.ls k (by rw[hl];exact hf.len) rfl o_ hcap.2 he) ?_;rintro r H' ⟨rfl,rfl⟩;have h2:=aZ.mk (E:=E) (R:=[own aU e.A e.n e.c e.b]) (g:=g) (x:=⟨x.A,x.c,x.ls.eraseIdx k⟩) (ws:=cR ws k) ⟨by unfold cR;rw[if_neg o_,aAu,←hf.p,Lr],hf.ok.sub λe he=>List.mem_of_mem_eraseIdx he,by unfold cR;rw[if_neg o_,aAu,List.length_eraseIdx];have:=hf.len;split<;>omega,by unfold cR;rw[if_neg o_,aAu,List.length_eraseIdx];dsimp only;refine⟨?_,hcap.2⟩;split<;>omega⟩;dsimp only[Ku] at h2;rw[List.length_eraseIdx_of_lt hlt] at h2;exact⟨_,aB.trans (aB.aV (.cons (.aM .aN) (.cons (.aM .aN) (.cons (.aM .aN) (.cons .aN .nil))))) (aB.trans h2 (aB.aV (.cons (.aM .aN) (.cons .aN .nil)))),_,_,_,he2,rfl,rfl⟩
theorem Ui(i:Int):G E 124 [pt g,.int .i64 i] [aZ g ws] (cM (.bool (Co ws i).2) [aZ g (Co ws i).1]):=by
 refine kN λx hf=>?_;have hl:=hf.n;have hln:=hf.len;have hcap:=hf.cap;have h2:=aZ.mk (E:=E) (R:=[]) (g:=g) hf;rw[aAc] at h2;unfold Co;cases hi:xB ws i with
 |none =>
  refine aK.post (aK.dU (Hp:=[wr g x.A x.ls.length x.c]) λE' _=>Pw E' g x.A x.ls.length x.c i (by rw[hl];exact hf.len) (by rw[hl];exact CX hi)) ?_;rintro e H' ⟨H1,⟨rfl,rfl⟩,rfl⟩;exact⟨_,h2,rfl,rfl⟩
 |some p =>
  obtain⟨k,rfl,hk⟩:=uP hi;obtain⟨e,he,rfl,he1,he2⟩:=hf.at_ hk;dsimp only;unfold zX;by_cases h:128≤ws.length
  ·rw[if_pos h];refine aK.post (aK.dU (Hp:=[wr g x.A x.ls.length x.c,own iC x.A x.ls.length x.c x.ls]) λE' _=>JQ E' g x.A x.ls.length x.c x.ls k o_ (aAd.1 he).1 he rfl) ?_;rintro e H' ⟨H1,⟨rfl,rfl⟩,rfl⟩;exact⟨_,h2,rfl,rfl⟩
  ·rw[if_neg h];refine aK.post (Xd E g x.A x.ls.length x.c x.ls k o_ (aAd.1 he).1 he rfl he2) ?_;rintro r H' ⟨A',c',O,co,rfl,h1,rfl⟩;have h2:=aZ.mk (E:=E) (R:=[]) (g:=g) (x:=⟨A',c',x.ls++[⟨e.to,O,e.n,co,e.b,e.broken⟩]⟩) (ws:=ws++[e.p]) ⟨by rw[aBk,hf.p];rfl,hf.ok.add he1 he2,by rw[aAe];simp;omega,by rw[aAe];simp;omega⟩;rw[aAc] at h2;dsimp only[Ku] at h2;rw[aAe] at h2;exact⟨_,h2,rfl,rfl⟩
theorem Vb(i k:Int)(hk64:dQ k):G E 126 [pt g,.int .i64 i,.int .i64 k] [aZ g ws] (cM (.bool (CU ws i k).2) [aZ g (CU ws i k).1]):=by
 refine kN λx hf=>?_;have hl:=hf.n;have hln:=hf.len;have hcap:=hf.cap;have h2:=aZ.mk (E:=E) (R:=[]) (g:=g) hf;rw[aAc] at h2;unfold CU;cases hi:xB ws i with
 |none =>
  refine aK.post (aK.dU (Hp:=[wr g x.A x.ls.length x.c]) λE' _=>PO E' g x.A x.ls.length x.c i k (by rw[hl];exact hf.len) (by rw[hl];exact CX hi)) ?_;rintro e H' ⟨H1,⟨rfl,rfl⟩,rfl⟩;exact⟨_,h2,rfl,rfl⟩
 |some p =>
  obtain⟨j,rfl,hj⟩:=uP hi;obtain⟨e,he,rfl,he1,he2⟩:=hf.at_ hj;dsimp only;have hlt:=(aAd.1 he).1;by_cases h:e.p.broken=true∨k<0∨(e.p.b.length:Int)≤k / 8
  ·rw[if_pos h];refine aK.post (aK.dU (Hp:=[wr g x.A x.ls.length x.c,own iC x.A x.ls.length x.c x.ls]) λE' _=>LF E' g x.A x.ls.length x.c x.ls j k o_ rfl he (by unfold maxLen;omega) (by rw[he1];exact h) hk64) ?_;rintro r H' ⟨H1,⟨rfl,rfl⟩,rfl⟩;exact⟨_,h2,rfl,rfl⟩
  ·rw[if_neg h];obtain⟨hb,hk⟩:=not_or.1 h;obtain⟨hk0,hk8⟩:=not_or.1 hk;obtain⟨q,rfl⟩:=aCf (show 0≤k by omega);have hbl:e.p.b.length=e.b.length:=rfl;refine aK.post (Wn E g x.A x.ls.length x.c x.ls j q o_ rfl he he1 he2 (Bool.eq_false_iff.2 hb) o_) ?_;rintro r H' ⟨rfl,rfl⟩;have h2:=aZ.mk (E:=E) (R:=[]) (g:=g) (x:=⟨x.A,x.c,x.ls.set j (e.mark (tJ e.b q))⟩) (ws:=ws.set j ⟨e.to,tJ e.b q,true⟩) ⟨by rw[←hf.p,List.map_set];rfl,λy hy=>by
    rcases aCr hy with hy|rfl
    ·exact hf.ok y hy
    ·exact⟨by dsimp only[gN.mark];unfold tJ;rw[aAt];exact he1,he2⟩,by rw[aAt];exact hln,by rw[aAt];exact hcap⟩
   rw[aAc] at h2;dsimp only[Ku] at h2;rw[aAt] at h2;exact⟨_,aB.trans (aB.aV (.cons (.aM .aN) (.cons (.aM .aN) (.cons .aN .nil)))) h2,rfl,rfl⟩
theorem S8:G E 88 [pt g] [aZ g ws] λr H'=>∃g2,r=.returned (pt g2)∧H'=[aZ g2 ws,aZ g ws]:=by
 refine kN λx hf=>?_;have hl:=hf.n;have hln:=hf.len;have h1:=aZ.mk (E:=E) (R:=[]) (g:=g) hf;rw[aAc] at h1;refine aK.post (aK.read (Q0:=EK x.ls.length x.ls) λE' hE=>VM E' g x.A x.ls.length x.c x.ls ⟨qP.aJ (i:=0) hE Has.aN rfl,Sub.own hE (.aM .aN),λe he=>?_⟩ o_ hf.ok) ?_
 ·obtain⟨i,hi,rfl⟩:=aBm he;exact Sub.aO (f:=DD) hE (.aM (.aM .aN)) (aAa hi) rfl
 ·rintro r H' ⟨H1,⟨g',A',c',ls',rfl,k1,k2,k3,rfl⟩,rfl⟩;have hl2:ls'.length=x.ls.length:=by have:=congrArg List.length k1;rwa [aAw,aAw] at this
  have h2:=aZ.mk (E:=E) (R:=Ku g x) (g:=g') (x:=⟨A',c',ls'⟩) (ws:=ws) ⟨by rw[k1,hf.p],k2,hln,by dsimp only;omega⟩;dsimp only[Ku] at h2 h1;rw[hl2] at h2;refine⟨[aZ g' ws,aZ g ws],aB.trans h2 ?_,g',rfl,rfl⟩;refine aB.trans (aB.aV (l:=[wr g x.A x.ls.length x.c,own iC x.A x.ls.length x.c x.ls,aO DD x.ls]++[aZ g' ws]) (.cons (.aM .aN) (.cons (.aM .aN) (.cons (.aM .aN) (.cons .aN .nil))))) ?_;exact aB.trans (aZ.mk (x:=x) hf) (aB.aV (.cons (.aM .aN) (.cons .aN .nil)))
end
theorem Om(E:Env)(e:bH):G E 91 [.agg e.cs.toArray] [] λr H'=>∃A' n' c',n'≤27∧r=.returned (.slice A' n' c')∧H'=[own aU A' n' c' (Gs e)]:=by
 unfold Gs;cases hm:e.may with
 |true=>exact aK.mono (J2 E e hm) λr H' ⟨A',c',h1,h2⟩=>⟨A',27,c',aAf _,h1,h2⟩
 |false=>exact aK.post (Jx E e hm) λr H' ⟨h1,h2⟩=>⟨[own aU none 0 0 []],by rw[h2];exact aB.nil aU,none,0,0,by omega,h1,rfl⟩
theorem oU{X:Type}{l:List X}{i:Nat}{x:X}(h:l[i]?=some x):l=(l.eraseIdx i).take i++x::(l.eraseIdx i).drop i:=by
 rw[←uO (aAd.1 h).1,mN h]
section
variable (E:Env) (g:Nat) (s:Sv) (os:List Ov)
theorem CP(hps:s.ps.length≤48)(hr0:0≤s.r):G E 27 [pt g] [aT g s os] λe H'=>∃A n c,(n≤1000000∧n≤c∧c≤maxLen)∧e=.returned (.slice A n c)∧H'=[own aU A n c (fJ s),aT g s os]:=by
 have hmax:=fX;have mC:=λE'=>Pp E' g s os;have rep:=λE'=>vC E' g s os;have iS:=λE'=>GO E' g s os hps;unfold fJ;generalize hb0:AU s.v.l++AU s.v.t=b0;refine t_ func27 ntmps27 ?_;repeat first|refine v_ ?_|intro
 refine bK rep ?_;repeat first|refine v_ ?_|intro
 refine bW mC ?_;rintro e H' ⟨g2,rfl,rfl⟩;repeat first|refine v_ ?_|intro
 refine bW (λ(E':Env)=>uB E' g2 s.v os) ?_;rintro e H' ⟨B,k,hk,rfl,rfl⟩;repeat first|refine v_ ?_|intro
 refine L.conv (aB.nil aU) ?_;refine cl sD sK aC (λE' hE=>DV E' none 0 0 [] o_ B _ k s.v.l dB) ?_;rintro e H' ⟨A1,n1,c1,⟨h1,h2,h3⟩,rfl,rfl⟩;repeat first|refine v_ ?_|intro
 refine bW (λ(E':Env)=>pJ E' g2 s.v os) ?_;rintro e H' ⟨B2,k2,hk2,rfl,rfl⟩;repeat first|refine v_ ?_|intro
 refine cl sD sK aC (λE' hE=>DV E' A1 n1 c1 _ o_ B2 _ k2 s.v.t dB) ?_;rintro e H' ⟨A2,n2,c2,⟨h4,h5,h6⟩,rfl,rfl⟩;rw[aBq,hb0];repeat first|refine v_ ?_|intro
 refine bW iS ?_;rintro e H' ⟨O,oc,chl,hc,rfl,rfl⟩;repeat first|refine v_ ?_|intro
 obtain⟨hcl,hok,hat⟩:=hc;refine C.scan (Y:=Option Addr×Nat×Nat) hcl.symm (λi y=>[(4,.slice y.1 y.2.1 y.2.2),(21,.slice O s.ps.length oc),(22,.int .i64 s.ps.length),(23,.int .i64 i)]) (λi y=>[own aU y.1 y.2.1 y.2.2 (b0++(s.ps.take i).flatMap NM),own pZ O s.ps.length oc chl,aO mV chl,aT g s os])
  (λi y=>y.2.1≤2114+6887*i∧y.2.1≤y.2.2∧y.2.2≤maxLen) (A2,n2,c2) aD (by dsimp only;rw[aCg,aEu,aAc];exact aA) ⟨by dsimp only;omega,h5,h6⟩ ?_ ?_
 ·rintro i ⟨A,n,c⟩ x G hi hx ⟨k1,k2,k3⟩;dsimp only at k1 k2 k3⊢;have hs:s.ps[i]?=some s.ps[i]:=aAa hi;obtain⟨v,q1,q2,q3,q4,q4n,q5,q6⟩:=hat i _ hs;rw[hx] at q1;injection q1 with q1
  subst q1;have hso:=hok _ (aAi hs);rw[Dy hs,←aAb];generalize s.ps[i]=p at *;generalize b0++(s.ps.take i).flatMap NM=b;obtain⟨id,made,X,m,d,l⟩:=x;dsimp only at q2 q3 q4 q4n q5 q6;subst q3 q4 q4n;have hl1:=hso.len;have hl2:=hso.tS;have hl3:=hso.nK;have hlm:p.l.length≤maxLen:=by omega
  rw[show b++NM p=b++[UInt8.ofNat p.made.toNat,UInt8.ofNat p.l.length]++p.l.flatMap Gs from(aAb ..).symm];repeat first|refine v_ ?_|intro
  rename_i gx gs A0 c0 h4 h5;rw[show(p.made % 256).toNat=p.made.toNat by omega,show(((p.l.length:Nat):Int) % 256).toNat=p.l.length by omega];generalize hb1:b++[UInt8.ofNat p.made.toNat,UInt8.ofNat p.l.length]=b1;refine C.conv (aB.out (f:=mV) (l:=chl) aS hx) ?_;refine C.scan (Y:=Option Addr×Nat×Nat) (l:=p.l) rfl (λj y=>[(4,.slice y.1 y.2.1 y.2.2),(21,.slice O s.ps.length oc),(22,.int .i64 s.ps.length),(23,.int .i64 i),(38,.slice X p.l.length d),(39,.int .i64 p.l.length),(40,.int .i64 j)])
   (λj y=>[own aU y.1 y.2.1 y.2.2 (b1++(p.l.take j).flatMap Gs),own fH X p.l.length d p.l,own pZ O s.ps.length oc chl,aO mV (chl.eraseIdx i),aT g s os])
   (λj y=>y.2.1≤2114+6887*i+2+27*j∧y.2.1≤y.2.2∧y.2.2≤maxLen) (A0,n+2,c0) aD (by dsimp only;rw[aCg,aEu,aAc];exact aA) ⟨by dsimp only;omega,h4,h5⟩ ?_ ?_
  ·rintro j ⟨A3,n3,c3⟩ e G hj he ⟨q1,q2,q3⟩;dsimp only at q1 q2 q3⊢;repeat first|refine v_ ?_|intro
   refine bW (λ(E':Env)=>Om E' e) ?_;rintro r H' ⟨O2,n4,c4,h7,rfl,rfl⟩;repeat first|refine v_ ?_|intro
   rename_i A5 c5 h8 h9;exact⟨(A5,n3+n4,c5),aD,(by dsimp only;rw[Dy he,←aAb];exact aA),⟨by dsimp only;omega,h8,h9⟩⟩
  ·rintro⟨A3,n3,c3⟩ G ⟨q1,q2,q3⟩;dsimp only at q1 q2 q3⊢;rw[aAo];repeat first|refine v_ ?_|intro
   refine⟨(A3,n3,c3),aD,aB.trans (aB.BH (f:=mV) (l:=chl.eraseIdx i) (l':=chl) aC (oU hx)) aA,⟨by dsimp only;omega,q2,q3⟩⟩
 ·rintro⟨A,n,c⟩ G ⟨k1,k2,k3⟩;dsimp only at k1 k2 k3⊢;rw[aAj o_];repeat first|refine v_ ?_|intro
  exact aR rfl aF aA (⟨_,_,_,⟨by omega,k2,k3⟩,rfl,rfl⟩)
end
section
variable (E:Env) (g:Nat) (s:Sv) (os:List Ov) (g2:Nat) (s2:Sv) (os2:List Ov)
theorem Xc(h1:s.ps.length≤48)(h2:0≤s.r)(h3:s2.ps.length≤48)(h4:0≤s2.r):G E 33 [pt g,pt g2] [aT g s os,aT g2 s2 os2] (cM (.bool (decide (s.r=s2.r)&&decide (fJ s=fJ s2))) [aT g s os,aT g2 s2 os2]):=by
 have rep:=λE'=>vC E' g s os;have rep2:=λE'=>vC E' g2 s2 os2;have put:=λE'=>CP E' g s os h1 h2;have SM:=λE'=>CP E' g2 s2 os2 h3 h4;generalize fJ s=x1_ at put⊢;generalize fJ s2=x2_ at SM⊢;by_cases hr:s.r=s2.r
 ·rw[decide_eq_true hr,aCt];refine t_ func33 ntmps33 ?_;repeat first|refine v_ ?_|intro
  refine rB (l_ [0,2] (g_ 1 (g_ 3 (l_ [4,5,6,9] (g_ 7 (n_ 8 (g_ 10 (l_ [11,12,13,14] .nil)))))))) ([]) ?_;repeat first|refine v_ ?_|intro
  refine eJ rep ?_;repeat first|refine v_ ?_|intro
  refine eJ rep2 ?_;repeat first|refine v_ ?_|intro
  refine iO put ?_;rintro e H' ⟨A,n,c,⟨k1,k2,k3⟩,rfl,rfl⟩;refine gd bG aA ?_;refine Dr.more (Hk':=_) aA aB.refl ?_;repeat first|refine v_ ?_|intro
  refine iO SM ?_;rintro e H' ⟨B,m,d,⟨k4,k5,k6⟩,rfl,rfl⟩;refine gd bG aA ?_;refine Dr.more (Hk':=_) aA aB.refl ?_;repeat first|refine v_ ?_|intro
  exact e1_
 ·rw[decide_eq_false hr,aCx];refine t_ func33 ntmps33 ?_;repeat first|refine v_ ?_|intro
  refine rB (l_ [0,2] (g_ 1 (g_ 3 (l_ [4,5,6,9] (g_ 7 (n_ 8 (g_ 10 (l_ [11,12,13,14] .nil)))))))) ([]) ?_;repeat first|refine v_ ?_|intro
  refine eJ rep ?_;repeat first|refine v_ ?_|intro
  refine eJ rep2 ?_;repeat first|refine v_ ?_|intro
  exact e1_
end
end Go.Proofs.YtmilalkjbojciaaGreat.Sep
